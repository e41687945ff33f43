import PyProof.Rows.All
import Wide.All
import OpenK.AllK
import Wide.FinOn
import HandS.ForMost
import HandS.Property
import HandS.IsInst
import HandS.ForExc
import HandS.TryMany
import HandS.Walk
import HandS.StrMore
import HandS.Flow
import KE.KSuper
import HandS.Wide
import HandS.Codes
import HandS.Star
import HandS.TupAny
import HandS.NoneIn
import KE.KUnpack
import PyProof.CollectIter
import HandS.RaiseMore
import KE.KExcIs
import HandS.ExcField
import HandS.Ends
import HandS.Words
import KE.KExcSuper
import KE.KTryMore
import HandS.ExcInit
import HandS.ExcSuper
import HandS.ExcValue
import HandS.Dict
import PyProof.Rows.ListMulCarried
import PyProof.StrOps2
import HandS.SortInts
import HandS.SortRule
import HandS.Deep
import KE.KExcStr
import HandS.MakeKwOnly
import PySem.Challenge.RW_placedonce_k90_errors_made
set_option Elab.async false
set_option linter.all false
set_option maxRecDepth 100000
set_option maxHeartbeats 4000000
set_option exponentiation.threshold 2000
namespace Sh
open PySem PySem.Spec L2

/-! ### values, memory, results -/
inductive W where
  | non | bl (b : Bool) | int (i : Int) | str (s : List Nat) | tup (ws : List W) | frz (ws : List W) | ref (n : Nat) | cls (c : String) | ty (c : String)

inductive O where
  | lst (ws : List W) | dK (kvs : List (Key × W)) | dT (kvs : List (List Key × W)) | ins (c : String) (fs : List (List Nat × W)) | exc (c : String) (fs : List (List Nat × W)) | exh (c : String) (fs : List (List Nat × W)) (msg : List Nat)

abbrev Mem := List O
abbrev Loc := List (Option W)

inductive R (α : Type) where
  | ok (a : α) (m : Mem) | exc (c : String) (fs : List (List Nat × W)) (m : Mem) | bad

def R.bind {α β : Type} (r : R α) (f : α → Mem → R β) : R β := match r with
  | .ok a m => f a m
  | .exc c fs m => .exc c fs m
  | .bad => .bad
@[simp] theorem R.bind_ok {α β : Type} (a : α) (m : Mem) (f : α → Mem → R β) : (R.ok a m).bind f = f a m := rfl
@[simp] theorem R.bind_exc {α β : Type} (c : String) (fs : List (List Nat × W)) (m : Mem) (f : α → Mem → R β) : (R.exc c fs m : R α).bind f = .exc c fs m := rfl
@[simp] theorem R.bind_bad {α β : Type} (f : α → Mem → R β) : (R.bad : R α).bind f = .bad := rfl

abbrev DE := Loc → Mem → R W
abbrev DL := Loc → Mem → R (List W)
abbrev DB := Loc → Mem → R Bool

inductive RS where
  | nx (σ : Loc) (m : Mem) | rt (w : W) (m : Mem) | bk (σ : Loc) (m : Mem) | ct (σ : Loc) (m : Mem) | exc (c : String) (fs : List (List Nat × W)) (σ : Loc) (m : Mem) | bad
abbrev DS := Loc → Mem → RS

/-! ### the relation to the layer's values and heap -/
structure G where
  K : PySem.W.Frag
  cl : String → Addr

abbrev S (l : List Nat) : Str := ⟨l.toArray⟩
theorem S_inj {a b : List Nat} (h : S a = S b) : a = b := by
  have := congrArg (fun x => x.cps.toList) h
  simpa using this
theorem S_cps (a : List Nat) : (S a).cps.toList = a := by simp
theorem S_len (a : List Nat) : (S a).length = a.length := by simp [Str.length]
theorem S_of (x : Str) : S x.cps.toList = x := by cases x; simp

/-- a list that nobody writes: the script, a module's own list -/
def SqF (K : PySem.W.Frag) (H : Hp) (a : Addr) (xs : List V) : Prop :=
  (∃ o, H a = some (.frz o (.lst xs))) ∨ ∃ (o : Obj) (its : Array Value) (n : Nat), K.lookup a = some o ∧ o.cls = .type "list" ∧ o.dict = none ∧ o.data = .seq its n ∧ its.size ≤ sizeLine ∧ Vals xs its.toList
theorem SqF.toL {K : PySem.W.Frag} {H : Hp} {a : Addr} {xs : List V} (h : SqF K H a xs) : SqL K H a xs := by
  rcases h with ⟨o, h⟩ | h
  · exact .inl (.inr ⟨o, h⟩)
  · exact .inr h
section
variable (g : G) (ρ : List Addr) (H : Hp)
mutual
inductive VR : W → V → Prop
  | non : VR .non .non
  | bl (b : Bool) : VR (.bl b) (.bl b)
  | int (i : Int) : VR (.int i) (.int i)
  | str (s : List Nat) : VR (.str s) (.str (S s))
  | tup {ws : List W} {vs : List V} {a : Addr} : SqT g.K H a vs → VRs ws vs → VR (.tup ws) (.ref a)
  | frz {ws : List W} {vs : List V} {a : Addr} : SqF g.K H a vs → VRs ws vs → VR (.frz ws) (.ref a)
  | ref {n : Nat} {a : Addr} : ρ[n]? = some a → VR (.ref n) (.ref a)
  | cls (c : String) : VR (.cls c) (.ref (g.cl c))
  | ty (c : String) : VR (.ty c) (.ty c)
inductive VRs : List W → List V → Prop
  | nil : VRs [] []
  | cons {w : W} {v : V} {ws : List W} {vs : List V} : VR w v → VRs ws vs → VRs (w :: ws) (v :: vs)
end
/-- the dict of an exception: none, no fields; or one -/
def XD (H : Hp) (d : Option Addr) (gs : List (Str × V)) : Prop := match d with
  | none => gs = []
  | some a => H a = some (.xd gs)
/-- fields -/
def FR (fs : List (List Nat × W)) (gs : List (Str × V)) : Prop := Paired (fun (p : List Nat × W) (q : Str × V) => q.1 = Sh.S p.1 ∧ VR g ρ H p.2 q.2) fs gs
def KR {κ : Type} (fs : List (κ × W)) (gs : List (κ × V)) : Prop := Paired (fun (p : κ × W) (q : κ × V) => p.1 = q.1 ∧ VR g ρ H p.2 q.2) fs gs
def OR : O → HO → Prop
  | .lst ws, u => ∃ vs, u = .lst vs ∧ VRs g ρ H ws vs
  | .dK kvs, u => ∃ vs, u = .dK vs ∧ KR g ρ H kvs vs
  | .dT kvs, u => ∃ vs, u = .dT vs ∧ KR g ρ H kvs vs
  | .ins c fs, u => ∃ dx gs, u = .ins (g.cl c) dx gs ∧ FR g ρ H fs gs
  | .exc c fs, u => ∃ oe vs d gs, u = .frz oe (.own 0) ∧ oe.cls = .ref (g.cl c) ∧ oe.dict = d ∧ oe.data = .fields vs ∧ XD H d gs ∧ FR g ρ H fs gs
  | .exh c fs msg, u => ∃ oe vs d gs tt, u = .frz oe (.own 0) ∧ oe.cls = .ref (g.cl c) ∧ oe.dict = d ∧ oe.data = .fields vs ∧ XD H d gs ∧ FR g ρ H fs gs ∧ vs[0]? = some (.ref tt) ∧ H tt = some (.tup [.str (Sh.S msg)])
end

structure Sim (g : G) (ρ : List Addr) (m : Mem) (H : Hp) : Prop where
  len : ρ.length = m.length
  nd : ρ.Nodup
  obj : ∀ (i : Nat) (a : Addr) (o : O), ρ[i]? = some a → m[i]? = some o → ∃ u, H a = some u ∧ OR g ρ H o u

/-- from one state to a later one -/
structure Post (ρ : List Addr) (H : Hp) (ρ' : List Addr) (H' : Hp) : Prop where
  ext : ∃ l, ρ' = ρ ++ l ∧ ∀ a ∈ l, H a = none
  keep : ∀ a o, H a = some o → a ∉ ρ → H' a = some o

theorem Post.refl {ρ : List Addr} {H : Hp} : Post ρ H ρ H := ⟨⟨[], by simp, by simp⟩, fun _ _ h _ => h⟩
theorem Post.trans {ρ ρ1 ρ2 : List Addr} {H H1 H2 : Hp} (a : Post ρ H ρ1 H1) (b : Post ρ1 H1 ρ2 H2) (hs : ∀ a ∈ ρ, H a ≠ none) (hs1 : ∀ a ∈ ρ, H1 a ≠ none) : Post ρ H ρ2 H2 := by
  obtain ⟨l, e, hl⟩ := a.ext
  obtain ⟨l1, e1, hl1⟩ := b.ext
  refine ⟨⟨l ++ l1, by rw [e1, e, List.append_assoc], fun x hx => ?_⟩, fun x o h n => ?_⟩
  · rcases List.mem_append.mp hx with h | h
    · exact hl x h
    · cases q : H x with
      | none => rfl
      | some o =>
        by_cases n : x ∈ ρ
        · exact absurd (hl1 x h) (hs1 x n)
        · have k := a.keep x o q n
          rw [hl1 x h] at k; cases k
  · have h1 := a.keep x o h n
    refine b.keep x o h1 ?_
    rw [e]
    intro hm
    rcases List.mem_append.mp hm with z | z
    · exact n z
    · rw [hl x z] at h; cases h

section
variable {g : G} {ρ ρ' : List Addr} {H H' : Hp} {m m' : Mem}
theorem Sim.there (s : Sim g ρ m H) {a : Addr} (ha : a ∈ ρ) : ∃ o u, o ∈ m ∧ H a = some u ∧ OR g ρ H o u := by
  obtain ⟨i, hi, e⟩ := List.getElem_of_mem ha
  have hi' : i < m.length := by rw [← s.len]; exact hi
  have h1 : ρ[i]? = some a := by rw [List.getElem?_eq_getElem hi, e]
  have h2 : m[i]? = some m[i] := List.getElem?_eq_getElem hi'
  obtain ⟨u, h3, h4⟩ := s.obj i a _ h1 h2
  exact ⟨_, u, List.getElem_mem hi', h3, h4⟩
theorem Sim.isSm (s : Sim g ρ m H) {a : Addr} (ha : a ∈ ρ) : H a ≠ none := by
  obtain ⟨_, u, _, h, _⟩ := s.there ha
  rw [h]; simp
theorem OR.notup {o : O} {u : HO} (h : OR g ρ H o u) : (∀ xs, u ≠ .tup xs) ∧ (∀ ob xs, u ≠ .frz ob (.tup xs)) ∧ (∀ ob xs, u ≠ .frz ob (.lst xs)) ∧ (∀ x, u ≠ .own x) ∧ (∀ fs, u ≠ .xd fs) := by
  cases o with
  | lst ws => obtain ⟨vs, e, _⟩ := h; subst e; exact ⟨fun _ z => (nomatch z), fun _ _ z => (nomatch z), fun _ _ z => (nomatch z), fun _ z => (nomatch z), fun _ z => (nomatch z)⟩
  | dK ws => obtain ⟨vs, e, _⟩ := h; subst e; exact ⟨fun _ z => (nomatch z), fun _ _ z => (nomatch z), fun _ _ z => (nomatch z), fun _ z => (nomatch z), fun _ z => (nomatch z)⟩
  | dT ws => obtain ⟨vs, e, _⟩ := h; subst e; exact ⟨fun _ z => (nomatch z), fun _ _ z => (nomatch z), fun _ _ z => (nomatch z), fun _ z => (nomatch z), fun _ z => (nomatch z)⟩
  | ins c fs => obtain ⟨dx, gs, e, _⟩ := h; subst e; exact ⟨fun _ z => (nomatch z), fun _ _ z => (nomatch z), fun _ _ z => (nomatch z), fun _ z => (nomatch z), fun _ z => (nomatch z)⟩
  | exc c fs => obtain ⟨oe, vs, d, gs, e, _⟩ := h; subst e; exact ⟨fun _ z => (nomatch z), fun _ _ z => (nomatch z), fun _ _ z => (nomatch z), fun _ z => (nomatch z), fun _ z => (nomatch z)⟩
  | exh c fs msg => obtain ⟨oe, vs, d, gs, tt, e, _⟩ := h; subst e; exact ⟨fun _ z => (nomatch z), fun _ _ z => (nomatch z), fun _ _ z => (nomatch z), fun _ z => (nomatch z), fun _ z => (nomatch z)⟩
theorem Sim.tup_out (s : Sim g ρ m H) {a : Addr} {xs : List V} (h : H a = some (.tup xs)) : a ∉ ρ := fun ha => by
  obtain ⟨o, u, _, h1, h2⟩ := s.there ha
  rw [h] at h1; cases h1
  exact h2.notup.1 xs rfl
theorem Sim.frzT_out (s : Sim g ρ m H) {a : Addr} {ob : Obj} {xs : List V} (h : H a = some (.frz ob (.tup xs))) : a ∉ ρ := fun ha => by
  obtain ⟨o, u, _, h1, h2⟩ := s.there ha
  rw [h] at h1; cases h1
  exact h2.notup.2.1 ob xs rfl
theorem Sim.frzL_out (s : Sim g ρ m H) {a : Addr} {ob : Obj} {xs : List V} (h : H a = some (.frz ob (.lst xs))) : a ∉ ρ := fun ha => by
  obtain ⟨o, u, _, h1, h2⟩ := s.there ha
  rw [h] at h1; cases h1
  exact h2.notup.2.2.1 ob xs rfl
theorem Sim.xd_out (s : Sim g ρ m H) {a : Addr} {fs : List (Str × V)} (h : H a = some (.xd fs)) : a ∉ ρ := fun ha => by
  obtain ⟨o, u, _, h1, h2⟩ := s.there ha
  rw [h] at h1; cases h1
  exact h2.notup.2.2.2.2 fs rfl
theorem Post.xd (p : Post ρ H ρ' H') (s : Sim g ρ m H) {d : Option Addr} {gs : List (Str × V)} (h : XD H d gs) : XD H' d gs := by
  cases d with
  | none => exact h
  | some a => exact p.keep _ _ h (s.xd_out h)
theorem Post.seqT (p : Post ρ H ρ' H') (s : Sim g ρ m H) {a : Addr} {xs : List V} (h : SqT g.K H a xs) : SqT g.K H' a xs := by
  rcases h with (h | ⟨o, h⟩) | h
  · exact .inl (.inl (p.keep _ _ h (s.tup_out h)))
  · exact .inl (.inr ⟨o, p.keep _ _ h (s.frzT_out h)⟩)
  · exact .inr h
theorem Post.seqF (p : Post ρ H ρ' H') (s : Sim g ρ m H) {a : Addr} {xs : List V} (h : SqF g.K H a xs) : SqF g.K H' a xs := by
  rcases h with ⟨o, h⟩ | h
  · exact .inl ⟨o, p.keep _ _ h (s.frzL_out h)⟩
  · exact .inr h
theorem Post.get (p : Post ρ H ρ' H') {n : Nat} {a : Addr} (h : ρ[n]? = some a) : ρ'[n]? = some a := by
  obtain ⟨l, e, _⟩ := p.ext
  rw [e, List.getElem?_append_left (List.getElem?_eq_some_iff.mp h).1]
  exact h
mutual
theorem VR.post (s : Sim g ρ m H) (p : Post ρ H ρ' H') : ∀ {w : W} {v : V}, VR g ρ H w v → VR g ρ' H' w v
  | _, _, .non => .non
  | _, _, .bl b => .bl b
  | _, _, .int b => .int b
  | _, _, .str b => .str b
  | _, _, .tup h r => .tup (p.seqT s h) (VRs.post s p r)
  | _, _, .frz h r => .frz (p.seqF s h) (VRs.post s p r)
  | _, _, .ref h => .ref (p.get h)
  | _, _, .cls c => .cls c
  | _, _, .ty c => .ty c
theorem VRs.post (s : Sim g ρ m H) (p : Post ρ H ρ' H') : ∀ {ws : List W} {vs : List V}, VRs g ρ H ws vs → VRs g ρ' H' ws vs
  | _, _, .nil => .nil
  | _, _, .cons h r => .cons (VR.post s p h) (VRs.post s p r)
end
theorem Paired.imp {α β : Type} {F F' : α → β → Prop} : ∀ {xs : List α} {ys : List β}, Paired F xs ys → (∀ a b, F a b → F' a b) → Paired F' xs ys
  | _, _, .nil, _ => .nil
  | _, _, .cons h r, f => .cons (f _ _ h) (Paired.imp r f)
theorem FR.post (s : Sim g ρ m H) (p : Post ρ H ρ' H') {fs : List (List Nat × W)} {gs : List (Str × V)} (h : FR g ρ H fs gs) : FR g ρ' H' fs gs :=
  Paired.imp h fun _ _ q => ⟨q.1, q.2.post s p⟩
theorem KR.post {κ : Type} (s : Sim g ρ m H) (p : Post ρ H ρ' H') {fs : List (κ × W)} {gs : List (κ × V)} (h : KR g ρ H fs gs) : KR g ρ' H' fs gs :=
  Paired.imp h fun _ _ q => ⟨q.1, q.2.post s p⟩
theorem OR.post (s : Sim g ρ m H) (p : Post ρ H ρ' H') {o : O} {u : HO} (h : OR g ρ H o u) : OR g ρ' H' o u := by
  cases o with
  | lst ws => obtain ⟨vs, e, r⟩ := h; exact ⟨vs, e, r.post s p⟩
  | dK ws => obtain ⟨vs, e, r⟩ := h; exact ⟨vs, e, r.post s p⟩
  | dT ws => obtain ⟨vs, e, r⟩ := h; exact ⟨vs, e, r.post s p⟩
  | ins c fs => obtain ⟨dx, gs, e, r⟩ := h; exact ⟨dx, gs, e, r.post s p⟩
  | exc c fs => obtain ⟨oe, vs, d, gs, e, h1, h2, h3, h4, h5⟩ := h; exact ⟨oe, vs, d, gs, e, h1, h2, h3, p.xd s h4, h5.post s p⟩
  | exh c fs msg => obtain ⟨oe, vs, d, gs, tt, e, h1, h2, h3, h4, h5, h6, h7⟩ := h; exact ⟨oe, vs, d, gs, tt, e, h1, h2, h3, p.xd s h4, h5.post s p, h6, p.keep tt _ h7 (s.tup_out h7)⟩
theorem Post.then {ρ2 : List Addr} {H2 : Hp} (a : Post ρ H ρ' H') (b : Post ρ' H' ρ2 H2) (s : Sim g ρ m H) (s' : Sim g ρ' m' H') : Post ρ H ρ2 H2 :=
  a.trans b (fun x hx => s.isSm hx) fun x hx => by
    obtain ⟨l, e, _⟩ := a.ext
    exact s'.isSm (by rw [e]; exact List.mem_append_left _ hx)

/-- garbage: an object that is not of the memory -/
theorem Sim.junk (s : Sim g ρ m H) {p : Addr} {u : HO} (hp : H p = none) : Post ρ H ρ (upd H p u) ∧ Sim g ρ m (upd H p u) := by
  have P : Post ρ H ρ (upd H p u) := ⟨⟨[], by simp, by simp⟩, fun a o h _ => by rw [upd_ne (ne_of_none h hp)]; exact h⟩
  refine ⟨P, s.len, s.nd, fun i a o h1 h2 => ?_⟩
  obtain ⟨v, h3, h4⟩ := s.obj i a o h1 h2
  exact ⟨v, by rw [upd_ne (ne_of_none h3 hp)]; exact h3, h4.post s P⟩
/-- a new object -/
theorem Sim.push (s : Sim g ρ m H) {p : Addr} {u : HO} {o : O} (hp : H p = none) (h : OR g ρ H o u) : Post ρ H (ρ ++ [p]) (upd H p u) ∧ Sim g (ρ ++ [p]) (m ++ [o]) (upd H p u) := by
  have P : Post ρ H (ρ ++ [p]) (upd H p u) := ⟨⟨[p], rfl, by simpa using hp⟩, fun a o h _ => by rw [upd_ne (ne_of_none h hp)]; exact h⟩
  have hn : p ∉ ρ := fun z => s.isSm z hp
  refine ⟨P, by simp [s.len], ?_, fun i a o' h1 h2 => ?_⟩
  · rw [List.nodup_append]
    refine ⟨s.nd, by simp, fun a ha b hb => ?_⟩
    have : b = p := by simpa using hb
    subst this
    rintro rfl
    exact hn ha
  · by_cases hi : i < ρ.length
    · rw [List.getElem?_append_left hi] at h1
      rw [List.getElem?_append_left (by rw [← s.len]; exact hi)] at h2
      obtain ⟨v, h3, h4⟩ := s.obj i a o' h1 h2
      exact ⟨v, by rw [upd_ne (ne_of_none h3 hp)]; exact h3, h4.post s P⟩
    · have hi' : ρ.length ≤ i := Nat.le_of_not_lt hi
      rw [List.getElem?_append_right hi'] at h1
      rw [List.getElem?_append_right (by rw [← s.len]; exact hi')] at h2
      have e0 : i - ρ.length = 0 := by
        have := (List.getElem?_eq_some_iff.mp h1).1
        simp at this; omega
      have e0' : i - m.length = 0 := by rw [← s.len]; exact e0
      rw [e0] at h1; rw [e0'] at h2
      simp at h1 h2
      subst h1; subst h2
      exact ⟨u, upd_same, h.post s P⟩
/-- an object is changed -/
theorem Sim.set (s : Sim g ρ m H) {n : Nat} {a : Addr} {u : HO} {o : O} (ha : ρ[n]? = some a) (h : OR g ρ H o u) : Post ρ H ρ (upd H a u) ∧ Sim g ρ (m.set n o) (upd H a u) := by
  have P : Post ρ H ρ (upd H a u) := ⟨⟨[], by simp, by simp⟩, fun b o h hb => by
    rw [upd_ne (fun e => hb (by rw [e]; exact List.mem_of_getElem? ha))]; exact h⟩
  refine ⟨P, by simp [s.len], s.nd, fun i b o' h1 h2 => ?_⟩
  by_cases e : i = n
  · subst e
    rw [ha] at h1; cases h1
    have hlt : i < m.length := by have := (List.getElem?_eq_some_iff.mp h2).1; simpa using this
    rw [List.getElem?_set_self hlt] at h2
    cases h2
    exact ⟨u, upd_same, h.post s P⟩
  · rw [List.getElem?_set_ne (Ne.symm e)] at h2
    obtain ⟨v, h3, h4⟩ := s.obj i b o' h1 h2
    refine ⟨v, ?_, h4.post s P⟩
    rw [upd_ne]
    · exact h3
    · rintro rfl
      exact e ((List.getElem?_inj (List.getElem?_eq_some_iff.mp h1).1 s.nd).mp (h1.trans ha.symm))
end

/-- locals -/
def LR (g : G) (ρ : List Addr) (H : Hp) (σ : Loc) (τ : St) : Prop := σ.length = τ.length ∧ ∀ (i : Nat) (w : W), σ[i]? = some (some w) → ∃ v, τ[i]? = some (some v) ∧ VR g ρ H w v
theorem LR.post {g : G} {ρ ρ' : List Addr} {H H' : Hp} {m : Mem} {σ : Loc} {τ : St} (l : LR g ρ H σ τ) (s : Sim g ρ m H) (p : Post ρ H ρ' H') : LR g ρ' H' σ τ :=
  ⟨l.1, fun i w h => let ⟨v, a, b⟩ := l.2 i w h; ⟨v, a, b.post s p⟩⟩
theorem LR.set {g : G} {ρ : List Addr} {H : Hp} {σ : Loc} {τ : St} {w : W} {v : V} (l : LR g ρ H σ τ) (i : Nat) (r : VR g ρ H w v) : LR g ρ H (σ.set i (some w)) (τ.set i (some v)) := by
  refine ⟨by simp [l.1], fun j w' h => ?_⟩
  by_cases e : j = i
  · subst e
    have hl : j < σ.length := by have := (List.getElem?_eq_some_iff.mp h).1; simpa using this
    rw [List.getElem?_set_self hl] at h
    cases h
    exact ⟨v, List.getElem?_set_self (by rw [← l.1]; exact hl), r⟩
  · rw [List.getElem?_set_ne (Ne.symm e)] at h
    obtain ⟨v', a, b⟩ := l.2 j w' h
    exact ⟨v', by rw [List.getElem?_set_ne (Ne.symm e)]; exact a, b⟩
theorem LR.forget {g : G} {ρ : List Addr} {H : Hp} {σ : Loc} {τ : St} (l : LR g ρ H σ τ) (i : Nat) : LR g ρ H (σ.set i none) (τ.set i none) := by
  refine ⟨by simp [l.1], fun j w' h => ?_⟩
  by_cases e : j = i
  · subst e
    have hl : j < σ.length := by have := (List.getElem?_eq_some_iff.mp h).1; simpa using this
    rw [List.getElem?_set_self hl] at h
    cases h
  · rw [List.getElem?_set_ne (Ne.symm e)] at h
    obtain ⟨v', a, b⟩ := l.2 j w' h
    exact ⟨v', by rw [List.getElem?_set_ne (Ne.symm e)]; exact a, b⟩
end Sh

namespace Sh
open PySem PySem.Spec L2

/-! ### argument lists without stars -/
def notStar : Expr → Bool
  | .Starred _ _ => false
  | _ => true
theorem star1 {e : Expr} {es : List Expr} {env : Env} (h : notStar e = true) : starEach (e :: es) env = (false, eval e env) :: starEach es env := by
  cases e <;> first | rfl | cases h
theorem star2 {e : Expr} {es : List Expr} {env : Env} {p : Pos} : starEach (.Starred e p :: es) env = (true, eval e env) :: starEach es env := rfl
def noStars : List Expr → Bool
  | [] => true
  | e :: es => notStar e && noStars es
theorem plain_ns {es : List Expr} {env : Env} {pos : Pos} (h : noStars es = true) : (backTo pos (starEach es env)).any (·.1) = false := by
  induction es with
  | nil => rfl
  | cons e es ih =>
    simp only [noStars, Bool.and_eq_true] at h
    rw [star1 h.1]
    show (false || (backTo pos (starEach es env)).any (·.1)) = false
    rw [ih h.2]; rfl
/-! ### judgements -/
section
variable (g : G) (X : Cx) (wx : WX)
def Out (τ : L2.St) (ρ : List Addr) (H : Hp) {β : Type} (r : R β) (Q : β → Mem → List Addr → Hp → Prop) : Prop :=
  match r with
  | .ok b m' => ∀ ρ' H', Post ρ H ρ' H' → Sim g ρ' m' H' → Q b m' ρ' H'
  | .exc c fs m' => ∀ ρ' H' d gs, Post ρ H ρ' H' → Sim g ρ' m' H' → XD H' d gs → FR g ρ' H' fs gs → wx (.ref (g.cl c)) d τ H'
  | .bad => False
/-- an expression -/
structure SE (e : Expr) (f : DE) : Prop where
  run : ∀ (pins : List (Addr × Obj)) (s : Shared) (σ : Loc) (m : Mem) (ρ : List Addr) (H : Hp) (τ : L2.St) (Q : Value → Shared → Prop),
  Inv X pins τ H s → Sim g ρ m H → LR g ρ H σ τ →
  Out g wx τ ρ H (f σ m) (fun w m' ρ' H' => ∀ v u s', Inv X pins τ H' s' → VR g ρ' H' w v → RelV v u → Q u s') →
  wpAny (model X.prog X.w) X.A (eval e X.env) Q X.xe s
/-- a fresh list -/
structure SL (e : Expr) (f : DL) : Prop where
  run : ∀ (pins : List (Addr × Obj)) (s : Shared) (σ : Loc) (m : Mem) (ρ : List Addr) (H : Hp) (τ : L2.St) (Q : Value → Shared → Prop),
  Inv X pins τ H s → Sim g ρ m H → LR g ρ H σ τ →
  Out g wx τ ρ H (f σ m) (fun ws m' ρ' H' => ∀ p vs s', Inv X pins τ H' s' → H p = none → H' p = some (.lst vs) → p ∉ ρ' → VRs g ρ' H' ws vs → Q (.ref p) s') →
  wpAny (model X.prog X.w) X.A (eval e X.env) Q X.xe s
/-- a test -/
structure ST (e : Expr) (f : DB) : Prop where
  run : ∀ (whole : Sem Value) (pins : List (Addr × Obj)) (s : Shared) (σ : Loc) (m : Mem) (ρ : List Addr) (H : Hp) (τ : L2.St) (Q : Bool → Shared → Prop),
  (whole = eval e X.env ∨ ∃ op es pos, e = .BoolOp op es pos) →
  Inv X pins τ H s → Sim g ρ m H → LR g ρ H σ τ →
  Out g wx τ ρ H (f σ m) (fun b m' ρ' H' => ∀ s', Inv X pins τ H' s' → Q b s') →
  wpAny (model X.prog X.w) X.A (isTrue e X.env whole) Q X.xe s
/-- arguments -/
structure SA (es : List Expr) (f : DL) : Prop where
  run : ∀ (pos : Pos) (pins : List (Addr × Obj)) (s : Shared) (σ : Loc) (m : Mem) (ρ : List Addr) (H : Hp) (τ : L2.St) (Q : List Value → Shared → Prop),
  Inv X pins τ H s → Sim g ρ m H → LR g ρ H σ τ →
  Out g wx τ ρ H (f σ m) (fun ws m' ρ' H' => ∀ vs us s', Inv X pins τ H' s' → VRs g ρ' H' ws vs → Vals vs us → Q us s') →
  wpAny (model X.prog X.w) X.A (spliced (backTo pos (starEach es X.env))) Q X.xe s
/-- functions of values -/
structure F1 (f : Value → Sem Value) (fn : W → Mem → R W) : Prop where
  run : ∀ (pins : List (Addr × Obj)) (s : Shared) (m : Mem) (ρ : List Addr) (H : Hp) (τ : L2.St) (x : W) (v : V) (u : Value) (Q : Value → Shared → Prop),
  Inv X pins τ H s → Sim g ρ m H → VR g ρ H x v → RelV v u →
  Out g wx τ ρ H (fn x m) (fun w m' ρ' H' => ∀ v u s', Inv X pins τ H' s' → VR g ρ' H' w v → RelV v u → Q u s') → wpAny (model X.prog X.w) X.A (f u) Q X.xe s
structure F2 (f : Value → Value → Sem Value) (fn : W → W → Mem → R W) : Prop where
  run : ∀ (pins : List (Addr × Obj)) (s : Shared) (m : Mem) (ρ : List Addr) (H : Hp) (τ : L2.St) (x y : W) (v z : V) (u t : Value) (Q : Value → Shared → Prop),
  Inv X pins τ H s → Sim g ρ m H → VR g ρ H x v → RelV v u → VR g ρ H y z → RelV z t →
  Out g wx τ ρ H (fn x y m) (fun w m' ρ' H' => ∀ v u s', Inv X pins τ H' s' → VR g ρ' H' w v → RelV v u → Q u s') → wpAny (model X.prog X.w) X.A (f u t) Q X.xe s
structure Fn (f : List Value → Sem Value) (fn : List W → Mem → R W) : Prop where
  run : ∀ (pins : List (Addr × Obj)) (s : Shared) (m : Mem) (ρ : List Addr) (H : Hp) (τ : L2.St) (xs : List W) (vs : List V) (us : List Value) (Q : Value → Shared → Prop),
  Inv X pins τ H s → Sim g ρ m H → VRs g ρ H xs vs → Vals vs us →
  Out g wx τ ρ H (fn xs m) (fun w m' ρ' H' => ∀ v u s', Inv X pins τ H' s' → VR g ρ' H' w v → RelV v u → Q u s') → wpAny (model X.prog X.w) X.A (f us) Q X.xe s
end

section
variable {g : G} {X : Cx} {wx : WX} {τ : L2.St} {ρ ρ' : List Addr} {H H' : Hp} {m m' : Mem} {pins : List (Addr × Obj)} {s : Shared} {σ : Loc}
theorem Out.imp {β : Type} {r : R β} {Q Q' : β → Mem → List Addr → Hp → Prop} (h : Out g wx τ ρ H r Q) (k : ∀ b m' ρ' H', Post ρ H ρ' H' → Sim g ρ' m' H' → Q b m' ρ' H' → Q' b m' ρ' H') : Out g wx τ ρ H r Q' := by
  cases r with
  | ok b m' => exact fun ρ' H' P S => k b m' ρ' H' P S (h ρ' H' P S)
  | exc c fs m' => exact h
  | bad => exact h
theorem Out.from {β : Type} {r : R β} {Q : β → Mem → List Addr → Hp → Prop} (h : Out g wx τ ρ H r Q) (P : Post ρ H ρ' H') (S : Sim g ρ m H) (S' : Sim g ρ' m' H') : Out g wx τ ρ' H' r Q := by
  cases r with
  | ok b m' => exact fun ρ2 H2 P2 S2 => h ρ2 H2 (P.then P2 S S') S2
  | exc c fs m' => exact fun ρ2 H2 d gs P2 S2 => h ρ2 H2 d gs (P.then P2 S S') S2
  | bad => exact h
theorem Out.bind {α β : Type} {r : R α} {k : α → Mem → R β} {Q : β → Mem → List Addr → Hp → Prop} (S : Sim g ρ m H) (h : Out g wx τ ρ H (r.bind k) Q) :
    Out g wx τ ρ H r (fun b m1 ρ1 H1 => Out g wx τ ρ1 H1 (k b m1) Q) := by
  cases r with
  | ok b m1 => exact fun ρ1 H1 P1 S1 => Out.from (r := k b m1) h P1 S S1
  | exc c fs m1 => exact h
  | bad => exact h
theorem Out.here {β : Type} {b : β} {Q : β → Mem → List Addr → Hp → Prop} (h : Out g wx τ ρ H (.ok b m) Q) (S : Sim g ρ m H) : Q b m ρ H := h ρ H Post.refl S
theorem Post.back (P : Post ρ H ρ' H') (S : Sim g ρ m H) (S' : Sim g ρ' m' H') {p : Addr} (h : H' p = none) : H p = none := by
  cases q : H p with
  | none => rfl
  | some o =>
    by_cases n : p ∈ ρ
    · obtain ⟨l, e, _⟩ := P.ext
      exact absurd h (S'.isSm (by rw [e]; exact List.mem_append_left _ n))
    · rw [P.keep p o q n] at h; cases h

theorem VRs.length : ∀ {ws : List W} {vs : List V}, VRs g ρ H ws vs → ws.length = vs.length
  | _, _, .nil => rfl
  | _, _, .cons _ r => by simp [VRs.length r]
theorem VRs.get : ∀ {ws : List W} {vs : List V} {i : Nat} {w : W}, VRs g ρ H ws vs → ws[i]? = some w → ∃ v, vs[i]? = some v ∧ VR g ρ H w v
  | _, _, i, w, .nil, h => by simp at h
  | _, _, 0, w, .cons h _, e => by simp at e; subst e; exact ⟨_, rfl, h⟩
  | _, _, i + 1, w, .cons _ r, e => by simpa using VRs.get r (by simpa using e)
theorem VRs.append : ∀ {ws ws' : List W} {vs vs' : List V}, VRs g ρ H ws vs → VRs g ρ H ws' vs' → VRs g ρ H (ws ++ ws') (vs ++ vs')
  | _, _, _, _, .nil, r => r
  | _, _, _, _, .cons h t, r => .cons h (VRs.append t r)
theorem VRs.set {w : W} {v : V} (h : VR g ρ H w v) : ∀ {ws : List W} {vs : List V} (i : Nat), VRs g ρ H ws vs → VRs g ρ H (ws.set i w) (vs.set i v)
  | _, _, _, .nil => .nil
  | _, _, 0, .cons _ t => .cons h t
  | _, _, i + 1, .cons q t => .cons q (VRs.set h i t)
theorem VRs.take : ∀ {ws : List W} {vs : List V} (n : Nat), VRs g ρ H ws vs → VRs g ρ H (ws.take n) (vs.take n)
  | _, _, 0, _ => .nil
  | _, _, _ + 1, .nil => .nil
  | _, _, n + 1, .cons h t => .cons h (VRs.take n t)
theorem VRs.drop : ∀ {ws : List W} {vs : List V} (n : Nat), VRs g ρ H ws vs → VRs g ρ H (ws.drop n) (vs.drop n)
  | _, _, 0, r => r
  | _, _, _ + 1, .nil => .nil
  | _, _, n + 1, .cons _ t => VRs.drop n t
theorem VRs.one {w : W} {v : V} (h : VR g ρ H w v) : VRs g ρ H [w] [v] := .cons h .nil

/-- from the layer's own expression rules -/
theorem SE.ofPE {e : Expr} {t : TE} {f : DE} (he : PE X e t)
    (h : ∀ (σ : Loc) (m : Mem) (ρ : List Addr) (H : Hp) (τ : L2.St) (Q : VK), Sim g ρ m H → LR g ρ H σ τ → Out g wx τ ρ H (f σ m) (fun w m' ρ' H' => ∀ v, VR g ρ' H' w v → Q v H') → t τ H Q) : SE g X wx e f := by
  refine ⟨fun pins s σ m ρ H τ Q I S L o => ?_⟩
  refine thn (he.run pins s τ H (fun v H' => ∀ u s', Inv X pins τ H' s' → RelV v u → Q u s') I (h σ m ρ H τ _ S L ?_)) fun u s1 ⟨v, H1, I1, r1, q⟩ => q u s1 I1 r1
  exact o.imp fun w m' ρ' H' _ _ k v r u s' I' ru => k v u s' I' r ru
theorem F2.ofR {f : Value → Value → Sem Value} {fn : W → W → Mem → R W}
    (h : ∀ (m : Mem) (ρ : List Addr) (H : Hp) (τ : L2.St) (x y : W) (v z : V) (Q : VK), Sim g ρ m H → VR g ρ H x v → VR g ρ H y z → Out g wx τ ρ H (fn x y m) (fun w m' ρ' H' => ∀ v, VR g ρ' H' w v → Q v H') → ∃ r, OpR X f r ∧ r v z H Q) : F2 g X wx f fn := by
  refine ⟨fun pins s m ρ H τ x y v z u t Q I S rx ru ry rt o => ?_⟩
  obtain ⟨r, hr, hq⟩ := h m ρ H τ x y v z (fun v H' => ∀ u s', Inv X pins τ H' s' → RelV v u → Q u s') S rx ry (o.imp fun w m' ρ' H' _ _ k v r u s' I' ru => k v u s' I' r ru)
  exact thn (hr pins s τ H v z u t _ I ru rt hq) fun u1 s1 ⟨v1, H1, I1, r1, q⟩ => q u1 s1 I1 r1
theorem Fn.ofR {f : Value} {fn : List W → Mem → R W}
    (h : ∀ (m : Mem) (ρ : List Addr) (H : Hp) (τ : L2.St) (xs : List W) (vs : List V) (Q : VK), Sim g ρ m H → VRs g ρ H xs vs → Out g wx τ ρ H (fn xs m) (fun w m' ρ' H' => ∀ v, VR g ρ' H' w v → Q v H') → ∃ r, CallR X f r ∧ r vs H Q) : Fn g X wx (fun us => call f us) fn := by
  refine ⟨fun pins s m ρ H τ xs vs us Q I S rx ru o => ?_⟩
  obtain ⟨r, hr, hq⟩ := h m ρ H τ xs vs (fun v H' => ∀ u s', Inv X pins τ H' s' → RelV v u → Q u s') S rx (o.imp fun w m' ρ' H' _ _ k v r u s' I' ru => k v u s' I' r ru)
  exact thn (hr pins s τ H vs us _ I ru hq) fun u1 s1 ⟨v1, H1, I1, r1, q⟩ => q u1 s1 I1 r1
end

/-! ### names, constants -/
def eVar (i : Nat) : DE := fun σ m => match σ[i]? with | some (some w) => .ok w m | _ => .bad
def eC (w : W) : DE := fun _ m => .ok w m
section
variable {g : G} {X : Cx} {wx : WX}
theorem se_var {i : Nat} {x : Str} {pos : Pos} (hN : X.N[i]? = some x) (hv : Vis X.env.scope x) (hd : (x == ("__debug__" : Str)) = false := by decide) (hcd : (x == ("__classdict__" : Str)) = false := by decide) : SE g X wx (.Name x pos) (eVar i) := by
  refine SE.ofPE (pe_var hN hv hd hcd) fun σ m ρ H τ Q S L o => ?_
  unfold eVar at o
  split at o
  · rename_i w h
    obtain ⟨v, h1, h2⟩ := L.2 i w h
    exact ⟨v, h1, (Out.here o S) v h2⟩
  · exact o.elim
theorem se_int {i j pos} : SE g X wx (.Constant (.int i) j pos) (eC (.int i)) := SE.ofPE pe_int fun σ m ρ H τ Q S L o => (Out.here o S) _ (.int i)
theorem se_bl {b j pos} : SE g X wx (.Constant (.bool b) j pos) (eC (.bl b)) := SE.ofPE pe_bl fun σ m ρ H τ Q S L o => (Out.here o S) _ (.bl b)
theorem se_non {j pos} : SE g X wx (.Constant .none j pos) (eC .non) := SE.ofPE pe_non fun σ m ρ H τ Q S L o => (Out.here o S) _ .non
theorem se_str {x : Str} {l : List Nat} {j pos} (h : x = S l) : SE g X wx (.Constant (.str x) j pos) (eC (.str l)) := SE.ofPE pe_str fun σ m ρ H τ Q S L o => by
  subst h
  exact (Out.here o S) _ (.str l)
theorem se_glob {x : Str} {w : W} {u : Value} {pos : Pos} (hg : Gl X x) (hm : X.mg x = some u) (hr : ∃ v, RelV v u ∧ ∀ ρ H, VR g ρ H w v) (hd : (x == ("__debug__" : Str)) = false := by decide) : SE g X wx (.Name x pos) (eC w) := by
  obtain ⟨v, r, q⟩ := hr
  exact SE.ofPE (pe_glob hg hm r hd) fun σ m ρ H τ Q S L o => (Out.here o S) _ (q ρ H)
theorem se_bltn {x : Str} {c : String} {pos : Pos} (hg : Gl X x) (hm : X.mg x = none) (hv : bootBuiltins x = some (.type c)) (hn : x ≠ "__name__" := by decide) (hd : (x == ("__debug__" : Str)) = false := by decide) : SE g X wx (.Name x pos) (eC (.ty c)) :=
  SE.ofPE (pe_bltn (v := .ty c) hg hm hv rfl hn hd) fun σ m ρ H τ Q S L o => (Out.here o S) _ (.ty c)

/-! ### operators -/
def eBin (fn : W → W → Mem → R W) (a b : DE) : DE := fun σ m => (a σ m).bind fun x m1 => (b σ m1).bind fun y m2 => fn x y m2
def eUn (fn : W → Mem → R W) (a : DE) : DE := fun σ m => (a σ m).bind fun x m1 => fn x m1
variable {a b c : Expr} {fa fb fc : DE} {pos : Pos}
theorem bin2 (ha : SE g X wx a fa) (hb : SE g X wx b fb) {fn : W → W → Mem → R W} {f : Value → Value → Sem Value} (hf : F2 g X wx f fn)
    {pins : List (Addr × Obj)} {s : Shared} {σ : Loc} {m : Mem} {ρ : List Addr} {H : Hp} {τ : L2.St} {Q : Value → Shared → Prop} (I : Inv X pins τ H s) (S : Sim g ρ m H) (L : LR g ρ H σ τ)
    (o : Out g wx τ ρ H (eBin fn fa fb σ m) (fun w m' ρ' H' => ∀ v u s', Inv X pins τ H' s' → VR g ρ' H' w v → RelV v u → Q u s')) :
    wpAny (model X.prog X.w) X.A (eval a X.env) (fun v s₁ => wpAny (model X.prog X.w) X.A (eval b X.env) (fun u s₂ => wpAny (model X.prog X.w) X.A (f v u) Q X.xe s₂) X.xe s₁) X.xe s := by
  refine ha.run pins s σ m ρ H τ _ I S L ((o.bind S).imp fun x m1 ρ1 H1 P1 S1 o1 v u s1 I1 rv ru => ?_)
  refine hb.run pins s1 σ m1 ρ1 H1 τ _ I1 S1 (L.post S P1) ((o1.bind S1).imp fun y m2 ρ2 H2 P2 S2 o2 z t s2 I2 rz rt => ?_)
  exact hf.run pins s2 m2 ρ2 H2 τ x y v z u t Q I2 S2 (rv.post S1 P2) ru rz rt o2
theorem se_bin {op : Operator} {fn : W → W → Mem → R W} (hf : F2 g X wx (binaryOp op) fn) (ha : SE g X wx a fa) (hb : SE g X wx b fb) : SE g X wx (.BinOp a op b pos) (eBin fn fa fb) := by
  refine ⟨fun pins s σ m ρ H τ Q I S L o => ?_⟩
  exact wpAny_BinOp (bin2 ha hb hf I S L o)
theorem se_cmp {op : CmpOp} {fn : W → W → Mem → R W} (hf : F2 g X wx (compareOp op) fn) (ha : SE g X wx a fa) (hb : SE g X wx b fb)
    (h1 : behindInMarks op b = false := by first | exact nobehind _ (by decide) (by decide) | rfl) : SE g X wx (.Compare a [op] [b] pos) (eBin fn fa fb) := by
  refine ⟨fun pins s σ m ρ H τ Q I S L o => ?_⟩
  exact wpAny_Compare1 (bin2 ha hb hf I S L o) h1
theorem se_un {op : UnaryOp} {fn : W → Mem → R W} (hf : F1 g X wx (unaryOp op) fn) (ha : SE g X wx a fa) : SE g X wx (.UnaryOp op a pos) (eUn fn fa) := by
  refine ⟨fun pins s σ m ρ H τ Q I S L o => ?_⟩
  exact PyProof.Rows.UnaryOp_ (ha.run pins s σ m ρ H τ _ I S L ((o.bind S).imp fun x m1 ρ1 H1 P1 S1 o1 v u s1 I1 rv ru => hf.run pins s1 m1 ρ1 H1 τ x v u Q I1 S1 rv ru o1))

/-! ### tests -/
def tVal (a : DE) : DB := fun σ m => (a σ m).bind fun x m1 => match x with | .bl b => .ok b m1 | _ => .bad
def tNot (a : DB) : DB := fun σ m => (a σ m).bind fun x m1 => .ok (!x) m1
def tAnd (a b : DB) : DB := fun σ m => (a σ m).bind fun x m1 => if x = true then b σ m1 else .ok false m1
def tOr (a b : DB) : DB := fun σ m => (a σ m).bind fun x m1 => if x = true then .ok true m1 else b σ m1
/-- truth of a value: None, bool, int, text, list -/
def truth (x : W) (m : Mem) : R Bool := match x with
  | .non => .ok false m
  | .bl b => .ok b m
  | .int i => .ok (i != 0) m
  | .str l => if l.length ≤ 1000000 then .ok (l.length != 0) m else .bad
  | .ref n => match m[n]? with
    | some (.lst xs) => .ok (!xs.isEmpty) m
    | _ => .bad
  | _ => .bad
def tTru (a : DE) : DB := fun σ m => (a σ m).bind truth
theorem st_val (ha : SE g X wx a fa) (he : ∀ whole, isTrue a X.env whole = (do let v ← whole; standAt a.pos; holding [v] (truthy v)) := by intro _; rfl) (hn : ∀ op es pos, a ≠ .BoolOp op es pos := by intro _ _ _ z; cases z) : ST g X wx a (tVal fa) := by
  refine ⟨fun whole pins s σ m ρ H τ Q hw I S L o => ?_⟩
  rcases hw with rfl | ⟨op, es, pos, e⟩
  · refine PyProof.Rows.isTrue_plain (ha.run pins s σ m ρ H τ _ I S L ((o.bind S).imp fun x m1 ρ1 H1 P1 S1 o1 v u s1 I1 rv ru => ?_)) (he _)
    cases x with
    | bl b =>
      cases rv; cases ru
      exact wpAny_truthy_bool (Out.here o1 S1 s1 I1)
    | _ => exact o1.elim
  · exact absurd e (hn _ _ _)
theorem st_tru (ha : SE g X wx a fa) (he : ∀ whole, isTrue a X.env whole = (do let v ← whole; standAt a.pos; holding [v] (truthy v)) := by intro _; rfl) (hn : ∀ op es pos, a ≠ .BoolOp op es pos := by intro _ _ _ z; cases z) : ST g X wx a (tTru fa) := by
  refine ⟨fun whole pins s σ m ρ H τ Q hw I S L o => ?_⟩
  rcases hw with rfl | ⟨op, es, pos, e⟩
  · refine PyProof.Rows.isTrue_plain (ha.run pins s σ m ρ H τ _ I S L ((o.bind S).imp fun x m1 ρ1 H1 P1 S1 o1 v u s1 I1 rv ru => ?_)) (he _)
    have go : ∀ k, TruV X.K v H1 k → (∀ s', Inv X pins τ H1 s' → Q k s') → wpAny (model X.prog X.w) X.A (truthy u) Q X.xe s1 := fun k tv hq =>
      thn (tru_ok pins s1 τ H1 v u (fun k' H' => k' = k ∧ H' = H1) I1 ru ⟨k, tv, rfl, rfl⟩) fun k' s' ⟨H', I', e1, e2⟩ => by subst e1; subst e2; exact hq s' I'
    cases rv with
    | non => exact go false rfl (Out.here o1 S1)
    | bl b => exact go b rfl (Out.here o1 S1)
    | int i => exact go (i != 0) rfl (Out.here o1 S1)
    | str l =>
      simp only [truth] at o1
      split at o1
      · rename_i hl
        refine go (l.length != 0) ⟨?_, ?_⟩ (Out.here o1 S1)
        · rw [S_len, sizeLine_eq]; omega
        · rw [S_len, Bool.eq_iff_iff]; simp
      · exact o1.elim
    | @ref n a h =>
      simp only [truth] at o1
      split at o1
      · rename_i xs hx
        obtain ⟨u1, h1, vs, e1, r1⟩ := S1.obj n a _ h hx
        subst e1
        refine go (!xs.isEmpty) (.inl ⟨vs, SqL.of h1, ?_⟩) (Out.here o1 S1)
        cases r1 <;> rfl
      · exact o1.elim
    | _ => exact o1.elim
  · exact absurd e (hn _ _ _)
theorem st_not {t : DB} (h : ST g X wx a t) (hw : True := trivial) : ST g X wx (.UnaryOp .Not a pos) (tNot t) := by
  refine ⟨fun whole pins s σ m ρ H τ Q hw I S L o => ?_⟩
  rcases hw with rfl | ⟨op, es, pos, e⟩
  · exact PyProof.Rows.isTrue_not (h.run _ pins s σ m ρ H τ (fun c s' => Q (!c) s') (.inl rfl) I S L ((o.bind S).imp fun x m1 ρ1 H1 P1 S1 o1 s1 I1 => Out.here o1 S1 s1 I1))
  · cases e
theorem st_and1 {t : DB} (h : ST g X wx a t) : ST g X wx (.BoolOp .And [a] pos) t := by
  refine ⟨fun whole pins s σ m ρ H τ Q hw I S L o => ?_⟩
  refine PyProof.Rows.isTrue_and (h.run _ pins s σ m ρ H τ _ (.inl rfl) I S L (o.imp fun x m1 ρ1 H1 P1 S1 o1 s1 I1 => ?_))
  cases x with
  | true => exact PyProof.Rows.isTrue_and_nil (o1 s1 I1)
  | false => exact o1 s1 I1
theorem st_or1 {t : DB} (h : ST g X wx a t) : ST g X wx (.BoolOp .Or [a] pos) t := by
  refine ⟨fun whole pins s σ m ρ H τ Q hw I S L o => ?_⟩
  refine PyProof.Rows.isTrue_or (h.run _ pins s σ m ρ H τ _ (.inl rfl) I S L (o.imp fun x m1 ρ1 H1 P1 S1 o1 s1 I1 => ?_))
  cases x with
  | false => exact PyProof.Rows.isTrue_or_nil (o1 s1 I1)
  | true => exact o1 s1 I1
variable {rest : List Expr}
theorem st_and {t t' : DB} (h : ST g X wx a t) (h' : ST g X wx (.BoolOp .And (b :: rest) pos) t') : ST g X wx (.BoolOp .And (a :: b :: rest) pos) (tAnd t t') := by
  refine ⟨fun whole pins s σ m ρ H τ Q hw I S L o => ?_⟩
  refine PyProof.Rows.isTrue_and (h.run _ pins s σ m ρ H τ _ (.inl rfl) I S L ((o.bind S).imp fun x m1 ρ1 H1 P1 S1 o1 s1 I1 => ?_))
  cases x with
  | true => exact h'.run whole pins s1 σ m1 ρ1 H1 τ Q (.inr ⟨_, _, _, rfl⟩) I1 S1 (L.post S P1) o1
  | false => exact Out.here o1 S1 s1 I1
theorem st_or {t t' : DB} (h : ST g X wx a t) (h' : ST g X wx (.BoolOp .Or (b :: rest) pos) t') : ST g X wx (.BoolOp .Or (a :: b :: rest) pos) (tOr t t') := by
  refine ⟨fun whole pins s σ m ρ H τ Q hw I S L o => ?_⟩
  refine PyProof.Rows.isTrue_or (h.run _ pins s σ m ρ H τ _ (.inl rfl) I S L ((o.bind S).imp fun x m1 ρ1 H1 P1 S1 o1 s1 I1 => ?_))
  cases x with
  | false => exact h'.run whole pins s1 σ m1 ρ1 H1 τ Q (.inr ⟨_, _, _, rfl⟩) I1 S1 (L.post S P1) o1
  | true => exact Out.here o1 S1 s1 I1
/-! .. as values -/
def eIf (t : DB) (a b : DE) : DE := fun σ m => (t σ m).bind fun x m1 => if x = true then a σ m1 else b σ m1
def eAnd (a b : DE) : DE := fun σ m => (a σ m).bind fun x m1 => match x with | .bl true => b σ m1 | .bl false => .ok (.bl false) m1 | _ => .bad
def eOr (a b : DE) : DE := fun σ m => (a σ m).bind fun x m1 => match x with | .bl true => .ok (.bl true) m1 | .bl false => b σ m1 | _ => .bad
def eNot (a : DE) : DE := fun σ m => (a σ m).bind fun x m1 => match x with | .bl b => .ok (.bl (!b)) m1 | _ => .bad
theorem se_if {t : DB} (h : ST g X wx c t) (ha : SE g X wx a fa) (hb : SE g X wx b fb) : SE g X wx (.IfExp c a b pos) (eIf t fa fb) := by
  refine ⟨fun pins s σ m ρ H τ Q I S L o => ?_⟩
  refine wpAny_IfExp (h.run _ pins s σ m ρ H τ _ (.inl rfl) I S L ((o.bind S).imp fun x m1 ρ1 H1 P1 S1 o1 s1 I1 => ?_))
  cases x with
  | true => exact ha.run pins s1 σ m1 ρ1 H1 τ Q I1 S1 (L.post S P1) o1
  | false => exact hb.run pins s1 σ m1 ρ1 H1 τ Q I1 S1 (L.post S P1) o1
theorem se_one {op} (h : SE g X wx a fa) : SE g X wx (.BoolOp op [a] pos) fa := ⟨fun pins s σ m ρ H τ Q I S L o => PyProof.Rows.BoolOp_one (h.run pins s σ m ρ H τ Q I S L o)⟩
theorem se_and (ha : SE g X wx a fa) (hb : SE g X wx (.BoolOp .And (b :: rest) pos) fb) : SE g X wx (.BoolOp .And (a :: b :: rest) pos) (eAnd fa fb) := by
  refine ⟨fun pins s σ m ρ H τ Q I S L o => ?_⟩
  refine PyProof.Rows.BoolOp_and (ha.run pins s σ m ρ H τ _ I S L ((o.bind S).imp fun x m1 ρ1 H1 P1 S1 o1 v u s1 I1 rv ru => ?_))
  cases x with
  | bl k =>
    cases rv; cases ru
    refine wpAny_truthy_bool ?_
    cases k with
    | true => exact hb.run pins s1 σ m1 ρ1 H1 τ Q I1 S1 (L.post S P1) o1
    | false => exact Out.here o1 S1 _ _ s1 I1 (.bl false) rfl
  | _ => exact o1.elim
theorem se_or (ha : SE g X wx a fa) (hb : SE g X wx (.BoolOp .Or (b :: rest) pos) fb) : SE g X wx (.BoolOp .Or (a :: b :: rest) pos) (eOr fa fb) := by
  refine ⟨fun pins s σ m ρ H τ Q I S L o => ?_⟩
  refine PyProof.Rows.BoolOp_or (ha.run pins s σ m ρ H τ _ I S L ((o.bind S).imp fun x m1 ρ1 H1 P1 S1 o1 v u s1 I1 rv ru => ?_))
  cases x with
  | bl k =>
    cases rv; cases ru
    refine wpAny_truthy_bool ?_
    cases k with
    | false => exact hb.run pins s1 σ m1 ρ1 H1 τ Q I1 S1 (L.post S P1) o1
    | true => exact Out.here o1 S1 _ _ s1 I1 (.bl true) rfl
  | _ => exact o1.elim
theorem se_not (ha : SE g X wx a fa) : SE g X wx (.UnaryOp .Not a pos) (eNot fa) := by
  refine ⟨fun pins s σ m ρ H τ Q I S L o => ?_⟩
  refine PyProof.Rows.UnaryOp_ (ha.run pins s σ m ρ H τ _ I S L ((o.bind S).imp fun x m1 ρ1 H1 P1 S1 o1 v u s1 I1 rv ru => ?_))
  cases x with
  | bl k =>
    cases rv; cases ru
    exact PyProof.Rows.not_of (wpAny_truthy_bool (Out.here o1 S1 _ _ s1 I1 (.bl (!k)) rfl))
  | _ => exact o1.elim

/-! ### arguments, displays -/
def aNil : DL := fun _ m => .ok [] m
def aCons (a : DE) (r : DL) : DL := fun σ m => (a σ m).bind fun x m1 => (r σ m1).bind fun xs m2 => .ok (x :: xs) m2
theorem sa_nil : SA g X wx [] aNil := ⟨fun pos pins s σ m ρ H τ Q I S L o => Calls.spliced_nil (Out.here o S [] [] s I .nil .nil)⟩
theorem sa_cons {e : Expr} {es : List Expr} {fe : DE} {fs : DL} (he : SE g X wx e fe) (hr : SA g X wx es fs) (hs : starEach (e :: es) X.env = (false, eval e X.env) :: starEach es X.env := by exact star1 rfl) : SA g X wx (e :: es) (aCons fe fs) := by
  refine ⟨fun pos pins s σ m ρ H τ Q I S L o => ?_⟩
  rw [hs]
  show wpAny _ _ (spliced ((false, eval e X.env) :: backTo pos (starEach es X.env))) _ _ s
  refine Calls.spliced_cons (he.run pins s σ m ρ H τ _ I S L ((o.bind S).imp fun x m1 ρ1 H1 P1 S1 o1 v u s1 I1 rv ru => ?_))
  refine hr.run pos pins s1 σ m1 ρ1 H1 τ _ I1 S1 (L.post S P1) ((o1.bind S1).imp fun xs m2 ρ2 H2 P2 S2 o2 vs us s2 I2 rvs rus => ?_)
  exact Out.here o2 S2 (v :: vs) (u :: us) s2 I2 (.cons (rv.post S1 P2) rvs) (.cons ru rus)
/-- a display's items are few -/
def few (ws : List W) (m : Mem) : R (List W) := if ws.length ≤ 1000000 then .ok ws m else .bad
def eTup (f : DL) : DE := fun σ m => (f σ m).bind fun ws m1 => (few ws m1).bind fun ws m2 => .ok (.tup ws) m2
def lDisp (f : DL) : DL := fun σ m => (f σ m).bind few
/-- a fresh list becomes an object -/
def eNew (f : DL) : DE := fun σ m => (f σ m).bind fun ws m1 => .ok (.ref m1.length) (m1 ++ [.lst ws])
theorem sizeM {n : Nat} (h : n ≤ 1000000) : n ≤ sizeLine := by rw [sizeLine_eq]; omega
theorem sizeM' {n : Nat} (h : n ≤ 1000000) : n < sizeLine := by rw [sizeLine_eq]; omega
theorem se_tup {es : List Expr} {f : DL} {x1} (h : SA g X wx es f) : SE g X wx (.Tuple es x1 pos) (eTup f) := by
  refine ⟨fun pins s σ m ρ H τ Q I S L o => ?_⟩
  refine wpAny_Tuple_spliced (h.run pos pins s σ m ρ H τ _ I S L ((o.bind S).imp fun ws m1 ρ1 H1 P1 S1 o1 vs us s1 I1 rv ru => ?_))
  unfold few at o1
  split at o1
  · rename_i hl
    have hlu : us.length ≤ sizeLine := by rw [← ru.length, ← rv.length]; exact sizeM hl
    refine ⟨hlu, ?_⟩
    have hf : H1 s1.heap.objs.size = none := I1.hok.fresh (Nat.le_refl _)
    have I2 : Inv X pins τ (upd H1 s1.heap.objs.size (.tup vs)) { s1 with heap := s1.heap.push { cls := .type "tuple", data := .seq us.toArray } } :=
      I1.laid (t' := s1.toks) (fun b u e => Heap.get?_push_of_some _ e) (Nat.le_refl _) ⟨by rw [← rv.length]; exact sizeM hl, us, ru, ⟨_, Heap.get?_push_size _ rfl, rfl, _, rfl⟩⟩
    obtain ⟨P2, S2⟩ := S1.junk (u := .tup vs) hf
    exact (o1 : Out g wx τ ρ1 H1 (R.ok (W.tup ws) m1) _) ρ1 _ P2 S2 _ _ _ I2 (.tup (SqT.of upd_same) (rv.post S1 P2)) rfl
  · exact o1.elim
theorem sl_disp {es : List Expr} {f : DL} (h : SA g X wx es f) : SL g X wx (.List es pos) (lDisp f) := by
  refine ⟨fun pins s σ m ρ H τ Q I S L o => ?_⟩
  refine wpAny_List_spliced (h.run pos pins s σ m ρ H τ _ I S L ((o.bind S).imp fun ws m1 ρ1 H1 P1 S1 o1 vs us s1 I1 rv ru => ?_))
  unfold few at o1
  split at o1
  · rename_i hl
    have hlu : us.length ≤ sizeLine := by rw [← ru.length, ← rv.length]; exact sizeM hl
    refine ⟨hlu, ?_⟩
    have hf : H1 s1.heap.objs.size = none := I1.hok.fresh (Nat.le_refl _)
    have I2 : Inv X pins τ (upd H1 s1.heap.objs.size (.lst vs)) { s1 with heap := s1.heap.push { cls := .type "list", data := .seq us.toArray } } :=
      I1.laid (t' := s1.toks) (fun b u e => Heap.get?_push_of_some _ e) (Nat.le_refl _) ⟨by rw [← rv.length]; exact sizeM hl, us, 0, ru, Heap.get?_push_size _ rfl⟩
    obtain ⟨P2, S2⟩ := S1.junk (u := .lst vs) hf
    exact (o1 : Out g wx τ ρ1 H1 (R.ok ws m1) _) ρ1 _ P2 S2 _ _ _ I2 (P1.back S S1 hf) upd_same (fun z => S1.isSm z hf) (rv.post S1 P2)
  · exact o1.elim
mutual
theorem VR.grow {ρ : List Addr} {H : Hp} (p : Addr) : ∀ {w : W} {v : V}, VR g ρ H w v → VR g (ρ ++ [p]) H w v
  | _, _, .non => .non
  | _, _, .bl b => .bl b
  | _, _, .int b => .int b
  | _, _, .str b => .str b
  | _, _, .tup h r => .tup h (VRs.grow p r)
  | _, _, .frz h r => .frz h (VRs.grow p r)
  | _, _, .ref h => .ref (by rw [List.getElem?_append_left (List.getElem?_eq_some_iff.mp h).1]; exact h)
  | _, _, .cls c => .cls c
  | _, _, .ty c => .ty c
theorem VRs.grow {ρ : List Addr} {H : Hp} (p : Addr) : ∀ {ws : List W} {vs : List V}, VRs g ρ H ws vs → VRs g (ρ ++ [p]) H ws vs
  | _, _, .nil => .nil
  | _, _, .cons h r => .cons (VR.grow p h) (VRs.grow p r)
end
theorem Sim.adopt {ρ : List Addr} {m : Mem} {H : Hp} {p : Addr} {u : HO} {o : O} (s : Sim g ρ m H) (hp : H p = some u) (hn : p ∉ ρ) (h : OR g ρ H o u) {ρ0 : List Addr} {H0 : Hp} (P : Post ρ0 H0 ρ H) (h0 : H0 p = none) :
    Post ρ0 H0 (ρ ++ [p]) H ∧ Sim g (ρ ++ [p]) (m ++ [o]) H := by
  obtain ⟨l, e, hl⟩ := P.ext
  have P0 : Post ρ H (ρ ++ [p]) H → True := fun _ => trivial
  refine ⟨⟨⟨l ++ [p], by rw [e, List.append_assoc], fun a ha => ?_⟩, P.keep⟩, by simp [s.len], ?_, fun i a o' h1 h2 => ?_⟩
  · rcases List.mem_append.mp ha with z | z
    · exact hl a z
    · have : a = p := by simpa using z
      subst this; exact h0
  · rw [List.nodup_append]
    refine ⟨s.nd, by simp, fun a ha b hb => ?_⟩
    have : b = p := by simpa using hb
    subst this
    rintro rfl
    exact hn ha
  · -- relations survive a longer ρ
    have mono : ∀ {o : O} {v : HO}, OR g ρ H o v → OR g (ρ ++ [p]) H o v := fun {o v} r => by
      -- Post with p free would want H p = none; do it by hand
      have vr : ∀ {w : W} {x : V}, VR g ρ H w x → VR g (ρ ++ [p]) H w x := fun r => r.grow p
      have vrs : ∀ {ws : List W} {xs : List V}, VRs g ρ H ws xs → VRs g (ρ ++ [p]) H ws xs := fun r => r.grow p
      cases o with
      | lst ws => obtain ⟨vs, e, r⟩ := r; exact ⟨vs, e, vrs r⟩
      | dK ws => obtain ⟨vs, e, r⟩ := r; exact ⟨vs, e, Paired.imp r fun _ _ q => ⟨q.1, vr q.2⟩⟩
      | dT ws => obtain ⟨vs, e, r⟩ := r; exact ⟨vs, e, Paired.imp r fun _ _ q => ⟨q.1, vr q.2⟩⟩
      | ins c fs => obtain ⟨dx, gs, e, r⟩ := r; exact ⟨dx, gs, e, Paired.imp r fun _ _ q => ⟨q.1, vr q.2⟩⟩
      | exc c fs => obtain ⟨oe, vs, d, gs, e, h1, h2, h3, h4, h5⟩ := r; exact ⟨oe, vs, d, gs, e, h1, h2, h3, h4, Paired.imp h5 fun _ _ q => ⟨q.1, vr q.2⟩⟩
      | exh c fs msg => obtain ⟨oe, vs, d, gs, tt, e, h1, h2, h3, h4, h5, h6, h7⟩ := r; exact ⟨oe, vs, d, gs, tt, e, h1, h2, h3, h4, Paired.imp h5 fun _ _ q => ⟨q.1, vr q.2⟩, h6, h7⟩
    by_cases hi : i < ρ.length
    · rw [List.getElem?_append_left hi] at h1
      rw [List.getElem?_append_left (by rw [← s.len]; exact hi)] at h2
      obtain ⟨v, h3, h4⟩ := s.obj i a o' h1 h2
      exact ⟨v, h3, mono h4⟩
    · have hi' : ρ.length ≤ i := Nat.le_of_not_lt hi
      rw [List.getElem?_append_right hi'] at h1
      rw [List.getElem?_append_right (by rw [← s.len]; exact hi')] at h2
      have e0 : i - ρ.length = 0 := by
        have := (List.getElem?_eq_some_iff.mp h1).1
        simp at this; omega
      have e0' : i - m.length = 0 := by rw [← s.len]; exact e0
      rw [e0] at h1; rw [e0'] at h2
      simp at h1 h2
      subst h1; subst h2
      exact ⟨u, hp, mono h⟩
theorem se_new {e : Expr} {f : DL} (h : SL g X wx e f) : SE g X wx e (eNew f) := by
  refine ⟨fun pins s σ m ρ H τ Q I S L o => ?_⟩
  refine h.run pins s σ m ρ H τ Q I S L ?_
  have o' := o
  unfold eNew at o'
  cases hr : f σ m with
  | ok ws m1 =>
    rw [hr] at o'
    intro ρ1 H1 P1 S1 p vs s1 I1 h0 hp hn rv
    obtain ⟨P2, S2⟩ := S1.adopt (o := .lst ws) hp hn ⟨vs, rfl, rv⟩ P1 h0
    have hl : (ρ1 ++ [p])[m1.length]? = some p := by rw [← S1.len]; simp
    exact o' (ρ1 ++ [p]) H1 P2 S2 (.ref p) (.ref p) s1 I1 (.ref hl) rfl
  | exc c fs m1 => rw [hr] at o'; exact o'
  | bad => rw [hr] at o'; exact o'
end
end Sh

namespace Sh
open PySem PySem.Spec L2

/-! ### as the layer's readings -/
section
variable (g : G) (X : Cx) (wx : WX)
def teOf (f : DE) : TE := fun τ H Q => ∃ (σ : Loc) (m : Mem) (ρ : List Addr), Sim g ρ m H ∧ LR g ρ H σ τ ∧ Out g wx τ ρ H (f σ m) fun w m' ρ' H' => ∀ v, VR g ρ' H' w v → Q v H'
def tlOf (f : DL) : TE := fun τ H Q => ∃ (σ : Loc) (m : Mem) (ρ : List Addr), Sim g ρ m H ∧ LR g ρ H σ τ ∧ Out g wx τ ρ H (f σ m) fun ws m' ρ' H' => ∀ p vs, H p = none → H' p = some (.lst vs) → p ∉ ρ' → VRs g ρ' H' ws vs → Q (.ref p) H'
def ttOf (f : DB) : TT := fun τ H Q => ∃ (σ : Loc) (m : Mem) (ρ : List Addr), Sim g ρ m H ∧ LR g ρ H σ τ ∧ Out g wx τ ρ H (f σ m) fun b m' ρ' H' => Q b H'
def taOf (f : DL) : TA := fun τ H Q => ∃ (σ : Loc) (m : Mem) (ρ : List Addr), Sim g ρ m H ∧ LR g ρ H σ τ ∧ Out g wx τ ρ H (f σ m) fun ws m' ρ' H' => ∀ vs, VRs g ρ' H' ws vs → Q vs H'
/-- what a statement leaves -/
def OutT (ρ : List Addr) (H : Hp) (r : RS) (D : Ends) : Prop := match r with
  | .nx σ' m' => ∀ ρ' H' τ', Post ρ H ρ' H' → Sim g ρ' m' H' → LR g ρ' H' σ' τ' → D.nx τ' H'
  | .rt w m' => ∀ ρ' H' v, Post ρ H ρ' H' → Sim g ρ' m' H' → VR g ρ' H' w v → D.rt v H'
  | .bk σ' m' => ∀ ρ' H' τ', Post ρ H ρ' H' → Sim g ρ' m' H' → LR g ρ' H' σ' τ' → D.bk τ' H'
  | .ct σ' m' => ∀ ρ' H' τ', Post ρ H ρ' H' → Sim g ρ' m' H' → LR g ρ' H' σ' τ' → D.ct τ' H'
  | .exc c fs σ' m' => ∀ ρ' H' τ' d gs, Post ρ H ρ' H' → Sim g ρ' m' H' → LR g ρ' H' σ' τ' → XD H' d gs → FR g ρ' H' fs gs → wx (.ref (g.cl c)) d τ' H'
  | .bad => False
def tsOf (f : DS) : TS := fun D τ H => ∃ (σ : Loc) (m : Mem) (ρ : List Addr), Sim g ρ m H ∧ LR g ρ H σ τ ∧ OutT g wx ρ H (f σ m) D
def SS (st : Stmt) (f : DS) : Prop := PS X st (tsOf g wx f)
def SSs (st : List Stmt) (f : DS) : Prop := PSs X st (tsOf g wx f)
end
section
variable {g : G} {X : Cx} {wx : WX} {τ : L2.St} {ρ ρ' : List Addr} {H H' : Hp} {m m' : Mem} {e : Expr}
theorem SE.pe {f : DE} (h : SE g X wx e f) : PE X e (teOf g wx f) := ⟨fun pins s τ H Q I ⟨σ, m, ρ, S, L, o⟩ =>
  h.run pins s σ m ρ H τ _ I S L (o.imp fun w m' ρ' H' P S' k v u s' I' r ru => ⟨v, H', I', ru, k v r⟩)⟩
theorem SL.pe {f : DL} (h : SL g X wx e f) : PE X e (tlOf g wx f) := ⟨fun pins s τ H Q I ⟨σ, m, ρ, S, L, o⟩ =>
  h.run pins s σ m ρ H τ _ I S L (o.imp fun w m' ρ' H' P S' k p vs s' I' h0 hp hn r => ⟨.ref p, H', I', rfl, k p vs h0 hp hn r⟩)⟩
theorem ST.pt {f : DB} (h : ST g X wx e f) : PT X e (ttOf g wx f) := ⟨fun pins s τ H Q I ⟨σ, m, ρ, S, L, o⟩ =>
  h.run _ pins s σ m ρ H τ _ (.inl rfl) I S L (o.imp fun b m' ρ' H' P S' k s' I' => ⟨H', I', k⟩)⟩
theorem SA.pa {es : List Expr} {f : DL} (h : SA g X wx es f) : PA X es (taOf g wx f) := ⟨fun pos pins s τ H Q I ⟨σ, m, ρ, S, L, o⟩ =>
  h.run pos pins s σ m ρ H τ _ I S L (o.imp fun b m' ρ' H' P S' k vs us s' I' r ru => ⟨vs, H', I', ru, k vs r⟩)⟩
theorem PS.conv {st : Stmt} {t t' : TS} (h : PS X st t) (k : ∀ D τ H, t' D τ H → t D τ H) : PS X st t' := ⟨fun pins s σ H D I q => h.run pins s σ H D I (k _ _ _ q)⟩
theorem PSs.conv {st : List Stmt} {t t' : TS} (h : PSs X st t) (k : ∀ D τ H, t' D τ H → t D τ H) : PSs X st t' := ⟨fun pins s σ H D I q => h.run pins s σ H D I (k _ _ _ q)⟩
theorem OutT.from {r : RS} {D : Ends} (h : OutT g wx ρ H r D) (P : Post ρ H ρ' H') (S : Sim g ρ m H) (S' : Sim g ρ' m' H') : OutT g wx ρ' H' r D := by
  cases r with
  | nx σ' m' => exact fun ρ2 H2 τ2 P2 S2 => h ρ2 H2 τ2 (P.then P2 S S') S2
  | rt w m' => exact fun ρ2 H2 v P2 S2 => h ρ2 H2 v (P.then P2 S S') S2
  | bk σ' m' => exact fun ρ2 H2 τ2 P2 S2 => h ρ2 H2 τ2 (P.then P2 S S') S2
  | ct σ' m' => exact fun ρ2 H2 τ2 P2 S2 => h ρ2 H2 τ2 (P.then P2 S S') S2
  | exc c fs σ' m' => exact fun ρ2 H2 τ2 d gs P2 S2 => h ρ2 H2 τ2 d gs (P.then P2 S S') S2
  | bad => exact h

/-- an expression's result, then a statement's -/
def RS.of {β : Type} (σ : Loc) (r : R β) (k : β → Mem → RS) : RS := match r with
  | .ok b m => k b m
  | .exc c fs m => .exc c fs σ m
  | .bad => .bad
@[simp] theorem RS.of_ok {β : Type} (σ : Loc) (b : β) (m : Mem) (k : β → Mem → RS) : RS.of σ (.ok b m) k = k b m := rfl
@[simp] theorem RS.of_exc {β : Type} (σ : Loc) (c : String) (fs : List (List Nat × W)) (m : Mem) (k : β → Mem → RS) : RS.of σ (.exc c fs m) k = .exc c fs σ m := rfl
@[simp] theorem RS.of_bad {β : Type} (σ : Loc) (k : β → Mem → RS) : RS.of σ .bad k = .bad := rfl
theorem OutT.of {β : Type} {σ : Loc} {r : R β} {k : β → Mem → RS} {D : Ends} (S : Sim g ρ m H) (L : LR g ρ H σ τ) (h : OutT g wx ρ H (RS.of σ r k) D) :
    Out g wx τ ρ H r (fun b m1 ρ1 H1 => OutT g wx ρ1 H1 (k b m1) D) := by
  cases r with
  | ok b m1 => exact fun ρ1 H1 P1 S1 => OutT.from h P1 S S1
  | exc c fs m1 => exact fun ρ1 H1 d gs P1 S1 h1 h2 => h ρ1 H1 τ d gs P1 S1 (L.post S P1) h1 h2
  | bad => exact h

/-! ### statements -/
def sSeq (a b : DS) : DS := fun σ m => match a σ m with
  | .nx σ' m' => b σ' m'
  | r => r
def sNil : DS := fun σ m => .nx σ m
def sExpr (f : DE) : DS := fun σ m => RS.of σ (f σ m) fun _ m1 => .nx σ m1
def sExprL (f : DL) : DS := fun σ m => RS.of σ (f σ m) fun _ m1 => .nx σ m1
def sRet (f : DE) : DS := fun σ m => RS.of σ (f σ m) fun w m1 => .rt w m1
def sRetN : DS := fun _ m => .rt .non m
def sIf (t : DB) (a b : DS) : DS := fun σ m => RS.of σ (t σ m) fun k m1 => if k = true then a σ m1 else b σ m1
def sSet (i : Nat) (f : DE) : DS := fun σ m => RS.of σ (f σ m) fun w m1 => .nx (σ.set i (some w)) m1
def sBreak : DS := fun σ m => .bk σ m
def sCont : DS := fun σ m => .ct σ m
theorem OutT.seq {a b : DS} {σ : Loc} {D : Ends} (S : Sim g ρ m H) (h : OutT g wx ρ H (sSeq a b σ m) D) : OutT g wx ρ H (a σ m) { D with nx := tsOf g wx b D } := by
  unfold sSeq at h
  cases ha : a σ m with
  | nx σ' m' => rw [ha] at h; exact fun ρ1 H1 τ1 P1 S1 L1 => ⟨σ', m', ρ1, S1, L1, OutT.from h P1 S S1⟩
  | rt w m' => rw [ha] at h; exact h
  | bk σ' m' => rw [ha] at h; exact h
  | ct σ' m' => rw [ha] at h; exact h
  | exc c fs σ' m' => rw [ha] at h; exact h
  | bad => rw [ha] at h; exact h
theorem ss_nil : SSs g X wx [] sNil := PSs.conv pss_nil fun D τ H ⟨σ, m, ρ, S, L, o⟩ => o ρ H τ Post.refl S L
theorem ss_cons {st : Stmt} {rest : List Stmt} {a b : DS} (h1 : SS g X wx st a) (h2 : SSs g X wx rest b) : SSs g X wx (st :: rest) (sSeq a b) :=
  PSs.conv (pss_cons h1 h2) fun D τ H ⟨σ, m, ρ, S, L, o⟩ => ⟨σ, m, ρ, S, L, o.seq S⟩
theorem ss_one {st : Stmt} {a : DS} (h1 : SS g X wx st a) : SSs g X wx [st] a := pss_one h1
theorem ss_pass {pos} : SS g X wx (.Pass pos) sNil := PS.conv ps_pass fun D τ H ⟨σ, m, ρ, S, L, o⟩ => o ρ H τ Post.refl S L
theorem ss_break {pos} : SS g X wx (.Break pos) sBreak := PS.conv ps_break fun D τ H ⟨σ, m, ρ, S, L, o⟩ => o ρ H τ Post.refl S L
theorem ss_cont {pos} : SS g X wx (.Continue pos) sCont := PS.conv ps_continue fun D τ H ⟨σ, m, ρ, S, L, o⟩ => o ρ H τ Post.refl S L
theorem ss_doc {x j pos pos'} : SS g X wx (.Expr (.Constant (.str x) j pos) pos') sNil := PS.conv ps_doc fun D τ H ⟨σ, m, ρ, S, L, o⟩ => o ρ H τ Post.refl S L
theorem ss_expr {f : DE} {pos : Pos} (he : SE g X wx e f) (hs : swapsWith e none pos.line X.env = pure false := by rfl) : SS g X wx (.Expr e pos) (sExpr f) :=
  PS.conv (ps_expr he.pe hs) fun D τ H ⟨σ, m, ρ, S, L, o⟩ => ⟨σ, m, ρ, S, L, (o.of S L).imp fun w m1 ρ1 H1 P1 S1 o1 v r => o1 ρ1 H1 τ Post.refl S1 (L.post S P1)⟩
theorem ss_ret {f : DE} {pos : Pos} (he : SE g X wx e f) : SS g X wx (.Return (some e) pos) (sRet f) :=
  PS.conv (ps_ret he.pe) fun D τ H ⟨σ, m, ρ, S, L, o⟩ => ⟨σ, m, ρ, S, L, (o.of S L).imp fun w m1 ρ1 H1 P1 S1 o1 v r => o1 ρ1 H1 v Post.refl S1 r⟩
theorem ss_retN {pos : Pos} : SS g X wx (.Return none pos) sRetN := PS.conv ps_retN fun D τ H ⟨σ, m, ρ, S, L, o⟩ => o ρ H .non Post.refl S .non
theorem ss_if {t : DB} {a b : List Stmt} {fa fb : DS} {pos : Pos} (h : ST g X wx e t) (ha : SSs g X wx a fa) (hb : SSs g X wx b fb) : SS g X wx (.If e a b pos) (sIf t fa fb) :=
  PS.conv (ps_if h.pt ha hb) fun D τ H ⟨σ, m, ρ, S, L, o⟩ => ⟨σ, m, ρ, S, L, (o.of S L).imp fun k m1 ρ1 H1 P1 S1 o1 => by
    cases k with
    | true => exact ⟨σ, m1, ρ1, S1, L.post S P1, o1⟩
    | false => exact ⟨σ, m1, ρ1, S1, L.post S P1, o1⟩⟩
theorem ss_set {i : Nat} {x : Str} {f : DE} {pos pos' : Pos} (hN : X.N.Nodup) (hi : X.N[i]? = some x) (hx : L2.Loc X.env.scope x) (he : SE g X wx e f) (hs : swapsWith e (some (.Name x pos')) pos.line X.env = pure false := by rfl)
    (hf : X.fn x = true ∨ X.env.scope.names.lookup x = some .local := by first | exact .inl rfl | exact .inr rfl | assumption) : SS g X wx (.Assign [.Name x pos'] e pos) (sSet i f) :=
  PS.conv (ps_set hN hi hx he.pe hs hf) fun D τ H ⟨σ, m, ρ, S, L, o⟩ => ⟨σ, m, ρ, S, L, (o.of S L).imp fun w m1 ρ1 H1 P1 S1 o1 v r => o1 ρ1 H1 _ Post.refl S1 ((L.post S P1).set i r)⟩

/-! ### targets -/
/-- the places js alone are touched -/
def Agree (js : List Nat) (τ τ' : L2.St) : Prop := τ'.length = τ.length ∧ ∀ j, j ∉ js → τ'[j]? = τ[j]?
theorem Agree.refl {js : List Nat} {τ : L2.St} : Agree js τ τ := ⟨rfl, fun _ _ => rfl⟩
theorem Agree.trans {js : List Nat} {τ τ1 τ2 : L2.St} (a : Agree js τ τ1) (b : Agree js τ1 τ2) : Agree js τ τ2 := ⟨b.1.trans a.1, fun j h => (b.2 j h).trans (a.2 j h)⟩
theorem Agree.mono {js ks : List Nat} {τ τ1 : L2.St} (a : Agree js τ τ1) (h : ∀ j ∈ js, j ∈ ks) : Agree ks τ τ1 := ⟨a.1, fun j hj => a.2 j fun z => hj (h j z)⟩
theorem Agree.wipe {js : List Nat} {τ τ1 : L2.St} (a : Agree js τ τ1) : L2.wipe τ1 js = L2.wipe τ js := by
  have key : ∀ (js : List Nat) (τ : L2.St) (i : Nat), (L2.wipe τ js)[i]? = if i ∈ js ∧ i < τ.length then some none else τ[i]? := by
    intro js τ i
    induction js with
    | nil => simp [L2.wipe]
    | cons v vs ih =>
      unfold L2.wipe
      by_cases h : i = v
      · subst h
        by_cases hl : i < τ.length
        · rw [List.getElem?_set_self (by rw [wipe_length]; exact hl)]; simp [hl]
        · rw [List.getElem?_eq_none (by rw [List.length_set, wipe_length]; omega)]
          simp [hl]
      · rw [List.getElem?_set_ne (Ne.symm h), ih]
        simp [h]
  refine List.ext_getElem? fun i => ?_
  rw [key, key, a.1]
  by_cases h : i ∈ js
  · by_cases hl : i < τ.length
    · simp [h, hl]
    · have h1 : τ1[i]? = none := List.getElem?_eq_none (by rw [a.1]; omega)
      have h2 : τ[i]? = none := List.getElem?_eq_none (by omega)
      simp [hl, h1, h2]
  · simp [h, a.2 i h]
def tgOf (g : G) (wx : WX) (h : W → Loc → Mem → R Loc) (js : List Nat) : TG := fun v τ H Q => ∃ (w : W) (σ : Loc) (m : Mem) (ρ : List Addr), Sim g ρ m H ∧ LR g ρ H σ τ ∧ VR g ρ H w v ∧
  Out g wx τ ρ H (h w σ m) fun σ' m' ρ' H' => ∀ τ', LR g ρ' H' σ' τ' → Agree js τ τ' → Q τ' H'
/-- a target; js: the places that it stores to -/
def SG (g : G) (X : Cx) (wx : WX) (tg : Expr) (h : W → Loc → Mem → R Loc) (js : List Nat) : Prop := PG X tg (tgOf g wx h js)
def gSet (i : Nat) : W → Loc → Mem → R Loc := fun w σ m => .ok (σ.set i (some w)) m
theorem PG.conv {tg : Expr} {t t' : TG} (h : PG X tg t) (k : ∀ v τ H Q, t' v τ H Q → t v τ H Q) : PG X tg t' := ⟨fun pins s σ H v u Q I r q => h.run pins s σ H v u Q I r (k _ _ _ _ q)⟩
theorem sg_name {i : Nat} {x : Str} {pos : Pos} (hN : X.N.Nodup) (hi : X.N[i]? = some x) (hx : L2.Loc X.env.scope x) (hf : X.fn x = true ∨ X.env.scope.names.lookup x = some .local := by first | exact .inl rfl | exact .inr rfl | assumption) : SG g X wx (.Name x pos) (gSet i) [i] :=
  PG.conv (pg_name hN hi hx hf) fun v τ H Q ⟨w, σ, m, ρ, S, L, r, o⟩ => (Out.here o S) _ (L.set i r) ⟨by simp, fun j hj => by
    have : j ≠ i := by simpa using hj
    exact List.getElem?_set_ne (Ne.symm this)⟩
/-- several names: (a, b, ..) = a tuple -/
def gTups : List (W → Loc → Mem → R Loc) → List W → Loc → Mem → R Loc
  | [], [], σ, m => .ok σ m
  | h :: hs, w :: ws, σ, m => (h w σ m).bind fun σ1 m1 => gTups hs ws σ1 m1
  | _, _, _, _ => .bad
def gTup (hs : List (W → Loc → Mem → R Loc)) : W → Loc → Mem → R Loc := fun w σ m => match w with
  | .tup ws => if ws.length = hs.length then gTups hs ws σ m else .bad
  | _ => .bad
def tgsOf (g : G) (wx : WX) (hs : List (W → Loc → Mem → R Loc)) (js : List Nat) : TGs := fun vs τ H Q => ∃ (ws : List W) (σ : Loc) (m : Mem) (ρ : List Addr), Sim g ρ m H ∧ LR g ρ H σ τ ∧ VRs g ρ H ws vs ∧
  Out g wx τ ρ H (gTups hs ws σ m) fun σ' m' ρ' H' => ∀ τ', LR g ρ' H' σ' τ' → Agree js τ τ' → Q τ' H'
def SGs (g : G) (X : Cx) (wx : WX) (tgs : List Expr) (hs : List (W → Loc → Mem → R Loc)) (js : List Nat) : Prop := PGs X tgs (tgsOf g wx hs js)
theorem PGs.conv {tg : List Expr} {t t' : TGs} (h : PGs X tg t) (k : ∀ v τ H Q, t' v τ H Q → t v τ H Q) : PGs X tg t' := ⟨fun pins s σ H v u Q I r q => h.run pins s σ H v u Q I r (k _ _ _ _ q)⟩
theorem sgs_nil : SGs g X wx [] [] [] := PGs.conv pgs_nil fun vs τ H Q ⟨ws, σ, m, ρ, S, L, r, o⟩ => by
  cases r with
  | nil => exact ⟨rfl, (Out.here o S) τ L Agree.refl⟩
  | cons a b => exact o.elim
theorem Out.slots {τ' : L2.St} {js : List Nat} {β : Type} {r : R β} {Q : β → Mem → List Addr → Hp → Prop} (hw : ∀ c d H, wx c d τ H → wx c d τ' H) (h : Out g wx τ ρ H r Q) : Out g wx τ' ρ H r Q := by
  cases r with
  | ok b m1 => exact h
  | exc c fs m1 => exact fun ρ1 H1 d gs P1 S1 h1 h2 => hw _ _ _ (h ρ1 H1 d gs P1 S1 h1 h2)
  | bad => exact h
/-- targets raise nothing -/
def Quiet (h : W → Loc → Mem → R Loc) : Prop := ∀ w σ m c fs m', h w σ m ≠ .exc c fs m'
theorem quiet_set {i : Nat} : Quiet (gSet i) := fun w σ m c fs m' z => nomatch z
theorem gTups_quiet : ∀ {hs : List (W → Loc → Mem → R Loc)}, (∀ h ∈ hs, Quiet h) → ∀ ws σ m c fs m', gTups hs ws σ m ≠ .exc c fs m'
  | [], _, [], σ, m, c, fs, m', z => nomatch z
  | [], _, _ :: _, σ, m, c, fs, m', z => nomatch z
  | _ :: _, _, [], σ, m, c, fs, m', z => nomatch z
  | h :: hs, k, w :: ws, σ, m, c, fs, m', z => by
    unfold gTups at z
    cases q : h w σ m with
    | ok σ1 m1 => rw [q] at z; exact gTups_quiet (fun h hh => k h (List.mem_cons_of_mem _ hh)) ws σ1 m1 c fs m' z
    | exc c1 fs1 m1 => exact k h List.mem_cons_self w σ m c1 fs1 m1 q
    | bad => rw [q] at z; cases z
theorem Out.quiet {τ' : L2.St} {β : Type} {r : R β} {Q : β → Mem → List Addr → Hp → Prop} (hq : ∀ c fs m', r ≠ .exc c fs m') (h : Out g wx τ ρ H r Q) : Out g wx τ' ρ H r Q := by
  cases r with
  | ok b m1 => exact h
  | exc c fs m1 => exact absurd rfl (hq c fs m1)
  | bad => exact h
theorem sgs_cons {t : Expr} {ts : List Expr} {h : W → Loc → Mem → R Loc} {hs : List (W → Loc → Mem → R Loc)} {js ks : List Nat} (h1 : SG g X wx t h js) (h2 : SGs g X wx ts hs ks) (hq : ∀ h ∈ hs, Quiet h := by first | (intro h hh; simp only [List.mem_cons, List.not_mem_nil, or_false] at hh; rcases hh with rfl | rfl | rfl | rfl | rfl <;> exact quiet_set) | (intro h hh; cases hh))
    (hst : (assignEach (t :: ts) X.env).map (·.2) = assign t X.env :: (assignEach ts X.env).map (·.2) := by rfl) : SGs g X wx (t :: ts) (h :: hs) (js ++ ks) :=
  PGs.conv (pgs_cons h1 h2 hst) fun vs τ H Q ⟨ws, σ, m, ρ, S, L, r, o⟩ => by
    cases r with
    | nil => exact o.elim
    | @cons w v ws vs rv rr =>
      refine ⟨_, _, rfl, w, σ, m, ρ, S, L, rv, ((show Out g wx τ ρ H ((h w σ m).bind fun σ1 m1 => gTups hs ws σ1 m1) _ from o).bind S).imp fun σ1 m1 ρ1 H1 P1 S1 o1 τ1 L1 A1 => ?_⟩
      refine ⟨ws, σ1, m1, ρ1, S1, L1, rr.post S P1, (o1.quiet (gTups_quiet hq ws σ1 m1)).imp fun σ2 m2 ρ2 H2 P2 S2 o2 τ2 L2 A2 => o2 τ2 L2 ((A1.mono fun j hj => List.mem_append_left _ hj).trans (A2.mono fun j hj => List.mem_append_right _ hj))⟩
theorem sg_tup {es : List Expr} {k : Nat} {hs : List (W → Loc → Mem → R Loc)} {js : List Nat} {pos : Pos} (hK : X.K = g.K) (hc : X.calm = true) (h : SGs g X wx es hs js) (hl : hs.length = es.length := by rfl) (hn : (assignEach es X.env).length = es.length := by rfl)
    (hst : (assignEach es X.env).findIdx? (·.1) = none := by rfl) : SG g X wx (.Tuple es k pos) (gTup hs) js :=
  PG.conv (pg_tup (n := es.length) hc h hn hst) fun v τ H Q ⟨w, σ, m, ρ, S, L, r, o⟩ => by
    cases r with
    | @tup ws vs a hs' rv =>
      have o' : Out g wx τ ρ H (if ws.length = hs.length then gTups hs ws σ m else .bad) _ := o
      by_cases he : ws.length = hs.length
      · rw [if_pos he] at o'
        exact ⟨a, vs, rfl, by rw [hK]; exact hs', by rw [← rv.length, he, hl], ws, σ, m, ρ, S, L, rv, o'⟩
      · rw [if_neg he] at o'
        exact o'.elim
    | _ => exact o.elim
end
end Sh

namespace Sh
open PySem PySem.Spec L2

/-! ### what is walked -/
abbrev Src := Nat → Mem → Option (Option W)
structure Plan where
  n : Nat
  src : Src
abbrev DP := Loc → Mem → R Plan
def Wk (g : G) (J : It) (src : Src) (ρ0 : List Addr) (H0 : Hp) : Prop := ∀ (ρ : List Addr) (H : Hp) (m : Mem) (i : Nat), Post ρ0 H0 ρ H → Sim g ρ m H →
  match src i m with
  | some (some w) => J.go i H ∧ ∀ x H', J.yld i H x H' → Post ρ H ρ H' ∧ Sim g ρ m H' ∧ VR g ρ H' w x
  | some none => J.stop i H
  | none => True
def tiOf (g : G) (wx : WX) (f : DP) : TI := fun τ H R => ∃ (σ : Loc) (m : Mem) (ρ : List Addr), Sim g ρ m H ∧ LR g ρ H σ τ ∧ Out g wx τ ρ H (f σ m) fun pl m' ρ' H' => ∀ J, Wk g J pl.src ρ' H' → R J H'
def SI (g : G) (X : Cx) (wx : WX) (tg iter : Expr) (f : DP) : Prop := PI X tg iter (tiOf g wx f)
def srcFix (ws : List W) : Src := fun i _ => some ws[i]?
def srcLive (a : Nat) : Src := fun i m => match m[a]? with | some (.lst xs) => some xs[i]? | _ => none
def srcRange (lo : Int) (n : Nat) : Src := fun i _ => some (if i < n then some (.int (lo + (i : Int))) else none)
def srcStr (l : List Nat) : Src := fun i _ => some (l[i]?.map fun c => .str [c])
def srcEnum (s : Src) : Src := fun i m => (s i m).map fun o => o.map fun w => .tup [.int (i : Nat), w]
def srcZip (s t : Src) : Src := fun i m => match s i m, t i m with
  | some (some x), some (some y) => some (some (.tup [x, y]))
  | some none, some _ => some none
  | some _, some none => some none
  | _, _ => none
section
variable {g : G} {X : Cx} {wx : WX} {τ : L2.St} {ρ ρ' : List Addr} {H H' : Hp} {m m' : Mem} {e tg : Expr}
theorem PI.conv {iter : Expr} {t t' : TI} (h : PI X tg iter t) (k : ∀ τ H R, t' τ H R → t τ H R) : PI X tg iter t' := ⟨fun pins s σ H R I q => h.run pins s σ H R I (k _ _ _ q)⟩
theorem PI.union {iter : Expr} {ι : Type} {t : ι → TI} {t' : TI} (h : ∀ i, PI X tg iter (t i)) (k : ∀ τ H R, t' τ H R → ∃ i, t i τ H R) : PI X tg iter t' := ⟨fun pins s σ H R I q => let ⟨i, q'⟩ := k _ _ _ q; (h i).run pins s σ H R I q'⟩
/-- a fresh list stays -/
theorem fresh_stay {p : Addr} {o : HO} (S : Sim g ρ m H) (hp : H p = some o) (hn : p ∉ ρ) {ρ1 : List Addr} {H1 : Hp} (P : Post ρ H ρ1 H1) : H1 p = some o ∧ p ∉ ρ1 := by
  refine ⟨P.keep p o hp hn, fun z => ?_⟩
  obtain ⟨l, e, hl⟩ := P.ext
  rw [e] at z
  rcases List.mem_append.mp z with z | z
  · exact hn z
  · rw [hl p z] at hp; cases hp

theorem VRs.at_none : ∀ {ws : List W} {vs : List V} {i : Nat}, VRs g ρ H ws vs → ws[i]? = none → vs.length ≤ i := fun {ws vs i} r h => by
  rw [← r.length]; exact List.getElem?_eq_none_iff.mp h
theorem wk_fix {p : Addr} {vs : List V} {ws : List W} (hK : X.K = g.K) (S : Sim g ρ m H) (hp : H p = some (.lst vs)) (hn : p ∉ ρ) (r : VRs g ρ H ws vs) : Wk g (Itl X.K p) (srcFix ws) ρ H := by
  intro ρ1 H1 m1 i P1 S1
  obtain ⟨hp1, hn1⟩ := fresh_stay S hp hn P1
  have r1 := r.post S P1
  cases q : ws[i]? with
  | some w =>
    obtain ⟨v, hv, rv⟩ := r1.get q
    simp only [srcFix, q]
    refine ⟨⟨vs, v, SqL.of hp1, hv⟩, fun x H' ⟨e, hx⟩ => ?_⟩
    subst e
    have := hx vs (SqL.of hp1)
    rw [hv] at this; cases this
    exact ⟨Post.refl, S1, rv⟩
  | none =>
    simp only [srcFix, q]
    exact ⟨vs, SqL.of hp1, r1.at_none q⟩
theorem wk_live {n : Nat} {a : Addr} (hK : X.K = g.K) (S : Sim g ρ m H) (ha : ρ[n]? = some a) : Wk g (Itl X.K a) (srcLive n) ρ H := by
  intro ρ1 H1 m1 i P1 S1
  have ha1 := P1.get ha
  unfold srcLive
  split
  · rename_i x w hw
    split at hw
    · rename_i xs hxs
      obtain ⟨u, h1, vs, e1, r1⟩ := S1.obj n a _ ha1 hxs
      subst e1
      have hw' : xs[i]? = some w := Option.some.inj hw
      obtain ⟨v, hv, rv⟩ := r1.get hw'
      refine ⟨⟨vs, v, SqL.of h1, hv⟩, fun x H' ⟨e, hx⟩ => ?_⟩
      subst e
      have := hx vs (SqL.of h1)
      rw [hv] at this; cases this
      exact ⟨Post.refl, S1, rv⟩
    · cases hw
  · rename_i x hw
    split at hw
    · rename_i xs hxs
      obtain ⟨u, h1, vs, e1, r1⟩ := S1.obj n a _ ha1 hxs
      subst e1
      exact ⟨vs, SqL.of h1, r1.at_none (Option.some.inj hw)⟩
    · cases hw
  · trivial
theorem wk_tup {a : Addr} {vs : List V} {ws : List W} (hK : X.K = g.K) (S : Sim g ρ m H) (hp : SqT X.K H a vs) (r : VRs g ρ H ws vs) : Wk g (Itt X.K a) (srcFix ws) ρ H := by
  intro ρ1 H1 m1 i P1 S1
  have hp1 : SqT X.K H1 a vs := by rw [hK] at hp ⊢; exact P1.seqT S hp
  have r1 := r.post S P1
  cases q : ws[i]? with
  | some w =>
    obtain ⟨v, hv, rv⟩ := r1.get q
    simp only [srcFix, q]
    refine ⟨⟨vs, v, hp1, hv⟩, fun x H' ⟨e, hx⟩ => ?_⟩
    subst e
    have := hx vs hp1
    rw [hv] at this; cases this
    exact ⟨Post.refl, S1, rv⟩
  | none =>
    simp only [srcFix, q]
    exact ⟨vs, hp1, r1.at_none q⟩
theorem wk_range {lo : Int} {n : Nat} : Wk g (Itr lo n) (srcRange lo n) ρ H := by
  intro ρ1 H1 m1 i P1 S1
  unfold srcRange
  by_cases h : i < n
  · simp only [if_pos h]
    refine ⟨h, fun x H' ⟨e, hx⟩ => ?_⟩
    subst e; subst hx
    exact ⟨Post.refl, S1, .int _⟩
  · simp only [if_neg h]
    exact Nat.le_of_not_lt h
theorem wk_str {l : List Nat} : Wk g (Its (Sh.S l)) (srcStr l) ρ H := by
  intro ρ1 H1 m1 i P1 S1
  unfold srcStr
  have hg : (Sh.S l).cps[i]? = l[i]? := by simp
  have hs : (Sh.S l).cps.size = l.length := by simp
  cases q : l[i]? with
  | some c =>
    simp only [Option.map_some]
    refine ⟨by show i < (Sh.S l).cps.size; rw [hs]; exact (List.getElem?_eq_some_iff.mp q).1, fun x H' ⟨e, c', hc, hx⟩ => ?_⟩
    subst e; subst hx
    rw [hg, q] at hc; cases hc
    exact ⟨Post.refl, S1, .str [c]⟩
  | none =>
    simp only [Option.map_none]
    show (Sh.S l).cps.size ≤ i
    rw [hs]; exact List.getElem?_eq_none_iff.mp q

/-- iterables -/
def pList (f : DL) : DP := fun σ m => (f σ m).bind fun ws m1 => .ok ⟨ws.length, srcFix ws⟩ m1
def planOf (w : W) (m : Mem) : R Plan := match w with
  | .ref n => match m[n]? with
    | some (.lst xs) => .ok ⟨xs.length, srcLive n⟩ m
    | _ => .bad
  | .tup ws => .ok ⟨ws.length, srcFix ws⟩ m
  | .str l => .ok ⟨l.length, srcStr l⟩ m
  | _ => .bad
def pVal (f : DE) : DP := fun σ m => (f σ m).bind planOf
theorem si_list {f : DL} (hK : X.K = g.K) (h : SL g X wx e f) : SI g X wx tg e (pList f) :=
  PI.conv (pi_list h.pe) fun τ H R ⟨σ, m, ρ, S, L, o⟩ => ⟨σ, m, ρ, S, L, (o.bind S).imp fun ws m1 ρ1 H1 P1 S1 o1 p vs h0 hp hn r =>
    ⟨p, rfl, ⟨vs, SqL.of hp⟩, Out.here o1 S1 _ (wk_fix hK S1 hp hn r)⟩⟩
theorem si_val {f : DE} (hK : X.K = g.K) (h : SE g X wx e f) : SI g X wx tg e (pVal f) := by
  -- list, tuple or text
  have hl : PI X tg e (iList X.K (teOf g wx f)) := pi_list h.pe
  have ht : PI X tg e (iTup X.K (teOf g wx f)) := pi_tup h.pe
  have hs : PI X tg e (iStr (teOf g wx f)) := pi_str h.pe
  refine PI.union (ι := Fin 3) (t := fun i => match i with | 0 => iList X.K (teOf g wx f) | 1 => iTup X.K (teOf g wx f) | 2 => iStr (teOf g wx f)) (fun i => match i with | 0 => hl | 1 => ht | 2 => hs) fun τ H R ⟨σ, m, ρ, S, L, o⟩ => ?_
  have o' := o.bind S
  cases hr : f σ m with
  | ok w m1 =>
    have hbad : (∀ ρ1 H1, Post ρ H ρ1 H1 → Sim g ρ1 m1 H1 → ∀ v, VR g ρ1 H1 w v → Out g wx τ ρ1 H1 (planOf w m1) fun pl m' ρ' H' => ∀ J, Wk g J pl.src ρ' H' → R J H') := fun ρ1 H1 P1 S1 v r => by
      rw [hr] at o'; exact o' ρ1 H1 P1 S1
    cases w with
    | ref n =>
      refine ⟨0, σ, m, ρ, S, L, ?_⟩
      rw [hr]
      intro ρ1 H1 P1 S1 v r
      have o1 := hbad ρ1 H1 P1 S1 v r
      cases r with
      | @ref n a ha =>
        simp only [planOf] at o1
        split at o1
        · rename_i xs hx
          obtain ⟨u, h1, vs, e1, r1⟩ := S1.obj n a _ ha hx
          subst e1
          exact ⟨a, rfl, ⟨vs, SqL.of h1⟩, Out.here o1 S1 _ (wk_live hK S1 ha)⟩
        · exact o1.elim
    | tup ws =>
      refine ⟨1, σ, m, ρ, S, L, ?_⟩
      rw [hr]
      intro ρ1 H1 P1 S1 v r
      have o1 := hbad ρ1 H1 P1 S1 v r
      cases r with
      | @tup ws vs a hs rv =>
        have hs' : SqT X.K H1 a vs := by rw [hK]; exact hs
        exact ⟨a, rfl, ⟨vs, hs'⟩, Out.here o1 S1 _ (wk_tup hK S1 hs' rv)⟩
    | str l =>
      refine ⟨2, σ, m, ρ, S, L, ?_⟩
      rw [hr]
      intro ρ1 H1 P1 S1 v r
      have o1 := hbad ρ1 H1 P1 S1 v r
      cases r
      exact ⟨_, rfl, Out.here o1 S1 _ wk_str⟩
    | _ =>
      refine ⟨0, σ, m, ρ, S, L, ?_⟩
      rw [hr]
      intro ρ1 H1 P1 S1 v r
      exact (hbad ρ1 H1 P1 S1 v r).elim
  | exc c fs m1 =>
    rw [hr] at o'
    refine ⟨0, σ, m, ρ, S, L, ?_⟩
    rw [hr]; exact o'
  | bad => rw [hr] at o'; exact o'.elim
def pRange1 (f : DL) : DP := fun σ m => (f σ m).bind fun ws m1 => match ws with
  | [.int n] => if -1000000000 ≤ n ∧ n ≤ 1000000000 then .ok ⟨n.toNat, srcRange 0 n.toNat⟩ m1 else .bad
  | _ => .bad
def pRange2 (f : DL) : DP := fun σ m => (f σ m).bind fun ws m1 => match ws with
  | [.int a, .int n] => if (-1000000000 ≤ n ∧ n ≤ 1000000000) ∧ -1000000000 ≤ a ∧ a ≤ 1000000000 then .ok ⟨(n - a).toNat, srcRange a (n - a).toNat⟩ m1 else .bad
  | _ => .bad
theorem VRs.inv1 {w : W} {vs : List V} (h : VRs g ρ H [w] vs) : ∃ v, vs = [v] ∧ VR g ρ H w v := by
  cases h with | cons a b => cases b; exact ⟨_, rfl, a⟩
theorem VRs.inv2 {w x : W} {vs : List V} (h : VRs g ρ H [w, x] vs) : ∃ v u, vs = [v, u] ∧ VR g ρ H w v ∧ VR g ρ H x u := by
  cases h with | cons a b => cases b with | cons c d => cases d; exact ⟨_, _, rfl, a, c⟩
theorem si_range1 {a : Expr} {f : DL} {p pos : Pos} (hg : Gl X "range") (hm : X.mg "range" = none) (ha : SA g X wx [a] f) (hs : starEach [a] X.env = [(false, eval a X.env)] := by rfl) : SI g X wx tg (.Call (.Name "range" p) [a] [] pos) (pRange1 f) :=
  PI.conv (pi_range1 hg hm ha.pa hs) fun τ H R ⟨σ, m, ρ, S, L, o⟩ => ⟨σ, m, ρ, S, L, (o.bind S).imp fun ws m1 ρ1 H1 P1 S1 o1 vs r => by
    split at o1
    · rename_i n
      obtain ⟨v, rfl, rv⟩ := r.inv1
      cases rv
      split at o1
      · rename_i hb
        exact ⟨n, rfl, by omega, by omega, Out.here o1 S1 _ wk_range⟩
      · exact o1.elim
    · exact o1.elim⟩
theorem si_range2 {a b : Expr} {f : DL} {p pos : Pos} (hg : Gl X "range") (hm : X.mg "range" = none) (ha : SA g X wx [a, b] f) (hs : starEach [a, b] X.env = [(false, eval a X.env), (false, eval b X.env)] := by rfl) (hs2 : starEach [b] X.env = [(false, eval b X.env)] := by rfl) :
    SI g X wx tg (.Call (.Name "range" p) [a, b] [] pos) (pRange2 f) :=
  PI.conv (pi_range2 hg hm ha.pa hs hs2) fun τ H R ⟨σ, m, ρ, S, L, o⟩ => ⟨σ, m, ρ, S, L, (o.bind S).imp fun ws m1 ρ1 H1 P1 S1 o1 vs r => by
    split at o1
    · rename_i k n
      obtain ⟨v, u, rfl, rv, ru⟩ := r.inv2
      cases rv; cases ru
      split at o1
      · rename_i hb
        exact ⟨k, n, rfl, ⟨by omega, by omega, by omega, by omega⟩, Out.here o1 S1 _ wk_range⟩
      · exact o1.elim
    · exact o1.elim⟩
/-! enumerate, zip of lists: each argument a fresh list or a list that stands -/
/-- an argument that is a list: what is walked -/
def SQ (g : G) (X : Cx) (wx : WX) (e : Expr) (f : DP) : Prop := PE X e (fun τ H Q => ∃ (σ : Loc) (m : Mem) (ρ : List Addr), Sim g ρ m H ∧ LR g ρ H σ τ ∧ Out g wx τ ρ H (f σ m) fun pl m' ρ' H' => ∀ a, (∃ xs, SqL X.K H' a xs) → (∀ ρ1 H1 m1 i, Post ρ' H' ρ1 H1 → Sim g ρ1 m1 H1 → pl.src i m1 ≠ none → ∃ xs, SqL X.K H1 a xs) → Wk g (Itl X.K a) pl.src ρ' H' → Q (.ref a) H')
def planL (w : W) (m : Mem) : R Plan := match w with
  | .ref n => match m[n]? with
    | some (.lst xs) => .ok ⟨xs.length, srcLive n⟩ m
    | _ => .bad
  | _ => .bad
def pSeq (f : DE) : DP := fun σ m => (f σ m).bind planL
theorem PE.conv {t t' : TE} (h : PE X e t) (k : ∀ τ H Q, t' τ H Q → t τ H Q) : PE X e t' := ⟨fun pins s σ H Q I q => h.run pins s σ H Q I (k _ _ _ q)⟩
def enumPlan (pl : Plan) (m : Mem) : R Plan := .ok ⟨pl.n, srcEnum pl.src⟩ m
def pEnum (f : DP) : DP := fun σ m => (f σ m).bind enumPlan
def zipPlan (pl pl' : Plan) (m : Mem) : R Plan := match pl.src 0 m with
  | some _ => .ok ⟨min pl.n pl'.n, srcZip pl.src pl'.src⟩ m
  | none => .bad
def pZip (f f' : DP) : DP := fun σ m => (f σ m).bind fun pl m1 => (f' σ m1).bind fun pl' m2 => zipPlan pl pl' m2
theorem wk_enum {a : Addr} {src : Src} (S : Sim g ρ m H) (h : Wk g (Itl X.K a) src ρ H) : Wk g (Ite X.K a) (srcEnum src) ρ H := by
  intro ρ1 H1 m1 i P1 S1
  have k := h ρ1 H1 m1 i P1 S1
  unfold srcEnum
  cases q : src i m1 with
  | none => trivial
  | some o =>
    rw [q] at k
    cases o with
    | none => exact k
    | some w =>
      obtain ⟨⟨xs, x, hx, hi⟩, ky⟩ := k
      refine ⟨⟨xs, x, hx, hi⟩, fun v H' ⟨T, y, ev, hT, eH, hy⟩ => ?_⟩
      subst ev; subst eH
      obtain ⟨_, _, r⟩ := ky y H1 ⟨rfl, hy⟩
      obtain ⟨P2, S2⟩ := S1.junk (u := .tup [.int (i : Nat), y]) hT
      exact ⟨P2, S2, .tup (SqT.of upd_same) (.cons (.int _) (.cons (r.post S1 P2) .nil))⟩
theorem wk_zip {a b : Addr} {src src' : Src} (S : Sim g ρ m H) (h : Wk g (Itl X.K a) src ρ H) (h' : Wk g (Itl X.K b) src' ρ H)
    (k1 : ∀ ρ1 H1 m1 i, Post ρ H ρ1 H1 → Sim g ρ1 m1 H1 → src i m1 ≠ none → ∃ xs, SqL X.K H1 a xs) (k2 : ∀ ρ1 H1 m1 i, Post ρ H ρ1 H1 → Sim g ρ1 m1 H1 → src' i m1 ≠ none → ∃ xs, SqL X.K H1 b xs) : Wk g (Itz X.K a b) (srcZip src src') ρ H := by
  intro ρ1 H1 m1 i P1 S1
  have k := h ρ1 H1 m1 i P1 S1
  have k' := h' ρ1 H1 m1 i P1 S1
  unfold srcZip
  cases q : src i m1 with
  | none => cases src' i m1 with
    | none => trivial
    | some o' =>
      cases o' with
      | none => trivial
      | some w' => trivial
  | some o =>
    rw [q] at k
    cases q' : src' i m1 with
    | none => cases o <;> trivial
    | some o' =>
      rw [q'] at k'
      cases o with
      | none =>
        obtain ⟨xs, hx, hl⟩ := k
        obtain ⟨ys, hy⟩ := k2 ρ1 H1 m1 i P1 S1 (by rw [q']; simp)
        exact ⟨xs, ys, hx, hy, .inl hl⟩
      | some w =>
        cases o' with
        | none =>
          obtain ⟨ys, hy, hl⟩ := k'
          obtain ⟨xs, hx⟩ := k1 ρ1 H1 m1 i P1 S1 (by rw [q]; simp)
          exact ⟨xs, ys, hx, hy, .inr hl⟩
        | some w' =>
          obtain ⟨⟨xs, x, hx, hi⟩, ky⟩ := k
          obtain ⟨⟨ys, y, hy, hj⟩, ky'⟩ := k'
          refine ⟨⟨xs, ys, x, y, hx, hy, hi, hj⟩, fun v H' ⟨T, x', y', ev, hT, eH, hx', hy'⟩ => ?_⟩
          subst ev; subst eH
          obtain ⟨_, _, r⟩ := ky x' H1 ⟨rfl, hx'⟩
          obtain ⟨_, _, r'⟩ := ky' y' H1 ⟨rfl, hy'⟩
          obtain ⟨P2, S2⟩ := S1.junk (u := .tup [x', y']) hT
          exact ⟨P2, S2, .tup (SqT.of upd_same) (.cons (r.post S1 P2) (.cons (r'.post S1 P2) .nil))⟩
theorem Wk.post {J : It} {src : Src} (h : Wk g J src ρ H) (S : Sim g ρ m H) (P : Post ρ H ρ' H') (S' : Sim g ρ' m' H') : Wk g J src ρ' H' := fun ρ1 H1 m1 i P1 S1 => h ρ1 H1 m1 i (P.then P1 S S') S1
theorem sq_list {f : DL} (hK : X.K = g.K) (h : SL g X wx e f) : SQ g X wx e (pList f) :=
  PE.conv h.pe fun τ H Q ⟨σ, m, ρ, S, L, o⟩ => ⟨σ, m, ρ, S, L, (o.bind S).imp fun ws m1 ρ1 H1 P1 S1 o1 p vs h0 hp hn r =>
    Out.here o1 S1 p ⟨vs, SqL.of hp⟩ (fun ρ2 H2 m2 i P2 S2 _ => ⟨vs, SqL.of (fresh_stay S1 hp hn P2).1⟩) (wk_fix hK S1 hp hn r)⟩
theorem sq_val {f : DE} (hK : X.K = g.K) (h : SE g X wx e f) : SQ g X wx e (pSeq f) :=
  PE.conv h.pe fun τ H Q ⟨σ, m, ρ, S, L, o⟩ => ⟨σ, m, ρ, S, L, (o.bind S).imp fun w m1 ρ1 H1 P1 S1 o1 v r => by
    cases r with
    | @ref n a ha =>
      simp only [planL] at o1
      split at o1
      · rename_i xs hx
        obtain ⟨u, h1, vs, e1, r1⟩ := S1.obj n a _ ha hx
        subst e1
        refine Out.here o1 S1 a ⟨vs, SqL.of h1⟩ (fun ρ2 H2 m2 i P2 S2 hne => ?_) (wk_live hK S1 ha)
        simp only [srcLive] at hne
        split at hne
        · rename_i ys hy
          obtain ⟨u, h2, vs2, e2, _⟩ := S2.obj n a _ (P2.get ha) hy
          subst e2
          exact ⟨vs2, SqL.of h2⟩
        · exact absurd rfl hne
      · exact o1.elim
    | _ => exact o1.elim⟩

theorem si_enum {f : DP} {elts : List Expr} {kk : Nat} {p pos tpos : Pos} (hg : Gl X "enumerate") (hm : X.mg "enumerate" = none) (h : SQ g X wx e f) (hs : starEach [e] X.env = [(false, eval e X.env)] := by rfl) :
    SI g X wx (.Tuple elts kk tpos) (.Call (.Name "enumerate" p) [e] [] pos) (pEnum f) :=
  PI.conv (pi_enum hg hm (pa_cons h pa_nil hs) hs) fun τ H R ⟨σ, m, ρ, S, L, o⟩ => ⟨σ, m, ρ, S, L, (o.bind S).imp fun pl m1 ρ1 H1 P1 S1 o1 a ⟨xs, hx⟩ _ wk =>
    ⟨a, xs, rfl, hx, Out.here o1 S1 _ (wk_enum S1 wk)⟩⟩
theorem si_zip {e2 : Expr} {f f' : DP} {elts : List Expr} {kk : Nat} {p pos tpos : Pos} (hg : Gl X "zip") (hm : X.mg "zip" = none) (h : SQ g X wx e f) (h' : SQ g X wx e2 f')
    (hs : starEach [e, e2] X.env = (false, eval e X.env) :: starEach [e2] X.env := by rfl) (hpl : (backTo pos (starEach [e2] X.env)).any (·.1) = false := by rfl) (hs2 : starEach [e2] X.env = (false, eval e2 X.env) :: starEach [] X.env := by rfl) :
    SI g X wx (.Tuple elts kk tpos) (.Call (.Name "zip" p) [e, e2] [] pos) (pZip f f') :=
  PI.conv (pi_zip hg hm (pa_cons h (pa_cons h' pa_nil hs2) hs) hs hpl) fun τ H R ⟨σ, m, ρ, S, L, o⟩ => ⟨σ, m, ρ, S, L, (o.bind S).imp fun pl m1 ρ1 H1 P1 S1 o1 a ⟨xs, hx⟩ ka wk =>
    ⟨σ, m1, ρ1, S1, L.post S P1, (o1.bind S1).imp fun pl' m2 ρ2 H2 P2 S2 o2 b ⟨ys, hy⟩ kb wk' => by
      unfold zipPlan at o2
      split at o2
      · rename_i o hq
        obtain ⟨xs2, hx2⟩ := ka ρ2 H2 m2 0 P2 S2 (by rw [hq]; simp)
        exact ⟨a, b, xs2, ys, rfl, hx2, hy, Out.here o2 S2 _ (wk_zip S2 (wk.post S1 P2 S2) wk' (fun ρ3 H3 m3 i P3 S3 hne => ka ρ3 H3 m3 i (P2.then P3 S1 S2) S3 hne) kb)⟩
      · exact o2.elim⟩⟩
end
end Sh

namespace Sh
open PySem PySem.Spec L2

/-! ### loops -/
def forLoop (src : Src) (h : W → Loc → Mem → R Loc) (b : DS) : Nat → Nat → DS
  | 0, _, _, _ => .bad
  | n + 1, i, σ, m => match src i m with
    | some (some w) => RS.of σ (h w σ m) fun σ1 m1 => match b σ1 m1 with
      | .nx σ2 m2 => forLoop src h b n (i + 1) σ2 m2
      | .ct σ2 m2 => forLoop src h b n (i + 1) σ2 m2
      | .bk σ2 m2 => .nx σ2 m2
      | r => r
    | some none => .nx σ m
    | none => .bad
def sFor (p : DP) (h : W → Loc → Mem → R Loc) (b : DS) : DS := fun σ m => RS.of σ (p σ m) fun pl m1 => forLoop pl.src h b (pl.n + 1) 0 σ m1
def whileLoop (t : DB) (b : DS) : Nat → DS
  | 0, _, _ => .bad
  | n + 1, σ, m => RS.of σ (t σ m) fun k m1 => if k = true then (match b σ m1 with
      | .nx σ2 m2 => whileLoop t b n σ2 m2
      | .ct σ2 m2 => whileLoop t b n σ2 m2
      | .bk σ2 m2 => .nx σ2 m2
      | r => r) else .nx σ m1
def sWhile (n : Nat) (t : DB) (b : DS) : DS := whileLoop t b n

section
variable {g : G} {X : Cx} {wx : WX} {τ : L2.St} {ρ ρ' : List Addr} {H H' : Hp} {m m' : Mem} {e tg : Expr}
theorem ss_for {iter : Expr} {body : List Stmt} {p : DP} {h : W → Loc → Mem → R Loc} {js : List Nat} {b : DS} {pos : Pos} (hp : PassesOwn (model X.prog X.w) X.A X.env X.xe) (hc : X.calm = true) (hi : SI g X wx tg iter p) (hg : SG g X wx tg h js) (hb : SSs g X wx body b)
    (hs : ∀ x, foldedSetIterable iter X.env x = pure x := by intro _; rfl) : SS g X wx (.For tg iter body [] pos) (sFor p h b) := by
  refine PS.conv (ps_for hp hc hi hg hb hs) fun D τ H ⟨σ, m, ρ, S, L, o⟩ => ?_
  refine ⟨σ, m, ρ, S, L, (o.of S L).imp fun pl m1 ρ1 H1 P1 S1 o1 J wk => ?_⟩
  refine ⟨fun i n τ' H' => ∃ (σ' : Loc) (m' : Mem) (ρ' : List Addr), Post ρ1 H1 ρ' H' ∧ Sim g ρ' m' H' ∧ LR g ρ' H' σ' τ' ∧ OutT g wx ρ' H' (forLoop pl.src h b n i σ' m') D, ⟨pl.n + 1, σ, m1, ρ1, Post.refl, S1, L.post S P1, o1⟩, ?_⟩
  rintro i n τ2 H2 ⟨σ2, m2, ρ2, P2, S2, L2, o2⟩
  cases n with
  | zero => exact o2.elim
  | succ n =>
    have k := wk ρ2 H2 m2 i P2 S2
    unfold forLoop at o2
    cases q : pl.src i m2 with
    | none => rw [q] at o2; exact o2.elim
    | some oo =>
      rw [q] at o2 k
      cases oo with
      | none => exact .inl ⟨k, o2 ρ2 H2 τ2 Post.refl S2 L2⟩
      | some w =>
        refine .inr ⟨k.1, fun τ' H' => ∃ (σ' : Loc) (m' : Mem) (ρ' : List Addr), Post ρ1 H1 ρ' H' ∧ Sim g ρ' m' H' ∧ LR g ρ' H' σ' τ' ∧ OutT g wx ρ' H' (forLoop pl.src h b n (i + 1) σ' m') D,
          fun τ' H' q' => ⟨n, Nat.lt_succ_self n, q'⟩, fun x H3 hy => ?_⟩
        obtain ⟨P3, S3, r3⟩ := k.2 x H3 hy
        have L3 := L2.post S2 P3
        refine ⟨w, σ2, m2, ρ2, S3, L3, r3, ((OutT.from o2 P3 S2 S3).of S3 L3).imp fun σ4 m4 ρ4 H4 P4 S4 o4 τ4 L4 A4 => ?_⟩
        have P14 := (P2.then P3 S1 S2).then P4 S1 S3
        refine ⟨σ4, m4, ρ4, S4, L4, ?_⟩
        cases hb' : b σ4 m4 with
        | nx σ5 m5 => rw [hb'] at o4; exact fun ρ5 H5 τ5 P5 S5 L5 => ⟨σ5, m5, ρ5, P14.then P5 S1 S4, S5, L5, OutT.from o4 P5 S4 S5⟩
        | ct σ5 m5 => rw [hb'] at o4; exact fun ρ5 H5 τ5 P5 S5 L5 => ⟨σ5, m5, ρ5, P14.then P5 S1 S4, S5, L5, OutT.from o4 P5 S4 S5⟩
        | bk σ5 m5 => rw [hb'] at o4; exact o4
        | rt w5 m5 => rw [hb'] at o4; exact o4
        | exc c fs σ5 m5 => rw [hb'] at o4; exact o4
        | bad => rw [hb'] at o4; exact o4
theorem ss_while {c : Expr} {body : List Stmt} {t : DB} {b : DS} {pos : Pos} (n : Nat) (hp : PassesOwn (model X.prog X.w) X.A X.env X.xe) (hc : ST g X wx c t) (hb : SSs g X wx body b) : SS g X wx (.While c body [] pos) (sWhile n t b) := by
  refine PS.conv (ps_while hp hc.pt hb) fun D τ H ⟨σ, m, ρ, S, L, o⟩ => ?_
  refine ⟨fun n τ' H' => ∃ (σ' : Loc) (m' : Mem) (ρ' : List Addr), Sim g ρ' m' H' ∧ LR g ρ' H' σ' τ' ∧ OutT g wx ρ' H' (whileLoop t b n σ' m') D, ⟨n, σ, m, ρ, S, L, o⟩, ?_⟩
  rintro n τ2 H2 ⟨σ2, m2, ρ2, S2, L2, o2⟩
  cases n with
  | zero => exact o2.elim
  | succ n =>
    unfold whileLoop at o2
    refine ⟨σ2, m2, ρ2, S2, L2, (o2.of S2 L2).imp fun k m3 ρ3 H3 P3 S3 o3 => ?_⟩
    cases k with
    | false => exact o3 ρ3 H3 τ2 Post.refl S3 (L2.post S2 P3)
    | true =>
      refine ⟨fun τ' H' => ∃ (σ' : Loc) (m' : Mem) (ρ' : List Addr), Sim g ρ' m' H' ∧ LR g ρ' H' σ' τ' ∧ OutT g wx ρ' H' (whileLoop t b n σ' m') D, fun τ' H' q' => ⟨n, Nat.lt_succ_self n, q'⟩, ?_⟩
      refine ⟨σ2, m3, ρ3, S3, L2.post S2 P3, ?_⟩
      have o3 : OutT g wx ρ3 H3 (match b σ2 m3 with
        | .nx σ2 m2 => whileLoop t b n σ2 m2
        | .ct σ2 m2 => whileLoop t b n σ2 m2
        | .bk σ2 m2 => .nx σ2 m2
        | r => r) D := o3
      cases hb' : b σ2 m3 with
      | nx σ5 m5 => rw [hb'] at o3; exact fun ρ5 H5 τ5 P5 S5 L5 => ⟨σ5, m5, ρ5, S5, L5, OutT.from o3 P5 S3 S5⟩
      | ct σ5 m5 => rw [hb'] at o3; exact fun ρ5 H5 τ5 P5 S5 L5 => ⟨σ5, m5, ρ5, S5, L5, OutT.from o3 P5 S3 S5⟩
      | bk σ5 m5 => rw [hb'] at o3; exact o3
      | rt w5 m5 => rw [hb'] at o3; exact o3
      | exc c fs σ5 m5 => rw [hb'] at o3; exact o3
      | bad => rw [hb'] at o3; exact o3

/-! ### list comprehensions -/
def R.nox {β : Type} (r : R β) : R β := match r with
  | .exc _ _ _ => .bad
  | r => r
@[simp] theorem R.nox_ok {β : Type} (b : β) (m : Mem) : (R.ok b m).nox = .ok b m := rfl
@[simp] theorem R.nox_bad {β : Type} : (R.bad : R β).nox = .bad := rfl
abbrev wx0 : WX := fun _ _ _ _ => False
theorem Out.nox {β : Type} {r : R β} {Q : β → Mem → List Addr → Hp → Prop} {τ' : L2.St} (h : Out g wx τ ρ H r.nox Q) : Out g wx0 τ' ρ H r Q := by
  cases r with
  | ok b m1 => exact h
  | exc c fs m1 => exact h.elim
  | bad => exact h
def wipeW (σ : Loc) : List Nat → Loc
  | [] => σ
  | v :: vs => (wipeW σ vs).set v none
theorem LR.wipe {σ : Loc} (L : LR g ρ H σ τ) : ∀ vs : List Nat, LR g ρ H (wipeW σ vs) (L2.wipe τ vs)
  | [] => L
  | v :: vs => (LR.wipe L vs).forget v
def compLoop (src : Src) (h : W → Loc → Mem → R Loc) (t : DB) (e : DE) (σ : Loc) : Nat → Nat → List W → Mem → R (List W)
  | 0, _, _, _ => .bad
  | n + 1, i, acc, m => match src i m with
    | some (some w) => (h w σ m).nox.bind fun σ1 m1 => (t σ1 m1).nox.bind fun k m2 =>
      if k = true then (e σ1 m2).nox.bind fun y m3 => if acc.length < 1000000 then compLoop src h t e σ n (i + 1) (acc ++ [y]) m3 else .bad
      else compLoop src h t e σ n (i + 1) acc m2
    | some none => .ok acc m
    | none => .bad
def lComp (p : DP) (h : W → Loc → Mem → R Loc) (t : DB) (e : DE) (vs : List Nat) : DL := fun σ m => (p σ m).bind fun pl m1 => compLoop pl.src h t e (wipeW σ vs) (pl.n + 1) 0 [] m1
def tYesB : DB := fun _ m => .ok true m
def STs (g : G) (X : Cx) (wx : WX) (ifs : List Expr) (t : DB) : Prop := PTs X ifs (ttOf g wx t)
theorem sts_nil : STs g X wx [] tYesB := ⟨fun pins s τ H Q I ⟨σ, m, ρ, S, L, o⟩ => pts_nil.run pins s τ H Q I (Out.here o S)⟩
theorem sts_one {c : Expr} {t : DB} (h : ST g X wx c t) : STs g X wx [c] t := pts_one h.pt

theorem SqT.swap {K : PySem.W.Frag} {D a : Addr} {vs us xs : List V} (hD : H D = some (.lst vs)) (h : SqT K H a xs) : SqT K (upd H D (.lst us)) a xs := by
  rcases h with (h | ⟨o, h⟩) | h
  · exact .inl (.inl (by rw [upd_ne (ne_of h hD (by intro z; cases z))]; exact h))
  · exact .inl (.inr ⟨o, by rw [upd_ne (ne_of h hD (by intro z; cases z))]; exact h⟩)
  · exact .inr h
theorem SqF.swap {K : PySem.W.Frag} {D a : Addr} {vs us xs : List V} {H : Hp} (hD : H D = some (.lst vs)) (h : SqF K H a xs) : SqF K (upd H D (.lst us)) a xs := by
  rcases h with ⟨o, h⟩ | h
  · refine .inl ⟨o, ?_⟩
    rw [upd_ne (fun e => by subst e; rw [hD] at h; cases h)]; exact h
  · exact .inr h
mutual
theorem VR.swap {D : Addr} {vs us : List V} (hD : H D = some (.lst vs)) : ∀ {w : W} {v : V}, VR g ρ H w v → VR g ρ (upd H D (.lst us)) w v
  | _, _, .non => .non
  | _, _, .bl b => .bl b
  | _, _, .int b => .int b
  | _, _, .str b => .str b
  | _, _, .tup h r => .tup (SqT.swap hD h) (VRs.swap hD r)
  | _, _, .frz h r => .frz (SqF.swap hD h) (VRs.swap hD r)
  | _, _, .ref h => .ref h
  | _, _, .cls c => .cls c
  | _, _, .ty c => .ty c
theorem VRs.swap {D : Addr} {vs us : List V} (hD : H D = some (.lst vs)) : ∀ {ws : List W} {xs : List V}, VRs g ρ H ws xs → VRs g ρ (upd H D (.lst us)) ws xs
  | _, _, .nil => .nil
  | _, _, .cons h r => .cons (VR.swap hD h) (VRs.swap hD r)
end
theorem OR.swap {D : Addr} {vs us : List V} (hD : H D = some (.lst vs)) {o : O} {u : HO} (h : OR g ρ H o u) : OR g ρ (upd H D (.lst us)) o u := by
  cases o with
  | lst ws => obtain ⟨vs, e, r⟩ := h; exact ⟨vs, e, r.swap hD⟩
  | dK ws => obtain ⟨vs, e, r⟩ := h; exact ⟨vs, e, Paired.imp r fun _ _ q => ⟨q.1, q.2.swap hD⟩⟩
  | dT ws => obtain ⟨vs, e, r⟩ := h; exact ⟨vs, e, Paired.imp r fun _ _ q => ⟨q.1, q.2.swap hD⟩⟩
  | ins c fs => obtain ⟨dx, gs, e, r⟩ := h; exact ⟨dx, gs, e, Paired.imp r fun _ _ q => ⟨q.1, q.2.swap hD⟩⟩
  | exc c fs =>
    obtain ⟨oe, vs, d, gs, e, h1, h2, h3, h4, h5⟩ := h
    refine ⟨oe, vs, d, gs, e, h1, h2, h3, ?_, Paired.imp h5 fun _ _ q => ⟨q.1, q.2.swap hD⟩⟩
    cases d with
    | none => exact h4
    | some a =>
      show upd H D (.lst us) a = some (.xd gs)
      rw [upd_ne (fun z => by subst z; have h4' : H a = some (.xd gs) := h4; rw [hD] at h4'; cases h4')]
      exact h4
  | exh c fs msg =>
    obtain ⟨oe, vs', d, gs, tt, e, h1, h2, h3, h4, h5, h6, h7⟩ := h
    refine ⟨oe, vs', d, gs, tt, e, h1, h2, h3, ?_, Paired.imp h5 fun _ _ q => ⟨q.1, q.2.swap hD⟩, h6, ?_⟩
    · cases d with
      | none => exact h4
      | some a =>
        show upd H D (.lst us) a = some (.xd gs)
        rw [upd_ne (fun z => by subst z; have h4' : H a = some (.xd gs) := h4; rw [hD] at h4'; cases h4')]
        exact h4
    · rw [upd_ne (fun z => by subst z; rw [hD] at h7; cases h7)]
      exact h7
theorem Sim.swap (S : Sim g ρ m H) {D : Addr} {vs us : List V} (hD : H D = some (.lst vs)) (hn : D ∉ ρ) : Sim g ρ m (upd H D (.lst us)) := by
  refine ⟨S.len, S.nd, fun i a o h1 h2 => ?_⟩
  obtain ⟨u, h3, h4⟩ := S.obj i a o h1 h2
  refine ⟨u, ?_, h4.swap hD⟩
  rw [upd_ne]
  · exact h3
  · rintro rfl
    exact hn (List.mem_of_getElem? h1)
theorem Post.out (P : Post ρ H ρ' H') {D : Addr} {u : HO} (hD : H D = none) : Post ρ H ρ' (upd H' D u) := ⟨P.ext, fun a o h n => by rw [upd_ne (ne_of_none h hD)]; exact P.keep a o h n⟩
theorem VRs.snoc {w : W} {v : V} {ws : List W} {vs : List V} (r : VRs g ρ H ws vs) (q : VR g ρ H w v) : VRs g ρ H (ws ++ [w]) (vs ++ [v]) := r.append (.cons q .nil)

theorem comp_turns {J : It} {src : Src} {h : W → Loc → Mem → R Loc} {js : List Nat} {t : DB} {fe : DE} {σ : Loc} {Q : VK} {ρ1 : List Addr} {H0 H1 : Hp} {m1 : Mem} {ρ0 : List Addr} {m0 : Mem}
    (S0 : Sim g ρ0 m0 H0) (P0 : Post ρ0 H0 ρ1 H1) (S1 : Sim g ρ1 m1 H1) (L1 : LR g ρ1 H1 σ τ) (wk : Wk g J src ρ1 H1) (n0 : Nat)
    (o : Out g wx τ ρ1 H1 (compLoop src h t fe (wipeW σ js) n0 0 [] m1) (fun ws m' ρ' H' => ∀ p vs, H0 p = none → H' p = some (.lst vs) → p ∉ ρ' → VRs g ρ' H' ws vs → Q (.ref p) H')) :
    ∀ D, H1 D = none → ∃ Wv : Nat → Nat → Hp → Prop, (∃ n, Wv 0 n (upd H1 D (.lst []))) ∧ ∀ i n H, Wv i n H →
      (J.stop i H ∧ Q (.ref D) H) ∨ (J.go i H ∧ ∃ Nx : Hp → Prop, (∀ H', Nx H' → ∃ m', m' < n ∧ Wv (i + 1) m' H') ∧ ∀ x H', J.yld i H x H' → tgOf g wx0 h js x (L2.wipe τ js) H' fun σ2 H2 => L2.wipe σ2 js = L2.wipe τ js ∧ ttOf g wx0 t σ2 H2 fun b H3 =>
        if b = true then teOf g wx0 fe σ2 H3 fun y H4 => ∃ acc, H4 D = some (.lst acc) ∧ acc.length < sizeLine ∧ Nx (upd H4 D (.lst (acc ++ [y]))) else Nx H3) := by
  intro D hD
  refine ⟨fun i n H => ∃ (acc : List W) (m : Mem) (ρ : List Addr) (vs : List V), Post ρ1 H1 ρ H ∧ Sim g ρ m H ∧ H D = some (.lst vs) ∧ D ∉ ρ ∧ VRs g ρ H acc vs ∧
    Out g wx τ ρ1 H1 (compLoop src h t fe (wipeW σ js) n i acc m) (fun ws m' ρ' H' => ∀ p vs, H0 p = none → H' p = some (.lst vs) → p ∉ ρ' → VRs g ρ' H' ws vs → Q (.ref p) H'), ⟨n0, [], m1, ρ1, [], ?_⟩, ?_⟩
  · exact ⟨Post.refl.out hD, (S1.junk hD).2, upd_same, fun z => S1.isSm z hD, .nil, o⟩
  · rintro i n H ⟨acc, m, ρ, vs, P, S, hDv, hDn, rv, o⟩
    cases n with
    | zero => exact o.elim
    | succ n =>
      have k := wk ρ H m i P S
      unfold compLoop at o
      cases q : src i m with
      | none => rw [q] at o; exact o.elim
      | some oo =>
        rw [q] at o k
        cases oo with
        | none => exact .inl ⟨k, o ρ H P S D vs (P0.back S0 S1 hD) hDv hDn rv⟩
        | some w =>
          refine .inr ⟨k.1, fun H => ∃ (acc : List W) (m : Mem) (ρ : List Addr) (vs : List V), Post ρ1 H1 ρ H ∧ Sim g ρ m H ∧ H D = some (.lst vs) ∧ D ∉ ρ ∧ VRs g ρ H acc vs ∧
            Out g wx τ ρ1 H1 (compLoop src h t fe (wipeW σ js) n (i + 1) acc m) (fun ws m' ρ' H' => ∀ p vs, H0 p = none → H' p = some (.lst vs) → p ∉ ρ' → VRs g ρ' H' ws vs → Q (.ref p) H'),
            fun H' q' => ⟨n, Nat.lt_succ_self n, q'⟩, fun x H2 hy => ?_⟩
          obtain ⟨P2, S2, r2⟩ := k.2 x H2 hy
          have P12 := P.then P2 S1 S
          have Lb : LR g ρ H2 (wipeW σ js) (L2.wipe τ js) := (L1.wipe js).post S1 P12
          have f2 := fresh_stay S hDv hDn P2
          refine ⟨w, wipeW σ js, m, ρ, S2, Lb, r2, ?_⟩
          have o : Out g wx τ ρ1 H1 ((h w (wipeW σ js) m).nox.bind fun σ1 m1 => (t σ1 m1).nox.bind fun k m2 =>
            if k = true then (fe σ1 m2).nox.bind fun y m3 => if acc.length < 1000000 then compLoop src h t fe (wipeW σ js) n (i + 1) (acc ++ [y]) m3 else .bad
            else compLoop src h t fe (wipeW σ js) n (i + 1) acc m2) _ := o
          cases q1 : h w (wipeW σ js) m with
          | exc c fs m3 => rw [q1] at o; exact o.elim
          | bad => rw [q1] at o; exact o.elim
          | ok σ3 m3 =>
            rw [q1] at o
            simp only [R.nox_ok, R.bind_ok] at o
            intro ρ3 H3 P3 S3 τ3 L3 A3
            have P13 := P12.then P3 S1 S2
            have f3 := fresh_stay S2 f2.1 f2.2 P3
            refine ⟨A3.wipe.trans ?_, σ3, m3, ρ3, S3, L3, ?_⟩
            · exact (Agree.wipe (js := js) ⟨by rw [wipe_length], fun j hj => by
                have key : ∀ (js : List Nat), j ∉ js → (L2.wipe τ js)[j]? = τ[j]? := by
                  intro js
                  induction js with
                  | nil => intro _; rfl
                  | cons v vs ih =>
                    intro hv
                    simp only [List.mem_cons, not_or] at hv
                    unfold L2.wipe
                    rw [List.getElem?_set_ne (Ne.symm hv.1)]
                    exact ih hv.2
                exact key js hj⟩)
            · cases q2 : t σ3 m3 with
              | exc c fs m4 => rw [q2] at o; exact o.elim
              | bad => rw [q2] at o; exact o.elim
              | ok b m4 =>
                rw [q2] at o
                simp only [R.nox_ok, R.bind_ok] at o
                intro ρ4 H4 P4 S4
                have P14 := P13.then P4 S1 S3
                have f4 := fresh_stay S3 f3.1 f3.2 P4
                have rv4 := ((rv.post S P2).post S2 P3).post S3 P4
                cases b with
                | false => exact ⟨acc, m4, ρ4, vs, P14, S4, f4.1, f4.2, rv4, o⟩
                | true =>
                  refine ⟨σ3, m4, ρ4, S4, L3.post S3 P4, ?_⟩
                  simp only [if_true] at o
                  cases q3 : fe σ3 m4 with
                  | exc c fs m5 => rw [q3] at o; exact o.elim
                  | bad => rw [q3] at o; exact o.elim
                  | ok y m5 =>
                    rw [q3] at o
                    simp only [R.nox_ok, R.bind_ok] at o
                    intro ρ5 H5 P5 S5 v r5
                    have P15 := P14.then P5 S1 S4
                    have f5 := fresh_stay S4 f4.1 f4.2 P5
                    by_cases hl : acc.length < 1000000
                    · rw [if_pos hl] at o
                      have rv5 := rv4.post S4 P5
                      refine ⟨vs, f5.1, by rw [← rv.length, sizeLine_eq]; omega, acc ++ [y], m5, ρ5, vs ++ [v], P15.out hD, S5.swap f5.1 f5.2, upd_same, f5.2, (rv5.snoc r5).swap f5.1, o⟩
                    · rw [if_neg hl] at o; exact o.elim
theorem sl_comp {elt iter : Expr} {ifs : List Expr} {scope : Scope} {own : List (Str × Nat)} {pos : Pos} {p : DP} {h : W → Loc → Mem → R Loc} {t : DB} {fe : DE} (hc : X.calm = true) (hN : X.N.Nodup) (hi : SI g X wx tg iter p) (ok : BlkOk X.N X.env.scope scope own)
    (hg : ∀ (s : Shared) (H : Hp) (C : Addr) (cl : List (Str × Addr)) (fp : List Addr), SG g (X.blk s H scope (compEnvC scope cl C X.env) fp) wx0 tg h (own.map (·.2)))
    (ht : ∀ (s : Shared) (H : Hp) (C : Addr) (cl : List (Str × Addr)) (fp : List Addr), STs g (X.blk s H scope (compEnvC scope cl C X.env) fp) wx0 ifs t)
    (he : ∀ (s : Shared) (H : Hp) (C : Addr) (cl : List (Str × Addr)) (fp : List Addr), SE g (X.blk s H scope (compEnvC scope cl C X.env) fp) wx0 elt fe) (hs : ∀ x, foldedSetIterable iter X.env x = pure x := by intro _; rfl) :
    SL g X wx (.ListComp elt [⟨tg, iter, ifs, 0⟩] scope pos) (lComp p h t fe (own.map (·.2))) := by
  refine ⟨fun pins s σ m ρ H τ Q I S L o => ?_⟩
  refine thn ((pe_lc hc hN hi ok hg ht (fun a b c d e => (he a b c d e).pe) hs).run pins s τ H (fun v H' => ∃ a : Addr, v = .ref a ∧ ∀ s', Inv X pins τ H' s' → Q (.ref a) s') I ?_) fun u s1 ⟨v, H1, I1, r1, a, e1, q⟩ => by
    subst e1
    cases r1
    exact q s1 I1
  refine ⟨σ, m, ρ, S, L, (o.bind S).imp fun pl m1 ρ1 H1 P1 S1 o1 J wk => ?_⟩
  exact comp_turns (Q := fun v H' => ∃ a : Addr, v = .ref a ∧ ∀ s', Inv X pins τ H' s' → Q (.ref a) s') S P1 S1 (L.post S P1) wk _ (o1.imp fun ws m' ρ' H' P' S' k p vs h0 hp hn r => ⟨p, rfl, fun s' I' => k p vs s' I' h0 hp hn r⟩)
/-- name = [.. for ..] -/
theorem ss_setLc {i : Nat} {y : Str} {py : Pos} {elt iter : Expr} {ifs : List Expr} {scope : Scope} {own : List (Str × Nat)} {pos spos : Pos} {p : DP} {h : W → Loc → Mem → R Loc} {t : DB} {fe : DE} (hc : X.calm = true) (hN : X.N.Nodup) (hy : X.N[i]? = some y) (hyl : X.env.scope.names.lookup y = some .local)
    (hsw : swapsWith (.ListComp elt [⟨tg, iter, ifs, 0⟩] scope pos) (some (.Name y py)) spos.line X.env = pure true) (hi : SI g X wx tg iter p) (ok : BlkOk X.N X.env.scope scope own)
    (hg : ∀ (s : Shared) (H : Hp) (C : Addr) (cl : List (Str × Addr)) (fp : List Addr), SG g (X.blk s H scope (compEnvC scope cl C X.env) fp) wx0 tg h (own.map (·.2)))
    (ht : ∀ (s : Shared) (H : Hp) (C : Addr) (cl : List (Str × Addr)) (fp : List Addr), STs g (X.blk s H scope (compEnvC scope cl C X.env) fp) wx0 ifs t)
    (he : ∀ (s : Shared) (H : Hp) (C : Addr) (cl : List (Str × Addr)) (fp : List Addr), SE g (X.blk s H scope (compEnvC scope cl C X.env) fp) wx0 elt fe) (hs : ∀ x, foldedSetIterable iter X.env x = pure x := by intro _; rfl) :
    SS g X wx (.Assign [.Name y py] (.ListComp elt [⟨tg, iter, ifs, 0⟩] scope pos) spos) (sSet i (eNew (lComp p h t fe (own.map (·.2))))) :=
  PS.conv (ps_setLc hc hN hy hyl hsw hi ok hg ht (fun a b c d e => (he a b c d e).pe) hs) fun D τ H ⟨σ, m, ρ, S, L, o⟩ => by
    have o1 := o.of S L
    have o2 : Out g wx τ ρ H (lComp p h t fe (own.map (·.2)) σ m) (fun ws m' ρ' H' => ∀ p vs, H p = none → H' p = some (.lst vs) → p ∉ ρ' → VRs g ρ' H' ws vs → D.nx (τ.set i (some (.ref p))) H') := by
      cases hr : lComp p h t fe (own.map (·.2)) σ m with
      | ok ws m1 =>
        unfold eNew at o1
        rw [hr] at o1
        intro ρ' H' P' S' p vs h0 hp hn r
        obtain ⟨P2, S2⟩ := S'.adopt (o := .lst ws) hp hn ⟨vs, rfl, r⟩ P' h0
        have hl : (ρ' ++ [p])[m1.length]? = some p := by rw [← S'.len]; simp
        exact o1 (ρ' ++ [p]) H' P2 S2 (ρ' ++ [p]) H' _ Post.refl S2 ((L.post S P2).set i (.ref hl))
      | exc c fs m1 => unfold eNew at o1; rw [hr] at o1; exact o1
      | bad => unfold eNew at o1; rw [hr] at o1; exact o1
    refine ⟨σ, m, ρ, S, L, (o2.bind S).imp fun pl m1 ρ1 H1 P1 S1 o3 J wk => ?_⟩
    exact comp_turns (Q := fun v H' => L2.gName i v τ H' D.nx) S P1 S1 (L.post S P1) wk _ (o3.imp fun ws m' ρ' H' P' S' k p vs h0 hp hn r => k p vs h0 hp hn r)
end
end Sh

namespace Sh
open PySem PySem.Spec L2
open PyProof.Rows (envOfC)

/-! ### room, with no repr under way -/
structure Rm (k : Nat) (A : Around) : Prop where
  r : Room k A
  g : A.guards = some []
theorem Rm.mono {j k : Nat} {A : Around} (r : Rm k A) (h : j ≤ k) : Rm j A := ⟨r.r.mono h, r.g⟩
theorem Rm.deeper {k : Nat} {A : Around} (r : Rm (k + 1) A) (env : Env) : Rm k (A.deeper env) := ⟨r.r.deeper env, r.g⟩
theorem Rm.in1 {k : Nat} {A : Around} (r : Rm (k + 1) A) : Rm k A.in1 := ⟨r.r.in1, r.g⟩
theorem Rm.make {k : Nat} {A : Around} (r : Rm (k + 1) A) (C : Addr) (us : List Value) (kw : List (Str × Value)) : Rm k (A.under (.builtin "type.__call__" ⟨.ref C :: us, kw⟩)) := by
  refine ⟨r.r.make C us kw, ?_⟩
  have : (Code.builtin "type.__call__" ⟨.ref C :: us, kw⟩).guards = [] := by
    simp [Code.guards, Code.isGuard, guardIds]
  unfold Around.under
  simp only [this, pushGuards]
  exact r.g
theorem Rm.caller {k : Nat} (h : Room k callerA) : Rm k callerA := ⟨h, rfl⟩

structure FnG (P : Program) (w : World) (K : PySem.W.Frag) (mg : Str → Option Value) (base : Heap) (k : Nat) (f : Addr) (fd : FuncData) (ps : List Str) (sp : Sp) : Prop where
  len : ∀ vs H Q E, sp vs H Q E → vs.length = ps.length
  run : ∀ (A : Around) (outer : List Env) (s : Shared) (H : Hp) (args : Args) (us : List Value) (vs : List V) (Q : VK) (E : XK), Rm k A → Env0 P w K mg base A outer s H → BindsTo s fd args (ps.zip us) → Vals vs us → sp vs H Q E →
    codeAny (model P w) A (.call (.ref f) args) (CR (CX P w) outer P w H s Q E) s
theorem FnG.mono {P : Program} {w : World} {K : PySem.W.Frag} {mg : Str → Option Value} {base : Heap} {j k : Nat} {f : Addr} {fd : FuncData} {ps : List Str} {sp : Sp} (F : FnG P w K mg base j f fd ps sp) (h : j ≤ k) :
    FnG P w K mg base k f fd ps sp := ⟨F.len, fun A outer s H args us vs Q E hr => F.run A outer s H args us vs Q E (hr.mono h)⟩

/-- a def of the text, by its body -/
theorem fnG_of {P : Program} {w : World} {K : PySem.W.Frag} {mg : Str → Option Value} {base : Heap} {k : Nat} {f : Addr} {name qual : Str} {params : Arguments} {body : List Stmt} {scope : Scope} {dV kV doc pm cdv ct oc : Value} {an od : Option Addr}
    {osl : Array (Option Value)} {N ps : List Str} {sp : Sp} (lk : K.lookup f = some ⟨oc, od, .func (PySem.W.fnOf name qual params body scope dV kV doc pm an cdv ct), osl⟩) (hcd : PySem.W.codeIn K cdv qual = true) (S : FnScope N ps scope)
    (len : ∀ vs H Q E, sp vs H Q E → vs.length = ps.length)
    (hbody : ∀ (A : Around) (outer : List Env) (s : Shared) (H : Hp) (vs : List V) (Q : VK) (E : XK), Rm k (A.deeper (envOfC qual scope s.heap.objs.size f cdv)) → sp vs H Q E →
      ∃ t, PSs (cxOf (CX P w) P w K mg base N qual scope f cdv A outer s H E) body t ∧ t { nx := fun _ H' => Q .non H', rt := Q } (L2.start N vs) H) :
    FnG P w K mg base (k + 1) f (PySem.W.fnOf name qual params body scope dV kV doc pm an cdv ct) ps sp := by
  refine ⟨len, fun A outer s H args us vs Q E hr e0 hb r hsp => ?_⟩
  have hl := len _ _ _ _ hsp
  have KX : K.In s.heap := e0.mod.kin.keeps fun b o e => (e0.bs b o e).1
  have lim : s.heap.NoLimit := e0.mod.nolimit.keeps fun b o e => (e0.bs b o e).1
  have hkind : ∀ y ∈ ps.zip us, scope.names.lookup y.1 = some .local ∨ (scope.names.lookup y.1 = some .cell ∧ ((cellsFrom (s.heap.objs.size + 1) scope.names []).lookup y.1).isSome = true) := fun ⟨n, v⟩ hy => by
    rcases S.par n (List.of_mem_zip hy).1 with q | q
    · exact .inl q
    · exact .inr ⟨q, PySem.W.cellsFrom_some _ _ _ (.inl q)⟩
  refine codeAny_call_function hr.r.depth (KX _ _ lk) rfl S.co S.gen rfl (PySem.W.codeRec_of KX hcd) (hb _ _ _ _ ?_)
  refine wpAny_newFunctionEnv_cells S.kind hkind fun env he s1 x => ?_
  subst he
  refine ⟨lim.keeps x.toInCall.keep, codeAny_func ?_⟩
  obtain ⟨t, ht, hq⟩ := hbody A outer s H vs Q E (hr.deeper _) hsp
  have I : Inv (cxOf (CX P w) P w K mg base N qual scope f cdv A outer s H E) [] (L2.start N vs) H s1 := inv_start S hr.r.hd e0 hl r x
  refine wpAny_mono (ht.run [] s1 (L2.start N vs) H _ I hq) (fun fl s' hs => ?_) fun e s' hs => hs
  have fin : ∀ {σ' : L2.St} {H' : Hp} {v : V} {u : Value}, Inv (cxOf (CX P w) P w K mg base N qual scope f cdv A outer s H E) [] σ' H' s' → RelV v u → Q v H' → CE outer P w H s Q u s' :=
    fun {σ' H' v u} J rv q => ⟨v, H', J.os, J.bare, J.base, J.hok, rv, q⟩
  cases fl with
  | ret u =>
    obtain ⟨v, σ', H', J, rv, q⟩ := hs
    exact fin J rv q
  | next =>
    obtain ⟨σ', H', J, q⟩ := hs
    exact fin (v := V.non) (u := Value.none) J rfl q
  | brk =>
    obtain ⟨_, _, _, q⟩ := hs
    exact False.elim q
  | cont =>
    obtain ⟨_, _, _, q⟩ := hs
    exact False.elim q

/-! ### an __init__ whose first statement is super().__init__(..) -/
/-- the context of its body: one cell, __class__'s, older than the call -/
def cxS (P : Program) (w : World) (K : PySem.W.Frag) (mg : Str → Option Value) (base : Heap) (N : List Str) (qual : Str) (scope : Scope) (f : Addr) (cda cc : Addr) (A : Around) (outer : List Env) (s : Shared) (H : Hp) (E : XK) : Cx where
  prog := P
  w := w
  K := K
  mg := mg
  base := base
  A := A.deeper (PySem.W.ksEnv qual scope s.heap.objs.size f (.ref cda) cc)
  N := N
  s_0 := s
  H_0 := H
  env := PySem.W.ksEnv qual scope s.heap.objs.size f (.ref cda) cc
  outer := outer
  stack := PySem.W.ksEnv qual scope s.heap.objs.size f (.ref cda) cc :: outer
  ex := []
  calm := true
  fn := fun _ => false
  pn := []
  xe := fun e s' => wpAny (model P w) (A.deeper (PySem.W.ksEnv qual scope s.heap.objs.size f (.ref cda) cc)) (leaving (PySem.W.ksEnv qual scope s.heap.objs.size f (.ref cda) cc) e) (fun _ s'' => CX P w outer H s E e s'') (fun e' s'' => CX P w outer H s E e' s'') s'
structure ScopeS (N P : List Str) (sc : Scope) : Prop where
  kind : sc.kind = .function
  co : sc.isCoroutine = false
  gen : sc.isGenerator = false
  nd : N.Nodup
  pre : N.take P.length = P
  par : ∀ x ∈ P, sc.names.lookup x = some .local
  nocell : ∀ y ∈ sc.names, y.2 ≠ .cell
  free1 : ∀ y ∈ sc.names, y.2 = .free → y.1 = ("__class__" : Str)
theorem lookup_rev {P : List Str} {us : List Value} {x : Str} {v : Value} (nd : P.Nodup) (hl : P.length = us.length) {i : Nat} (h1 : P[i]? = some x) (h2 : us[i]? = some v) : (P.zip us).reverse.lookup x = some v := by
  have key : ∀ (l : List (Str × Value)), (l.map (·.1)).Nodup → (x, v) ∈ l → l.lookup x = some v := by
    intro l
    induction l with
    | nil => intro _ h; cases h
    | cons p l ih =>
      obtain ⟨a, b⟩ := p
      intro hn hm
      rw [List.map_cons, List.nodup_cons] at hn
      rcases List.mem_cons.mp hm with e | hm'
      · cases e; simp [List.lookup]
      · have ne : x ≠ a := by
          intro e
          rw [← e] at hn
          exact hn.1 (List.mem_map.mpr ⟨(x, v), hm', rfl⟩)
        have : (x == a) = false := beq_eq_false_iff_ne.mpr ne
        simp only [List.lookup, this]
        exact ih hn.2 hm'
  refine key _ ?_ ?_
  · have e : (P.zip us).map (·.1) = P := by rw [List.map_fst_zip]; omega
    rw [List.map_reverse, e]
    exact (List.reverse_perm P).nodup_iff.mpr nd
  · rw [List.mem_reverse]
    refine List.mem_of_getElem? (i := i) ?_
    exact List.getElem?_zip_eq_some.mpr ⟨h1, h2⟩
theorem inv_startS {P : Program} {w : World} {K : PySem.W.Frag} {mg : Str → Option Value} {base : Heap} {N ps : List Str} {qual : Str} {scope : Scope} {f cda cc : Addr} {A : Around} {outer : List Env} {s : Shared} {h0 : Heap} {tk : Nat} {H : Hp} {E : XK} {us : List Value} {vs : List V} {occ : Obj} {D : Value}
    (S : ScopeS N ps scope) (hd : A.handled = none) (e0 : Env0 P w K mg base A outer s H) (hl : vs.length = ps.length) (r : Vals vs us) (hcc : K.lookup cc = some occ) (hoc : occ.data = .cell (some D))
    (hns : h0.Ns s.heap.objs.size (fun x => (ps.zip us).reverse.lookup x)) (hk : ∀ b o, s.heap.get? b = some o → h0.get? b = some o) :
    Inv (cxS P w K mg base N qual scope f cda cc A outer s H E) [] (L2.start N vs) H { s with heap := h0, toks := tk } := by
  have hpl : ps.length ≤ N.length := by have := congrArg List.length S.pre; rw [List.length_take] at this; omega
  have noA : ∀ b : Addr, b ∉ (cxS P w K mg base N qual scope f cda cc A outer s H E).ex := fun b z => absurd (show b ∈ ([] : List Addr) from z) (by simp)
  have KXb := e0.mod.kin cc occ hcc
  have hcs := e0.bs cc occ KXb
  have cellOf : ∀ {x : Str} {c : Addr}, List.lookup x [(("__class__" : Str), cc)] = some c → x = "__class__" ∧ c = cc := fun {x c} h => by
    simp only [List.lookup] at h
    split at h
    · rename_i hb; cases h; exact ⟨beq_iff_eq.mp hb, rfl⟩
    · cases h
  refine ⟨⟨e0.mod, S.kind, rfl, rfl, Nat.le_refl _, fun y z c h1 h2 => ?_, fun y hy => ?_, fun y c hf _ => ?_, fun _ => hd, Around.frames_deeper e0.frames, .inr ⟨rfl, rfl⟩, fun b z => absurd z (noA b), e0.bs, e0.bsz, fun b _ _ => noA b, fun b z => absurd z (noA b), e0.funs, e0.frf⟩,
    rfl, e0.bare, Un.kept hk, ⟨_, hns, fun i y v h1 h2 h3 => ?_⟩, fun y c h => ?_, e0.hok.fresh (Nat.le_refl _), fun y c h => ?_, fun p hp => absurd (show p ∈ ([] : List (Addr × Obj)) from hp) (by simp), e0.hok.kept hk, ?_⟩
  · exact (cellOf h1).1.trans (cellOf h2).1.symm
  · have hy : scope.names.lookup y = some .cell ∨ scope.names.lookup y = some .free := hy
    rcases hy with hy | hy
    · exact absurd rfl (S.nocell _ (PySem.mem_of_lookup hy))
    · have := S.free1 _ (PySem.mem_of_lookup hy) rfl
      have this : y = "__class__" := this
      subst this
      exact ⟨cc, by show List.lookup _ [(("__class__" : Str), cc)] = _; simp [List.lookup]⟩
  · exact absurd (show false = true from hf) Bool.false_ne_true
  · have hi : i < vs.length := by
      unfold L2.start at h2
      by_cases hi : i < vs.length
      · exact hi
      · rw [List.getElem?_append_right (by simpa using hi)] at h2
        rw [List.getElem?_replicate] at h2
        split at h2 <;> cases h2
    have ha : vs[i]? = some v := by
      unfold L2.start at h2
      rw [List.getElem?_append_left (by simpa using hi), List.getElem?_map] at h2
      cases e : vs[i]? with
      | none => rw [e] at h2; cases h2
      | some a => rw [e] at h2; cases h2; rfl
    obtain ⟨u, hu, rv⟩ := r.get ha
    have hp : ps[i]? = some y := by
      rw [← S.pre, List.getElem?_take_of_lt (by omega)]; exact h1
    have ndP : ps.Nodup := by rw [← S.pre]; exact S.nd.sublist (List.take_sublist _ _)
    exact ⟨u, rv, .inl ⟨S.par y (List.mem_of_getElem? hp), lookup_rev ndP (by rw [← hl]; exact r.length) hp hu⟩⟩
  · obtain ⟨_, rfl⟩ := cellOf (show List.lookup y [(("__class__" : Str), cc)] = some c from h)
    exact ⟨some D, ⟨occ, hk _ _ hcs.1, hoc⟩⟩
  · obtain ⟨_, rfl⟩ := cellOf (show List.lookup y [(("__class__" : Str), cc)] = some c from h)
    exact hcs.2
  · unfold L2.start
    show _ = N.length
    rw [List.length_append, List.length_map, List.length_replicate]
    omega
end Sh

namespace Sh
open PySem PySem.Spec L2
open PyProof.Rows (envOfC)

/-! ### defs and calls -/
abbrev DF := List W → Mem → R W
def defn (n N : Nat) (b : DS) : DF := fun ws m => if ws.length = n then (match b (ws.map some ++ List.replicate (N - n) none) m with
  | .rt w m' => .ok w m'
  | .nx _ m' => .ok .non m'
  | .exc c fs _ m' => .exc c fs m'
  | _ => .bad) else .bad
/-- the wish of a call -/
def OutC (g : G) (ρ : List Addr) (H : Hp) (r : R W) (Q : VK) (E : XK) : Prop := match r with
  | .ok w m' => ∀ ρ' H' v, Post ρ H ρ' H' → Sim g ρ' m' H' → VR g ρ' H' w v → Q v H'
  | .exc c fs m' => ∀ ρ' H' d gs, Post ρ H ρ' H' → Sim g ρ' m' H' → XD H' d gs → FR g ρ' H' fs gs → E (.ref (g.cl c)) d H'
  | .bad => False
/-- a def's promise -/
def spOf (g : G) (F : DF) (n : Nat) : Sp := fun vs H Q E => vs.length = n ∧ ∃ (ws : List W) (m : Mem) (ρ : List Addr), Sim g ρ m H ∧ VRs g ρ H ws vs ∧ OutC g ρ H (F ws m) Q E
/-- a def of the module: where it stands, what it promises -/
structure Def (P : Program) (w : World) (K : PySem.W.Frag) (mg : Str → Option Value) (base : Heap) (g : G) (x : Str) (k : Nat) (ps : List Str) (F : DF) : Prop where
  ex : ∃ (f : Addr) (fd : FuncData), mg x = some (.ref f) ∧ PySem.W.keepIn K (.ref f) = true ∧ Binds K fd ps [] ∧ FnG P w K mg base k f fd ps (spOf g F ps.length)
section
variable {g : G} {X : Cx} {wx : WX} {τ : L2.St} {ρ ρ' : List Addr} {H H' : Hp} {m m' : Mem} {e : Expr} {pins : List (Addr × Obj)} {s : Shared}
theorem LR.start {N : List Str} {n : Nat} {ws : List W} {vs : List V} (r : VRs g ρ H ws vs) (hl : ws.length = n) (hn : n ≤ N.length) : LR g ρ H (ws.map some ++ List.replicate (N.length - n) none) (L2.start N vs) := by
  have hv : vs.length = n := by rw [← r.length]; exact hl
  refine ⟨by simp [L2.start, hl, hv], fun i w h => ?_⟩
  by_cases hi : i < ws.length
  · rw [List.getElem?_append_left (by simpa using hi), List.getElem?_map] at h
    cases q : ws[i]? with
    | none => rw [q] at h; cases h
    | some w' =>
      rw [q] at h; cases h
      obtain ⟨v, hv', rv⟩ := r.get q
      refine ⟨v, ?_, rv⟩
      unfold L2.start
      rw [List.getElem?_append_left (by rw [List.length_map]; exact (List.getElem?_eq_some_iff.mp hv').1), List.getElem?_map, hv']
      rfl
  · rw [List.getElem?_append_right (by simpa using Nat.le_of_not_lt hi), List.getElem?_replicate] at h
    split at h <;> cases h
/-- a def of the text keeps the promise of its denotation -/
theorem fn_ok {P : Program} {w : World} {K : PySem.W.Frag} {mg : Str → Option Value} {base : Heap} {k : Nat} {x qual : Str} {st : Stmt} {f : Addr} {fd : FuncData} {N ps : List Str} {b : DS} (F : Fun K x qual st f fd) (S : FnScope N ps (defScope st))
    (hb : ∀ (cdv : Value) (A : Around) (outer : List Env) (s : Shared) (H : Hp) (E : XK), Rm k (A.deeper (envOfC qual (defScope st) s.heap.objs.size f cdv)) →
      Takes (cxOf (CX P w) P w K mg base N qual (defScope st) f cdv A outer s H E) (fun cls d _ H => E cls d H) →
      PassesOwn (model P w) (A.deeper (envOfC qual (defScope st) s.heap.objs.size f cdv)) (envOfC qual (defScope st) s.heap.objs.size f cdv) (cxOf (CX P w) P w K mg base N qual (defScope st) f cdv A outer s H E).xe →
      SSs g (cxOf (CX P w) P w K mg base N qual (defScope st) f cdv A outer s H E) (fun cls d _ H => E cls d H) (defBody st) b) :
    FnG P w K mg base (k + 1) f fd ps (spOf g (defn ps.length N.length b) ps.length) := by
  obtain ⟨oc, od, kV, doc, pm, an, cdv, ct, osl, rfl, lk, hcd⟩ := F.ex
  refine fnG_of lk hcd S (fun vs H Q E h => h.1) fun A outer s H vs Q E hr h => ?_
  obtain ⟨hl, ws, m, ρ, S0, r, o⟩ := h
  have hpl : ps.length ≤ N.length := by have := congrArg List.length S.pre; rw [List.length_take] at this; omega
  refine ⟨_, hb cdv A outer s H E hr (takes_of rfl rfl rfl rfl) (passes_of rfl), ws.map some ++ List.replicate (N.length - ps.length) none, m, ρ, S0, LR.start r (by rw [r.length]; exact hl) hpl, ?_⟩
  unfold defn at o
  rw [if_pos (by rw [r.length]; exact hl)] at o
  cases hr' : b (ws.map some ++ List.replicate (N.length - ps.length) none) m with
  | nx σ' m' => rw [hr'] at o; exact fun ρ' H' τ' P' S' L' => o ρ' H' .non P' S' .non
  | rt w m' => rw [hr'] at o; exact fun ρ' H' v P' S' r => o ρ' H' v P' S' r
  | bk σ' m' => rw [hr'] at o; exact o.elim
  | ct σ' m' => rw [hr'] at o; exact o.elim
  | exc c fs σ' m' => rw [hr'] at o; exact fun ρ' H' τ' d gs P' S' L' h1 h2 => o ρ' H' d gs P' S' h1 h2
  | bad => rw [hr'] at o; exact o.elim

/-- the callee runs -/
theorem run_def {k : Nat} {f : Addr} {fd : FuncData} {ps : List Str} {F : DF} {ws : List W} {vs : List V} {us : List Value} {Q : Value → Shared → Prop} (tk : Takes X wx) (FO : FnG X.prog X.w X.K X.mg X.base k f fd ps (spOf g F ps.length)) (hr : Rm k X.A)
    (hb : Binds X.K fd ps []) (hl : ws.length = ps.length ∨ F ws m = .bad) (I : Inv X pins τ H s) (S : Sim g ρ m H) (r : VRs g ρ H ws vs) (ru : Vals vs us)
    (o : Out g wx τ ρ H (F ws m) (fun w m' ρ' H' => ∀ v u s', Inv X pins τ H' s' → VR g ρ' H' w v → RelV v u → Q u s')) : wpAny (model X.prog X.w) X.A (call (.ref f) us) Q X.xe s := by
  have hl : ws.length = ps.length := by
    rcases hl with h | h
    · exact h
    · rw [h] at o; exact o.elim
  have hlv : vs.length = ps.length := by rw [← r.length]; exact hl
  have hlu : us.length = ps.length := by rw [← ru.length]; exact hlv
  have hbind := hb s us I.kIn (by rw [List.append_nil]; exact hlu)
  rw [List.append_nil] at hbind
  refine wpAny_call (codeAny_mono (FO.run X.A X.stack s H ⟨us, []⟩ us vs (fun v H' => ∀ u s', Inv X pins τ H' s' → RelV v u → Q u s') (fun c d H' => wx c d τ H') hr I.env0 hbind ru ⟨hlv, ws, m, ρ, S, r, ?_⟩) fun r' s' hq => ?_)
  · cases hF : F ws m with
    | ok w m1 => rw [hF] at o; exact fun ρ' H' v P' S' rv u s' I' ru => o ρ' H' P' S' v u s' I' rv ru
    | exc c fs m1 => rw [hF] at o; exact fun ρ' H' d gs P' S' h1 h2 => o ρ' H' d gs P' S' h1 h2
    | bad => rw [hF] at o; exact o
  · cases r' with
    | error e => exact tk e s' (XE.of_call I (fun cls d H' h => h) hq)
    | ok fl =>
      cases fl with
      | ret u =>
        obtain ⟨v, H', I', rv, q⟩ := I.after hq
        exact q u s' I' rv
      | next => exact False.elim hq
      | brk => exact False.elim hq
      | cont => exact False.elim hq
/-- a denotation that takes n arguments -/
def Arity (n : Nat) (F : DF) : Prop := ∀ ws m, ws.length ≠ n → F ws m = .bad
theorem arity_defn {n N : Nat} {b : DS} : Arity n (defn n N b) := fun ws m h => by unfold defn; rw [if_neg h]
theorem Arity.or {n : Nat} {F : DF} (a : Arity n F) (ws : List W) (m : Mem) : ws.length = n ∨ F ws m = .bad := by
  by_cases h : ws.length = n
  · exact .inl h
  · exact .inr (a ws m h)
def eCall (F : DF) (a : DL) : DE := fun σ m => (a σ m).bind F
theorem se_call {x : Str} {k : Nat} {ps : List Str} {F : DF} {es : List Expr} {f : DL} {p pos : Pos} (tk : Takes X wx) (D : Def X.prog X.w X.K X.mg X.base g x k ps F) (ar : Arity ps.length F) (hr : Rm k X.A) (hg : Gl X x) (ha : SA g X wx (e :: es) f)
    (hdb : (x == ("__debug__" : Str)) = false := by decide) (he : starEach (e :: es) X.env = (false, eval e X.env) :: starEach es X.env := by exact star1 rfl) (hpl : (backTo pos (starEach es X.env)).any (·.1) = false := by exact plain_ns rfl) :
    SE g X wx (.Call (.Name x p) (e :: es) [] pos) (eCall F f) := by
  obtain ⟨fa, fd, hm, hk, hb, FO⟩ := D.ex
  refine ⟨fun pins s σ m ρ H τ Q I S L o => ?_⟩
  refine wpAny_Call_Name_kw (ld_glob I hg hm ?_ hdb)
  refine PySem.W.callWith_K (h₀ := X.base) I.ok.mod.kin hk (ha.run pos pins s σ m ρ H τ _ I S L ((o.bind S).imp fun ws m1 ρ1 H1 P1 S1 o1 vs us s1 I1 rv ru => ⟨I1.kIn, ?_⟩)) he hpl
  exact run_def tk FO hr hb (ar.or ws m1) I1 S1 rv ru o1
theorem se_call0 {x : Str} {k : Nat} {ps : List Str} {F : DF} {p pos : Pos} (tk : Takes X wx) (D : Def X.prog X.w X.K X.mg X.base g x k ps F) (ar : Arity ps.length F) (hr : Rm k X.A) (hg : Gl X x) (hdb : (x == ("__debug__" : Str)) = false := by decide) :
    SE g X wx (.Call (.Name x p) [] [] pos) (eCall F aNil) := by
  obtain ⟨fa, fd, hm, hk, hb, FO⟩ := D.ex
  refine ⟨fun pins s σ m ρ H τ Q I S L o => ?_⟩
  refine wpAny_Call_Name_kw (ld_glob I hg hm ?_ hdb)
  exact PySem.W.callWith_K0 I.kIn hk (run_def (us := []) tk FO hr hb (ar.or [] m) I S .nil .nil o)
theorem takes0 : Takes X wx0 := fun u s' ⟨_, _, _, _, _, _, _, _, _, _, _, _, _, _, _, _, h⟩ => h.elim

/-! ### built-ins by name -/
def eFn (fn : List W → Mem → R W) (a : DL) : DE := fun σ m => (a σ m).bind fn
theorem se_blt {x : Str} {id : String} {fn : List W → Mem → R W} {es : List Expr} {f : DL} {p pos : Pos} (hf : Fn g X wx (fun us => call (.builtin id) us) fn) (hg : Gl X x) (hm : X.mg x = none) (hv : bootBuiltins x = some (.builtin id)) (ha : SA g X wx (e :: es) f) (hn : x ≠ "__name__" := by decide) (hdb : (x == ("__debug__" : Str)) = false := by decide)
    (he : starEach (e :: es) X.env = (false, eval e X.env) :: starEach es X.env := by exact star1 rfl) (hpl : (backTo pos (starEach es X.env)).any (·.1) = false := by exact plain_ns rfl) : SE g X wx (.Call (.Name x p) (e :: es) [] pos) (eFn fn f) := by
  refine ⟨fun pins s σ m ρ H τ Q I S L o => ?_⟩
  refine wpAny_Call_Name_kw (ld_blt I hg hm hv ?_ hn hdb)
  exact PyProof.Rows.callWith_builtin1 (ha.run pos pins s σ m ρ H τ _ I S L ((o.bind S).imp fun ws m1 ρ1 H1 P1 S1 o1 vs us s1 I1 rv ru => hf.run pins s1 m1 ρ1 H1 τ ws vs us Q I1 S1 rv ru o1)) he hpl
theorem se_typ {x : Str} {T : String} {fn : List W → Mem → R W} {es : List Expr} {f : DL} {p pos : Pos} (hf : Fn g X wx (fun us => call (.type T) us) fn) (hg : Gl X x) (hm : X.mg x = none) (hv : bootBuiltins x = some (.type T)) (ha : SA g X wx (e :: es) f) (hn : x ≠ "__name__" := by decide) (hdb : (x == ("__debug__" : Str)) = false := by decide)
    (he : starEach (e :: es) X.env = (false, eval e X.env) :: starEach es X.env := by exact star1 rfl) (hpl : (backTo pos (starEach es X.env)).any (·.1) = false := by exact plain_ns rfl) : SE g X wx (.Call (.Name x p) (e :: es) [] pos) (eFn fn f) := by
  refine ⟨fun pins s σ m ρ H τ Q I S L o => ?_⟩
  refine wpAny_Call_Name_kw (ld_blt I hg hm hv ?_ hn hdb)
  exact PyProof.Rows.callWith_type1 (ha.run pos pins s σ m ρ H τ _ I S L ((o.bind S).imp fun ws m1 ρ1 H1 P1 S1 o1 vs us s1 I1 rv ru => hf.run pins s1 m1 ρ1 H1 τ ws vs us Q I1 S1 rv ru o1)) he hpl
/-- a built-in of one fresh list: all([..]), sum([..]), tuple([..]) -/
def eFnL (fn : List W → Mem → R W) (a : DL) : DE := fun σ m => (a σ m).bind fn
/-- by its items: a fresh list stands at p -/
structure FnL (g : G) (X : Cx) (wx : WX) (f : Value → Sem Value) (fn : List W → Mem → R W) : Prop where
  run : ∀ (pins : List (Addr × Obj)) (s : Shared) (m : Mem) (ρ : List Addr) (H : Hp) (τ : L2.St) (p : Addr) (ws : List W) (vs : List V) (Q : Value → Shared → Prop),
  Inv X pins τ H s → Sim g ρ m H → H p = some (.lst vs) → p ∉ ρ → VRs g ρ H ws vs →
  Out g wx τ ρ H (fn ws m) (fun w m' ρ' H' => ∀ v u s', Inv X pins τ H' s' → VR g ρ' H' w v → RelV v u → Q u s') → wpAny (model X.prog X.w) X.A (f (.ref p)) Q X.xe s
theorem FnL.ofR {f : Value} {fn : List W → Mem → R W}
    (h : ∀ (m : Mem) (ρ : List Addr) (H : Hp) (τ : L2.St) (p : Addr) (ws : List W) (vs : List V) (Q : VK), Sim g ρ m H → H p = some (.lst vs) → p ∉ ρ → VRs g ρ H ws vs → Out g wx τ ρ H (fn ws m) (fun w m' ρ' H' => ∀ v, VR g ρ' H' w v → Q v H') → ∃ r, CallR X f r ∧ r [.ref p] H Q) : FnL g X wx (fun u => call f [u]) fn := by
  refine ⟨fun pins s m ρ H τ p ws vs Q I S hp hn rx o => ?_⟩
  obtain ⟨r, hr, hq⟩ := h m ρ H τ p ws vs (fun v H' => ∀ u s', Inv X pins τ H' s' → RelV v u → Q u s') S hp hn rx (o.imp fun w m' ρ' H' _ _ k v r u s' I' ru => k v u s' I' r ru)
  exact thn (hr pins s τ H [.ref p] [.ref p] _ I (.cons rfl .nil) hq) fun u1 s1 ⟨v1, H1, I1, r1, q⟩ => q u1 s1 I1 r1
theorem se_bltL {x : Str} {id : String} {fn : List W → Mem → R W} {f : DL} {p pos : Pos} (hf : FnL g X wx (fun u => call (.builtin id) [u]) fn) (hg : Gl X x) (hm : X.mg x = none) (hv : bootBuiltins x = some (.builtin id)) (ha : SL g X wx e f) (hn : x ≠ "__name__" := by decide) (hdb : (x == ("__debug__" : Str)) = false := by decide)
    (he : starEach [e] X.env = (false, eval e X.env) :: starEach [] X.env := by exact star1 rfl) (hpl : (backTo pos (starEach [] X.env)).any (·.1) = false := by rfl) : SE g X wx (.Call (.Name x p) [e] [] pos) (eFnL fn f) := by
  refine ⟨fun pins s σ m ρ H τ Q I S L o => ?_⟩
  refine wpAny_Call_Name_kw (ld_blt I hg hm hv ?_ hn hdb)
  refine PyProof.Rows.callWith_builtin1 ?_ he hpl
  rw [he]
  show wpAny _ _ (spliced ((false, eval e X.env) :: backTo pos (starEach [] X.env))) _ _ s
  refine Calls.spliced_cons (ha.run pins s σ m ρ H τ _ I S L ((o.bind S).imp fun ws m1 ρ1 H1 P1 S1 o1 p vs s1 I1 h0 hp hn rv => ?_))
  exact Calls.spliced_nil (hf.run pins s1 m1 ρ1 H1 τ p ws vs Q I1 S1 hp hn rv o1)
theorem se_typL {x : Str} {T : String} {fn : List W → Mem → R W} {f : DL} {p pos : Pos} (hf : FnL g X wx (fun u => call (.type T) [u]) fn) (hg : Gl X x) (hm : X.mg x = none) (hv : bootBuiltins x = some (.type T)) (ha : SL g X wx e f) (hn : x ≠ "__name__" := by decide) (hdb : (x == ("__debug__" : Str)) = false := by decide)
    (he : starEach [e] X.env = (false, eval e X.env) :: starEach [] X.env := by exact star1 rfl) (hpl : (backTo pos (starEach [] X.env)).any (·.1) = false := by rfl) : SE g X wx (.Call (.Name x p) [e] [] pos) (eFnL fn f) := by
  refine ⟨fun pins s σ m ρ H τ Q I S L o => ?_⟩
  refine wpAny_Call_Name_kw (ld_blt I hg hm hv ?_ hn hdb)
  refine PyProof.Rows.callWith_type1 ?_ he hpl
  rw [he]
  show wpAny _ _ (spliced ((false, eval e X.env) :: backTo pos (starEach [] X.env))) _ _ s
  refine Calls.spliced_cons (ha.run pins s σ m ρ H τ _ I S L ((o.bind S).imp fun ws m1 ρ1 H1 P1 S1 o1 p vs s1 I1 h0 hp hn rv => ?_))
  exact Calls.spliced_nil (hf.run pins s1 m1 ρ1 H1 τ p ws vs Q I1 S1 hp hn rv o1)

/-! ### instances -/
def insOf (m : Mem) (w : W) : Option (String × List (List Nat × W)) := match w with
  | .ref n => match m[n]? with
    | some (.ins c fs) => some (c, fs)
    | _ => none
  | _ => none
theorem FR.lookup {fs : List (List Nat × W)} {gs : List (Str × V)} (h : FR g ρ H fs gs) (f : List Nat) :
    (∀ w, fs.lookup f = some w → ∃ v, gs.lookup (Sh.S f) = some v ∧ VR g ρ H w v) ∧ (fs.lookup f = none → gs.lookup (Sh.S f) = none) := by
  induction fs generalizing gs with
  | nil => cases h; exact ⟨fun w z => (by cases z), fun _ => rfl⟩
  | cons p fs ih =>
    cases h with
    | @cons _ q _ gs hq hr =>
      obtain ⟨a, w0⟩ := p
      obtain ⟨b, v0⟩ := q
      obtain ⟨e, rv⟩ := hq
      have e' : b = Sh.S a := e
      subst e'
      obtain ⟨i1, i2⟩ := ih hr
      simp only [List.lookup_cons]
      by_cases hc : f = a
      · subst hc
        simp only [beq_self_eq_true]
        exact ⟨fun w z => ⟨v0, rfl, (by cases z; exact rv)⟩, fun z => (by cases z)⟩
      · have h1 : (f == a) = false := beq_eq_false_iff_ne.mpr hc
        have h2 : (Sh.S f == Sh.S a) = false := beq_eq_false_iff_ne.mpr fun z => hc (S_inj z)
        simp only [h1, h2]
        exact ⟨i1, i2⟩
/-- a field is put -/
def putW (f : List Nat) (w : W) : List (List Nat × W) → List (List Nat × W)
  | [] => [(f, w)]
  | (k, x) :: r => if k = f then (k, w) :: r else (k, x) :: putW f w r
theorem FR.put {fs : List (List Nat × W)} {gs : List (Str × V)} (h : FR g ρ H fs gs) (f : List Nat) {w : W} {v : V} (r : VR g ρ H w v) : FR g ρ H (putW f w fs) (putF (Sh.S f) v gs) := by
  induction fs generalizing gs with
  | nil => cases h; exact .cons ⟨rfl, r⟩ .nil
  | cons p fs ih =>
    cases h with
    | @cons _ q _ gs hq hr =>
      obtain ⟨a, w0⟩ := p
      obtain ⟨b, v0⟩ := q
      obtain ⟨e, rv⟩ := hq
      have e' : b = Sh.S a := e
      subst e'
      show FR g ρ H (if a = f then (a, w) :: fs else (a, w0) :: putW f w fs) (if Sh.S a = Sh.S f then (Sh.S a, v) :: gs else (Sh.S a, v0) :: putF (Sh.S f) v gs)
      by_cases hc : a = f
      · subst hc
        rw [if_pos rfl, if_pos rfl]
        exact .cons ⟨rfl, r⟩ hr
      · rw [if_neg hc, if_neg fun z => hc (S_inj z)]
        exact .cons ⟨rfl, rv⟩ (ih hr)
theorem FR.length {fs : List (List Nat × W)} {gs : List (Str × V)} (h : FR g ρ H fs gs) : fs.length = gs.length := Paired.length h

/-- the facts of an own class at the address g.cl c -/
structure ClsOk (K : PySem.W.Frag) (g : G) (c : String) : Prop where
  cl : Cls K (g.cl c)
/-- how an attribute stands in a class -/
inductive AttK (P : Program) (w : World) (K : PySem.W.Frag) (mg : Str → Option Value) (base : Heap) (g : G) (f : List Nat) (c : String) (k : Nat) : Option (DF ⊕ W) → Prop
  | fld (cl : Cls K (g.cl c)) (n : NoAttr K (g.cl c) (Sh.S f)) : AttK P w K mg base g f c k none
  | prop {p ga : Addr} {fd : FuncData} {F : DF} (cl : Cls K (g.cl c)) (hp : PropOf K (g.cl c) (Sh.S f) p ga) (hb : Binds K fd ["self"] []) (FO : FnG P w K mg base k ga fd ["self"] (spOf g F 1)) : AttK P w K mg base g f c k (some (.inl F))
  | con {v : V} {u : Value} {x : W} (cl : Cls K (g.cl c)) (h : Con K (g.cl c) (Sh.S f) v u) (r : ∀ ρ H, VR g ρ H x v) : AttK P w K mg base g f c k (some (.inr x))
/-- e.f; tbl tells the classes that have f, and how -/
def attr (f : List Nat) (tbl : String → Option (Option (DF ⊕ W))) (x : W) (m : Mem) : R W := match insOf m x with
  | some (c, fs) => match tbl c with
    | some none => match fs.lookup f with
      | some w => .ok w m
      | none => .bad
    | some (some (.inl F)) => (F [x] m).nox
    | some (some (.inr w)) => match fs.lookup f with
      | some _ => .bad
      | none => .ok w m
    | none => .bad
  | none => .bad
def eAttr (f : List Nat) (tbl : String → Option (Option (DF ⊕ W))) (o : DE) : DE := fun σ m => (o σ m).bind (attr f tbl)
theorem insOf_some {w : W} {c : String} {fs : List (List Nat × W)} (h : insOf m w = some (c, fs)) : ∃ n, w = .ref n ∧ m[n]? = some (.ins c fs) := by
  unfold insOf at h
  split at h
  · rename_i n
    split at h
    · rename_i c' fs' hm
      cases h
      exact ⟨n, rfl, hm⟩
    · cases h
  · cases h
theorem getpropG {C p ga a dx : Addr} {fs : List (Str × V)} {f : Str} {fd : FuncData} {k : Nat} {sp : Sp} {Q : Value → Shared → Prop} {b : Bool} {E' : Value → Shared → Prop} (I : Inv X pins τ H s) (ea : H a = some (.ins C dx fs)) (c : Cls X.K C) (hp : PropOf X.K C f p ga)
    (F : FnG X.prog X.w X.K X.mg X.base k ga fd ["self"] sp) (hr : Rm (k + 1) X.A) (hb : Binds X.K fd ["self"] []) (h : sp [.ref a] H (fun v H' => ∀ u s', Inv X pins τ H' s' → RelV v u → Q u s') (fun _ _ _ => False)) :
    wpAny (model X.prog X.w) X.A (getAttr (.ref a) f b) Q E' s := by
  obtain ⟨mA, O, _, _, _, _⟩ := ins_get I.hok ea
  obtain ⟨od, J, _⟩ := O.look
  obtain ⟨rest, hrec⟩ := hp.rec_
  have I1 := I.tok (s.toks + 1)
  have hc : (PySem.W.clsIn X.K C).isSome = true := by
    obtain ⟨cd, hc, _⟩ := PySem.W.any_some c.hd
    rw [hc]
    rfl
  refine PySem.W.get_bind I.kIn J (PySem.W.plainGet_of (c.get f)).1 (PySem.W.findObj_data hc hp.at_ hp.get hp.tak) (PySem.W.plainGet_of (c.get f)).2 (wpAny_call (PySem.W.prop_get (s := { s with toks := s.toks + 1 }) I.kIn hrec ?_))
  refine codeAny_mono (F.run X.A.in1 X.stack { s with toks := s.toks + 1 } H ⟨[.ref a], []⟩ [.ref a] [.ref a] _ _ hr.in1 I1.env0.in1 (hb _ [.ref a] I1.kIn rfl) (.cons rfl .nil) h) fun r s' hq => ?_
  cases r with
  | error er =>
    obtain ⟨_, _, _, _, _, _, _, _, _, _, _, _, z⟩ := hq
    exact z.elim
  | ok fl =>
    cases fl with
    | ret u =>
      obtain ⟨v, H', I3, rv, q3⟩ := I1.after hq
      show wpAny _ _ (handedOut u) _ _ _
      rw [PySem.W.handedOut_of (handed_of rv)]
      exact wpAny_pure (q3 u s' I3 rv)
    | next => exact False.elim hq
    | brk => exact False.elim hq
    | cont => exact False.elim hq
theorem attr_ok {f : List Nat} {tbl : String → Option (Option (DF ⊕ W))} {k : Nat} (ht : ∀ c x, tbl c = some x → AttK X.prog X.w X.K X.mg X.base g f c k x) (hr : Rm (k + 1) X.A) {b : Bool} {x : W} {v : V} {u : Value} {Q : Value → Shared → Prop}
    (I : Inv X pins τ H s) (S : Sim g ρ m H) (rv : VR g ρ H x v) (ru : RelV v u) (o : Out g wx τ ρ H (attr f tbl x m) (fun w m' ρ' H' => ∀ v u s', Inv X pins τ H' s' → VR g ρ' H' w v → RelV v u → Q u s')) :
    wpAny (model X.prog X.w) X.A (getAttr u (Sh.S f) b) Q X.xe s := by
  unfold attr at o
  split at o
  · rename_i c fs hins
    obtain ⟨n, rfl, hm⟩ := insOf_some hins
    cases rv with
    | @ref n a ha =>
      obtain rfl : u = Value.ref a := ru
      obtain ⟨u1, h1, dx, gs, e1, rf⟩ := S.obj n a _ ha hm
      subst e1
      obtain ⟨lk1, lk2⟩ := rf.lookup f
      split at o
      · rename_i hc
        have hcc := ht c none hc
        cases hcc with
        | fld cl n =>
          split at o
          · rename_i w hw
            obtain ⟨v', h2, r2⟩ := lk1 w hw
            exact getattr_ok I h1 cl n h2 fun u' s' I' ru' => Out.here o S v' u' s' I' r2 ru'
          · exact o.elim
      · rename_i F hc
        have hcc := ht c _ hc
        cases hcc with
        | prop cl hp hb FO =>
          refine getpropG I h1 cl hp FO hr hb ⟨rfl, [.ref n], m, ρ, S, .cons (.ref ha) .nil, ?_⟩
          · cases hF : F [.ref n] m with
            | ok w m1 => rw [hF] at o; exact fun ρ' H' v P' S' rv u s' I' ru => o ρ' H' P' S' v u s' I' rv ru
            | exc c fs m1 => rw [hF] at o; exact o.elim
            | bad => rw [hF] at o; exact o.elim
      · rename_i w hc
        have hcc := ht c _ hc
        cases hcc with
        | con cl hcon r =>
          split at o
          · exact o.elim
          · rename_i hn
            exact getcon_ok I h1 cl hcon (lk2 hn) fun s' I' => Out.here o S _ _ s' I' (r _ _) hcon.rel
      · exact o.elim
  · exact o.elim
theorem se_attr {o : Expr} {fo : DE} {f : List Nat} {fn : Str} {tbl : String → Option (Option (DF ⊕ W))} {k : Nat} {pos : Pos} (ho : SE g X wx o fo) (ht : ∀ c x, tbl c = some x → AttK X.prog X.w X.K X.mg X.base g f c k x) (hr : Rm (k + 1) X.A) (hf : fn = Sh.S f)
    (hb : attributeBase o fn X.env (eval o X.env) = eval o X.env := by rfl) : SE g X wx (.Attribute o fn pos) (eAttr f tbl fo) := by
  subst hf
  refine ⟨fun pins s σ m ρ H τ Q I S L oo => ?_⟩
  refine attr_of hb (ho.run pins s σ m ρ H τ _ I S L ((oo.bind S).imp fun x m1 ρ1 H1 P1 S1 o1 v u s1 I1 rv ru => ?_))
  exact attr_ok ht hr I1 S1 rv ru o1
/-- o.f = e -/
def sAttr (f : List Nat) (ok : String → Bool) (fo fe : DE) : DS := fun σ m => RS.of σ (fe σ m) fun w m1 => RS.of σ (fo σ m1) fun x m2 => match x with
  | .ref n => match m2[n]? with
    | some (.ins c fs) => if ok c = true ∧ fs.length < 100 then .nx σ (m2.set n (.ins c (putW f w fs))) else .bad
    | _ => .bad
  | _ => .bad
theorem ss_attr {o e : Expr} {fo fe : DE} {f : List Nat} {fn : Str} {okc : String → Bool} {pos pos' : Pos} (ho : SE g X wx o fo) (he : SE g X wx e fe) (ht : ∀ c, okc c = true → Cls X.K (g.cl c) ∧ NoAttr X.K (g.cl c) (Sh.S f)) (hf : fn = Sh.S f)
    (hs : swapsWith e (some (.Attribute o fn pos')) pos.line X.env = pure false := by rfl) : SS g X wx (.Assign [.Attribute o fn pos'] e pos) (sAttr f okc fo fe) := by
  subst hf
  exact PS.conv (ps_fld ho.pe he.pe hs) fun D τ H ⟨σ, m, ρ, S, L, oo⟩ => ⟨σ, m, ρ, S, L, (oo.of S L).imp fun w m1 ρ1 H1 P1 S1 o1 v r => ⟨σ, m1, ρ1, S1, L.post S P1, (o1.of S1 (L.post S P1)).imp fun x m2 ρ2 H2 P2 S2 o2 v2 r2 => by
    cases r2 with
    | @ref n a ha =>
      simp only at o2
      split at o2
      · rename_i c fs hm
        split at o2
        · rename_i hc
          obtain ⟨u1, h1, dx, gs, e1, rf⟩ := S2.obj n a _ ha hm
          subst e1
          obtain ⟨hcl, hna⟩ := ht c hc.1
          refine ⟨a, g.cl c, dx, gs, rfl, h1, hcl, hna, by rw [← rf.length]; omega, ?_⟩
          obtain ⟨P3, S3⟩ := S2.set (u := .ins (g.cl c) dx (putF (Sh.S f) v gs)) (o := .ins c (putW f w fs)) ha ⟨dx, _, rfl, rf.put f (r.post S1 P2)⟩
          exact o2 _ _ _ P3 S3 (((L.post S P1).post S1 P2).post S2 P3)
        · exact o2.elim
      · exact o2.elim
    | _ => exact o2.elim⟩⟩

/-- o.m(e, ..) -/
structure MethK (P : Program) (w : World) (K : PySem.W.Frag) (mg : Str → Option Value) (base : Heap) (g : G) (f : List Nat) (c : String) (k : Nat) (F : DF) : Prop where
  ex : ∃ (ga : Addr) (fd : FuncData) (ps : List Str), Cls K (g.cl c) ∧ Meth K (g.cl c) (Sh.S f) ga ∧ Binds K fd ps [] ∧ Arity ps.length F ∧ FnG P w K mg base k ga fd ps (spOf g F ps.length)
def eMeth (f : List Nat) (tbl : String → Option DF) (o : DE) (a : DL) : DE := fun σ m => (o σ m).bind fun x m1 => match insOf m1 x with
  | some (c, fs) => match tbl c, fs.lookup f with
    | some F, none => (a σ m1).bind fun ws m2 => F (x :: ws) m2
    | _, _ => .bad
  | none => .bad
theorem se_meth {o : Expr} {fo : DE} {f : List Nat} {fn : Str} {tbl : String → Option DF} {k : Nat} {es : List Expr} {fa : DL} {pos apos : Pos} {pl : Sem Bool} (tk : Takes X wx) (ho : SE g X wx o fo) (ht : ∀ c F, tbl c = some F → MethK X.prog X.w X.K X.mg X.base g f c k F) (hr : Rm k X.A) (hf : fn = Sh.S f) (ha : SA g X wx (e :: es) fa)
    (hst : starEach (e :: es) X.env = (false, eval e X.env) :: starEach es X.env := by exact star1 rfl) (hpl : (backTo pos (starEach es X.env)).any (·.1) = false := by exact plain_ns rfl)
    (hev : eval (.Call (.Attribute o fn apos) (e :: es) [] pos) X.env = (do
      let ov ← eval o X.env
      standAt apos.atName
      let (f, first) ← holding [ov] (getMethod ov fn pl)
      callWith pos f first (backTo pos (starEach (e :: es) X.env)) (backToKw pos (keywordEach [] X.env))) := by rfl) : SE g X wx (.Call (.Attribute o fn apos) (e :: es) [] pos) (eMeth f tbl fo fa) := by
  subst hf
  refine ⟨fun pins s σ m ρ H τ Q I S L oo => ?_⟩
  refine PySem.W.methodCall_KW (pl := pl) (ho.run pins s σ m ρ H τ _ I S L ((oo.bind S).imp fun x m1 ρ1 H1 P1 S1 o1 v u s1 I1 rv ru => ?_)) hev
  split at o1
  · rename_i c fs hins
    obtain ⟨n, rfl, hm⟩ := insOf_some hins
    cases rv with
    | @ref n a hra =>
      obtain rfl : u = Value.ref a := ru
      obtain ⟨u1, h1, dx, gs, e1, rf⟩ := S1.obj n a _ hra hm
      subst e1
      split at o1
      · rename_i F hF hn
        obtain ⟨ga, fd, ps, cl, hmt, hb, ar, FO⟩ := (ht c F hF).ex
        refine getmeth_ok I1 h1 cl hmt ((rf.lookup f).2 hn) ?_
        refine PySem.W.callWith_K (first := [.ref a]) (h₀ := X.base) I.ok.mod.kin hmt.kp (ha.run pos pins s1 σ m1 ρ1 H1 τ _ I1 S1 (L.post S P1) ((o1.bind S1).imp fun ws m2 ρ2 H2 P2 S2 o2 vs us s2 I2 rvs rus => ⟨I2.kIn, ?_⟩)) hst hpl
        exact run_def (us := .ref a :: us) tk FO hr hb (ar.or _ m2) I2 S2 (.cons (.ref (P2.get hra)) rvs) (.cons rfl rus) o2
      · exact o1.elim
  · exact o1.elim
theorem se_meth0 {o : Expr} {fo : DE} {f : List Nat} {fn : Str} {tbl : String → Option DF} {k : Nat} {pos apos : Pos} {pl : Sem Bool} (tk : Takes X wx) (ho : SE g X wx o fo) (ht : ∀ c F, tbl c = some F → MethK X.prog X.w X.K X.mg X.base g f c k F) (hr : Rm k X.A) (hf : fn = Sh.S f)
    (hev : eval (.Call (.Attribute o fn apos) [] [] pos) X.env = (do
      let ov ← eval o X.env
      standAt apos.atName
      let (f, first) ← holding [ov] (getMethod ov fn pl)
      callWith pos f first (backTo pos (starEach [] X.env)) (backToKw pos (keywordEach [] X.env))) := by rfl) : SE g X wx (.Call (.Attribute o fn apos) [] [] pos) (eMeth f tbl fo aNil) := by
  subst hf
  refine ⟨fun pins s σ m ρ H τ Q I S L oo => ?_⟩
  refine PySem.W.methodCall_KW (pl := pl) (ho.run pins s σ m ρ H τ _ I S L ((oo.bind S).imp fun x m1 ρ1 H1 P1 S1 o1 v u s1 I1 rv ru => ?_)) hev
  split at o1
  · rename_i c fs hins
    obtain ⟨n, rfl, hm⟩ := insOf_some hins
    cases rv with
    | @ref n a hra =>
      obtain rfl : u = Value.ref a := ru
      obtain ⟨u1, h1, dx, gs, e1, rf⟩ := S1.obj n a _ hra hm
      subst e1
      split at o1
      · rename_i F hF hn
        obtain ⟨ga, fd, ps, cl, hmt, hb, ar, FO⟩ := (ht c F hF).ex
        refine getmeth_ok I1 h1 cl hmt ((rf.lookup f).2 hn) ?_
        exact PySem.W.callWith_K0 (first := [.ref a]) I1.kIn hmt.kp (run_def (us := [.ref a]) tk FO hr hb (ar.or _ m1) I1 S1 (.cons (.ref hra) .nil) (.cons rfl .nil) o1)
      · exact o1.elim
  · exact o1.elim

/-- C(e, ..) -/
structure MakeK (P : Program) (w : World) (K : PySem.W.Frag) (mg : Str → Option Value) (base : Heap) (g : G) (x : Str) (c : String) (k : Nat) (F : DF) : Prop where
  ex : ∃ (fi : Addr) (fd : FuncData) (ps : List Str), mg x = some (.ref (g.cl c)) ∧ Mk K (g.cl c) fi ∧ Binds K fd ps [] ∧ Arity ps.length F ∧ FnG P w K mg base k fi fd ps (spOf g F ps.length)
def make (c : String) (F : DF) (ws : List W) (m : Mem) : R W := (F (.ref m.length :: ws) (m ++ [.ins c []])).bind fun r m2 => match r with
  | .non => .ok (.ref m.length) m2
  | _ => .bad
def eMake (c : String) (F : DF) (a : DL) : DE := fun σ m => (a σ m).bind (make c F)
theorem make_ok {x : Str} {c : String} {k : Nat} {F : DF} {ws : List W} {vs : List V} {us : List Value} {Q : Value → Shared → Prop} (tk : Takes X wx) (D : MakeK X.prog X.w X.K X.mg X.base g x c k F) (hr : Rm (k + 1) X.A) (I : Inv X pins τ H s) (S : Sim g ρ m H) (r : VRs g ρ H ws vs) (ru : Vals vs us)
    (o : Out g wx τ ρ H (make c F ws m) (fun w m' ρ' H' => ∀ v u s', Inv X pins τ H' s' → VR g ρ' H' w v → RelV v u → Q u s')) : wpAny (model X.prog X.w) X.A (call (.ref (g.cl c)) us) Q X.xe s := by
  obtain ⟨fi, fd, ps, _, mk, hb, ar, FO⟩ := D.ex
  have hx : H (s.heap.objs.size + 1) = none := I.hok.fresh (Nat.le_succ _)
  have hdx : H s.heap.objs.size = none := I.hok.fresh (Nat.le_refl _)
  have hne : s.heap.objs.size ≠ s.heap.objs.size + 1 := Nat.ne_of_lt (Nat.lt_succ_self _)
  have I2 := Inv.made (C := g.cl c) I
  obtain ⟨Pa, Sa⟩ := S.junk (u := .own (s.heap.objs.size + 1)) hdx
  have hx2 : upd H s.heap.objs.size (.own (s.heap.objs.size + 1)) (s.heap.objs.size + 1) = none := by rw [upd_ne (Ne.symm hne)]; exact hx
  obtain ⟨Pb, Sb⟩ := Sa.push (o := .ins c []) (u := .ins (g.cl c) s.heap.objs.size []) hx2 ⟨_, _, rfl, .nil⟩
  have Pab := Pa.then Pb S Sa
  have hn : (ρ ++ [s.heap.objs.size + 1])[m.length]? = some (s.heap.objs.size + 1) := by rw [← S.len]; simp
  unfold make at o
  have o' : Out g wx τ (ρ ++ [s.heap.objs.size + 1]) (upd (upd H s.heap.objs.size (.own (s.heap.objs.size + 1))) (s.heap.objs.size + 1) (.ins (g.cl c) s.heap.objs.size [])) _ _ := o.from Pab S Sb
  have rs : VRs g (ρ ++ [s.heap.objs.size + 1]) (upd (upd H s.heap.objs.size (.own (s.heap.objs.size + 1))) (s.heap.objs.size + 1) (.ins (g.cl c) s.heap.objs.size [])) (.ref m.length :: ws) (.ref (s.heap.objs.size + 1) :: vs) := .cons (.ref hn) (r.post S Pab)
  have hl : (W.ref m.length :: ws).length = ps.length := by
    rcases ar.or (.ref m.length :: ws) (m ++ [.ins c []]) with h | h
    · exact h
    · rw [h] at o'; exact o'.elim
  have hlv : (V.ref (s.heap.objs.size + 1) :: vs).length = ps.length := by rw [← rs.length]; exact hl
  have hlu : ((Value.ref (s.heap.objs.size + 1) :: us) ++ []).length = ps.length := by rw [List.append_nil, ← hlv]; simp [ru.length]
  have hbind := hb { s with heap := (s.heap.push PySem.W.emptyDict).push (PySem.W.instObj (g.cl c) s.heap.objs.size) } (Value.ref (s.heap.objs.size + 1) :: us) I2.kIn hlu
  rw [List.append_nil] at hbind
  refine wpAny_call (make_map (f := fi) I.kIn mk.makes mk.init (beq_iff_eq.mp mk.fn) (codeAny_mono (FO.run _ X.stack _ _ ⟨Value.ref (s.heap.objs.size + 1) :: us, []⟩ (Value.ref (s.heap.objs.size + 1) :: us) (V.ref (s.heap.objs.size + 1) :: vs)
    (fun v H' => v = .non ∧ ∀ u s', Inv X pins τ H' s' → RelV (.ref (s.heap.objs.size + 1)) u → Q u s') (fun c d H' => wx c d τ H') (Rm.make hr (g.cl c) us []) (I2.env0.make (g.cl c) us []) hbind (.cons rfl ru) ⟨hlv, _, _, _, Sb, rs, ?_⟩) fun r' s' hq => ?_))
  · cases hF : F (.ref m.length :: ws) (m ++ [.ins c []]) with
    | ok w m1 =>
      rw [hF] at o'
      cases w with
      | non =>
        intro ρ' H' v P' S' rv
        cases rv
        exact ⟨rfl, fun u s' I' ru => o' ρ' H' P' S' (.ref (s.heap.objs.size + 1)) u s' I' (.ref (P'.get hn)) ru⟩
      | _ => exact o'.elim
    | exc c fs m1 => rw [hF] at o'; exact fun ρ' H' d gs P' S' h1 h2 => o' ρ' H' d gs P' S' h1 h2
    | bad => rw [hF] at o'; exact o'
  · cases r' with
    | error e => exact tk e s' (XE.of_call I2 (fun cls d H' h => h) hq)
    | ok fl =>
      cases fl with
      | ret u =>
        obtain ⟨v, H', I3, rv, ev, q3⟩ := I2.after hq
        subst ev
        exact ⟨rv, q3 _ s' I3 rfl⟩
      | next => exact False.elim hq
      | brk => exact False.elim hq
      | cont => exact False.elim hq
theorem se_make {x : Str} {c : String} {k : Nat} {F : DF} {es : List Expr} {f : DL} {p pos : Pos} (tk : Takes X wx) (D : MakeK X.prog X.w X.K X.mg X.base g x c k F) (hr : Rm (k + 1) X.A) (hg : Gl X x) (ha : SA g X wx (e :: es) f)
    (hdb : (x == ("__debug__" : Str)) = false := by decide) (he : starEach (e :: es) X.env = (false, eval e X.env) :: starEach es X.env := by exact star1 rfl) (hpl : (backTo pos (starEach es X.env)).any (·.1) = false := by exact plain_ns rfl) :
    SE g X wx (.Call (.Name x p) (e :: es) [] pos) (eMake c F f) := by
  obtain ⟨fi, fd, ps, hm, mk, hb, ar, FO⟩ := D.ex
  refine ⟨fun pins s σ m ρ H τ Q I S L o => ?_⟩
  refine wpAny_Call_Name_kw (ld_glob I hg hm ?_ hdb)
  refine PySem.W.callWith_K (h₀ := X.base) I.ok.mod.kin mk.kp (ha.run pos pins s σ m ρ H τ _ I S L ((o.bind S).imp fun ws m1 ρ1 H1 P1 S1 o1 vs us s1 I1 rv ru => ⟨I1.kIn, ?_⟩)) he hpl
  exact make_ok tk D hr I1 S1 rv ru o1
end
end Sh

namespace Sh
open PySem PySem.Spec L2
open PyProof.Rows (envOfC)

/-! ### super().__init__(..) as the first statement of an __init__ -/
def sSuper (cs : String) (F : DF) (fa : DL) : DS := fun σ m => match σ[0]? with
  | some (some (W.ref n)) => match m[n]? with
    | some (.ins c fs) => if c = cs then RS.of σ (fa σ m) fun ws m1 => RS.of σ (F (.ref n :: ws) m1) fun _ m2 => .nx σ m2 else .bad
    | _ => .bad
  | _ => .bad
/-- what of the text stands around such a def: D its class, cs the class of the receiver, F the next __init__ -/
structure SupK (P : Program) (w : World) (K : PySem.W.Frag) (mg : Str → Option Value) (base : Heap) (g : G) (cda cc D : Addr) (cs : String) (k : Nat) (F : DF) : Prop where
  code : ∃ (ccl : Value) (cdd : Option Addr) (vs : Array Value) (ccs : Array (Option Value)) (file : Str) (tf : Tok), K.lookup cda = some ⟨ccl, cdd, .fields vs, ccs⟩ ∧ vs[2]? = some (.str file tf) ∧ ((P.main.file : Str) == file) = true
  cell : ∃ (cl : Value) (cld : Option Addr) (csl : Array (Option Value)), K.lookup cc = some ⟨cl, cld, .cell (some (.ref D)), csl⟩
  cls : ∃ cdD, PySem.W.clsIn K D = some cdD
  sup : mg "super" = none
  stat : PySem.W.nsIn K PySem.cStatics "thirdparty.any" = some none
  top : (P.main.scope.names.lookup ("super" : Str)).isSome = false
  ccl : Cls K (g.cl cs)
  sub : PySem.W.mroIn K (g.cl cs) (.ref D) = some true
  nxt : ∃ (f2 : Addr) (fd2 : FuncData) (ps2 : List Str), PySem.W.ks_superIn K (g.cl cs) D "__init__" = some (some (.ref f2)) ∧ PySem.W.typeIn K (.ref f2) = some (.type "function") ∧ PySem.W.fnIn K f2 = true ∧ Binds K fd2 ps2 [] ∧ Arity ps2.length F ∧ FnG P w K mg base k f2 fd2 ps2 (spOf g F ps2.length)

section
variable {g : G} {P : Program} {w : World} {K : PySem.W.Frag} {mg : Str → Option Value} {base : Heap} {k : Nat} {f cda cc D : Addr} {name qual : Str} {params : Arguments} {rest : List Stmt} {scope : Scope} {doc pm ct oc : Value} {an od : Option Addr}
  {osl : Array (Option Value)} {N ps : List Str} {p0 p1 apos cpos epos : Pos} {e : Expr} {es : List Expr} {fa : DL} {b : DS} {cs : String} {F : DF} {ar : Arg} {pl : Sem Bool}
theorem superG (lk : K.lookup f = some ⟨oc, od, .func (PySem.W.ksFn name qual params (.Expr (.Call (.Attribute (.Call (.Name "super" p0) [] [] p1) "__init__" apos) (e :: es) [] cpos) epos :: rest) scope .none .none doc pm an (.ref cda) ct cc), osl⟩)
    (hcd : PySem.W.codeIn K (.ref cda) qual = true) (S : ScopeS N ps scope) (hps : ps[0]? = some ar.arg) (hpar : (params.posonlyargs ++ params.args).head? = some ar)
    (hks : scope.names.lookup ("super" : Str) = some .globalImplicit) (hkc : scope.names.lookup ("__class__" : Str) = some .free)
    (U : SupK P w K mg base g cda cc D cs k F)
    (hev : ∀ env, eval (.Call (.Attribute (.Call (.Name "super" p0) [] [] p1) "__init__" apos) (e :: es) [] cpos) env = (do
      let ov ← attributeBase (.Call (.Name "super" p0) [] [] p1) "__init__" env (eval (.Call (.Name "super" p0) [] [] p1) env)
      standAt apos.atName
      let (f, first) ← holding [ov] (getMethod ov "__init__" pl)
      callWith cpos f first (backTo cpos (starEach (e :: es) env)) []))
    (hsw : ∀ env, swapsWith (.Call (.Attribute (.Call (.Name "super" p0) [] [] p1) "__init__" apos) (e :: es) [] cpos) none epos.line env = pure false)
    (hb : ∀ (A : Around) (outer : List Env) (s : Shared) (H : Hp) (E : XK), Rm k (A.deeper (PySem.W.ksEnv qual scope s.heap.objs.size f (.ref cda) cc)) →
      Takes (cxS P w K mg base N qual scope f cda cc A outer s H E) (fun cls d _ H => E cls d H) →
      PassesOwn (model P w) (A.deeper (PySem.W.ksEnv qual scope s.heap.objs.size f (.ref cda) cc)) (PySem.W.ksEnv qual scope s.heap.objs.size f (.ref cda) cc) (cxS P w K mg base N qual scope f cda cc A outer s H E).xe →
      SA g (cxS P w K mg base N qual scope f cda cc A outer s H E) (fun cls d _ H => E cls d H) (e :: es) fa ∧
      SSs g (cxS P w K mg base N qual scope f cda cc A outer s H E) (fun cls d _ H => E cls d H) rest b)
    (hst : ∀ env, starEach (e :: es) env = (false, eval e env) :: starEach es env) (hpl : ∀ env, (backTo cpos (starEach es env)).any (·.1) = false) :
    FnG P w K mg base (k + 1) f (PySem.W.ksFn name qual params (.Expr (.Call (.Attribute (.Call (.Name "super" p0) [] [] p1) "__init__" apos) (e :: es) [] cpos) epos :: rest) scope .none .none doc pm an (.ref cda) ct cc) ps (spOf g (defn ps.length N.length (sSeq (sSuper cs F fa) b)) ps.length) := by
  refine ⟨fun vs H Q E h => h.1, fun A outer s H args us vs Q E hr e0 hbd r hsp => ?_⟩
  obtain ⟨hl, ws, m, ρ, S0, rv, o⟩ := hsp
  obtain ⟨f2, fd2, ps2, hnx, hty, hfn, hb2, ari, FO⟩ := U.nxt
  obtain ⟨ccl, cdd, cvs, ccs, file, tf, hcode, hvs, hfile⟩ := U.code
  obtain ⟨ocl, ocd, ocs, hcell⟩ := U.cell
  obtain ⟨cdD, hD⟩ := U.cls
  have hlw : ws.length = ps.length := by rw [rv.length]; exact hl
  have hlu : us.length = ps.length := by rw [← r.length]; exact hl
  have KX : K.In s.heap := e0.mod.kin.keeps fun b o e => (e0.bs b o e).1
  have lim : s.heap.NoLimit := e0.mod.nolimit.keeps fun b o e => (e0.bs b o e).1
  have hloc : ∀ y ∈ ps.zip us, scope.names.lookup y.1 = some .local := fun ⟨n, v⟩ hy => S.par n (List.of_mem_zip hy).1
  refine ks_codeAny_call_defAt (fd := PySem.W.ksFn name qual params (.Expr (.Call (.Attribute (.Call (.Name "super" p0) [] [] p1) "__init__" apos) (e :: es) [] cpos) epos :: rest) scope .none .none doc pm an (.ref cda) ct cc) (binds := ps.zip us) hr.r.depth (KX _ _ lk) rfl lim
    (PySem.W.codeRec_of KX hcd) rfl hbd S.nocell hloc (fun h0 hns hk => ?_) S.co S.gen S.kind
  show _root_.PySem.wpAt (model P w) (A.deeper (PySem.W.ksEnv qual scope s.heap.objs.size f (.ref cda) cc)) (.func (.Expr (.Call (.Attribute (.Call (.Name "super" p0) [] [] p1) "__init__" apos) (e :: es) [] cpos) epos :: rest) (PySem.W.ksEnv qual scope s.heap.objs.size f (.ref cda) cc))
    (execs (.Expr (.Call (.Attribute (.Call (.Name "super" p0) [] [] p1) "__init__" apos) (e :: es) [] cpos) epos :: rest) (PySem.W.ksEnv qual scope s.heap.objs.size f (.ref cda) cc)) _ _ _
  have hrd : Rm k (A.deeper (PySem.W.ksEnv qual scope s.heap.objs.size f (.ref cda) cc)) := hr.deeper _
  have I : Inv (cxS P w K mg base N qual scope f cda cc A outer s H E) [] (L2.start N vs) H { s with heap := h0, toks := s.toks + (ps.zip us).length } := inv_startS S hr.r.hd e0 hl r hcell rfl hns hk
  have tk : Takes (cxS P w K mg base N qual scope f cda cc A outer s H E) (fun cls d _ H => E cls d H) := takes_of rfl rfl rfl rfl
  obtain ⟨hSA, hSS⟩ := hb A outer s H E hrd tk (passes_of rfl)
  have KX0 : K.In h0 := I.kIn
  have L : LR g ρ H (ws.map some ++ List.replicate (N.length - ps.length) none) (L2.start N vs) := LR.start rv hlw (by have := congrArg List.length S.pre; rw [List.length_take] at this; omega)
  unfold defn at o
  rw [if_pos hlw] at o
  -- the receiver
  obtain ⟨hp0, _⟩ := List.getElem?_eq_some_iff.mp hps
  have hw0 : 0 < ws.length := by omega
  obtain ⟨w0, hw⟩ : ∃ w0, ws[0]? = some w0 := ⟨_, List.getElem?_eq_getElem hw0⟩
  have hσ0 : (ws.map some ++ List.replicate (N.length - ps.length) none)[0]? = some (some w0) := by
    rw [List.getElem?_append_left (by simpa using hw0), List.getElem?_map, hw]; rfl
  obtain ⟨v0, hv0, rv0⟩ := rv.get hw
  obtain ⟨u0, hu0, ru0⟩ := r.get hv0
  have o : OutC g ρ H (match sSeq (sSuper cs F fa) b (ws.map some ++ List.replicate (N.length - ps.length) none) m with
    | .rt w m' => .ok w m'
    | .nx _ m' => .ok .non m'
    | .exc c fs _ m' => .exc c fs m'
    | _ => .bad) Q E := o
  have hsup : ∃ n x dx gs fs, w0 = .ref n ∧ v0 = .ref x ∧ ρ[n]? = some x ∧ m[n]? = some (.ins cs fs) ∧ H x = some (.ins (g.cl cs) dx gs) := by
    unfold sSeq sSuper at o
    rw [hσ0] at o
    cases w0 with
    | ref n =>
      cases rv0 with
      | @ref n x hx =>
        cases hm : m[n]? with
        | none => simp only [hm] at o; exact o.elim
        | some ob =>
          cases ob with
          | ins c fs =>
            simp only [hm] at o
            by_cases hc : c = cs
            · subst hc
              obtain ⟨u1, h1, dx, gs, e1, _⟩ := S0.obj n x _ hx hm
              subst e1
              exact ⟨n, x, dx, gs, fs, rfl, rfl, hx, hm, h1⟩
            · rw [if_neg hc] at o; exact o.elim
          | _ => simp only [hm] at o; exact o.elim
    | _ => exact o.elim
  obtain ⟨n, x, dx, gs, fs, rfl, rfl, hx, hm, hHx⟩ := hsup
  obtain rfl : u0 = Value.ref x := ru0
  have oS : OutT g (fun cls d _ H => E cls d H) ρ H (sSeq (sSuper cs F fa) b (ws.map some ++ List.replicate (N.length - ps.length) none) m) { nx := fun _ H' => Q .non H', rt := Q } := by
    cases hrs : sSeq (sSuper cs F fa) b (ws.map some ++ List.replicate (N.length - ps.length) none) m with
    | nx σ' m' => rw [hrs] at o; exact fun ρ' H' τ' P' S' L' => o ρ' H' .non P' S' .non
    | rt w m' => rw [hrs] at o; exact fun ρ' H' v P' S' r => o ρ' H' v P' S' r
    | bk σ' m' => rw [hrs] at o; exact o.elim
    | ct σ' m' => rw [hrs] at o; exact o.elim
    | exc c fs σ' m' => rw [hrs] at o; exact fun ρ' H' τ' d gs P' S' L' h1 h2 => o ρ' H' d gs P' S' h1 h2
    | bad => rw [hrs] at o; exact o.elim
  have oS1 := oS.seq S0
  have oS2 : OutT g (fun cls d _ H => E cls d H) ρ H (RS.of (ws.map some ++ List.replicate (N.length - ps.length) none) (fa (ws.map some ++ List.replicate (N.length - ps.length) none) m) fun ws' m1 => RS.of (ws.map some ++ List.replicate (N.length - ps.length) none) (F (.ref n :: ws') m1) fun _ m2 => .nx (ws.map some ++ List.replicate (N.length - ps.length) none) m2) { ({ nx := fun _ H' => Q .non H', rt := Q } : Ends) with nx := tsOf g (fun cls d _ H => E cls d H) b { nx := fun _ H' => Q .non H', rt := Q } } := by
    have e1 : sSuper cs F fa (ws.map some ++ List.replicate (N.length - ps.length) none) m = RS.of (ws.map some ++ List.replicate (N.length - ps.length) none) (fa (ws.map some ++ List.replicate (N.length - ps.length) none) m) fun ws' m1 => RS.of (ws.map some ++ List.replicate (N.length - ps.length) none) (F (.ref n :: ws') m1) fun _ m2 => .nx (ws.map some ++ List.replicate (N.length - ps.length) none) m2 := by
      unfold sSuper
      rw [hσ0]
      simp only [hm, if_true]
    rw [← e1]; exact oS1
  have oA := oS2.of S0 L
  obtain ⟨mA, O, _, _, _, _⟩ := ins_get I.hok hHx
  obtain ⟨od', J, _⟩ := O.look
  obtain ⟨oD, hD1, hD2⟩ : ∃ oD, h0.get? D = some oD ∧ oD.data = .cls cdD := by
    unfold PySem.W.clsIn at hD
    split at hD
    · rename_i c d cd' sl ho
      cases hD
      exact ⟨_, KX0 _ _ ho, rfl⟩
    · cases hD
  refine ks_wpAt_execs_cons (ks_wpAt_Expr_any (ks_wpAt_MethodCall (pl := pl) ?_ (hev _)) (by have := I.quiet; exact this) (hsw _))
  refine ks_wpAt_super_base (env := PySem.W.ksEnv qual scope s.heap.objs.size f (.ref cda) cc) hks hkc (by decide +kernel) rfl (KX0 _ _ lk) rfl hpar rfl (KX0 _ _ hcode) rfl hvs hfile U.top ?_
  obtain ⟨mb, hbn, hbv⟩ := I.mod.blt
  refine PySem.W.ks_loadName_global S.kind hks (Calls.loadGlobal_builtin (env := PySem.W.ksEnv qual scope s.heap.objs.size f (.ref cda) cc) (I.mod.glob.keeps I.bk) U.sup (hbn.keeps I.bk) ((hbv ("super" : Str) (by decide +kernel)).trans (show bootBuiltins ("super" : Str) = some (Value.type "super") by first | rfl | decide +kernel | kernel_rfl)) ⟨rfl, ?_⟩)
  refine wpAny_loadName_free S.kind hkc rfl ⟨_, KX0 _ _ hcell, rfl⟩ ?_
  have hself : (ps.zip us).reverse.lookup ar.arg = some (Value.ref x) := lookup_rev (by rw [← S.pre]; exact S.nd.sublist (List.take_sublist _ _)) hlu.symm hps hu0
  refine wpAny_loadName_local S.kind (S.par _ (List.mem_of_getElem? hps)) hns hself ?_
  refine ks_wpAny_isType_cls hD1 hD2 ⟨rfl, ?_⟩
  refine ks_wpAny_call_super hD1 hD2 J.at_ J.cls (fun c e => ?_) (PySem.W.looks_mroIn KX0 U.sub) (fun h' e1 k1 => ?_)
  · have := J.no
    unfold PySem.W.notCls at this
    rw [e] at this
    exact Bool.noConfusion this
  have I2 : Inv (cxS P w K mg base N qual scope f cda cc A outer s H E) [] (L2.start N vs) H { s with heap := h', toks := s.toks + (ps.zip us).length } := I.kept (t' := s.toks + (ps.zip us).length) k1
  have KX2 : K.In h' := I2.kIn
  obtain ⟨of, hof, hofc⟩ : ∃ of, h'.get? f2 = some of ∧ of.cls = .type "function" := by
    have ht' : (K.lookup f2).map (·.cls) = some (.type "function") := hty
    cases z : K.lookup f2 with
    | none => rw [z] at ht'; cases ht'
    | some of => rw [z] at ht'; exact ⟨of, KX2 _ _ z, Option.some.inj ht'⟩
  obtain ⟨cdc, hcc, hal⟩ : ∃ cdc, PySem.W.clsIn K (g.cl cs) = some cdc ∧ PySem.W.alongIn K "__init__" ((cdc.mro.dropWhile (· != .ref D)).drop 1) = some (some (.ref f2)) := by
    have h2 := hnx
    unfold PySem.W.ks_superIn at h2
    cases z : PySem.W.clsIn K (g.cl cs) with
    | none => rw [z] at h2; cases h2
    | some cd => rw [z] at h2; exact ⟨cd, rfl, h2⟩
  obtain ⟨mA2, O2, _, _, _, _⟩ := ins_get I2.hok hHx
  obtain ⟨od2, J2, _⟩ := O2.look
  refine ks_wpAny_getMethod_super e1 (PySem.W.looks_opaque KX2 U.stat) (l₀ := cdc.mro) (fun A Q E s k q => wpAny_bind ((PySem.W.looks_clsIn KX2 hcc) A _ E s k (wpAny_pure q))) rfl KX2 hal hof hofc (PySem.W.ks_ne KX2 J2 hcc) (by decide +kernel) ?_
  -- the bound method stands at the heap's end
  have hq0 : H h'.objs.size = none := I2.hok.fresh (Nat.le_refl _)
  have I3a : Inv (cxS P w K mg base N qual scope f cda cc A outer s H E) [] (L2.start N vs) H { s with heap := h'.push { cls := .type "method", data := .fields #[.ref f2, .ref x] }, toks := s.toks + (ps.zip us).length + 1 } := I2.kept (t' := s.toks + (ps.zip us).length + 1) fun b u q => Heap.get?_push_of_some _ q
  have hq1 : (h'.push { cls := .type "method", data := .fields #[.ref f2, .ref x] }).get? h'.objs.size = some (PySem.W.methodObj (.ref f2) (.ref x)) := Heap.get?_push_size h' rfl
  have I3 : Inv (cxS P w K mg base N qual scope f cda cc A outer s H E) [(h'.objs.size, PySem.W.methodObj (.ref f2) (.ref x))] (L2.start N vs) H { s with heap := h'.push { cls := .type "method", data := .fields #[.ref f2, .ref x] }, toks := s.toks + (ps.zip us).length + 1 } :=
    I3a.pins_of fun p hp => by
      have hp : p = (h'.objs.size, PySem.W.methodObj (.ref f2) (.ref x)) := by simpa using hp
      subst hp
      have fo := I2.fpOk (H' := H) (b := h'.objs.size) (Nat.le_refl _) hq0
      exact ⟨hq1, hq0, fo.2.1, fo.2.2.1, fun v z => by cases z⟩
  show wpAny _ _ (callWith cpos (.ref h'.objs.size) [] (backTo cpos (starEach (e :: es) (PySem.W.ksEnv qual scope s.heap.objs.size f (.ref cda) cc))) []) _ _ _
  rw [hst]
  refine PySem.W.callWith_of (P := PySem.W.MethP K h'.objs.size f2 (.ref x)) (by show ((false || (backTo cpos (starEach es _)).any (·.1)) || false) = false; rw [hpl]; rfl) (PySem.W.keeps_M hfn) (Calls.evalArgs_plain ?_)
  have key := fun Q' ho => (hst (PySem.W.ksEnv qual scope s.heap.objs.size f (.ref cda) cc)) ▸ (show wpAny (model P w) (A.deeper (PySem.W.ksEnv qual scope s.heap.objs.size f (.ref cda) cc)) (spliced (backTo cpos (starEach (e :: es) (PySem.W.ksEnv qual scope s.heap.objs.size f (.ref cda) cc)))) Q' (cxS P w K mg base N qual scope f cda cc A outer s H E).xe _ from
    hSA.run cpos [(h'.objs.size, PySem.W.methodObj (.ref f2) (.ref x))] _ (ws.map some ++ List.replicate (N.length - ps.length) none) m ρ H (L2.start N vs) Q' I3 S0 L ho)
  refine key _ (oA.imp fun ws' m1 ρ1 H1 P1 S1 o1 vs' us' s4 I4 rv' ru' => ?_)
  have pin := I4.pin (h'.objs.size, PySem.W.methodObj (.ref f2) (.ref x)) (List.mem_append_right _ (List.mem_singleton.mpr rfl))
  refine ⟨⟨pin.1, I4.kIn⟩, ?_⟩
  have L1 := L.post S0 P1
  have oF := o1.of S1 L1
  have hlF : (W.ref n :: ws').length = ps2.length := by
    rcases ari.or (.ref n :: ws') m1 with h | h
    · exact h
    · rw [h] at oF; exact oF.elim
  have rs : VRs g ρ1 H1 (.ref n :: ws') (.ref x :: vs') := .cons (.ref (P1.get hx)) rv'
  have hlV : (V.ref x :: vs').length = ps2.length := by rw [← rs.length]; exact hlF
  have hlU : (Value.ref x :: us').length = ps2.length := by rw [← hlV]; simp [ru'.length]
  have hbd2 := hb2 s4 (.ref x :: us') I4.kIn (by rw [List.append_nil]; exact hlU)
  rw [List.append_nil] at hbd2
  have fin : ∀ {pins : List (Addr × Obj)} {σ' : L2.St} {H' : Hp} {s' : Shared} {v : V} {u : Value}, Inv (cxS P w K mg base N qual scope f cda cc A outer s H E) pins σ' H' s' → RelV v u → Q v H' → CE outer P w H s Q u s' :=
    fun {pins σ' H' s' v u} J rv q => ⟨v, H', J.os, J.bare, J.base, J.hok, rv, q⟩
  refine wpAny_call (PySem.W.method_call pin.1 (codeAny_mono (FO.run (cxS P w K mg base N qual scope f cda cc A outer s H E).A (cxS P w K mg base N qual scope f cda cc A outer s H E).stack s4 H1 ⟨.ref x :: us', []⟩ (.ref x :: us') (.ref x :: vs')
    (fun v H' => tsOf g (fun cls d _ H => E cls d H) b { nx := fun _ H' => Q .non H', rt := Q } (L2.start N vs) H') (fun c d H' => E c d H') hrd I4.env0 hbd2 (.cons rfl ru') ⟨hlV, .ref n :: ws', m1, ρ1, S1, rs, ?_⟩) fun r' s' hq => ?_))
  · cases hF : F (.ref n :: ws') m1 with
    | ok w m2 => rw [hF] at oF; exact fun ρ' H' v P' S' rv => oF ρ' H' P' S' ρ' H' (L2.start N vs) Post.refl S' (L1.post S1 P')
    | exc c fs m2 => rw [hF] at oF; exact fun ρ' H' d gs P' S' h1 h2 => oF ρ' H' d gs P' S' h1 h2
    | bad => rw [hF] at oF; exact oF
  · cases r' with
    | error e => exact tk e s' (XE.of_call I4 (fun cls d H' h => h) hq)
    | ok fl =>
      cases fl with
      | ret u =>
        obtain ⟨v, H', I5, rv5, q⟩ := I4.after hq
        refine wpAt_of_wpAny (wpAny_mono (hSS.run _ s' (L2.start N vs) H' _ I5 q) (fun fl s6 hs => ?_) fun e s6 hs => hs)
        cases fl with
        | ret u =>
          obtain ⟨v, σ', H', J, rv, q⟩ := hs
          exact fin J rv q
        | next =>
          obtain ⟨σ', H', J, q⟩ := hs
          exact fin (v := V.non) (u := Value.none) J rfl q
        | brk =>
          obtain ⟨_, _, _, q⟩ := hs
          exact False.elim q
        | cont =>
          obtain ⟨_, _, _, q⟩ := hs
          exact False.elim q
      | next => exact False.elim hq
      | brk => exact False.elim hq
      | cont => exact False.elim hq
end
end Sh

namespace Sh
open PySem PySem.Spec L2
open PyProof.Rows (envOfC)

/-! ### numbers -/
/-- a bound for factors -/
def big : Nat := 2 ^ 20000
def wAdd (x y : W) (m : Mem) : R W := match x, y with
  | .int i, .int j => .ok (.int (i + j)) m
  | .str a, .str b => if a.length + b.length ≤ 1000000 then .ok (.str (a ++ b)) m else .bad
  | .ref a, .ref b => match m[a]?, m[b]? with
    | some (.lst xs), some (.lst ys) => if xs.length + ys.length ≤ 1000000 then .ok (.ref m.length) (m ++ [.lst (xs ++ ys)]) else .bad
    | _, _ => .bad
  | .tup (a :: as), .tup (b :: bs) => if (a :: as).length + (b :: bs).length ≤ 1000000 then .ok (.tup ((a :: as) ++ (b :: bs))) m else .bad
  | _, _ => .bad
def wSub (x y : W) (m : Mem) : R W := match x, y with
  | .int i, .int j => .ok (.int (i - j)) m
  | _, _ => .bad
def wMul (x y : W) (m : Mem) : R W := match x, y with
  | .int i, .int j => if i.natAbs < big ∧ j.natAbs < big then .ok (.int (i * j)) m else .bad
  | _, _ => .bad
def wMod (x y : W) (m : Mem) : R W := match x, y with
  | .int i, .int j => if 0 < j then .ok (.int (i % j)) m else .bad
  | _, _ => .bad
def wDiv (x y : W) (m : Mem) : R W := match x, y with
  | .int i, .int j => if 0 < j ∧ j < 1073741824 then .ok (.int (i / j)) m else .bad
  | _, _ => .bad
def wPow (x y : W) (m : Mem) : R W := match x, y with
  | .int i, .int j => if 0 ≤ j ∧ j ≤ 1000 ∧ i.natAbs < 1000000 then .ok (.int (i ^ j.toNat)) m else .bad
  | _, _ => .bad
def wNeg (x : W) (m : Mem) : R W := match x with
  | .int i => .ok (.int (-i)) m
  | _ => .bad
def wLt (x y : W) (m : Mem) : R W := match x, y with
  | .int i, .int j => .ok (.bl (decide (i < j))) m
  | _, _ => .bad
def wLe (x y : W) (m : Mem) : R W := match x, y with
  | .int i, .int j => .ok (.bl (decide (i ≤ j))) m
  | _, _ => .bad
def wGt (x y : W) (m : Mem) : R W := match x, y with
  | .int i, .int j => .ok (.bl (decide (j < i))) m
  | _, _ => .bad
def wGe (x y : W) (m : Mem) : R W := match x, y with
  | .int i, .int j => .ok (.bl (decide (j ≤ i))) m
  | _, _ => .bad
def isNon : W → Bool | .non => true | _ => false
def wIsN (x y : W) (m : Mem) : R W := match y with
  | .non => .ok (.bl (isNon x)) m
  | _ => .bad
def wNotN (x y : W) (m : Mem) : R W := match y with
  | .non => .ok (.bl (!isNon x)) m
  | _ => .bad
section
variable {g : G} {X : Cx} {wx : WX} {τ : L2.St} {ρ ρ' : List Addr} {H H' : Hp} {m m' : Mem} {e : Expr} {pins : List (Addr × Obj)} {s : Shared}
theorem big_log {n : Nat} (h : n < big) : n.log2 < 20000 := PySem.Flt.log2_lt_of (by decide) h
theorem Out.ok0 {τ : L2.St} {b : W} {Q : VK} (S : Sim g ρ m H) (o : Out g wx τ ρ H (.ok b m) (fun w m' ρ' H' => ∀ v, VR g ρ' H' w v → Q v H')) {v : V} (r : VR g ρ H b v) : Q v H := Out.here o S v r
theorem f_sub : F2 g X wx (binaryOp .Sub) wSub := F2.ofR fun m ρ H τ x y v z Q S rx ry o => by
  unfold wSub at o
  split at o
  · cases rx; cases ry; exact ⟨_, op_sub, _, _, rfl, rfl, Out.ok0 S o (.int _)⟩
  · exact o.elim
theorem f_mul : F2 g X wx (binaryOp .Mult) wMul := F2.ofR fun m ρ H τ x y v z Q S rx ry o => by
  unfold wMul at o
  split at o
  · split at o
    · rename_i h
      cases rx; cases ry
      refine ⟨_, op_mulW, _, _, rfl, rfl, ?_, Out.ok0 S o (.int _)⟩
      have h1 := big_log h.1
      have h2 := big_log h.2
      show _ + _ < 1000000
      omega
    · exact o.elim
  · exact o.elim
theorem f_mod : F2 g X wx (binaryOp .Mod) wMod := F2.ofR fun m ρ H τ x y v z Q S rx ry o => by
  unfold wMod at o
  split at o
  · split at o
    · rename_i h
      cases rx; cases ry
      exact ⟨_, op_mod, _, _, rfl, rfl, h, Out.ok0 S o (.int _)⟩
    · exact o.elim
  · exact o.elim
theorem f_div : F2 g X wx (binaryOp .FloorDiv) wDiv := F2.ofR fun m ρ H τ x y v z Q S rx ry o => by
  unfold wDiv at o
  split at o
  · split at o
    · rename_i h
      cases rx; cases ry
      exact ⟨_, op_fdiv, _, _, rfl, rfl, h, Out.ok0 S o (.int _)⟩
    · exact o.elim
  · exact o.elim
theorem f_pow : F2 g X wx (binaryOp .Pow) wPow := F2.ofR fun m ρ H τ x y v z Q S rx ry o => by
  unfold wPow at o
  split at o
  · split at o
    · rename_i h
      cases rx; cases ry
      refine ⟨_, op_pow, _, _, rfl, rfl, ⟨h.1, by omega, ?_⟩, Out.ok0 S o (.int _)⟩
      have : (1000000 : Nat) < 2 ^ 64 := by decide
      omega
    · exact o.elim
  · exact o.elim
theorem f_lt : F2 g X wx (compareOp .Lt) wLt := F2.ofR fun m ρ H τ x y v z Q S rx ry o => by
  unfold wLt at o
  split at o
  · cases rx; cases ry; exact ⟨_, op_lt, _, _, rfl, rfl, Out.ok0 S o (.bl _)⟩
  · exact o.elim
theorem f_le : F2 g X wx (compareOp .LtE) wLe := F2.ofR fun m ρ H τ x y v z Q S rx ry o => by
  unfold wLe at o
  split at o
  · cases rx; cases ry; exact ⟨_, op_le, _, _, rfl, rfl, Out.ok0 S o (.bl _)⟩
  · exact o.elim
theorem f_gt : F2 g X wx (compareOp .Gt) wGt := F2.ofR fun m ρ H τ x y v z Q S rx ry o => by
  unfold wGt at o
  split at o
  · cases rx; cases ry; exact ⟨_, op_gt, _, _, rfl, rfl, Out.ok0 S o (.bl _)⟩
  · exact o.elim
theorem f_ge : F2 g X wx (compareOp .GtE) wGe := F2.ofR fun m ρ H τ x y v z Q S rx ry o => by
  unfold wGe at o
  split at o
  · cases rx; cases ry; exact ⟨_, op_ge, _, _, rfl, rfl, Out.ok0 S o (.bl _)⟩
  · exact o.elim
theorem f_isN : F2 g X wx (compareOp .Is) wIsN := F2.ofR fun m ρ H τ x y v z Q S rx ry o => by
  unfold wIsN at o
  split at o
  · cases ry
    have e : decide (v = V.non) = isNon x := by cases rx <;> rfl
    exact ⟨_, op_isN, rfl, by rw [e]; exact Out.ok0 S o (.bl _)⟩
  · exact o.elim
theorem f_notN : F2 g X wx (compareOp .IsNot) wNotN := F2.ofR fun m ρ H τ x y v z Q S rx ry o => by
  unfold wNotN at o
  split at o
  · cases ry
    have e : (!decide (v = V.non)) = !isNon x := by cases rx <;> rfl
    exact ⟨_, op_notN, rfl, by rw [e]; exact Out.ok0 S o (.bl _)⟩
  · exact o.elim
theorem f_neg : F1 g X wx (unaryOp .USub) wNeg := by
  refine ⟨fun pins s m ρ H τ x v u Q I S rx ru o => ?_⟩
  unfold wNeg at o
  split at o
  · cases rx
    exact thn (un_neg pins s τ H _ _ (fun v H' => ∀ u s', Inv X pins τ H' s' → RelV v u → Q u s') I ru ⟨_, rfl, fun u s' I' ru' => Out.here o S _ u s' I' (.int _) ru'⟩) fun u1 s1 ⟨v1, H1, I1, r1, q⟩ => q u1 s1 I1 r1
  · exact o.elim
/-- lists joined: both stand in H -/
theorem obj_lst {n : Nat} {a : Addr} {xs : List W} (S : Sim g ρ m H) (ha : ρ[n]? = some a) (hm : m[n]? = some (.lst xs)) : ∃ vs, H a = some (.lst vs) ∧ VRs g ρ H xs vs := by
  obtain ⟨u, h1, vs, e1, r1⟩ := S.obj n a _ ha hm
  subst e1
  exact ⟨vs, h1, r1⟩
theorem f_add (hK : X.K = g.K) : F2 g X wx (binaryOp .Add) wAdd := F2.ofR fun m ρ H τ x y v z Q S rx ry o => by
  unfold wAdd at o
  split at o
  · cases rx; cases ry; exact ⟨_, op_add, _, _, rfl, rfl, Out.ok0 S o (.int _)⟩
  · split at o
    · rename_i a b h
      cases rx; cases ry
      refine ⟨_, op_add_str, _, _, rfl, rfl, by rw [S_len, S_len, sizeLine_eq]; omega, ?_⟩
      have e : (Sh.S a ++ Sh.S b : Str) = Sh.S (a ++ b) := by
        show Str.mk _ = Str.mk _
        simp
      rw [e]
      exact Out.ok0 S o (.str _)
    · exact o.elim
  · rename_i a b
    cases rx with
    | @ref _ p hp =>
      cases ry with
      | @ref _ q hq =>
        split at o
        · rename_i xs ys hx hy
          split at o
          · rename_i hl
            obtain ⟨vs, h1, r1⟩ := obj_lst S hp hx
            obtain ⟨us, h2, r2⟩ := obj_lst S hq hy
            refine ⟨_, op_cat, p, q, vs, us, rfl, rfl, h1, h2, by rw [← r1.length, ← r2.length, sizeLine_eq]; omega, fun d hd => ?_⟩
            obtain ⟨P2, S2⟩ := S.push (o := .lst (xs ++ ys)) (u := .lst (vs ++ us)) hd ⟨_, rfl, r1.append r2⟩
            exact o _ _ P2 S2 _ (.ref (by rw [← S.len]; simp))
          · exact o.elim
        · exact o.elim
  · rename_i a as b bs
    split at o
    · rename_i hl
      cases rx with
      | @tup _ vs p hp r1 =>
        cases ry with
        | @tup _ us q hq r2 =>
          have hp' : SqT X.K H p vs := by rw [hK]; exact hp
          have hq' : SqT X.K H q us := by rw [hK]; exact hq
          refine ⟨_, op_catT, p, q, vs, us, rfl, rfl, hp', hq', ?_, by rw [← r1.length, ← r2.length, sizeLine_eq]; simp only [List.length_cons] at hl ⊢; omega, fun z => ?_, fun z d hd => ?_⟩
          · intro z; rw [z] at r1; cases r1
          · rw [z] at r2; cases r2
          · obtain ⟨P2, S2⟩ := S.junk (u := .tup (vs ++ us)) hd
            exact o _ _ P2 S2 _ (.tup (SqT.of upd_same) ((r1.append r2).post S P2))
    · exact o.elim
  · exact o.elim

/-! ### equality of data -/
mutual
def dat (m : Mem) : Nat → W → Option PyData
  | _, .non => some .none
  | _, .bl b => some (.bool b)
  | _, .int i => some (.int i)
  | _, .str l => some (.str (Sh.S l))
  | 0, _ => none
  | d + 1, .tup ws => (dats m d ws).map .tuple
  | d + 1, .ref n => match m[n]? with
    | some (.lst ws) => (dats m d ws).map .list
    | _ => none
  | _ + 1, _ => none
def dats (m : Mem) : Nat → List W → Option (List PyData)
  | _, [] => some []
  | d, w :: ws => match dat m d w, dats m d ws with
    | some x, some xs => some (x :: xs)
    | _, _ => none
end
mutual
theorem dat_ok (hK : X.K = g.K) (S : Sim g ρ m H) : ∀ (d : Nat) (w : W) (v : V) (x : PyData), VR g ρ H w v → dat m d w = some x → Dp X.K H v x
  | d, .non, v, x, r, e => by
    cases r
    have e : some PyData.none = some x := by cases d <;> (simp only [dat] at e; exact e)
    cases e; exact .non
  | d, .bl b, v, x, r, e => by
    cases r
    have e : some (PyData.bool b) = some x := by cases d <;> (simp only [dat] at e; exact e)
    cases e; exact .bl b
  | d, .int i, v, x, r, e => by
    cases r
    have e : some (PyData.int i) = some x := by cases d <;> (simp only [dat] at e; exact e)
    cases e; exact .int i
  | d, .str l, v, x, r, e => by
    cases r
    have e : some (PyData.str (Sh.S l)) = some x := by cases d <;> (simp only [dat] at e; exact e)
    cases e; exact .str _
  | 0, .tup ws, v, x, r, e => by simp [dat] at e
  | 0, .ref n, v, x, r, e => by simp [dat] at e
  | d + 1, .tup ws, v, x, r, e => by
    simp only [dat] at e
    cases q : dats m d ws with
    | none => rw [q] at e; cases e
    | some xs =>
      rw [q] at e; cases e
      cases r with
      | tup h rv => exact .tup (by rw [hK]; exact h) (dats_ok hK S d ws _ xs rv q)
  | d + 1, .ref n, v, x, r, e => by
    simp only [dat] at e
    split at e
    · rename_i ws hm
      cases q : dats m d ws with
      | none => rw [q] at e; cases e
      | some xs =>
        rw [q] at e; cases e
        cases r with
        | ref h =>
          obtain ⟨vs, h1, r1⟩ := obj_lst S h hm
          exact .lst (SqL.of h1) (dats_ok hK S d ws vs xs r1 q)
    · cases e
  | d, .frz ws, v, x, r, e => by cases d <;> simp [dat] at e
  | d, .cls c, v, x, r, e => by cases d <;> simp [dat] at e
  | d, .ty c, v, x, r, e => by cases d <;> simp [dat] at e
theorem dats_ok (hK : X.K = g.K) (S : Sim g ρ m H) : ∀ (d : Nat) (ws : List W) (vs : List V) (xs : List PyData), VRs g ρ H ws vs → dats m d ws = some xs → DpAll X.K H vs xs
  | d, [], vs, xs, r, e => by
    cases r
    have e : some ([] : List PyData) = some xs := by cases d <;> (simp only [dats] at e; exact e)
    cases e; exact .nil
  | d, w :: ws, vs, xs, r, e => by
    cases r with
    | cons h rv =>
      have e : (match dat m d w, dats m d ws with | some x, some xs => some (x :: xs) | _, _ => none) = some xs := by cases d <;> (simp only [dats] at e; exact e)
      split at e
      · rename_i x xs' h1 h2
        cases e
        exact .cons (dat_ok hK S d w _ x h h1) (dats_ok hK S d ws _ xs' rv h2)
      · cases e
end
/-- == of data -/
def eqD (x y : W) (m : Mem) : R Bool := match dat m 30 x, dat m 30 y with
  | some a, some b => if SeqAt.shaped a = true ∧ SeqAt.shaped b = true then .ok (PyData.eqv a b) m else .bad
  | _, _ => .bad
def scalW : W → W → Bool
  | .non, .non => true | .non, .int _ => true | .int _, .non => true | .non, .bl _ => true | .bl _, .non => true | .non, .str _ => true | .str _, .non => true
  | .int _, .int _ => true | .bl _, .bl _ => true | .str _, .str _ => true
  | .int _, .str _ => true | .str _, .int _ => true | .bl _, .str _ => true | .str _, .bl _ => true
  | _, _ => false
def eqS : W → W → Bool
  | .non, .non => true
  | .int i, .int j => decide (i = j)
  | .bl i, .bl j => i == j
  | .str a, .str b => decide (a = b)
  | _, _ => false
theorem scal_V {x y : W} {v z : V} (rx : VR g ρ H x v) (ry : VR g ρ H y z) (h : scalW x y = true) : L2.scal v z = true ∧ decide (v = z) = eqS x y := by
  cases x <;> cases y <;> simp [scalW] at h <;> cases rx <;> cases ry <;> refine ⟨rfl, ?_⟩ <;> simp [eqS]
  · rename_i a b
    cases a <;> cases b <;> rfl
/-- == of scalars, of data -/
def eqB0 (x y : W) (m : Mem) : R Bool := if scalW x y = true then .ok (eqS x y) m else eqD x y m
def wEq0 (x y : W) (m : Mem) : R W := (eqB0 x y m).bind fun b m1 => .ok (.bl b) m1
def wNe0 (x y : W) (m : Mem) : R W := (eqB0 x y m).bind fun b m1 => .ok (.bl (!b)) m1
theorem eqD_cases {x y : W} {m : Mem} : (∃ a b, dat m 30 x = some a ∧ dat m 30 y = some b ∧ SeqAt.shaped a = true ∧ SeqAt.shaped b = true ∧ eqD x y m = .ok (PyData.eqv a b) m) ∨ eqD x y m = .bad := by
  unfold eqD
  split
  · rename_i a b h1 h2
    split
    · rename_i h; exact .inl ⟨a, b, h1, h2, h.1, h.2, rfl⟩
    · exact .inr rfl
  · exact .inr rfl
theorem f_eq0 {k : Nat} (hK : X.K = g.K) (hr : Rm k X.A) : F2 g X wx (compareOp .Eq) wEq0 := F2.ofR fun m ρ H τ x y v z Q S rx ry o => by
  unfold wEq0 eqB0 at o
  split at o
  · rename_i hs
    obtain ⟨h1, h2⟩ := scal_V rx ry hs
    exact ⟨_, op_eq, h1, by rw [h2]; exact Out.ok0 S o (.bl _)⟩
  rcases eqD_cases (x := x) (y := y) (m := m) with ⟨a, b, h1, h2, h3, h4, h5⟩ | h
  · rw [h5] at o
    exact ⟨_, op_eqD hr.r.units, a, b, dat_ok hK S 30 x v a rx h1, dat_ok hK S 30 y z b ry h2, h3, h4, Out.ok0 S o (.bl _)⟩
  · rw [h] at o; exact o.elim
theorem f_ne0 {k : Nat} (hK : X.K = g.K) (hr : Rm k X.A) : F2 g X wx (compareOp .NotEq) wNe0 := F2.ofR fun m ρ H τ x y v z Q S rx ry o => by
  unfold wNe0 eqB0 at o
  split at o
  · rename_i hs
    obtain ⟨h1, h2⟩ := scal_V rx ry hs
    exact ⟨_, op_ne, h1, by rw [h2]; exact Out.ok0 S o (.bl _)⟩
  rcases eqD_cases (x := x) (y := y) (m := m) with ⟨a, b, h1, h2, h3, h4, h5⟩ | h
  · rw [h5] at o
    exact ⟨_, op_neD hr.r.units, a, b, dat_ok hK S 30 x v a rx h1, dat_ok hK S 30 y z b ry h2, h3, h4, Out.ok0 S o (.bl _)⟩
  · rw [h] at o; exact o.elim
end
end Sh

namespace Sh
open PySem PySem.Spec L2
open PyProof.Rows (envOfC)

section
variable {g : G} {X : Cx} {wx : WX} {τ : L2.St} {ρ ρ' : List Addr} {H H' : Hp} {m m' : Mem} {e a b c o : Expr} {fa fb fc fo : DE} {pos : Pos} {pins : List (Addr × Obj)} {s : Shared}
/-! ### from the layer's rules over values -/
def R1 (g : G) (wx : WX) (r : V → Hp → VK → Prop) (fn : W → Mem → R W) : Prop := ∀ (m : Mem) (ρ : List Addr) (H : Hp) (τ : L2.St) (x : W) (v : V) (Q : VK), Sim g ρ m H → VR g ρ H x v → Out g wx τ ρ H (fn x m) (fun w m' ρ' H' => ∀ v, VR g ρ' H' w v → Q v H') → r v H Q
def Rr2 (g : G) (wx : WX) (r : V → V → Hp → VK → Prop) (fn : W → W → Mem → R W) : Prop := ∀ (m : Mem) (ρ : List Addr) (H : Hp) (τ : L2.St) (x y : W) (v z : V) (Q : VK), Sim g ρ m H → VR g ρ H x v → VR g ρ H y z → Out g wx τ ρ H (fn x y m) (fun w m' ρ' H' => ∀ v, VR g ρ' H' w v → Q v H') → r v z H Q
theorem SE.un1 {r : V → Hp → VK → Prop} {fn : W → Mem → R W} (h : PE X e (fun τ H Q => teOf g wx fa τ H fun v H1 => r v H1 Q)) (hr : R1 g wx r fn) : SE g X wx e (eUn fn fa) :=
  SE.ofPE h fun σ m ρ H τ Q S L o => ⟨σ, m, ρ, S, L, (o.bind S).imp fun x m1 ρ1 H1 P1 S1 o1 v rv => hr m1 ρ1 H1 τ x v Q S1 rv o1⟩
theorem SE.bin2 {r : V → V → Hp → VK → Prop} {fn : W → W → Mem → R W} (h : PE X e (fun τ H Q => teOf g wx fa τ H fun v H1 => teOf g wx fb τ H1 fun z H2 => r v z H2 Q)) (hr : Rr2 g wx r fn) : SE g X wx e (eBin fn fa fb) :=
  SE.ofPE h fun σ m ρ H τ Q S L o => ⟨σ, m, ρ, S, L, (o.bind S).imp fun x m1 ρ1 H1 P1 S1 o1 v rv => ⟨σ, m1, ρ1, S1, L.post S P1, (o1.bind S1).imp fun y m2 ρ2 H2 P2 S2 o2 z rz => hr m2 ρ2 H2 τ x y v z Q S2 (rv.post S1 P2) rz o2⟩⟩
theorem F2.toR {f : Value → Value → Sem Value} {fn : W → W → Mem → R W} {r : R2} (h : OpR X f r) (hr : Rr2 g wx r fn) : F2 g X wx f fn := F2.ofR fun m ρ H τ x y v z Q S rx ry o => ⟨r, h, hr m ρ H τ x y v z Q S rx ry o⟩

/-! ### subscripts -/
def atW (ws : List W) (i : Int) (m : Mem) : R W := match atI ws i with | some w => .ok w m | none => .bad
def wIx (x y : W) (m : Mem) : R W := match x, y with
  | .tup ws, .int i => atW ws i m
  | .frz ws, .int i => atW ws i m
  | .str l, .int i => if l.length ≤ 1000000 then (match atI l i with | some c => .ok (.str [c]) m | none => .bad) else .bad
  | .ref n, .int i => match m[n]? with
    | some (.lst ws) => atW ws i m
    | _ => .bad
  | _, _ => .bad
theorem VRs.at_ {ws : List W} {vs : List V} {i : Int} {w : W} (r : VRs g ρ H ws vs) (h : atI ws i = some w) : ∃ v, atI vs i = some v ∧ VR g ρ H w v := by
  unfold atI at h ⊢
  rw [← r.length]
  cases q : ixN ws.length i with
  | none => rw [q] at h; cases h
  | some j => rw [q] at h; exact r.get h
theorem atW_out {ws : List W} {vs : List V} {i : Int} {Q : VK} (S : Sim g ρ m H) (r : VRs g ρ H ws vs) (o : Out g wx τ ρ H (atW ws i m) (fun w m' ρ' H' => ∀ v, VR g ρ' H' w v → Q v H')) : ∃ v, atI vs i = some v ∧ Q v H := by
  unfold atW at o
  split at o
  · rename_i w h
    obtain ⟨v, h1, h2⟩ := r.at_ h
    exact ⟨v, h1, Out.ok0 S o h2⟩
  · exact o.elim
theorem ix_ok (hK : X.K = g.K) : Rr2 g wx (rIx X.K) wIx := by
  intro m ρ H τ x y v z Q S rx ry o
  rw [hK]
  unfold wIx at o
  split at o
  · rename_i ws i
    cases ry
    cases rx with
    | tup h r => obtain ⟨v, h1, h2⟩ := atW_out S r o; exact .inr (.inl ⟨_, _, i, v, rfl, rfl, h, h1, h2⟩)
  · rename_i ws i
    cases ry
    cases rx with
    | frz h r => obtain ⟨v, h1, h2⟩ := atW_out S r o; exact .inl ⟨_, _, i, v, rfl, rfl, h.toL, h1, h2⟩
  · rename_i l i
    cases ry; cases rx
    split at o
    · rename_i hl
      split at o
      · rename_i c h
        refine .inr (.inr ⟨_, i, c, rfl, rfl, by rw [S_len]; exact sizeM hl, ?_, ?_⟩)
        · rw [S_cps]; exact h
        · exact Out.ok0 S o (.str [c])
      · exact o.elim
    · exact o.elim
  · rename_i n i
    cases ry
    cases rx with
    | @ref _ p hp =>
      split at o
      · rename_i ws hm
        obtain ⟨vs, h1, r1⟩ := obj_lst S hp hm
        obtain ⟨v, h2, h3⟩ := atW_out S r1 o
        exact .inl ⟨_, _, i, v, rfl, rfl, SqL.of h1, h2, h3⟩
      · exact o.elim
  · exact o.elim
theorem se_ix (hK : X.K = g.K) (ha : SE g X wx a fa) (hb : SE g X wx b fb) (hs : PlainIx b := by intro _ _; rfl) : SE g X wx (.Subscript a b pos) (eBin wIx fa fb) := SE.bin2 (pe_ix ix_seq ha.pe hb.pe hs) (ix_ok hK)
/-- of a fresh list -/
def eIxL (fl : DL) (fb : DE) : DE := fun σ m => (fl σ m).bind fun ws m1 => (fb σ m1).bind fun y m2 => match y with | .int i => atW ws i m2 | _ => .bad
theorem se_ixL {fl : DL} (hK : X.K = g.K) (ha : SL g X wx a fl) (hb : SE g X wx b fb) (hs : PlainIx b := by intro _ _; rfl) : SE g X wx (.Subscript a b pos) (eIxL fl fb) :=
  SE.ofPE (pe_ix ix_list ha.pe hb.pe hs) fun σ m ρ H τ Q S L o => ⟨σ, m, ρ, S, L, (o.bind S).imp fun ws m1 ρ1 H1 P1 S1 o1 p vs h0 hp hn rv => ⟨σ, m1, ρ1, S1, L.post S P1, (o1.bind S1).imp fun y m2 ρ2 H2 P2 S2 o2 z rz => by
    split at o2
    · rename_i i
      cases rz
      obtain ⟨h1, _⟩ := fresh_stay S1 hp hn P2
      obtain ⟨v, h2, h3⟩ := atW_out S2 (rv.post S1 P2) o2
      exact ⟨p, vs, i, v, rfl, rfl, SqL.of h1, h2, h3⟩
    · exact o2.elim⟩⟩

/-! ### slices -/
abbrev DO := Loc → Mem → R (Option Int)
def toOf (g : G) (wx : WX) (f : DO) : TO := fun τ H Q => ∃ (σ : Loc) (m : Mem) (ρ : List Addr), Sim g ρ m H ∧ LR g ρ H σ τ ∧ Out g wx τ ρ H (f σ m) fun b m' ρ' H' => Q b H'
def SO (g : G) (X : Cx) (wx : WX) (e : Option Expr) (f : DO) : Prop := PO X e (toOf g wx f)
def pNo : DO := fun _ m => .ok none m
def pAt (f : DE) : DO := fun σ m => (f σ m).bind fun w m1 => match w with | .int i => .ok (some i) m1 | _ => .bad
theorem so_none : SO g X wx none pNo := ⟨fun pins s τ H Q I ⟨σ, m, ρ, S, L, o⟩ => po_none.run pins s τ H Q I (Out.here o S)⟩
theorem so_some (he : SE g X wx e fa) : SO g X wx (some e) (pAt fa) := ⟨fun pins s τ H Q I ⟨σ, m, ρ, S, L, o⟩ => (po_some he.pe).run pins s τ H Q I ⟨σ, m, ρ, S, L, (o.bind S).imp fun x m1 ρ1 H1 P1 S1 o1 v r => by
  cases r with
  | int i => exact ⟨_, rfl, Out.here o1 S1⟩
  | _ => exact o1.elim⟩⟩
def cutW {α : Type} (xs : List α) (lo hi : Option Int) : List α := (xs.drop (HT.sIx xs.length 0 lo)).take (HT.sIx xs.length xs.length hi - HT.sIx xs.length 0 lo)
theorem VRs.cut {ws : List W} {vs : List V} (r : VRs g ρ H ws vs) (lo hi : Option Int) : VRs g ρ H (cutW ws lo hi) (cutV vs lo hi) := by
  unfold cutW cutV
  rw [← r.length]
  exact (r.drop _).take _
def wSl (x : W) (lo hi : Option Int) (m : Mem) : R W := match x with
  | .tup ws => .ok (.tup (cutW ws lo hi)) m
  | .str l => if l.length ≤ 1000000 then .ok (.str (cutW l lo hi)) m else .bad
  | .ref n => match m[n]? with
    | some (.lst ws) => .ok (.ref m.length) (m ++ [.lst (cutW ws lo hi)])
    | _ => .bad
  | _ => .bad
def eSl (f : DE) (fl fh : DO) : DE := fun σ m => (f σ m).bind fun x m1 => (fl σ m1).bind fun l m2 => (fh σ m2).bind fun h m3 => wSl x l h m3
theorem cutW_all {α : Type} {ws : List α} {lo hi : Option Int} (h : HT.sIx ws.length 0 lo = 0 ∧ HT.sIx ws.length ws.length hi = ws.length) : cutW ws lo hi = ws := by
  unfold cutW
  rw [h.1, h.2]
  simp
theorem se_sl {lo hi : Option Expr} {fl fh : DO} {p2 : Pos} (hK : X.K = g.K) (ha : SE g X wx a fa) (hl : SO g X wx lo fl) (hh : SO g X wx hi fh) : SE g X wx (.Subscript a (.Slice lo hi none p2) pos) (eSl fa fl fh) :=
  SE.ofPE (pe_slice (sl_list.or (sl_tupA.or sl_str)) ha.pe hl hh) fun σ m ρ H τ Q S L o => ⟨σ, m, ρ, S, L, (o.bind S).imp fun x m1 ρ1 H1 P1 S1 o1 v rv => ⟨σ, m1, ρ1, S1, L.post S P1, (o1.bind S1).imp fun l m2 ρ2 H2 P2 S2 o2 => ⟨σ, m2, ρ2, S2, (L.post S P1).post S1 P2, (o2.bind S2).imp fun h m3 ρ3 H3 P3 S3 o3 => by
    have rv3 := (rv.post S1 P2).post S2 P3
    unfold wSl at o3
    split at o3
    · rename_i ws
      cases rv3 with
      | tup hs r =>
        refine .inr (.inl ⟨_, _, rfl, by rw [hK]; exact hs, fun hw => ?_, fun hw p hp => ?_⟩)
        · rw [← r.length] at hw
          rw [cutW_all hw] at o3
          exact Out.ok0 S3 o3 (.tup hs r)
        · obtain ⟨P4, S4⟩ := S3.junk (u := .tup (cutV _ l h)) hp
          exact o3 _ _ P4 S4 _ (.tup (SqT.of upd_same) ((r.cut l h).post S3 P4))
    · rename_i z
      cases rv3
      split at o3
      · rename_i hz
        refine .inr (.inr ⟨_, rfl, by rw [S_len]; exact sizeM hz, ?_⟩)
        have : cutS (Sh.S z) l h = Sh.S (cutW z l h) := by
          unfold cutS cutW
          rw [S_cps, S_len]
        rw [this]
        exact Out.ok0 S3 o3 (.str _)
      · exact o3.elim
    · rename_i n
      cases rv3 with
      | @ref _ p hp =>
        split at o3
        · rename_i ws hm
          obtain ⟨vs, h1, r1⟩ := obj_lst S3 hp hm
          refine .inl ⟨_, _, rfl, SqL.of h1, fun d hd => ?_⟩
          obtain ⟨P4, S4⟩ := S3.push (o := .lst (cutW ws l h)) (u := .lst (cutV vs l h)) hd ⟨_, rfl, r1.cut l h⟩
          exact o3 _ _ P4 S4 _ (.ref (by rw [← S3.len]; simp))
        · exact o3.elim
    · exact o3.elim⟩⟩⟩

/-! ### in, not in -/
def flatW : W → Bool
  | .non => true | .bl _ => true | .int _ => true | .str _ => true | _ => false
def eqW : W → W → Bool
  | .non, .non => true
  | .bl a, .bl b => a == b
  | .bl a, .int b => (if a then 1 else 0) == b
  | .int a, .bl b => a == (if b then 1 else 0)
  | .int a, .int b => a == b
  | .str a, .str b => a == b
  | _, _ => false
theorem eqW_V {x y : W} {v z : V} (rx : VR g ρ H x v) (ry : VR g ρ H y z) (fx : flatW x = true) (fy : flatW y = true) : eqV v z = eqW x y := by
  cases x <;> simp [flatW] at fx <;> cases rx <;> cases y <;> simp [flatW] at fy <;> cases ry <;> try rfl
  exact SX.S_beq _ _
theorem flat_V {x : W} {v : V} (rx : VR g ρ H x v) (fx : flatW x = true) : flatV v = true := by
  cases x <;> simp [flatW] at fx <;> cases rx <;> rfl
theorem flats_V : ∀ {ws : List W} {vs : List V}, VRs g ρ H ws vs → ws.all flatW = true → vs.all flatV = true
  | _, _, .nil, _ => rfl
  | _, _, .cons h r, e => by
    simp only [List.all_cons, Bool.and_eq_true] at e ⊢
    exact ⟨flat_V h e.1, flats_V r e.2⟩
def inW (x : W) (ws : List W) : Bool := ws.any fun y => eqW y x
theorem inW_V {x : W} {v : V} (rx : VR g ρ H x v) (fx : flatW x = true) : ∀ {ws : List W} {vs : List V}, VRs g ρ H ws vs → ws.all flatW = true → inV v vs = inW x ws
  | _, _, .nil, _ => rfl
  | _, _, .cons h r, e => by
    simp only [List.all_cons, Bool.and_eq_true] at e
    have ih := inW_V rx fx r e.2
    unfold inV inW at ih ⊢
    simp only [List.any_cons]
    rw [ih, eqW_V h rx e.1 fx]
def inD (x : W) (ws : List W) (m : Mem) : R Bool := if flatW x = true ∧ ws.all flatW = true then .ok (inW x ws) m else .bad
def inB (x y : W) (m : Mem) : R Bool := match y with
  | .tup ws => inD x ws m
  | .str l => match x with
    | .str [c] => .ok (decide (c ∈ l)) m
    | _ => .bad
  | .ref n => match m[n]? with
    | some (.lst ws) => inD x ws m
    | _ => .bad
  | _ => .bad
def wIn (x y : W) (m : Mem) : R W := (inB x y m).bind fun b m1 => .ok (.bl b) m1
def wNotIn (x y : W) (m : Mem) : R W := (inB x y m).bind fun b m1 => .ok (.bl (!b)) m1
theorem inD_cases {x : W} {ws : List W} {m : Mem} : (flatW x = true ∧ ws.all flatW = true ∧ inD x ws m = .ok (inW x ws) m) ∨ inD x ws m = .bad := by
  unfold inD
  split
  · rename_i h; exact .inl ⟨h.1, h.2, rfl⟩
  · exact .inr rfl
theorem in_ok (neg : Bool) (hK : X.K = g.K) {op : CmpOp} (h1 : OpR X (compareOp op) (rIn X.K neg)) (h2 : OpR X (compareOp op) (fun x y H Q => ∃ (c : Nat) (z : Str), x = .str ⟨#[c]⟩ ∧ y = .str z ∧ Q (.bl (if neg then !decide (c ∈ z.cps.toList) else decide (c ∈ z.cps.toList))) H)) :
    F2 g X wx (compareOp op) (fun x y m => (inB x y m).bind fun b m1 => .ok (.bl (if neg then !b else b)) m1) := F2.ofR fun m ρ H τ x y v z Q S rx ry o => by
  unfold inB at o
  split at o
  · rename_i ws
    rcases inD_cases (x := x) (ws := ws) (m := m) with ⟨e1, e2, e3⟩ | e
    · rw [e3] at o
      cases ry with
      | tup hs r => exact ⟨_, h1, _, _, rfl, .inr (by rw [hK]; exact hs), flat_V rx e1, flats_V r e2, by rw [inW_V rx e1 r e2]; exact Out.ok0 S o (.bl _)⟩
    · rw [e] at o; exact o.elim
  · rename_i l
    split at o
    · rename_i c
      cases ry; cases rx
      refine ⟨_, h2, c, _, rfl, rfl, ?_⟩
      rw [S_cps]
      exact Out.ok0 S o (.bl _)
    · exact o.elim
  · rename_i n
    cases ry with
    | @ref _ p hp =>
      split at o
      · rename_i ws hm
        rcases inD_cases (x := x) (ws := ws) (m := m) with ⟨e1, e2, e3⟩ | e
        · rw [e3] at o
          obtain ⟨vs, hv, r⟩ := obj_lst S hp hm
          exact ⟨_, h1, _, _, rfl, .inl (SqL.of hv), flat_V rx e1, flats_V r e2, by rw [inW_V rx e1 r e2]; exact Out.ok0 S o (.bl _)⟩
        · rw [e] at o; exact o.elim
      · exact o.elim
  · exact o.elim
theorem f_in (hK : X.K = g.K) : F2 g X wx (compareOp .In) wIn := in_ok (g := g) (wx := wx) false hK op_in_seq op_in_sign
theorem f_notIn (hK : X.K = g.K) : F2 g X wx (compareOp .NotIn) wNotIn := in_ok (g := g) (wx := wx) true hK op_notIn_seq op_notIn_sign
/-- in a fresh list -/
def eInL (neg : Bool) (fa : DE) (fl : DL) : DE := fun σ m => (fa σ m).bind fun x m1 => (fl σ m1).bind fun ws m2 => (inD x ws m2).bind fun b m3 => .ok (.bl (if neg then !b else b)) m3
theorem inL_ok {neg : Bool} {op : CmpOp} {fl : DL} (hK : X.K = g.K) (h1 : OpR X (compareOp op) (rIn X.K neg)) (ha : SE g X wx a fa) (hb : SL g X wx b fl) (hm : behindInMarks op b = false) : SE g X wx (.Compare a [op] [b] pos) (eInL neg fa fl) :=
  SE.ofPE (pe_cmpR h1 ha.pe hb.pe hm) fun σ m ρ H τ Q S L o => ⟨σ, m, ρ, S, L, (o.bind S).imp fun x m1 ρ1 H1 P1 S1 o1 v rv => ⟨σ, m1, ρ1, S1, L.post S P1, (o1.bind S1).imp fun ws m2 ρ2 H2 P2 S2 o2 p vs h0 hp hn r => by
    rcases inD_cases (x := x) (ws := ws) (m := m2) with ⟨e1, e2, e3⟩ | e
    · rw [e3] at o2
      have rv2 := rv.post S1 P2
      exact ⟨p, vs, rfl, .inl (SqL.of hp), flat_V rv2 e1, flats_V r e2, by rw [inW_V rv2 e1 r e2]; exact Out.ok0 S2 o2 (.bl _)⟩
    · rw [e] at o2; exact o2.elim⟩⟩
theorem se_inL {fl : DL} (hK : X.K = g.K) (ha : SE g X wx a fa) (hb : SL g X wx b fl) (hm : behindInMarks .In b = false := by first | exact nobehind _ (by decide) (by decide) | rfl) : SE g X wx (.Compare a [.In] [b] pos) (eInL false fa fl) := inL_ok hK op_in_seq ha hb hm
theorem se_notInL {fl : DL} (hK : X.K = g.K) (ha : SE g X wx a fa) (hb : SL g X wx b fl) (hm : behindInMarks .NotIn b = false := by first | exact nobehind _ (by decide) (by decide) | rfl) : SE g X wx (.Compare a [.NotIn] [b] pos) (eInL true fa fl) := inL_ok hK op_notIn_seq ha hb hm

/-! ### a < b < c -/
def eChain (f1 f2 : W → W → Mem → R W) (fa fb fc : DE) : DE := fun σ m => (fa σ m).bind fun x m1 => (fb σ m1).bind fun y m2 => (f1 x y m2).bind fun t m3 => match t with
  | .bl true => (fc σ m3).bind fun z m4 => f2 y z m4
  | .bl false => .ok (.bl false) m3
  | _ => .bad
theorem se_chain {op op' : CmpOp} {f1 f2 : W → W → Mem → R W} (h1 : F2 g X wx (compareOp op) f1) (h2 : F2 g X wx (compareOp op') f2) (ha : SE g X wx a fa) (hb : SE g X wx b fb) (hc : SE g X wx c fc)
    (hm : lastMarks [op, op'] [b, c] = false := by with_unfolding_all rfl) : SE g X wx (.Compare a [op, op'] [b, c] pos) (eChain f1 f2 fa fb fc) := by
  refine ⟨fun pins s σ m ρ H τ Q I S L o => ?_⟩
  refine PyProof.Rows.Compare_chain (ha.run pins s σ m ρ H τ _ I S L ((o.bind S).imp fun x m1 ρ1 H1 P1 S1 o1 v u s1 I1 rv ru => PyProof.Rows.chain_link (hb.run pins s1 σ m1 ρ1 H1 τ _ I1 S1 (L.post S P1) ((o1.bind S1).imp fun y m2 ρ2 H2 P2 S2 o2 z t s2 I2 rz rt => ?_)))) hm
  refine h1.run pins s2 m2 ρ2 H2 τ x y v z u t _ I2 S2 (rv.post S1 P2) ru rz rt ((o2.bind S2).imp fun w m3 ρ3 H3 P3 S3 o3 v3 u3 s3 I3 r3 ru3 => ?_)
  cases w with
  | bl k =>
    cases r3; cases ru3
    refine wpAny_truthy_bool ?_
    cases k with
    | false => exact PyProof.Rows.ite_ff (Out.here o3 S3 _ _ s3 I3 (.bl false) rfl)
    | true =>
      refine PyProof.Rows.ite_tt (PyProof.Rows.chain_last (hc.run pins s3 σ m3 ρ3 H3 τ _ I3 S3 (((L.post S P1).post S1 P2).post S2 P3) ((o3.bind S3).imp fun w4 m4 ρ4 H4 P4 S4 o4 v4 u4 s4 I4 r4 ru4 => ?_)))
      exact h2.run pins s4 m4 ρ4 H4 τ y w4 z v4 t u4 Q I4 S4 ((rz.post S2 P3).post S3 P4) rt r4 ru4 o4
  | _ => exact o3.elim
def tChain (f1 f2 : W → W → Mem → R W) (fa fb fc : DE) : DB := fun σ m => (fa σ m).bind fun x m1 => (fb σ m1).bind fun y m2 => (f1 x y m2).bind fun t m3 => match t with
  | .bl true => (fc σ m3).bind fun z m4 => (f2 y z m4).bind fun w m5 => match w with | .bl k => .ok k m5 | _ => .bad
  | .bl false => .ok false m3
  | _ => .bad
theorem st_chain {op op' : CmpOp} {f1 f2 : W → W → Mem → R W} (h1 : F2 g X wx (compareOp op) f1) (h2 : F2 g X wx (compareOp op') f2) (ha : SE g X wx a fa) (hb : SE g X wx b fb) (hc : SE g X wx c fc)
    (hm : lastMarks [op, op'] [b, c] = false := by with_unfolding_all rfl) : ST g X wx (.Compare a [op, op'] [b, c] pos) (tChain f1 f2 fa fb fc) := by
  refine ⟨fun whole pins s σ m ρ H τ Q hw I S L o => ?_⟩
  refine PyProof.Rows.isTrue_chain (ha.run pins s σ m ρ H τ _ I S L ((o.bind S).imp fun x m1 ρ1 H1 P1 S1 o1 v u s1 I1 rv ru => PyProof.Rows.test_link (hb.run pins s1 σ m1 ρ1 H1 τ _ I1 S1 (L.post S P1) ((o1.bind S1).imp fun y m2 ρ2 H2 P2 S2 o2 z t s2 I2 rz rt => ?_)))) hm
  refine h1.run pins s2 m2 ρ2 H2 τ x y v z u t _ I2 S2 (rv.post S1 P2) ru rz rt ((o2.bind S2).imp fun w m3 ρ3 H3 P3 S3 o3 v3 u3 s3 I3 r3 ru3 => ?_)
  cases w with
  | bl k =>
    cases r3; cases ru3
    refine wpAny_truthy_bool ?_
    cases k with
    | false => exact PyProof.Rows.ite_ff (Out.here o3 S3 s3 I3)
    | true =>
      refine PyProof.Rows.ite_tt (PyProof.Rows.test_last (hc.run pins s3 σ m3 ρ3 H3 τ _ I3 S3 (((L.post S P1).post S1 P2).post S2 P3) ((o3.bind S3).imp fun w4 m4 ρ4 H4 P4 S4 o4 v4 u4 s4 I4 r4 ru4 => ?_)))
      refine h2.run pins s4 m4 ρ4 H4 τ y w4 z v4 t u4 _ I4 S4 ((rz.post S2 P3).post S3 P4) rt r4 ru4 ((o4.bind S4).imp fun w5 m5 ρ5 H5 P5 S5 o5 v5 u5 s5 I5 r5 ru5 => ?_)
      cases w5 with
      | bl k2 => cases r5; cases ru5; exact wpAny_truthy_bool (Out.here o5 S5 s5 I5)
      | _ => exact o5.elim
  | _ => exact o3.elim
end
end Sh

namespace Sh
open PySem PySem.Spec L2
open PyProof.Rows (envOfC)

/-! ### a, b, *c = a list -/
section
variable {prog : Program} {w : World} {A : Around} {E : Value → Shared → Prop} {s : Shared}
theorem walk_from (hh : A.handled = none) (I ax : Addr) (hne : ax ≠ I) (items : Array Value) (d : Nat) (hd : d ≤ items.size) :
    Walks prog w A I [I, ax] [I] (items.size - d) (fun i v => items[d + i]? = some v) (fun i h => h.IsListIter I ax (d + i) ∧ h.IsList ax items) where
  sub := (Walks.list (prog := prog) (w := w) hh I ax hne items).sub
  frame := fun i h h' st hk => (Walks.list (prog := prog) (w := w) hh I ax hne items).frame (d + i) h h' st hk
  item := fun i s Q E hi st hQ => (Walks.list (prog := prog) (w := w) hh I ax hne items).item (d + i) s Q E (by omega) st fun v h' tk p st' k => hQ v h' tk p st' k
  done := fun s Q E st hQ => (Walks.list (prog := prog) (w := w) hh I ax hne items).done s Q E (by
    have : d + (items.size - d) = items.size := by omega
    rw [this] at st; exact st) hQ
  self := fun i s Q E st hQ => (Walks.list (prog := prog) (w := w) hh I ax hne items).self (d + i) s Q E st hQ
theorem unpack_star {l : Addr} {items : Array Value} {i : Nat} {Q : List Value → Shared → Prop} (hh : A.handled = none) (hl : s.heap.IsList l items) (hi : i ≤ items.size) (hz : items.size ≤ sizeLine)
    (hQ : ∀ (h' : Heap) (tk : Nat), (∀ b o, s.heap.get? b = some o → h'.get? b = some o) → Q (items.toList.take i ++ [.ref h'.objs.size]) { s with heap := h'.push { cls := .type "list", data := .seq (items.toList.drop i).toArray }, toks := tk }) :
    wpAny (model prog w) A (unpackItems (.ref l) (i + 1) (some i)) Q E s := by
  have hlt : l ≠ s.heap.objs.size := by obtain ⟨o, ho, _⟩ := hl; exact Nat.ne_of_lt (Heap.lt_size ho)
  unfold unpackItems
  refine wpAny_bind ?_
  unfold notIterableAtAll
  refine wpAny_bind (wpAny_specialOf hl.typeIs PySem.F.slot_list_iter.lookup ?_)
  refine wpAny_pure ?_
  simp only [Bool.false_eq_true, if_false]
  refine wpAny_bind (wpAny_holding (wpAny_pyIter_list hl ?_))
  refine wpAny_bind (wpAny_holding (PySem.W.kun_draw hlt i 0 _ _ ⟨_, Heap.get?_push_size _ rfl, rfl, rfl⟩ (hl.push _) (by omega) fun h₁ hit₁ hs₁ => ?_))
  have hl₁ : h₁.IsList l items := (hl.push _).extBut hs₁.extBut hlt
  have hlen : ¬ (List.take i (List.drop 0 items.toList)).length < i := by simp; omega
  rw [if_neg hlen]
  refine wpAny_bind (wpAny_holding ?_)
  refine wpAny_collect_iter (T := "list_iterator") (.inr (.inr (.inl rfl))) (walk_from (A := A.in1) hh s.heap.objs.size l hlt items i hi).toS (fun i' s' st => ?_) ⟨by simpa using hit₁, hl₁⟩ (fun b hb => ?_) (by simp) (fun s' acc mv it => ?_) (by omega)
  · obtain ⟨o, ho, hc, _⟩ := st.1
    exact ⟨o, ho, hc⟩
  · simp at hb
    rcases hb with rfl | rfl
    · obtain ⟨o, ho, _⟩ := hit₁; exact Heap.lt_size ho
    · obtain ⟨o, ho, _⟩ := hl₁; exact Heap.lt_size ho
  · have he : acc.toList = items.toList.drop i := by
      apply List.ext_getElem?
      intro j
      rw [List.getElem?_drop]
      by_cases hj : j < acc.size
      · have h1 : acc.toList[j]? = some acc[j] := by simp [hj]
        have h2 := it.2 j acc[j] (by simp [hj])
        rw [h1, Array.getElem?_toList]
        exact h2.symm
      · have h1 : acc.toList[j]? = none := by simp; omega
        have h2 : items.toList[i + j]? = none := by
          have := it.1
          simp; omega
        rw [h1, h2]
    obtain ⟨hp, gs, dr, tt, os⟩ := s'
    obtain ⟨k1, k2, k3, k4, k5⟩ := mv
    simp only at k1 k2 k3 k4 k5
    subst k2 k3 k4
    have h0 : i + 1 - 1 - i = 0 := by omega
    simp only [h0]
    rw [if_neg (by omega)]
    simp only [Nat.sub_zero, List.take_length, List.drop_length, List.append_nil]
    rw [he]
    refine wpAny_bind (wpAny_newList (wpAny_pure ?_) (by simp; omega))
    have e0 : List.take i (List.drop 0 items.toList) = items.toList.take i := rfl
    rw [e0]
    exact hQ hp tt fun b o e => k1 b o (by simp; exact Nat.ne_of_lt (Heap.lt_size e)) (hs₁.extBut b o (Nat.ne_of_lt (Heap.lt_size e)) (Heap.get?_push_of_some _ e))
end
section
variable {g : G} {X : Cx} {wx : WX} {τ : L2.St} {ρ ρ' : List Addr} {H H' : Hp} {m m' : Mem} {e a b c o : Expr} {fa fb fc fo fe : DE} {pos : Pos} {pins : List (Addr × Obj)} {s : Shared}
theorem VRs.drp {ws : List W} {vs : List V} (r : VRs g ρ H ws vs) (n : Nat) : VRs g ρ H (ws.drop n) (vs.drop n) := r.drop n
theorem Vals.tk : ∀ {vs : List V} {us : List Value} (n : Nat), Vals vs us → Vals (vs.take n) (us.take n)
  | _, _, 0, _ => .nil
  | _, _, _ + 1, .nil => .nil
  | _, _, n + 1, .cons h t => .cons h (Vals.tk n t)
theorem Vals.dr : ∀ {vs : List V} {us : List Value} (n : Nat), Vals vs us → Vals (vs.drop n) (us.drop n)
  | _, _, 0, r => r
  | _, _, _ + 1, .nil => .nil
  | _, _, n + 1, .cons _ t => Vals.dr n t
/-- several targets = a tuple or a list; the last may be starred -/
def gSeq (hs : List (W → Loc → Mem → R Loc)) : W → Loc → Mem → R Loc := fun w σ m => match w with
  | .tup ws => if ws.length = hs.length then gTups hs ws σ m else .bad
  | .ref n => match m[n]? with
    | some (.lst ws) => if ws.length = hs.length then gTups hs ws σ m else .bad
    | _ => .bad
  | _ => .bad
theorem sg_seq {es : List Expr} {k : Nat} {hs : List (W → Loc → Mem → R Loc)} {js : List Nat} (hK : X.K = g.K) (hc : X.calm = true) (h : SGs g X wx es hs js) (hl : hs.length = es.length := by rfl) (hn : (assignEach es X.env).length = es.length := by rfl)
    (hst : (assignEach es X.env).findIdx? (·.1) = none := by rfl) : SG g X wx (.Tuple es k pos) (gSeq hs) js := by
  refine ⟨fun pins s τ H v u Q I ru ⟨w, σ, m, ρ, S, L, r, o⟩ => ?_⟩
  unfold gSeq at o
  split at o
  · rename_i ws
    split at o
    · rename_i he
      cases r with
      | tup hs' rv => exact (pg_tup (n := es.length) hc h hn hst).run pins s τ H _ u Q I ru ⟨_, _, rfl, by rw [hK]; exact hs', by rw [← rv.length, he, hl], ws, σ, m, ρ, S, L, rv, o⟩
    · exact o.elim
  · rename_i n
    cases r with
    | @ref _ p hp =>
      split at o
      · rename_i ws hm
        split at o
        · rename_i he
          obtain ⟨vs, h1, rv⟩ := obj_lst S hp hm
          exact (pg_unl (n := es.length) hc h hn hst).run pins s τ H _ u Q I ru ⟨_, _, rfl, SqL.of h1, by rw [← rv.length, he, hl], ws, σ, m, ρ, S, L, rv, o⟩
        · exact o.elim
      · exact o.elim
  · exact o.elim
/-- a, .., *z = a list -/
def gStar (hs : List (W → Loc → Mem → R Loc)) (i : Nat) : W → Loc → Mem → R Loc := fun w σ m => match w with
  | .ref n => match m[n]? with
    | some (.lst ws) => if i ≤ ws.length then gTups hs (ws.take i ++ [.ref m.length]) σ (m ++ [.lst (ws.drop i)]) else .bad
    | _ => .bad
  | _ => .bad
theorem sgs_star {t : Expr} {p : Pos} {h : W → Loc → Mem → R Loc} {js : List Nat} (h1 : SG g X wx t h js) (hq : Quiet h := by exact quiet_set) (ha : (assignEach [.Starred t p] X.env).map (·.2) = [assign t X.env] := by rfl) : SGs g X wx [.Starred t p] [h] js :=
  ⟨fun pins s τ H vs us Q I r ⟨ws, σ, m, ρ, S, L, rv, o⟩ => by
    rw [ha]
    cases rv with
    | nil => exact o.elim
    | @cons w v ws vs rw_ rr =>
      cases rr with
      | cons _ _ =>
        exfalso
        unfold gTups at o
        cases q : h w σ m with
        | ok σ1 m1 => rw [q] at o; exact o
        | exc c1 fs1 m1 => exact hq w σ m c1 fs1 m1 q
        | bad => rw [q] at o; exact o
      | nil =>
        cases r with
        | cons r rr =>
          cases rr
          refine PyProof.Rows.assignInOrder_cons (thn (h1.run pins s τ H _ _ (fun τ' H' => Q τ' H') I r ⟨w, σ, m, ρ, S, L, rw_, ?_⟩) fun _ s1 ⟨σ1, H1, I1, q1⟩ => PyProof.Rows.assignInOrder_nil ⟨σ1, H1, I1, q1⟩)
          exact ((show Out g wx τ ρ H ((h w σ m).bind fun σ1 m1 => gTups [] [] σ1 m1) _ from o).bind S).imp fun σ1 m1 ρ1 H1 P1 S1 o1 τ1 L1 A1 => (Out.here o1 S1) τ1 L1 A1⟩
theorem sg_star {es : List Expr} {k i : Nat} {hs : List (W → Loc → Mem → R Loc)} {js : List Nat} (hK : X.K = g.K) (hc : X.calm = true) (h : SGs g X wx es hs js) (hn : (assignEach es X.env).length = i + 1 := by rfl)
    (hst : (assignEach es X.env).findIdx? (·.1) = some i := by rfl) : SG g X wx (.Tuple es k pos) (gStar hs i) js := by
  refine ⟨fun pins s τ H v u Q I ru ⟨w, σ, m, ρ, S, L, r, o⟩ => ?_⟩
  unfold gStar at o
  split at o
  · rename_i n
    cases r with
    | @ref _ p hp =>
      cases ru
      split at o
      · rename_i ws hm
        split at o
        · rename_i he
          obtain ⟨vs, h1, rv⟩ := obj_lst S hp hm
          obtain ⟨its, rvs, pl, hz⟩ := I.list (SqL.of h1)
          have hl' : s.heap.IsList p its.toArray := by
            obtain ⟨o, m, e, c, d, q⟩ := pl
            exact ⟨o, e, c, m, q⟩
          have hlen := rvs.length
          have hlw := rv.length
          rw [PyProof.Rows.assign_Tuple]
          refine wpAny_bind (wpAny_standAt ?_)
          unfold unpack
          rw [hn, hst]
          refine wpAny_bind (wpAny_holding (unpack_star (I.ok.hd hc) hl' (by rw [List.size_toArray]; omega) (by rw [List.size_toArray]; omega) fun h' tk hk => ?_))
          have I1 : Inv X pins τ H { s with heap := h', toks := tk } := I.kept hk
          have I2 : Inv X pins τ (upd H h'.objs.size (.lst (vs.drop i))) { s with heap := h'.push { cls := .type "list", data := .seq (its.drop i).toArray }, toks := tk } :=
            I1.laid (t' := tk) (fun b u e => Heap.get?_push_of_some _ e) (Nat.le_refl _) ⟨by simp; omega, its.drop i, 0, (Vals.dr i rvs), Heap.get?_push_size _ rfl⟩
          have hf : H h'.objs.size = none := I1.hok.fresh (Nat.le_refl _)
          obtain ⟨P2, S2⟩ := S.push (o := .lst (ws.drop i)) (u := .lst (vs.drop i)) hf ⟨_, rfl, rv.drop i⟩
          refine h.run pins _ τ _ (vs.take i ++ [.ref h'.objs.size]) _ Q I2 ((Vals.tk i rvs).append (.cons (show RelV (.ref h'.objs.size) (.ref h'.objs.size) from rfl) .nil)) ⟨ws.take i ++ [.ref m.length], σ, m ++ [.lst (ws.drop i)], ρ ++ [h'.objs.size], S2, L.post S P2, ((rv.take i).post S P2).append (.cons (.ref (by rw [← S.len]; simp)) .nil), o.from P2 S S2⟩
        · exact o.elim
      · exact o.elim
  · exact o.elim
/-- target = e -/
def sAsg (f : DE) (h : W → Loc → Mem → R Loc) : DS := fun σ m => RS.of σ (f σ m) fun w m1 => RS.of σ (h w σ m1) fun σ' m2 => .nx σ' m2
theorem ss_asg {tg : Expr} {h : W → Loc → Mem → R Loc} {js : List Nat} (he : SE g X wx e fe) (hg : SG g X wx tg h js) (hs : swapsWithSole [tg] e pos.line X.env = pure false := by rfl) (hw : swappedStores [tg] e X.env = pure none := by rfl)
    (h1 : (assignEach [tg] X.env).map (·.2) = [assign tg X.env] := by rfl) : SS g X wx (.Assign [tg] e pos) (sAsg fe h) :=
  PS.conv (ps_asg he.pe hg hs hw h1) fun D τ H ⟨σ, m, ρ, S, L, oo⟩ => ⟨σ, m, ρ, S, L, (oo.of S L).imp fun w m1 ρ1 H1 P1 S1 o1 v r => ⟨w, σ, m1, ρ1, S1, L.post S P1, r, (o1.of S1 (L.post S P1)).imp fun σ2 m2 ρ2 H2 P2 S2 o2 τ' L' A' => o2 ρ2 H2 τ' Post.refl S2 L'⟩⟩

/-! ### stores into a list, append -/
/-- o[i] = e -/
def putAt (m : Mem) (x y w : W) : Option Mem := match x, y with
  | .ref n, .int i => match m[n]? with
    | some (.lst ws) => match ixN ws.length i with
      | some j => some (m.set n (.lst (ws.set j w)))
      | none => none
    | _ => none
  | _, _ => none
def sPut (fo fi fe : DE) : DS := fun σ m => RS.of σ (fe σ m) fun w m1 => RS.of σ (fo σ m1) fun x m2 => RS.of σ (fi σ m2) fun y m3 => match putAt m3 x y w with
  | some m4 => .nx σ m4
  | none => .bad
theorem ss_put {i : Expr} {fi : DE} {pos' : Pos} (ho : SE g X wx o fo) (hi : SE g X wx i fi) (he : SE g X wx e fe) (hs : swapsWithSole [.Subscript o i pos'] e pos.line X.env = pure false := by rfl) (hw : swappedStores [.Subscript o i pos'] e X.env = pure none := by rfl)
    (h1 : (assignEach [.Subscript o i pos'] X.env).map (·.2) = [assign (.Subscript o i pos') X.env] := by rfl)
    (ha : ∀ v, assign (.Subscript o i pos') X.env v = (do
      let ov ← holding [v] (eval o X.env)
      let iv ← holding [v, ov] (eval i X.env)
      standAt pos'
      holding [v, ov, iv] (setItem ov iv v)
      release [v, ov, iv] []) := by intro _; rfl) : SS g X wx (.Assign [.Subscript o i pos'] e pos) (sPut fo fi fe) :=
  PS.conv (ps_asg he.pe (pg_sub ho.pe hi.pe set_list ha) hs hw h1) fun D τ H ⟨σ, m, ρ, S, L, oo⟩ => ⟨σ, m, ρ, S, L, (oo.of S L).imp fun w m1 ρ1 H1 P1 S1 o1 v r =>
    ⟨σ, m1, ρ1, S1, L.post S P1, (o1.of S1 (L.post S P1)).imp fun x m2 ρ2 H2 P2 S2 o2 vx rx => ⟨σ, m2, ρ2, S2, (L.post S P1).post S1 P2, (o2.of S2 ((L.post S P1).post S1 P2)).imp fun y m3 ρ3 H3 P3 S3 o3 vy ry => by
      split at o3
      · rename_i m4 hput
        unfold putAt at hput
        split at hput
        · rename_i n i
          cases ry
          have rx3 := rx.post S2 P3
          cases rx3 with
          | @ref _ p hp =>
            split at hput
            · rename_i ws hm
              split at hput
              · rename_i j hj
                cases hput
                obtain ⟨vs, hv, rv⟩ := obj_lst S3 hp hm
                refine ⟨p, vs, i, j, rfl, rfl, hv, by rw [← rv.length]; exact hj, ?_⟩
                obtain ⟨P4, S4⟩ := S3.set (u := .lst (vs.set j v)) (o := .lst (ws.set j w)) hp ⟨_, rfl, rv.set ((r.post S1 P2).post S2 P3) j⟩
                exact o3 _ _ _ P4 S4 ((((L.post S P1).post S1 P2).post S2 P3).post S3 P4)
              · cases hput
            · cases hput
        · cases hput
      · exact o3.elim⟩⟩⟩
end
end Sh

namespace Sh
open PySem PySem.Spec L2
open PyProof.Rows (envOfC)

section
variable {g : G} {X : Cx} {wx : WX} {τ : L2.St} {ρ ρ' : List Addr} {H H' : Hp} {m m' : Mem} {e a b c o : Expr} {fa fb fc fo fe : DE} {fl : DL} {pos : Pos} {pins : List (Addr × Obj)} {s : Shared}
theorem VRs.inv0 {vs : List V} (r : VRs g ρ H [] vs) : vs = [] := by cases r; rfl

/-! ### len, abs, int, str -/
def lenW (x : W) (m : Mem) : Option Nat := match x with
  | .str l => if l.length ≤ 1000000 then some l.length else none
  | .tup ws => some ws.length
  | .frz ws => some ws.length
  | .ref n => match m[n]? with
    | some (.lst ws) => some ws.length
    | some (.dK kvs) => some kvs.length
    | _ => none
  | _ => none
def bLen (ws : List W) (m : Mem) : R W := match ws with
  | [x] => match lenW x m with | some n => .ok (.int (n : Int)) m | none => .bad
  | _ => .bad
theorem f_len (hK : X.K = g.K) : Fn g X wx (fun us => call (.builtin "len") us) bLen := Fn.ofR fun m ρ H τ xs vs Q S rx o => by
  unfold bLen at o
  split at o
  · rename_i x
    obtain ⟨v, rfl, r⟩ := rx.inv1
    split at o
    · rename_i n hn
      have fin : Q (.int (n : Int)) H := Out.ok0 S o (.int _)
      unfold lenW at hn
      split at hn
      · rename_i l
        cases r
        split at hn
        · rename_i hl
          cases hn
          exact ⟨_, call_len, _, _, rfl, ⟨by rw [S_len]; exact sizeM hl, rfl⟩, by rw [S_len]; exact fin⟩
        · cases hn
      · rename_i ws
        cases hn
        cases r with
        | tup h rv => exact ⟨_, call_len, _, _, rfl, .inr ⟨_, by rw [hK]; exact h, rv.length⟩, fin⟩
      · rename_i ws
        cases hn
        cases r with
        | frz h rv => exact ⟨_, call_len, _, _, rfl, .inl ⟨_, by rw [hK]; exact h.toL, rv.length⟩, fin⟩
      · rename_i k
        cases r with
        | @ref _ p hp =>
          split at hn
          · rename_i ws hm
            cases hn
            obtain ⟨vs, h1, rv⟩ := obj_lst S hp hm
            exact ⟨_, call_len, _, _, rfl, .inl ⟨_, SqL.of h1, rv.length⟩, fin⟩
          · rename_i kvs hm
            cases hn
            obtain ⟨u, h1, vs, e1, rv⟩ := S.obj _ p _ hp hm
            subst e1
            have hl : kvs.length = vs.length := Paired.length rv
            exact ⟨_, call_lenD, p, vs, rfl, h1, by rw [← hl]; exact fin⟩
          · cases hn
      · cases hn
    · exact o.elim
  · exact o.elim
/-- of a fresh list -/
def bLenL (ws : List W) (m : Mem) : R W := .ok (.int (ws.length : Int)) m
theorem f_lenL : FnL g X wx (fun u => call (.builtin "len") [u]) bLenL := FnL.ofR fun m ρ H τ p ws vs Q S hp hn r o => ⟨_, call_len, _, _, rfl, .inl ⟨vs, SqL.of hp, r.length⟩, Out.ok0 S o (.int _)⟩
def bAbs (ws : List W) (m : Mem) : R W := match ws with
  | [.int i] => .ok (.int (if i < 0 then -i else i)) m
  | _ => .bad
theorem f_abs : Fn g X wx (fun us => call (.builtin "abs") us) bAbs := Fn.ofR fun m ρ H τ xs vs Q S rx o => by
  unfold bAbs at o
  split at o
  · obtain ⟨v, rfl, r⟩ := rx.inv1
    cases r
    exact ⟨_, call_abs, _, rfl, Out.ok0 S o (.int _)⟩
  · exact o.elim
def b2 (b : Bool) : Int := if b = true then 1 else 0
def bInt (ws : List W) (m : Mem) : R W := match ws with
  | [.int i] => .ok (.int i) m
  | [.bl k] => .ok (.int (b2 k)) m
  | [.str l] => if l.length ≤ 640 then (match intText? (Sh.S l) with | some n => .ok (.int n) m | none => .bad) else .bad
  | _ => .bad
theorem f_int : Fn g X wx (fun us => call (.type "int") us) bInt := Fn.ofR fun m ρ H τ xs vs Q S rx o => by
  unfold bInt at o
  split at o
  · obtain ⟨v, rfl, r⟩ := rx.inv1
    cases r
    exact ⟨_, call_int1, .inl ⟨_, rfl, Out.ok0 S o (.int _)⟩⟩
  · obtain ⟨v, rfl, r⟩ := rx.inv1
    cases r
    exact ⟨_, call_int1, .inr ⟨_, rfl, Out.ok0 S o (.int _)⟩⟩
  · obtain ⟨v, rfl, r⟩ := rx.inv1
    cases r
    split at o
    · rename_i hl
      split at o
      · rename_i n hn
        exact ⟨_, call_int_str, _, n, rfl, hn, by rw [S_len]; exact hl, Out.ok0 S o (.int _)⟩
      · exact o.elim
    · exact o.elim
  · exact o.elim
/-- the signs of a number -/
def dec (i : Int) : List Nat := (Str.ofString (toString i)).cps.toList
def bStr (ws : List W) (m : Mem) : R W := match ws with
  | [.int i] => if i.natAbs.log2 < 1920 then .ok (.str (dec i)) m else .bad
  | [.str l] => .ok (.str l) m
  | _ => .bad
theorem f_str : Fn g X wx (fun us => call (.type "str") us) bStr := Fn.ofR fun m ρ H τ xs vs Q S rx o => by
  unfold bStr at o
  split at o
  · rename_i i
    obtain ⟨v, rfl, r⟩ := rx.inv1
    cases r
    split at o
    · rename_i h
      refine ⟨_, call_str_int, i, rfl, h, ?_⟩
      have := Out.ok0 S o (.str (dec i))
      unfold dec at this
      rw [S_of] at this
      exact this
    · exact o.elim
  · obtain ⟨v, rfl, r⟩ := rx.inv1
    cases r
    exact ⟨_, SkE.call_str_str, _, rfl, Out.ok0 S o (.str _)⟩
  · exact o.elim

/-! ### all, any, sum of a fresh list; tuple, list -/
def blsW : List W → Option (List Bool)
  | [] => some []
  | .bl b :: ws => (blsW ws).map (b :: ·)
  | _ :: _ => none
theorem bls_V : ∀ {ws : List W} {vs : List V} {bs : List Bool}, VRs g ρ H ws vs → blsW ws = some bs → vs = bs.map V.bl
  | _, _, _, .nil, h => by cases h; rfl
  | _, _, bs, .cons (w := w) r rr, h => by
    cases w with
    | bl b =>
      cases r
      simp only [blsW, Option.map_eq_some_iff] at h
      obtain ⟨cs, h1, rfl⟩ := h
      rw [bls_V rr h1]; rfl
    | _ => simp [blsW] at h
def bAll (ws : List W) (m : Mem) : R W := match blsW ws with | some bs => .ok (.bl (bs.all id)) m | none => .bad
def bAny (ws : List W) (m : Mem) : R W := match blsW ws with | some bs => .ok (.bl (bs.any id)) m | none => .bad
theorem f_all (hc : X.calm = true) : FnL g X wx (fun u => call (.builtin "all") [u]) bAll := FnL.ofR fun m ρ H τ p ws vs Q S hp hn r o => by
  unfold bAll at o
  split at o
  · rename_i bs h
    have e := bls_V r h
    subst e
    exact ⟨_, cr_all hc, p, bs, rfl, SqL.of hp, Out.ok0 S o (.bl _)⟩
  · exact o.elim
theorem f_any (hc : X.calm = true) : FnL g X wx (fun u => call (.builtin "any") [u]) bAny := FnL.ofR fun m ρ H τ p ws vs Q S hp hn r o => by
  unfold bAny at o
  split at o
  · rename_i bs h
    have e := bls_V r h
    subst e
    exact ⟨_, cr_any hc, p, bs, rfl, SqL.of hp, Out.ok0 S o (.bl _)⟩
  · exact o.elim
def intsW : List W → Option (List Int)
  | [] => some []
  | .int b :: ws => (intsW ws).map (b :: ·)
  | _ :: _ => none
theorem ints_V : ∀ {ws : List W} {vs : List V} {bs : List Int}, VRs g ρ H ws vs → intsW ws = some bs → vs = bs.map V.int
  | _, _, _, .nil, h => by cases h; rfl
  | _, _, bs, .cons (w := w) r rr, h => by
    cases w with
    | int b =>
      cases r
      simp only [intsW, Option.map_eq_some_iff] at h
      obtain ⟨cs, h1, rfl⟩ := h
      rw [ints_V rr h1]; rfl
    | _ => simp [intsW] at h
def bSum (ws : List W) (m : Mem) : R W := match intsW ws with | some bs => .ok (.int bs.sum) m | none => .bad
theorem f_sum (hc : X.calm = true) : FnL g X wx (fun u => call (.builtin "sum") [u]) bSum := FnL.ofR fun m ρ H τ p ws vs Q S hp hn r o => by
  unfold bSum at o
  split at o
  · rename_i bs h
    have e := ints_V r h
    subst e
    exact ⟨_, cr_sum hc, p, bs, rfl, SqL.of hp, Out.ok0 S o (.int _)⟩
  · exact o.elim
def bTupL (ws : List W) (m : Mem) : R W := .ok (.tup ws) m
theorem f_tupL : FnL g X wx (fun u => call (.type "tuple") [u]) bTupL := FnL.ofR fun m ρ H τ p ws vs Q S hp hn r o => ⟨_, call_tuple_of, p, vs, rfl, .inl ⟨SqL.of hp, fun l hl => by
  obtain ⟨P2, S2⟩ := S.junk (u := .tup vs) hl
  exact (o : Out g wx τ ρ H (R.ok (W.tup ws) m) _) ρ _ P2 S2 _ (.tup (SqT.of upd_same) (r.post S P2))⟩⟩
def bTup (ws : List W) (m : Mem) : R W := match ws with
  | [.tup ws] => .ok (.tup ws) m
  | [.ref n] => match m[n]? with
    | some (.lst ws) => .ok (.tup ws) m
    | _ => .bad
  | _ => .bad
theorem f_tup (hK : X.K = g.K) : Fn g X wx (fun us => call (.type "tuple") us) bTup := Fn.ofR fun m ρ H τ xs vs Q S rx o => by
  unfold bTup at o
  split at o
  · obtain ⟨v, rfl, r⟩ := rx.inv1
    cases r with
    | tup h rv => exact ⟨_, call_tuple_of, _, _, rfl, .inr ⟨by rw [hK]; exact h, Out.ok0 S o (.tup h rv)⟩⟩
  · obtain ⟨v, rfl, r⟩ := rx.inv1
    cases r with
    | @ref _ p hp =>
      split at o
      · rename_i ws hm
        obtain ⟨vs, h1, rv⟩ := obj_lst S hp hm
        refine ⟨_, call_tuple_of, p, vs, rfl, .inl ⟨SqL.of h1, fun l hl => ?_⟩⟩
        obtain ⟨P2, S2⟩ := S.junk (u := .tup vs) hl
        exact (o : Out g wx τ ρ H (R.ok (W.tup ws) m) _) ρ _ P2 S2 _ (.tup (SqT.of upd_same) (rv.post S P2))
      · exact o.elim
  · exact o.elim
def bList (ws : List W) (m : Mem) : R W := match ws with
  | [.tup ws] => .ok (.ref m.length) (m ++ [.lst ws])
  | [.ref n] => match m[n]? with
    | some (.lst ws) => .ok (.ref m.length) (m ++ [.lst ws])
    | _ => .bad
  | _ => .bad
theorem f_list (hK : X.K = g.K) : Fn g X wx (fun us => call (.type "list") us) bList := Fn.ofR fun m ρ H τ xs vs Q S rx o => by
  unfold bList at o
  have fin : ∀ (ws : List W) (vs : List V), VRs g ρ H ws vs → Out g wx τ ρ H (R.ok (W.ref m.length) (m ++ [.lst ws])) (fun w m' ρ' H' => ∀ v, VR g ρ' H' w v → Q v H') → ∀ l, H l = none → Q (.ref l) (upd H l (.lst vs)) := fun ws vs rv o l hl => by
    obtain ⟨P2, S2⟩ := S.push (o := .lst ws) (u := .lst vs) hl ⟨_, rfl, rv⟩
    exact o _ _ P2 S2 _ (.ref (by rw [← S.len]; simp))
  split at o
  · obtain ⟨v, rfl, r⟩ := rx.inv1
    cases r with
    | tup h rv => exact ⟨_, call_list_of, _, _, rfl, .inr (by rw [hK]; exact h), fin _ _ rv o⟩
  · obtain ⟨v, rfl, r⟩ := rx.inv1
    cases r with
    | @ref _ p hp =>
      split at o
      · rename_i ws hm
        obtain ⟨vs, h1, rv⟩ := obj_lst S hp hm
        exact ⟨_, call_list_of, p, vs, rfl, .inl (SqL.of h1), fin _ _ rv o⟩
      · exact o.elim
  · exact o.elim

/-! ### repr of data -/
/-- the ground has its table of modules -/
class Sys (base : Heap) : Prop where
  ne : base.get? sysModules ≠ none
def keyD : Key → PyData
  | .inl i => .int i
  | .inr x => .str x
mutual
def datX (m : Mem) : Nat → W → Option PyData
  | _, .non => some .none
  | _, .bl b => some (.bool b)
  | _, .int i => some (.int i)
  | _, .str l => some (.str (Sh.S l))
  | 0, _ => none
  | d + 1, .tup ws => (datsX m d ws).map .tuple
  | d + 1, .ref n => match m[n]? with
    | some (.lst ws) => (datsX m d ws).map .list
    | some (.dK kvs) => (datsX m d (kvs.map (·.2))).map fun ds => .dict ((kvs.map fun kv => keyD kv.1).zip ds)
    | _ => none
  | _ + 1, _ => none
def datsX (m : Mem) : Nat → List W → Option (List PyData)
  | _, [] => some []
  | d, w :: ws => match datX m d w, datsX m d ws with
    | some x, some xs => some (x :: xs)
    | _, _ => none
end
theorem sys_free (I : Inv X pins τ H s) (hs : X.base.get? sysModules ≠ none) : H sysModules = none := by
  cases q : X.base.get? sysModules with
  | none => exact absurd q hs
  | some o =>
    obtain ⟨h1, h2⟩ := I.ok.bs _ _ q
    exact I.base.free _ _ h1 h2 (I.ok.noex _ _ q)
theorem datsX_len {m : Mem} : ∀ {d : Nat} {ws : List W} {ds : List PyData}, datsX m d ws = some ds → ws.length = ds.length
  | d, [], ds, e => by
    have e : some ([] : List PyData) = some ds := by cases d <;> (simp only [datsX] at e; exact e)
    cases e; rfl
  | d, w :: ws, ds, e => by
    have e : (match datX m d w, datsX m d ws with | some x, some xs => some (x :: xs) | _, _ => none) = some ds := by cases d <;> (simp only [datsX] at e; exact e)
    split at e
    · rename_i x xs h1 h2
      cases e
      simp [datsX_len h2]
    · cases e
theorem pairs_reads {h : Heap} {P : Program} {w : World} : ∀ {es : List DictEntry} {vs : List (Key × Value)}, Pairs (mixKind P w) es vs → ∃ as, ReadsAll h (es.map (·.key)) (vs.map fun kv => keyD kv.1) as ∧ as = []
  | _, _, .nil => ⟨_, .nil, rfl⟩
  | _, _, .cons (e := e) (kv := kv) h1 h2 t => by
    obtain ⟨as, r, ea⟩ := pairs_reads (h := h) t
    subst ea
    obtain ⟨k, v⟩ := kv
    have h1 : keyIs k e.key = true := h1
    rcases keyIs_shape h1 with ⟨i, t, rfl, e2⟩ | ⟨x, t, rfl, e2⟩
    · refine ⟨_, .cons (d := .int i) (by show Reads h e.key _ _; rw [e2]; exact .int i t) r, rfl⟩
    · refine ⟨_, .cons (d := .str x) (by show Reads h e.key _ _; rw [e2]; exact .str x t) r, rfl⟩
theorem pairs_vals {P : Program} {w : World} : ∀ {es : List DictEntry} {vs : List (Key × Value)}, Pairs (mixKind P w) es vs → es.map (·.val) = vs.map (·.2)
  | _, _, .nil => rfl
  | _, _, .cons h1 h2 t => by simp [h2, pairs_vals t]
theorem kv_split {kvs : List (Key × W)} {ws : List (Key × V)} {vs : List (Key × Value)} (r : KR g ρ H kvs ws) (q : KV ws vs) : (vs.map fun kv => keyD kv.1) = (kvs.map fun kv => keyD kv.1) ∧ VRs g ρ H (kvs.map (·.2)) (ws.map (·.2)) ∧ Vals (ws.map (·.2)) (vs.map (·.2)) := by
  induction r generalizing vs with
  | nil => cases q; exact ⟨rfl, .nil, .nil⟩
  | @cons p p' kvs ws hq hr ih =>
    cases q with
    | @cons _ p2 _ vs h1 h2 =>
      obtain ⟨i1, i2, i3⟩ := ih h2
      refine ⟨?_, .cons hq.2 i2, .cons h1.2 i3⟩
      have e1 : p.1 = p'.1 := hq.1
      have e2 : p'.1 = p2.1 := h1.1
      simp only [List.map_cons, i1, e1, e2]
mutual
theorem datX_reads (hK : X.K = g.K) (I : Inv X pins τ H s) (S : Sim g ρ m H) (hs : X.base.get? sysModules ≠ none) : ∀ (d : Nat) (w : W) (v : V) (u : Value) (x : PyData), VR g ρ H w v → RelV v u → datX m d w = some x → ∃ as, Reads s.heap u x as ∧ sysModules ∉ as
  | d, .non, v, u, x, r, ru, e => by
    cases r; cases ru
    have e : some PyData.none = some x := by cases d <;> (simp only [datX] at e; exact e)
    cases e; exact ⟨_, .none, by simp⟩
  | d, .bl b, v, u, x, r, ru, e => by
    cases r; cases ru
    have e : some (PyData.bool b) = some x := by cases d <;> (simp only [datX] at e; exact e)
    cases e; exact ⟨_, .bool b, by simp⟩
  | d, .int i, v, u, x, r, ru, e => by
    cases r; obtain ⟨t, rfl⟩ := ru
    have e : some (PyData.int i) = some x := by cases d <;> (simp only [datX] at e; exact e)
    cases e; exact ⟨_, .int i t, by simp⟩
  | d, .str l, v, u, x, r, ru, e => by
    cases r; obtain ⟨t, rfl⟩ := ru
    have e : some (PyData.str (Sh.S l)) = some x := by cases d <;> (simp only [datX] at e; exact e)
    cases e; exact ⟨_, .str _ t, by simp⟩
  | 0, .tup ws, v, u, x, r, ru, e => by simp [datX] at e
  | 0, .ref n, v, u, x, r, ru, e => by simp [datX] at e
  | d + 1, .tup ws, v, u, x, r, ru, e => by
    simp only [datX] at e
    cases q : datsX m d ws with
    | none => rw [q] at e; cases e
    | some xs =>
      rw [q] at e; cases e
      cases r with
      | tup h rv =>
        cases ru
        obtain ⟨its, rv', ⟨o, ho, hc, n, hd⟩, _⟩ := I.tuple (show SqT X.K H _ _ by rw [hK]; exact h)
        obtain ⟨as, hr, hn⟩ := datsX_reads hK I S hs d ws _ _ xs rv rv' q
        exact ⟨_, .tuple ho hc hd hr, hn⟩
  | d + 1, .ref n, v, u, x, r, ru, e => by
    simp only [datX] at e
    cases r with
    | @ref _ p hp =>
      cases ru
      have np : ∀ {o : HO}, H p = some o → p ≠ sysModules := fun h z => by rw [z, sys_free I hs] at h; cases h
      split at e
      · rename_i ws hm
        cases q : datsX m d ws with
        | none => rw [q] at e; cases e
        | some xs =>
          rw [q] at e; cases e
          obtain ⟨vs, h1, r1⟩ := obj_lst S hp hm
          obtain ⟨its, rv', ⟨o, n', ho, hc, _, hd⟩, _⟩ := I.list (SqL.of h1)
          obtain ⟨as, hr, hn⟩ := datsX_reads hK I S hs d ws _ _ xs r1 rv' q
          exact ⟨_, .list ho hc hd hr, by
            intro z
            rcases List.mem_cons.mp z with z | z
            · exact np h1 z.symm
            · exact hn z⟩
      · rename_i kvs hm
        cases q : datsX m d (kvs.map (·.2)) with
        | none => rw [q] at e; cases e
        | some xs =>
          rw [q] at e; cases e
          obtain ⟨u', h1, vs, e1, r1⟩ := S.obj _ p _ hp hm
          subst e1
          obtain ⟨_, hsm, vs', rv, o, es, ep, ho, hx, hd, hk, hP, hN⟩ := dk_of I.hok h1
          obtain ⟨e1, r2, r3⟩ := kv_split r1 rv
          obtain ⟨as1, ra1, ea1⟩ := pairs_reads (h := s.heap) hP
          subst ea1
          obtain ⟨bs, hr, hn⟩ := datsX_reads hK I S hs d (kvs.map (·.2)) _ _ xs r2 r3 q
          have hl := datsX_len q
          refine ⟨_, .dict (as := []) (bs := bs) ho hx.1 hd ?_ ?_, ?_⟩
          · rw [List.map_fst_zip (by simp only [List.length_map] at hl ⊢; omega), ← e1]; exact ra1
          · rw [List.map_snd_zip (by simp only [List.length_map] at hl ⊢; omega), pairs_vals hP]; exact hr
          · intro z
            rcases List.mem_append.mp z with z | z
            · have : sysModules = p := by simpa using z
              exact np h1 this.symm
            · exact hn z
      · cases e
  | d, .frz ws, v, u, x, r, ru, e => by cases d <;> simp [datX] at e
  | d, .cls c, v, u, x, r, ru, e => by cases d <;> simp [datX] at e
  | d, .ty c, v, u, x, r, ru, e => by cases d <;> simp [datX] at e
theorem datsX_reads (hK : X.K = g.K) (I : Inv X pins τ H s) (S : Sim g ρ m H) (hs : X.base.get? sysModules ≠ none) : ∀ (d : Nat) (ws : List W) (vs : List V) (us : List Value) (xs : List PyData), VRs g ρ H ws vs → Vals vs us → datsX m d ws = some xs → ∃ as, ReadsAll s.heap us xs as ∧ sysModules ∉ as
  | d, [], vs, us, xs, r, ru, e => by
    cases r; cases ru
    have e : some ([] : List PyData) = some xs := by cases d <;> (simp only [datsX] at e; exact e)
    cases e; exact ⟨_, .nil, by simp⟩
  | d, w :: ws, vs, us, xs, r, ru, e => by
    cases r with
    | cons h rv =>
      cases ru with
      | cons h' rv' =>
        have e : (match datX m d w, datsX m d ws with | some x, some xs => some (x :: xs) | _, _ => none) = some xs := by cases d <;> (simp only [datsX] at e; exact e)
        split at e
        · rename_i x xs' h1 h2
          cases e
          obtain ⟨as, r1, n1⟩ := datX_reads hK I S hs d w _ _ x h h' h1
          obtain ⟨bs, r2, n2⟩ := datsX_reads hK I S hs d ws _ _ xs' rv rv' h2
          exact ⟨_, .cons r1 r2, by intro z; rcases List.mem_append.mp z with z | z; exact n1 z; exact n2 z⟩
        · cases e
end
def reprD (d : PyData) (m : Mem) : R W := if d.showable = true ∧ d.depth ≤ 40 ∧ d.shown.length ≤ 1000000 then .ok (.str d.shown.cps.toList) m else .bad
def bRepr (ws : List W) (m : Mem) : R W := match ws with
  | [.tup ws] => match datX m 30 (.tup ws) with | some d => reprD d m | none => .bad
  | [.ref n] => match datX m 30 (.ref n) with | some d => reprD d m | none => .bad
  | [.int i] => if i.natAbs.log2 < 1920 then .ok (.str (dec i)) m else .bad
  | _ => .bad
theorem reprD_cases {d : PyData} {m : Mem} : ((d.showable = true ∧ d.depth ≤ 40 ∧ d.shown.length ≤ 1000000) ∧ reprD d m = .ok (.str d.shown.cps.toList) m) ∨ reprD d m = .bad := by
  unfold reprD
  split
  · rename_i h; exact .inl ⟨h, rfl⟩
  · exact .inr rfl
theorem f_repr {k : Nat} (hK : X.K = g.K) (hr : Rm k X.A) (hs : X.base.get? sysModules ≠ none) : Fn g X wx (fun us => call (.builtin "repr") us) bRepr := by
  refine ⟨fun pins s m ρ H τ xs vs us Q I S rx ru o => ?_⟩
  have go : ∀ (x : W) (a : Addr), VR g ρ H x (.ref a) → xs = [x] → us = [.ref a] → Out g wx τ ρ H (match datX m 30 x with | some d => reprD d m | none => .bad) (fun w m' ρ' H' => ∀ v u s', Inv X pins τ H' s' → VR g ρ' H' w v → RelV v u → Q u s') → wpAny (model X.prog X.w) X.A (call (.builtin "repr") us) Q X.xe s := by
    intro x a r e1 e2 o
    subst e2
    split at o
    · rename_i d hd
      rcases reprD_cases (d := d) (m := m) with ⟨⟨h1, h3, h4⟩, h5⟩ | h
      · rw [h5] at o
        obtain ⟨as, rd, hn⟩ := datX_reads hK I S hs 30 x _ (.ref a) d r rfl hd
        refine PySem.repr_of_reads' rd h1 (fun _ => hn) hr.g (by have := hr.r.units; omega) (fun _ _ q => q) (fun h' u tk hk => ?_) (by rw [sizeLine_eq]; omega)
        exact Out.here o S (.str d.shown) _ _ (I.kept hk) (by have := VR.str (g := g) (ρ := ρ) (H := H) d.shown.cps.toList; rw [S_of] at this; exact this) ⟨u, rfl⟩
      · rw [h] at o; exact o.elim
    · exact o.elim
  unfold bRepr at o
  split at o
  · rename_i ws
    obtain ⟨v, rfl, r⟩ := rx.inv1
    cases ru with
    | cons r1 r2 =>
      cases r2
      cases r with
      | tup h rv => cases r1; exact go _ _ (.tup h rv) rfl rfl o
  · obtain ⟨v, rfl, r⟩ := rx.inv1
    cases ru with
    | cons r1 r2 =>
      cases r2
      cases r with
      | ref h => cases r1; exact go _ _ (.ref h) rfl rfl o
  · rename_i i
    obtain ⟨v, rfl, r⟩ := rx.inv1
    cases r
    split at o
    · rename_i h
      refine thn (SkE.call_repr_int pins s τ H [.int i] us (fun v H' => ∀ u s', Inv X pins τ H' s' → RelV v u → Q u s') I ru ⟨i, rfl, h, fun u s' I' ru' => ?_⟩) fun u1 s1 ⟨v1, H1, I1, r1, q⟩ => q u1 s1 I1 r1
      refine Out.here o S _ u s' I' ?_ ru'
      have := VR.str (g := g) (ρ := ρ) (H := H) (dec i)
      unfold dec at this
      rw [S_of] at this
      exact this
    · exact o.elim
  · exact o.elim

/-! ### starred items -/
def itemsW (x : W) (m : Mem) : R (List W) := match x with
  | .tup ws => .ok ws m
  | .ref n => match m[n]? with
    | some (.lst ws) => .ok ws m
    | _ => .bad
  | _ => .bad
def aStar (f : DE) (r : DL) : DL := fun σ m => (f σ m).bind fun x m1 => (itemsW x m1).bind fun ws m2 => (r σ m2).bind fun xs m3 => .ok (ws ++ xs) m3
def aStarL (f : DL) (r : DL) : DL := fun σ m => (f σ m).bind fun ws m1 => (r σ m1).bind fun xs m3 => .ok (ws ++ xs) m3
theorem items_ok {x : W} {v : V} {u : Value} {Q : List W → Mem → List Addr → Hp → Prop} (hK : X.K = g.K) (S : Sim g ρ m H) (r : VR g ρ H x v) (ru : RelV v u) (o : Out g wx τ ρ H (itemsW x m) Q) :
    ∃ a ws vs, u = .ref a ∧ (SqT X.K H a vs ∨ SqL X.K H a vs) ∧ VRs g ρ H ws vs ∧ Q ws m ρ H := by
  unfold itemsW at o
  split at o
  · cases r with
    | tup h rv => cases ru; exact ⟨_, _, _, rfl, .inl (by rw [hK]; exact h), rv, Out.here o S⟩
  · cases r with
    | @ref _ p hp =>
      cases ru
      split at o
      · rename_i ws hm
        obtain ⟨vs, h1, rv⟩ := obj_lst S hp hm
        exact ⟨_, _, _, rfl, .inr (SqL.of h1), rv, Out.here o S⟩
      · exact o.elim
  · exact o.elim
theorem sa_star {es : List Expr} {fs : DL} {p : Pos} (hK : X.K = g.K) (he : SE g X wx e fe) (hr : SA g X wx es fs) (hs : starEach (.Starred e p :: es) X.env = (true, eval e X.env) :: starEach es X.env := by exact star2) : SA g X wx (.Starred e p :: es) (aStar fe fs) := by
  refine ⟨fun pos pins s σ m ρ H τ Q I S L o => ?_⟩
  refine PySem.W.items_star (he.run pins s σ m ρ H τ _ I S L ((o.bind S).imp fun x m1 ρ1 H1 P1 S1 o1 v u s1 I1 rv ru => ?_)) hs
  obtain ⟨a, ws, vs, rfl, hq, rvs, o2⟩ := items_ok hK S1 rv ru (o1.bind S1)
  refine StX.star_any I1 hq fun us s2 I2 rus => ?_
  refine hr.run pos pins s2 σ m1 ρ1 H1 τ _ I2 S1 (L.post S P1) ((o2.bind S1).imp fun xs m3 ρ3 H3 P3 S3 o3 ys us2 s3 I3 r3 ru3 => ?_)
  exact Out.here o3 S3 (vs ++ ys) (us ++ us2) s3 I3 ((rvs.post S1 P3).append r3) (rus.append ru3)
theorem sa_starL {es : List Expr} {fs : DL} {p : Pos} (he : SL g X wx e fl) (hr : SA g X wx es fs) (hs : starEach (.Starred e p :: es) X.env = (true, eval e X.env) :: starEach es X.env := by exact star2) : SA g X wx (.Starred e p :: es) (aStarL fl fs) := by
  refine ⟨fun pos pins s σ m ρ H τ Q I S L o => ?_⟩
  refine PySem.W.items_star (he.run pins s σ m ρ H τ _ I S L ((o.bind S).imp fun ws m1 ρ1 H1 P1 S1 o1 p vs s1 I1 h0 hp hn rvs => ?_)) hs
  refine StX.star_any I1 (.inr (SqL.of hp)) fun us s2 I2 rus => ?_
  refine hr.run pos pins s2 σ m1 ρ1 H1 τ _ I2 S1 (L.post S P1) ((o1.bind S1).imp fun xs m3 ρ3 H3 P3 S3 o3 ys us2 s3 I3 r3 ru3 => ?_)
  exact Out.here o3 S3 (vs ++ ys) (us ++ us2) s3 I3 ((rvs.post S1 P3).append r3) (rus.append ru3)

/-! ### methods of texts -/
def eM1 (fn : W → W → Mem → R W) (fo fe : DE) : DE := fun σ m => (fo σ m).bind fun x m1 => match x with
  | .str l => (fe σ m1).bind fun y m2 => fn (.str l) y m2
  | _ => .bad
def Mr1 (g : G) (wx : WX) (r : V → List V → Hp → VK → Prop) (fn : W → W → Mem → R W) : Prop := Rr2 g wx (fun v z H Q => r v [z] H Q) fn
theorem se_m1 {id : String} {name : Str} {apos pos : Pos} {r : V → List V → Hp → VK → Prop} {fn : W → W → Mem → R W} (slot : Slot "str" name id) (ty : typeOf (.builtin id) = pure (.type "method_descriptor")) (rule : MtR X id r) (hr : Mr1 g wx r fn) (ho : SE g X wx o fo) (he : SE g X wx e fe)
    (hs : starEach [e] X.env = [(false, eval e X.env)] := by rfl) (hbase : attributeBase o name X.env (eval o X.env) = eval o X.env := by rfl) (hline : (apos.endLine == pos.line) = true := by rfl) :
    SE g X wx (.Call (.Attribute o name apos) [e] [] pos) (eM1 fn fo fe) :=
  SE.ofPE (pe_m1 slot ty rule ho.pe he.pe hs hbase hline) fun σ m ρ H τ Q S L oo => ⟨σ, m, ρ, S, L, (oo.bind S).imp fun x m1 ρ1 H1 P1 S1 o1 v rv => by
    cases rv with
    | str l => exact ⟨⟨_, rfl⟩, σ, m1, ρ1, S1, L.post S P1, (o1.bind S1).imp fun y m2 ρ2 H2 P2 S2 o2 z rz => hr m2 ρ2 H2 τ (.str l) y _ z Q S2 (.str l) rz o2⟩
    | _ => exact o1.elim⟩
def strsW : List W → Option (List (List Nat))
  | [] => some []
  | .str b :: ws => (strsW ws).map (b :: ·)
  | _ :: _ => none
theorem strs_V : ∀ {ws : List W} {vs : List V} {bs : List (List Nat)}, VRs g ρ H ws vs → strsW ws = some bs → vs = (bs.map Sh.S).map V.str
  | _, _, _, .nil, h => by cases h; rfl
  | _, _, bs, .cons (w := w) r rr, h => by
    cases w with
    | str b =>
      cases r
      simp only [strsW, Option.map_eq_some_iff] at h
      obtain ⟨cs, h1, rfl⟩ := h
      rw [strs_V rr h1]; rfl
    | _ => simp [strsW] at h
def joinW (a : List Nat) (ws : List W) (m : Mem) : R W := match strsW ws with
  | some ys => if (ys.map (·.length)).sum + ys.length * a.length ≤ 1000000 then .ok (.str (TL.joinL a ys)) m else .bad
  | none => .bad
theorem joinW_out {a : List Nat} {ws : List W} {vs : List V} {Q : VK} (S : Sim g ρ m H) (r : VRs g ρ H ws vs) (o : Out g wx τ ρ H (joinW a ws m) (fun w m' ρ' H' => ∀ v, VR g ρ' H' w v → Q v H')) :
    ∃ ys : List Str, vs = ys.map V.str ∧ (ys.map (·.length)).sum + ys.length * (Sh.S a).length ≤ 16777216 ∧ Q (.str (Txt.join (Sh.S a) ys)) H := by
  unfold joinW at o
  split at o
  · rename_i ys h
    split at o
    · rename_i hl
      refine ⟨_, strs_V r h, ?_, ?_⟩
      · rw [SX.lens, List.length_map, S_len]; omega
      · rw [SX.join_S]; exact Out.ok0 S o (.str _)
    · exact o.elim
  · exact o.elim
/-- sep.join(fresh list) -/
def eJoinL (fo : DE) (fl : DL) : DE := fun σ m => (fo σ m).bind fun x m1 => match x with
  | .str a => (fl σ m1).bind fun ws m2 => joinW a ws m2
  | _ => .bad
theorem se_joinL {apos pos : Pos} (ho : SE g X wx o fo) (he : SL g X wx e fl) (hs : starEach [e] X.env = [(false, eval e X.env)] := by rfl) (hbase : attributeBase o "join" X.env (eval o X.env) = eval o X.env := by rfl) (hline : (apos.endLine == pos.line) = true := by rfl) :
    SE g X wx (.Call (.Attribute o "join" apos) [e] [] pos) (eJoinL fo fl) :=
  SE.ofPE (pe_join ho.pe he.pe hs hbase hline) fun σ m ρ H τ Q S L oo => ⟨σ, m, ρ, S, L, (oo.bind S).imp fun x m1 ρ1 H1 P1 S1 o1 v rv => by
    cases rv with
    | str a => exact ⟨⟨_, rfl⟩, σ, m1, ρ1, S1, L.post S P1, (o1.bind S1).imp fun ws m2 ρ2 H2 P2 S2 o2 p vs h0 hp hn r => by
        obtain ⟨ys, rfl, h2, h3⟩ := joinW_out S2 r o2
        exact ⟨_, p, ys, rfl, rfl, .inl (SqL.of hp), h2, h3⟩⟩
    | _ => exact o1.elim⟩
def wJoin (x y : W) (m : Mem) : R W := match x with
  | .str a => (itemsW y m).bind fun ws m1 => joinW a ws m1
  | _ => .bad
/-- a.split(b), as a fresh list -/
def splitW (x y : W) (m : Mem) : R (List W) := match x, y with
  | .str a, .str b => if b ≠ [] ∧ b.all (· < 256) = true ∧ a.length ≤ 1000000 then .ok ((TL.spl b 0 [] a).map W.str) m else .bad
  | _, _ => .bad
def lSplit (fo fe : DE) : DL := fun σ m => (fo σ m).bind fun x m1 => match x with
  | .str l => (fe σ m1).bind fun y m2 => splitW (.str l) y m2
  | _ => .bad
theorem strs_R : ∀ {ys : List (List Nat)}, VRs g ρ H (ys.map W.str) ((ys.map Sh.S).map V.str)
  | [] => .nil
  | y :: ys => .cons (.str y) strs_R
theorem SL.ofPE {f : DL} {t : TE} (he : PE X e t)
    (h : ∀ (σ : Loc) (m : Mem) (ρ : List Addr) (H : Hp) (τ : L2.St) (Q : VK), Sim g ρ m H → LR g ρ H σ τ → Out g wx τ ρ H (f σ m) (fun ws m' ρ' H' => ∀ p vs, H p = none → H' p = some (.lst vs) → p ∉ ρ' → VRs g ρ' H' ws vs → Q (.ref p) H') → t τ H Q) : SL g X wx e f := by
  refine ⟨fun pins s σ m ρ H τ Q I S L o => ?_⟩
  refine thn (he.run pins s τ H (fun v H' => ∀ u s', Inv X pins τ H' s' → RelV v u → Q u s') I (h σ m ρ H τ _ S L ?_)) fun u s1 ⟨v, H1, I1, r1, q⟩ => q u s1 I1 r1
  exact o.imp fun ws m' ρ' H' _ _ k p vs h0 hp hn r u s' I' ru => by cases ru; exact k p vs s' I' h0 hp hn r
theorem sl_split {apos pos : Pos} (ho : SE g X wx o fo) (he : SE g X wx e fe) (hs : starEach [e] X.env = [(false, eval e X.env)] := by rfl) (hbase : attributeBase o "split" X.env (eval o X.env) = eval o X.env := by rfl) (hline : (apos.endLine == pos.line) = true := by rfl) :
    SL g X wx (.Call (.Attribute o "split" apos) [e] [] pos) (lSplit fo fe) :=
  SL.ofPE (pe_split ho.pe he.pe hs hbase hline) fun σ m ρ H τ Q S L oo => ⟨σ, m, ρ, S, L, (oo.bind S).imp fun x m1 ρ1 H1 P1 S1 o1 v rv => by
    cases rv with
    | str a => exact ⟨⟨_, rfl⟩, σ, m1, ρ1, S1, L.post S P1, (o1.bind S1).imp fun y m2 ρ2 H2 P2 S2 o2 z rz => by
        unfold splitW at o2
        split at o2
        · rename_i a' b e1
          cases e1
          cases rz
          split at o2
          · rename_i hc
            refine ⟨_, _, rfl, rfl, ?_, by rw [S_len, sizeLine_eq]; omega, fun p hp => ?_⟩
            · rw [S_len]
              have := hc.1
              cases b with
              | nil => exact absurd rfl this
              | cons c r => rfl
            · rw [SX.split_S hc.1 hc.2.1]
              obtain ⟨P3, S3⟩ := S2.junk (u := .lst (((TL.spl b 0 [] a).map Sh.S).map V.str)) hp
              exact o2 _ _ P3 S3 p _ ((P1.then P2 S S1).back S S2 hp) upd_same (fun z => S2.isSm z hp) strs_R
          · exact o2.elim
        · exact o2.elim⟩
    | _ => exact o1.elim⟩
def wRmPre (x y : W) (m : Mem) : R W := match x, y with
  | .str a, .str b => if a.length ≤ 1000000 then .ok (.str (Txt.removeprefix (Sh.S a) (Sh.S b)).cps.toList) m else .bad
  | _, _ => .bad
theorem mr_rmPre : Mr1 g wx (fun x xs H Q => ∃ a b, x = .str a ∧ xs = [.str b] ∧ a.length ≤ sizeLine ∧ Q (.str (Txt.removeprefix a b)) H) wRmPre := by
  intro m ρ H τ x y v z Q S rx ry o
  unfold wRmPre at o
  split at o
  · rename_i a b
    cases rx; cases ry
    split at o
    · rename_i hl
      refine ⟨_, _, rfl, rfl, by rw [S_len]; exact sizeM hl, ?_⟩
      have := Out.ok0 S o (.str _)
      rw [S_of] at this
      exact this
    · exact o.elim
  · exact o.elim
theorem se_rmPre {apos pos : Pos} (ho : SE g X wx o fo) (he : SE g X wx e fe) (hs : starEach [e] X.env = [(false, eval e X.env)] := by rfl) (hbase : attributeBase o "removeprefix" X.env (eval o X.env) = eval o X.env := by rfl) (hline : (apos.endLine == pos.line) = true := by rfl) :
    SE g X wx (.Call (.Attribute o "removeprefix" apos) [e] [] pos) (eM1 wRmPre fo fe) := se_m1 PySem.F.slot_str_removeprefix PySem.F.type_str_removeprefix mt_removeprefix mr_rmPre ho he hs hbase hline
/-- xs.append(v) -/
def wApp (x y : W) (m : Mem) : R W := match x with
  | .ref n => match m[n]? with
    | some (.lst ws) => if ws.length < 1000000 then .ok .non (m.set n (.lst (ws ++ [y]))) else .bad
    | _ => .bad
  | _ => .bad
def isLst (m : Mem) (x : W) : Bool := match x with
  | .ref n => match m[n]? with | some (.lst _) => true | _ => false
  | _ => false
def eApp (fo : DE) (fs : DL) : DE := fun σ m => (fo σ m).bind fun x m1 => if isLst m1 x = true then (fs σ m1).bind fun ys m2 => match ys with | [y] => wApp x y m2 | _ => .bad else .bad
theorem isLst_V {x : W} {v : V} (S : Sim g ρ m H) (h : isLst m x = true) (r : VR g ρ H x v) : ∃ n p ws vs, x = .ref n ∧ v = .ref p ∧ ρ[n]? = some p ∧ m[n]? = some (.lst ws) ∧ H p = some (.lst vs) ∧ VRs g ρ H ws vs := by
  unfold isLst at h
  split at h
  · rename_i n
    split at h
    · rename_i ws hm
      cases r with
      | @ref _ p hp =>
        obtain ⟨vs, h1, rv⟩ := obj_lst S hp hm
        exact ⟨_, _, _, _, rfl, rfl, hp, hm, h1, rv⟩
    · cases h
  · cases h
theorem se_app {fs : DL} {apos pos : Pos} (ho : SE g X wx o fo) (ha : SA g X wx [e] fs) (hbase : attributeBase o "append" X.env (eval o X.env) = eval o X.env := by rfl)
    (hfew : ((backTo pos (starEach (e :: []) X.env)).all (fun x => !x.1) && (backToKw pos (keywordEach [] X.env)).all (fun x => x.1.isSome)
      && decide ((e :: []).length + ([] : List Keyword).length + (if ([] : List Keyword).isEmpty then 0 else 1) < 30)) = true := by rfl)
    (hline : (apos.endLine == pos.line) = true := by rfl) (hs : starEach (e :: []) X.env = (false, eval e X.env) :: starEach [] X.env := by exact star1 rfl) (hplain : (backTo pos (starEach [] X.env)).any (·.1) = false := by rfl) :
    SE g X wx (.Call (.Attribute o "append" apos) [e] [] pos) (eApp fo fs) :=
  SE.ofPE (pe_bm PySem.F.plainAttrs_list PySem.F.slot_list_append PySem.F.type_list_append mt_append ho.pe ha.pa hbase hfew hline hs hplain) fun σ m ρ H τ Q S L oo => ⟨σ, m, ρ, S, L, (oo.bind S).imp fun x m1 ρ1 H1 P1 S1 o1 v rv => by
    split at o1
    · rename_i hx
      obtain ⟨n, p, ws, vs, rfl, rfl, hp, hm, hH, rvs⟩ := isLst_V S1 hx rv
      refine ⟨.inl ⟨rfl, vs, SqL.of hH⟩, σ, m1, ρ1, S1, L.post S P1, (o1.bind S1).imp fun ys m2 ρ2 H2 P2 S2 o2 zs rz => ?_⟩
      split at o2
      · rename_i y
        obtain ⟨z, rfl, rz1⟩ := rz.inv1
        unfold wApp at o2
        simp only at o2
        split at o2
        · rename_i ws2 hm2
          split at o2
          · rename_i hl
            obtain ⟨vs2, h2, rv2⟩ := obj_lst S2 (P2.get hp) hm2
            refine ⟨p, vs2, z, rfl, rfl, h2, by rw [← rv2.length]; exact sizeM' (by omega), ?_⟩
            obtain ⟨P4, S4⟩ := S2.set (u := .lst (vs2 ++ [z])) (o := .lst (ws2 ++ [y])) (P2.get hp) ⟨_, rfl, rv2.append (.cons rz1 .nil)⟩
            exact o2 _ _ P4 S4 _ .non
          · exact o2.elim
        · exact o2.elim
      · exact o2.elim
    · exact o1.elim⟩
end
end Sh

namespace Sh
open PySem PySem.Spec L2
open PyProof.Rows (envOfC)

/-! ### types of values -/
inductive Tc where | bi (n : String) | own (c : String) | xc (c : String)
  deriving DecidableEq
def Tc.val (g : G) : Tc → Value | .bi n => .type n | .own c => .ref (g.cl c) | .xc c => .ref (g.cl c)
def tyc (x : W) (m : Mem) : Option Tc := match x with
  | .non => some (.bi "NoneType")
  | .bl _ => some (.bi "bool")
  | .int _ => some (.bi "int")
  | .str _ => some (.bi "str")
  | .tup _ => some (.bi "tuple")
  | .ref n => match m[n]? with
    | some (.lst _) => some (.bi "list")
    | some (.dK _) => some (.bi "dict")
    | some (.dT _) => some (.bi "dict")
    | some (.ins c _) => some (.own c)
    | some (.exc c _) => some (.xc c)
    | some (.exh c _ _) => some (.xc c)
    | _ => none
  | _ => none
/-- of a class: what isinstance reads -/
structure InsK (K : PySem.W.Frag) (C : Addr) : Prop where
  cl : Cls K C
  at_ : PySem.W.findIn K (.ref C) "__class__" = some (some (.builtin "object.__class__"))
  get : PySem.W.specialIn K (.builtin "object.__class__") "__get__" = some (some (.builtin "getset_descriptor.__get__"))
  tak : PySem.W.takesIn K (.builtin "object.__class__") = some true
  mro : PySem.W.mroIn K C (.type "object") = some true
/-- of an exception's class: what isinstance reads -/
structure XisK (K : PySem.W.Frag) (C : Addr) : Prop where
  cl : (PySem.W.clsIn K C).isSome = true
  ga : PySem.W.findIn K (.ref C) "__getattribute__" = some (some (.builtin "BaseException.__getattribute__"))
  gt : PySem.W.findIn K (.ref C) "__getattr__" = some none
  be : PySem.W.subIn K (.ref C) (.type "BaseException") = some true
  at_ : PySem.W.findIn K (.ref C) "__class__" = some (some (.builtin "object.__class__"))
  get : PySem.W.specialIn K (.builtin "object.__class__") "__get__" = some (some (.builtin "getset_descriptor.__get__"))
  tak : PySem.W.takesIn K (.builtin "object.__class__") = some true
  mro : PySem.W.mroIn K C (.type "object") = some true
  hd : PySem.W.hasDictIn K C = true
section
variable {g : G} {X : Cx} {wx : WX} {τ : L2.St} {ρ ρ' : List Addr} {H H' : Hp} {m m' : Mem} {e a b c o : Expr} {fa fb fc fo fe : DE} {fl : DL} {pos : Pos} {pins : List (Addr × Obj)} {s : Shared}
theorem tyx_of {x : W} {v : V} {t : Tc} (hK : X.K = g.K) (S : Sim g ρ m H) (r : VR g ρ H x v) (e : tyc x m = some t) (hI : ∀ c, t = .own c → InsK X.K (g.cl c)) (hx : ∀ c, t ≠ .xc c) : TyX X.K H v (t.val g) := by
  unfold tyc at e
  split at e
  · cases e; cases r; exact .base .non
  · cases e; cases r; exact .base (.bl _)
  · cases e; cases r; exact .base (.int _)
  · cases e; cases r; exact .base (.str _)
  · cases e
    cases r with
    | tup h rv =>
      rw [← hK] at h
      rcases h with h | ⟨o, its, n, h1, h2, _⟩
      · rcases h with h | ⟨ob, h⟩
        · exact .base (.tup h)
        · exact .fTuple h
      · exact .kTuple h1 h2
  · cases r with
    | @ref n p hp =>
      split at e
      · rename_i ws hm
        cases e
        obtain ⟨vs, h1, _⟩ := obj_lst S hp hm
        exact .base (.lst h1)
      · rename_i kvs hm
        cases e
        obtain ⟨u, h1, vs, e1, _⟩ := S.obj _ p _ hp hm
        subst e1
        exact .base (.dK h1)
      · rename_i kvs hm
        cases e
        obtain ⟨u, h1, vs, e1, _⟩ := S.obj _ p _ hp hm
        subst e1
        exact .base (.dT h1)
      · rename_i c fs hm
        cases e
        obtain ⟨u, h1, dx, gs, e1, _⟩ := S.obj _ p _ hp hm
        subst e1
        have q := hI c rfl
        exact .base (.ins h1 q.cl q.at_ q.get q.tak q.mro)
      · cases e; exact absurd rfl (hx _)
      · cases e; exact absurd rfl (hx _)
      · cases e
  · cases e
/-- a held exception as the library sees it -/
theorem exc_inst {n : Nat} {a : Addr} {c : String} {fs : List (List Nat × W)} (I : Inv X pins τ H s) (S : Sim g ρ m H) (ha : ρ[n]? = some a) (hm : m[n]? = some (.exc c fs) ∨ ∃ msg, m[n]? = some (.exh c fs msg)) :
    ∃ oe od gs, PySem.W.InstAt s.heap a oe (g.cl c) od ∧ FR g ρ H fs gs ∧ ∀ f v, gs.lookup f = some v → ∃ oo u, od = some oo ∧ PySem.W.lookIn f oo = some (some u) ∧ RelV v u := by
  obtain ⟨u, h1, oe, vs, d, gs, e1, e2, e3, e4, hx, rf⟩ : ∃ u, H a = some u ∧ ∃ oe vs d gs, u = .frz oe (.own 0) ∧ oe.cls = .ref (g.cl c) ∧ oe.dict = d ∧ oe.data = .fields vs ∧ XD H d gs ∧ FR g ρ H fs gs := by
    rcases hm with hm | ⟨msg, hm⟩
    · exact S.obj n a _ ha hm
    · obtain ⟨u, h1, oe, vs, d, gs, tt, e1, e2, e3, e4, hx, rf, _⟩ := S.obj n a _ ha hm
      exact ⟨u, h1, oe, vs, d, gs, e1, e2, e3, e4, hx, rf⟩
  subst e1
  have hg : s.heap.get? a = some oe := (show ObjOk X.prog X.w H s.heap a (.frz oe (.own 0)) from I.hok a _ h1).1
  have hno : PySem.W.notCls oe = true := by unfold PySem.W.notCls; rw [e4]
  cases d with
  | none => exact ⟨oe, none, gs, ⟨hg, e2, hno, by rw [e3]; trivial⟩, rf, fun f v hf => by have hx : gs = [] := hx; subst hx; cases hf⟩
  | some dd =>
    have hx : H dd = some (.xd gs) := hx
    obtain ⟨mA, hns, hr⟩ := (show ObjOk X.prog X.w H s.heap dd (.xd gs) from I.hok dd _ hx)
    obtain ⟨od, ho, hl⟩ := lookIn_ns hns
    refine ⟨oe, some od, gs, ⟨hg, e2, hno, by rw [e3]; exact ho⟩, rf, fun f v hf => ?_⟩
    obtain ⟨u, hu, ru⟩ := RelO.some_of (v := v) (o := mA f) (by rw [← hf]; exact hr f)
    exact ⟨od, u, rfl, by rw [hl, hu], ru⟩
theorem kitw_of {x : W} {v : V} {u : Value} {t : Tc} (hK : X.K = g.K) (I : Inv X pins τ H s) (S : Sim g ρ m H) (r : VR g ρ H x v) (ru : RelV v u) (e : tyc x m = some t) (hI : ∀ c, t = .own c → InsK X.K (g.cl c)) (hX : ∀ c, t = .xc c → XisK X.K (g.cl c)) :
    ∃ P : Heap → Prop, PySem.W.KitX X.K u (t.val g) P ∧ P s.heap ∧ u ≠ .builtin "__main__.__loader__#opaque" := by
  by_cases hx : ∃ c, t = .xc c
  · obtain ⟨c, rfl⟩ := hx
    have key : ∃ n fs, x = .ref n ∧ (m[n]? = some (.exc c fs) ∨ ∃ msg, m[n]? = some (.exh c fs msg)) := by
      unfold tyc at e
      split at e <;> first | (cases e; done) | skip
      rename_i n
      split at e <;> first | (cases e; done) | skip
      · rename_i c' fs hm
        cases e
        exact ⟨n, fs, rfl, .inl hm⟩
      · rename_i c' fs msg hm
        cases e
        exact ⟨n, fs, rfl, .inr ⟨msg, hm⟩⟩
    obtain ⟨n, fs, rfl, hm⟩ := key
    cases r with
    | @ref n a ha =>
      obtain rfl : u = Value.ref a := ru
      obtain ⟨oe, od, gs, J, _⟩ := exc_inst I S ha hm
      have q := hX c rfl
      exact ⟨_, PySem.W.kitx_exc (od := od) (ox := oe) q.cl q.ga q.gt q.be q.at_ q.get q.tak q.mro, J, fun z => nomatch z⟩
  · exact kit_of I ru (tyx_of hK S r e hI fun c z => hx ⟨c, z⟩)

/-! ### isinstance -/
structure IsiK (K : PySem.W.Frag) (g : G) (it : Tc → Tc → Option Bool) : Prop where
  ins : ∀ c d b, it (.own c) d = some b → InsK K (g.cl c)
  exc : ∀ c d b, it (.xc c) d = some b → XisK K (g.cl c)
  one : ∀ t d b, it t d = some b → PySem.W.kitOne K (t.val g) (d.val g) = some b
def clsT (x : W) : Option Tc := match x with | .cls c => some (.own c) | .ty n => some (.bi n) | _ => none
def isi1 (it : Tc → Tc → Option Bool) (x y : W) (m : Mem) : Option Bool := match tyc x m, clsT y with
  | some t, some d => it t d
  | _, _ => none
def bIsi (it : Tc → Tc → Option Bool) (ws : List W) (m : Mem) : R W := match ws with
  | [x, y] => match isi1 it x y m with | some b => .ok (.bl b) m | none => .bad
  | _ => .bad
theorem clsT_val {y : W} {d : Tc} {v : V} {u : Value} (h : clsT y = some d) (r : VR g ρ H y v) (ru : RelV v u) : u = d.val g := by
  unfold clsT at h
  split at h
  · cases h; cases r; exact ru
  · cases h; cases r; exact ru
  · cases h
theorem f_isi {it : Tc → Tc → Option Bool} (hK : X.K = g.K) (hI : IsiK X.K g it) : Fn g X wx (fun us => call (.builtin "isinstance") us) (bIsi it) := by
  refine ⟨fun pins s m ρ H τ xs vs us Q I S rx ru o => ?_⟩
  unfold bIsi at o
  split at o
  · rename_i x y
    obtain ⟨v, z, rfl, rv, rz⟩ := rx.inv2
    split at o
    · rename_i b hb
      unfold isi1 at hb
      split at hb
      · rename_i t d ht hd
        obtain ⟨u1, u2, rfl, r1, r2⟩ := vals2 ru
        obtain rfl := clsT_val hd rz r2
        obtain ⟨P, Z, p, hx⟩ := kitw_of hK I S rv r1 ht (fun c hc => by subst hc; exact hI.ins c d b hb) (fun c hc => by subst hc; exact hI.exc c d b hb)
        exact PySem.W.kia_one Z I.kIn p (hI.one t d b hb) hx fun tk => Out.here o S (.bl b) _ _ (I.tok tk) (.bl b) rfl
      · cases hb
    · exact o.elim
  · exact o.elim

/-! ### == and != by an own __eq__ -/
structure EqK (P : Program) (w : World) (K : PySem.W.Frag) (mg : Str → Option Value) (base : Heap) (g : G) (c : String) (k : Nat) (F : DF) : Prop where
  ex : ∃ (ga : Addr) (fd : FuncData) (ps : List Str), Cls K (g.cl c) ∧ PySem.W.findIn K (.ref (g.cl c)) "__eq__" = some (some (.ref ga)) ∧ PySem.W.isFn K (.ref ga) = true ∧ Binds K fd ps [] ∧ Arity ps.length F ∧ FnG P w K mg base k ga fd ps (spOf g F ps.length)
  ne : PySem.W.findIn K (.ref (g.cl c)) "__ne__" = some (some (.builtin "object.__ne__"))
  mro : PySem.W.mroIn K (g.cl c) (.type "object") = some true
structure EqT (P : Program) (w : World) (K : PySem.W.Frag) (mg : Str → Option Value) (base : Heap) (g : G) (k : Nat) (tbl : String → Option DF) (nf : String → Tc → Bool) : Prop where
  eq : ∀ c F, tbl c = some F → EqK P w K mg base g c k F
  fst : ∀ c t, nf c t = true → PySem.W.notFirst K (g.cl c) (t.val g) = true
  ins : ∀ c d, nf c (.own d) = true → InsK K (g.cl d)
  exc : ∀ c d, nf c (.xc d) = true → XisK K (g.cl d)
/-- what == answers: own __eq__ where x is an instance, else by data -/
def eqB (tbl : String → Option DF) (nf : String → Tc → Bool) (x y : W) (m : Mem) : R W := match insOf m x with
  | some (c, _) => match tbl c, tyc y m with
    | some F, some t => if nf c t = true then (F [x, y] m).nox.bind fun w m1 => match w with | .bl b => .ok (.bl b) m1 | _ => .bad else .bad
    | _, _ => .bad
  | none => wEq0 x y m
def neB (tbl : String → Option DF) (nf : String → Tc → Bool) (x y : W) (m : Mem) : R W := match insOf m x with
  | some (c, _) => match tbl c, tyc y m with
    | some F, some t => if nf c t = true then (F [x, y] m).nox.bind fun w m1 => match w with | .bl b => .ok (.bl (!b)) m1 | _ => .bad else .bad
    | _, _ => .bad
  | none => wNe0 x y m
section
variable {prog : Program} {w : World} {A : Around} {E : Value → Shared → Prop} {K : PySem.W.Frag} {x C f : Addr} {ox : Obj} {od : Option Obj} {b tb : Value}
open Builtin in
theorem ne_K {Q : Value → Shared → Prop} (hu : A.units + 1 < cLine) (KX : K.In s.heap) (I : PySem.W.InstAt s.heap x ox C od) (hb : PySem.W.Looks (model prog w) s.heap (typeOf b) tb) (hn : PySem.W.notFirst K C tb = true)
    (hne : PySem.W.findIn K (.ref C) "__ne__" = some (some (.builtin "object.__ne__"))) (hm : PySem.W.mroIn K C (.type "object") = some true)
    (hs : PySem.W.findIn K (.ref C) "__eq__" = some (some (.ref f))) (hf : PySem.W.isFn K (.ref f) = true)
    (h : wpAny (model prog w) A.in1 (call (.ref f) [.ref x, b]) (fun v s' => ∃ k, v = .bool k ∧ Q (.bool (!k)) s') E s) : wpAny (model prog w) A (richCompare .NotEq (.ref x) b) Q E s := by
  have entry : ∀ {R : Fin → Shared → Prop} {A : Around}, A.units < cLine → wpAny (model prog w) A (call (.ref f) [.ref x, b]) (fun v s' => ∃ k, v = .bool k ∧ R (.done (.ret (.bool (!k)))) s') E s → wpAny (model prog w) A (Builtin.«object.__ne__» ⟨[.ref x, b], []⟩) R E s := by
    intro R A hu h
    obtain ⟨hh, gg, dd, tt, oo⟩ := s
    unfold Builtin.«object.__ne__»
    refine wpAny_bind (wpAny_pure ?_)
    refine wpAny_bind (wpAny_cRoomFor hu ?_)
    refine wpAny_bind (m := callSpecialIfBound? (.ref x) (Str.ofString "__eq__") [b]) (PySem.W.ifBound_K KX I hs hf (wpAny_mono h (fun v s' hv => ?_) fun _ _ e => e))
    obtain ⟨k, rfl, hq⟩ := hv
    repeat (first | exact hq | exact wpAny_pure hq | exact wpAny_truthy_bool hq | (refine wpAny_bind (m := truthy (.bool _)) (wpAny_truthy_bool ?_)) | wp_step)
  have one : wpAny (model prog w) A (tryCompare (.ref x) (cmpInfo .NotEq).2.1 b) (fun r s' => ∃ v, r = some v ∧ Q v s') E s := by
    unfold tryCompare
    refine wpAny_bind ?_
    show wpAny (model prog w) A (callSpecialIfBound? (.ref x) "__ne__" [b]) _ E s
    simp only [callSpecialIfBound?, bindSpecialIfBound?]
    refine wpAny_holding (wpAny_bind (wpAny_bind (wpAny_bind (I.type.here ((PySem.W.looks_findIn KX hne).here ?_)))))
    have hcall : wpAny (model prog w) A (call (.builtin "object.__ne__") ([.ref x] ++ [b])) (fun v s' => ∃ k, v = .bool (!k) ∧ Q (.bool (!k)) s') E s := by
      refine wpAny_call (codeAny_call_builtin F.cmp_object.ne.plain F.cmpEntry_ne (PySem.W.check_slot F.cmpKind_ne F.cmpSplit_ne ?_ (F.cmpArgs_ne _ _) ?_))
      · exact (I.type).andThen (PySem.W.looks_subIn KX hm)
      · refine entry (A := A.in1) (by show A.units + 1 < cLine; exact hu) (wpAny_mono h (fun v s' hv => ?_) fun _ _ e => e)
        obtain ⟨k, rfl, hq⟩ := hv
        exact ⟨k, rfl, k, rfl, hq⟩
    have fin : wpAny (model prog w) A (call (.builtin "object.__ne__") ([.ref x] ++ [b]) >>= fun v => pure (some v)) (fun r s' => ∃ k, r = some (.bool (!k)) ∧ Q (.bool (!k)) s') E s :=
      wpAny_bind (wpAny_mono hcall (fun v s' ⟨k, e, h'⟩ => wpAny_pure ⟨k, by rw [e], h'⟩) fun _ _ h' => h')
    refine wpAny_bind (wpAny_askSetting (wpAny_ite ?_))
    simp only [F.cmp_object.ne.bind]
    split
    · exact wpAny_bind (wpAny_pure (wpAny_pure (wpAny_mono fin (fun r s' ⟨k, e, h'⟩ => by subst e; exact wpAny_pure ⟨_, rfl, h'⟩) fun _ _ e => e)))
    · exact wpAny_tryCatch (wpAny_bind (wpAny_pure (wpAny_pure (wpAny_mono fin (fun r s' ⟨k, e, h'⟩ => by subst e; exact wpAny_pure ⟨_, rfl, h'⟩) fun _ _ e => e))))
  unfold richCompare
  simp only [oneThing_ref]
  refine wpAny_holding (wpAny_bind (wpAny_cRoomFor (by omega) ?_))
  refine wpAny_bind (I.type.here (wpAny_bind (hb.here ?_)))
  split
  · rename_i q
    have e : PySem.W.subIn K tb (.ref C) = some false := by
      rcases Bool.or_eq_true_iff.mp hn with e | e
      · rw [beq_iff_eq.mp e] at q; simp at q
      · exact beq_iff_eq.mp e
    refine wpAny_bind ((PySem.W.looks_subIn KX e).here ?_)
    simp only [Bool.false_eq_true, if_false]
    refine wpAny_bind (wpAny_mono one (fun r s' z => ?_) fun _ _ e => e)
    obtain ⟨v, rfl, hq⟩ := z
    exact wpAny_pure hq
  · refine wpAny_bind (wpAny_pure ?_)
    simp only [Bool.false_eq_true, if_false]
    refine wpAny_bind (wpAny_mono one (fun r s' z => ?_) fun _ _ e => e)
    obtain ⟨v, rfl, hq⟩ := z
    exact wpAny_pure hq
end
theorem eq_run {k : Nat} {F : DF} {ga : Addr} {fd : FuncData} {ps : List Str} {A' : Around} {x y : W} {v z : V} {u t : Value} {Q : Value → Shared → Prop} {E : Value → Shared → Prop} {k' : W → Mem → R W} (FO : FnG X.prog X.w X.K X.mg X.base k ga fd ps (spOf g F ps.length)) (hb : Binds X.K fd ps []) (ar : Arity ps.length F)
    (hr : Rm k A') (e0 : Env0 X.prog X.w X.K X.mg X.base A' X.stack s H) (I : Inv X pins τ H s) (S : Sim g ρ m H) (rx : VR g ρ H x v) (ru : RelV v u) (ry : VR g ρ H y z) (rt : RelV z t)
    (o : Out g wx τ ρ H ((F [x, y] m).nox.bind fun w m1 => match w with | .bl b => k' (.bl b) m1 | _ => .bad) (fun w m' ρ' H' => ∀ v u s', Inv X pins τ H' s' → VR g ρ' H' w v → RelV v u → Q u s')) :
    wpAny (model X.prog X.w) A' (call (.ref ga) [u, t]) (fun r s' => ∃ b ρ1 m1 H1, r = .bool b ∧ Inv X pins τ H1 s' ∧ Sim g ρ1 m1 H1 ∧ Out g wx τ ρ1 H1 (k' (.bl b) m1) (fun w m' ρ' H' => ∀ v u s', Inv X pins τ H' s' → VR g ρ' H' w v → RelV v u → Q u s')) E s := by
  have hl : [x, y].length = ps.length := by
    rcases ar.or [x, y] m with h | h
    · exact h
    · rw [h] at o; exact o.elim
  have hl2 : ps.length = 2 := hl.symm
  have hbd := hb s [u, t] I.kIn (by rw [hl2]; rfl)
  rw [List.append_nil] at hbd
  refine wpAny_call (codeAny_mono (FO.run A' X.stack s H ⟨[u, t], []⟩ [u, t] [v, z] (fun v' H' => ∃ b ρ1 m1, v' = .bl b ∧ Sim g ρ1 m1 H' ∧ Out g wx τ ρ1 H' (k' (.bl b) m1) (fun w m' ρ' H' => ∀ v u s', Inv X pins τ H' s' → VR g ρ' H' w v → RelV v u → Q u s')) (fun _ _ _ => False) hr e0 hbd (.cons ru (.cons rt .nil)) ⟨by rw [hl2]; rfl, [x, y], m, ρ, S, .cons rx (.cons ry .nil), ?_⟩) fun r s' hq => ?_)
  · cases hF : F [x, y] m with
    | ok w m1 =>
      rw [hF] at o
      cases w with
      | bl b =>
        intro ρ' H' v' P' S' rv
        cases rv
        exact ⟨b, ρ', m1, rfl, S', Out.from (r := k' (.bl b) m1) o P' S S'⟩
      | _ => exact o.elim
    | exc c fs m1 => rw [hF] at o; exact o.elim
    | bad => rw [hF] at o; exact o.elim
  · cases r with
    | error er =>
      obtain ⟨_, _, _, _, _, _, _, _, _, _, _, _, z⟩ := hq
      exact z.elim
    | ok fl =>
      cases fl with
      | ret u' =>
        obtain ⟨v', H', I3, rv, b, ρ1, m1, e1, S1, o1⟩ := I.after hq
        subst e1
        exact ⟨b, ρ1, m1, H', rv, I3, S1, o1⟩
      | next => exact False.elim hq
      | brk => exact False.elim hq
      | cont => exact False.elim hq
theorem f_eq {k : Nat} {tbl : String → Option DF} {nf : String → Tc → Bool} (hK : X.K = g.K) (hr : Rm k X.A) (T : EqT X.prog X.w X.K X.mg X.base g k tbl nf) : F2 g X wx (compareOp .Eq) (eqB tbl nf) := by
  refine ⟨fun pins s m ρ H τ x y v z u t Q I S rx ru ry rt o => ?_⟩
  unfold eqB at o
  split at o
  · rename_i c fs hins
    split at o
    · rename_i F t' hF ht
      split at o
      · rename_i hnf
        obtain ⟨n, rfl, hm⟩ := insOf_some hins
        cases rx with
        | @ref _ p hp =>
          obtain rfl : u = Value.ref p := ru
          obtain ⟨u1, h1, dx, gs, e1, rf⟩ := S.obj n p _ hp hm
          subst e1
          obtain ⟨⟨ga, fd, ps, cl, hs, hf, hb, ar, FO⟩, hne, hmro⟩ := T.eq c F hF
          obtain ⟨mA, J, _⟩ := ins_get I.hok h1
          obtain ⟨od, J, _⟩ := J.look
          obtain ⟨mm, hF'⟩ := I.fr
          obtain ⟨P, Z, pz, _⟩ := kitw_of hK I S ry rt ht (fun d hd => by subst hd; exact T.ins c d hnf) (fun d hd => by subst hd; exact T.exc c d hnf)
          refine PySem.W.cmp_K (op := .Eq) (tb := t'.val g) hr.r.units0 hF' I.ok.mod.kin J (Z.ty _ _ I.kIn pz) (T.fst c t' hnf) hs hf ?_
          refine wpAny_mono (eq_run (k' := fun w m1 => .ok w m1) (E := X.xe) FO hb ar hr I.env0 I S (.ref hp) rfl ry rt o) (fun r s' ⟨b, ρ1, m1, H1, e, I1, S1, o1⟩ => ?_) fun _ _ e => e
          subst e
          exact Out.here o1 S1 (.bl b) _ s' I1 (.bl b) rfl
      · exact o.elim
    · exact o.elim
  · exact (f_eq0 hK hr).run pins s m ρ H τ x y v z u t Q I S rx ru ry rt o
theorem f_ne {k : Nat} {tbl : String → Option DF} {nf : String → Tc → Bool} (hK : X.K = g.K) (hr : Rm (k + 1) X.A) (T : EqT X.prog X.w X.K X.mg X.base g k tbl nf) : F2 g X wx (compareOp .NotEq) (neB tbl nf) := by
  refine ⟨fun pins s m ρ H τ x y v z u t Q I S rx ru ry rt o => ?_⟩
  unfold neB at o
  split at o
  · rename_i c fs hins
    split at o
    · rename_i F t' hF ht
      split at o
      · rename_i hnf
        obtain ⟨n, rfl, hm⟩ := insOf_some hins
        cases rx with
        | @ref _ p hp =>
          obtain rfl : u = Value.ref p := ru
          obtain ⟨u1, h1, dx, gs, e1, rf⟩ := S.obj n p _ hp hm
          subst e1
          obtain ⟨⟨ga, fd, ps, cl, hs, hf, hb, ar, FO⟩, hne, hmro⟩ := T.eq c F hF
          obtain ⟨mA, J, _⟩ := ins_get I.hok h1
          obtain ⟨od, J, _⟩ := J.look
          obtain ⟨P, Z, pz, _⟩ := kitw_of hK I S ry rt ht (fun d hd => by subst hd; exact T.ins c d hnf) (fun d hd => by subst hd; exact T.exc c d hnf)
          show wpAny _ _ (richCompare .NotEq (.ref p) t) _ _ s
          refine ne_K (by have := hr.r.units; omega) I.kIn J (Z.ty _ _ I.kIn pz) (T.fst c t' hnf) hne hmro hs hf ?_
          refine wpAny_mono (eq_run (wx := wx) (Q := Q) (k' := fun w m1 => match w with | .bl b => .ok (.bl (!b)) m1 | _ => .bad) (E := X.xe) FO hb ar hr.in1 I.env0.in1 I S (.ref hp) rfl ry rt ?_) (fun r s' ⟨b, ρ1, m1, H1, e, I1, S1, o1⟩ => ?_) fun _ _ e => e
          · have e : ((F [.ref n, y] m).nox.bind fun w m1 => match w with | .bl b => (match W.bl b with | .bl b => R.ok (W.bl (!b)) m1 | _ => .bad) | _ => .bad) = ((F [.ref n, y] m).nox.bind fun w m1 => match w with | .bl b => .ok (.bl (!b)) m1 | _ => .bad) := rfl
            exact o
          · subst e
            exact ⟨b, rfl, Out.here o1 S1 (.bl (!b)) _ s' I1 (.bl (!b)) rfl⟩
      · exact o.elim
    · exact o.elim
  · exact (f_ne0 hK hr).run pins s m ρ H τ x y v z u t Q I S rx ru ry rt o

/-! ### C.x, C.m(..) of a class -/
structure CConK (K : PySem.W.Frag) (g : G) (c : String) (f : Str) (x : W) : Prop where
  rd : PySem.W.readsIn K (g.cl c) (.type "type") = true
  ex : ∃ v u, PySem.W.findCls K (.ref (g.cl c)) (.type "type") f = some (.val u) ∧ PySem.W.handedIn u = true ∧ RelV v u ∧ ∀ ρ H, VR g ρ H x v
theorem se_ccon {o : Expr} {c : String} {f : Str} {x : W} {pos : Pos} (ho : SE g X wx o (eC (.cls c))) (C : CConK X.K g c f x) (hb : attributeBase o f X.env (eval o X.env) = eval o X.env := by rfl) : SE g X wx (.Attribute o f pos) (eC x) := by
  refine ⟨fun pins s σ m ρ H τ Q I S L oo => ?_⟩
  refine attr_of hb (ho.run pins s σ m ρ H τ _ I S L (fun ρ1 H1 P1 S1 v u s1 I1 rv ru => ?_))
  cases rv
  cases ru
  obtain ⟨v, u, hf, hh, r, q⟩ := C.ex
  exact PySem.W.cls_value I1.kIn C.rd hf hh (oo ρ1 H1 P1 S1 v u _ (I1.tok _) (q _ _) r)
structure CStK (P : Program) (w : World) (K : PySem.W.Frag) (mg : Str → Option Value) (base : Heap) (g : G) (c : String) (f : Str) (k : Nat) (F : DF) : Prop where
  rd : PySem.W.readsIn K (g.cl c) (.type "type") = true
  ga : PySem.W.specialIn K (.ref (g.cl c)) "__getattribute__" = some (some (.builtin "type.__getattribute__"))
  ex : ∃ (p fa : Addr) (rest : List Value) (fd : FuncData) (ps : List Str), PySem.W.findCls K (.ref (g.cl c)) (.type "type") f = some (.get (.builtin "staticmethod.__get__") (.ref p) .none (.ref (g.cl c))) ∧ PySem.W.recIn K p "staticmethod" = some (.ref fa :: rest) ∧
    PySem.W.keepIn K (.ref fa) = true ∧ Binds K fd ps [] ∧ Arity ps.length F ∧ FnG P w K mg base k fa fd ps (spOf g F ps.length)
theorem se_cstat {o : Expr} {c : String} {f : Str} {k : Nat} {F : DF} {es : List Expr} {fs : DL} {pos apos : Pos} {pl : Sem Bool} (tk : Takes X wx) (ho : SE g X wx o (eC (.cls c))) (C : CStK X.prog X.w X.K X.mg X.base g c f k F) (hr : Rm k X.A) (ha : SA g X wx (e :: es) fs)
    (hst : starEach (e :: es) X.env = (false, eval e X.env) :: starEach es X.env := by exact star1 rfl) (hpl : (backTo pos (starEach es X.env)).any (·.1) = false := by exact plain_ns rfl)
    (hev : eval (.Call (.Attribute o f apos) (e :: es) [] pos) X.env = (do
      let ov ← eval o X.env
      standAt apos.atName
      let (f, first) ← holding [ov] (getMethod ov f pl)
      callWith pos f first (backTo pos (starEach (e :: es) X.env)) (backToKw pos (keywordEach [] X.env))) := by rfl) : SE g X wx (.Call (.Attribute o f apos) (e :: es) [] pos) (eCall F fs) := by
  refine ⟨fun pins s σ m ρ H τ Q I S L oo => ?_⟩
  refine PySem.W.methodCall_KW (pl := pl) (ho.run pins s σ m ρ H τ _ I S L (fun ρ1 H1 P1 S1 v u s1 I1 rv ru => ?_)) hev
  cases rv
  cases ru
  obtain ⟨p, fa, rest, fd, ps, hf, hp, hk, hb, ar, FO⟩ := C.ex
  refine PySem.W.method_cls I1.kIn C.ga (PySem.W.cls_bind I1.kIn C.rd hf (wpAny_call (PySem.W.sm_get I1.kIn hp (PySem.W.handed_on rfl ?_))))
  have I2 := I1.tok (s1.toks + 1)
  refine PySem.W.callWith_K (first := []) (h₀ := X.base) I.ok.mod.kin hk (ha.run pos pins _ σ m ρ1 H1 τ _ I2 S1 (L.post S P1) (((oo.from P1 S S1).bind S1).imp fun ws m2 ρ2 H2 P2 S2 o2 vs us s2 I2 rvs rus => ⟨I2.kIn, ?_⟩)) hst hpl
  exact run_def tk FO hr hb (ar.or ws m2) I2 S2 rvs rus o2
end
end Sh

namespace Sh
open PySem PySem.Spec L2
open PyProof.Rows (envOfC)

/-! ### statements that the law never reaches; a try that runs through -/
def sBad : DS := fun _ _ => .bad
def sTry (f : DS) : DS := fun σ m => match f σ m with
  | .exc _ _ _ _ => .bad
  | r => r
section
variable {g : G} {X : Cx} {wx : WX} {τ : L2.St} {ρ ρ' : List Addr} {H H' : Hp} {m m' : Mem} {pos : Pos}
theorem ss_bad {st : Stmt} : SS g X wx st sBad := PS.conv ps_never fun D τ H ⟨σ, m, ρ, S, L, o⟩ => o
theorem ss_try {body : List Stmt} {h0 : ExceptHandler} {hs : List ExceptHandler} {f : DS} (hb : SSs g X.nox wx0 body f) : SS g X wx (.Try body (h0 :: hs) [] [] pos) (sTry f) :=
  PS.conv (ps_try_thru0 hb) fun D τ H ⟨σ, m, ρ, S, L, o⟩ => ⟨σ, m, ρ, S, L, by
    unfold sTry at o
    cases hr : f σ m with
    | exc c fs σ' m' => rw [hr] at o; exact o.elim
    | nx σ' m' => rw [hr] at o; exact o
    | rt w m' => rw [hr] at o; exact o
    | bk σ' m' => rw [hr] at o; exact o
    | ct σ' m' => rw [hr] at o; exact o
    | bad => rw [hr] at o; exact o⟩
end
def visB (sc : Scope) (x : Str) : Bool := match sc.names.lookup x with
  | some .local => true
  | some .cell => true
  | some .free => true
  | _ => false
theorem vis_of {sc : Scope} {x : Str} (h : visB sc x = true) : Vis sc x := by
  unfold visB at h
  split at h
  · rename_i q; exact .inl q
  · rename_i q; exact .inr (.inl q)
  · rename_i q; exact .inr (.inr q)
  · cases h
def locB (sc : Scope) (x : Str) : Bool := match sc.names.lookup x with
  | some .local => true
  | some .cell => true
  | _ => false
theorem loc_of {sc : Scope} {x : Str} (h : locB sc x = true) : L2.Loc sc x := by
  unfold locB at h
  split at h
  · rename_i q; exact .inl q
  · rename_i q; exact .inr q
  · cases h

/-! ### defs as they stand in the written part -/
structure FunAt (K : PySem.W.Frag) (mg : Str → Option Value) (x : Str) (st : Stmt) (ps : List Str) : Prop where
  ex : ∃ (f : Addr) (fd : FuncData), mg x = some (.ref f) ∧ Fun K x x st f fd ∧ Binds K fd ps []
section
variable {P : Program} {w : World} {K : PySem.W.Frag} {mg : Str → Option Value} {base : Heap} {g : G}
theorem FunAt.mk' {x : Str} {st : Stmt} {ps : List Str} {f : Addr} {oc : Value} {od an : Option Addr} {osl : Array (Option Value)} {kV doc pm cdv ct : Value} (hm : mg x = some (.ref f))
    (l : K.lookup f = some ⟨oc, od, .func (PySem.W.fnOf x x (defArgs st) (defBody st) (defScope st) .none kV doc pm an cdv ct), osl⟩) (c : PySem.W.codeIn K cdv x = true) (k : PySem.W.keepIn K (.ref f) = true)
    (hb : ∀ (kV doc pm : Value) (an : Option Addr) (cdv ct : Value) (us : List Value), us.length = ps.length → bindArgs (PySem.W.fnOf x x (defArgs st) (defBody st) (defScope st) .none kV doc pm an cdv ct) ⟨us, []⟩ = pure (ps.zip us)) : FunAt K mg x st ps :=
  ⟨f, _, hm, fun_mk l c k, (fun_mk (st := st) l c k).binds hb⟩
theorem def_of {x : Str} {st : Stmt} {N ps : List Str} {k : Nat} {b : DS} (A : FunAt K mg x st ps) (S : FnScope N ps (defScope st))
    (hb : ∀ (f : Addr) (cdv : Value) (A : Around) (outer : List Env) (s : Shared) (H : Hp) (E : XK), Rm k (A.deeper (envOfC x (defScope st) s.heap.objs.size f cdv)) →
      Takes (cxOf (CX P w) P w K mg base N x (defScope st) f cdv A outer s H E) (fun cls d _ H => E cls d H) →
      PassesOwn (model P w) (A.deeper (envOfC x (defScope st) s.heap.objs.size f cdv)) (envOfC x (defScope st) s.heap.objs.size f cdv) (cxOf (CX P w) P w K mg base N x (defScope st) f cdv A outer s H E).xe →
      SSs g (cxOf (CX P w) P w K mg base N x (defScope st) f cdv A outer s H E) (fun cls d _ H => E cls d H) (defBody st) b) :
    Def P w K mg base g x (k + 1) ps (defn ps.length N.length b) := by
  obtain ⟨f, fd, hm, F, hbd⟩ := A.ex
  exact ⟨f, fd, hm, F.kp, hbd, fn_ok F S (hb f)⟩
/-- a def at an address: a method, a getter -/
structure FunIn (K : PySem.W.Frag) (x qual : Str) (st : Stmt) (ps : List Str) (f : Addr) : Prop where
  ex : ∃ fd : FuncData, Fun K x qual st f fd ∧ Binds K fd ps []
theorem FunIn.mk' {x qual : Str} {st : Stmt} {ps : List Str} {f : Addr} {oc : Value} {od an : Option Addr} {osl : Array (Option Value)} {kV doc pm cdv ct : Value}
    (l : K.lookup f = some ⟨oc, od, .func (PySem.W.fnOf x qual (defArgs st) (defBody st) (defScope st) .none kV doc pm an cdv ct), osl⟩) (c : PySem.W.codeIn K cdv qual = true) (k : PySem.W.keepIn K (.ref f) = true)
    (hb : ∀ (kV doc pm : Value) (an : Option Addr) (cdv ct : Value) (us : List Value), us.length = ps.length → bindArgs (PySem.W.fnOf x qual (defArgs st) (defBody st) (defScope st) .none kV doc pm an cdv ct) ⟨us, []⟩ = pure (ps.zip us)) : FunIn K x qual st ps f :=
  ⟨_, fun_mk l c k, (fun_mk (st := st) l c k).binds hb⟩
/-- its promise -/
structure DefIn (P : Program) (w : World) (K : PySem.W.Frag) (mg : Str → Option Value) (base : Heap) (g : G) (f : Addr) (k : Nat) (ps : List Str) (F : DF) : Prop where
  ex : ∃ fd : FuncData, Binds K fd ps [] ∧ FnG P w K mg base k f fd ps (spOf g F ps.length)
theorem defIn_of {x qual : Str} {st : Stmt} {N ps : List Str} {k : Nat} {b : DS} {f : Addr} (A : FunIn K x qual st ps f) (S : FnScope N ps (defScope st))
    (hb : ∀ (cdv : Value) (A : Around) (outer : List Env) (s : Shared) (H : Hp) (E : XK), Rm k (A.deeper (envOfC qual (defScope st) s.heap.objs.size f cdv)) →
      Takes (cxOf (CX P w) P w K mg base N qual (defScope st) f cdv A outer s H E) (fun cls d _ H => E cls d H) →
      PassesOwn (model P w) (A.deeper (envOfC qual (defScope st) s.heap.objs.size f cdv)) (envOfC qual (defScope st) s.heap.objs.size f cdv) (cxOf (CX P w) P w K mg base N qual (defScope st) f cdv A outer s H E).xe →
      SSs g (cxOf (CX P w) P w K mg base N qual (defScope st) f cdv A outer s H E) (fun cls d _ H => E cls d H) (defBody st) b) :
    DefIn P w K mg base g f (k + 1) ps (defn ps.length N.length b) := by
  obtain ⟨fd, F, hbd⟩ := A.ex
  exact ⟨fd, hbd, fn_ok F S hb⟩

theorem DefIn.mono {f : Addr} {j k : Nat} {ps : List Str} {F : DF} (D : DefIn P w K mg base g f j ps F) (h : j ≤ k) : DefIn P w K mg base g f k ps F := by
  obtain ⟨fd, hb, FO⟩ := D.ex
  exact ⟨fd, hb, FO.mono h⟩
theorem attP {f : List Nat} {c : String} {k : Nat} {p ga : Addr} {F : DF} (cl : Cls K (g.cl c)) (hp : PropOf K (g.cl c) (Sh.S f) p ga) (D : DefIn P w K mg base g ga k ["self"] F) : AttK P w K mg base g f c k (some (.inl F)) := by
  obtain ⟨fd, hb, FO⟩ := D.ex
  exact .prop cl hp hb FO
theorem makeK {x : Str} {c : String} {k : Nat} {F : DF} {fi : Addr} {ps : List Str} (hm : mg x = some (.ref (g.cl c))) (M : Mk K (g.cl c) fi) (ar : Arity ps.length F) (D : DefIn P w K mg base g fi k ps F) : MakeK P w K mg base g x c k F := by
  obtain ⟨fd, hb, FO⟩ := D.ex
  exact ⟨fi, fd, ps, hm, M, hb, ar, FO⟩
theorem eqK {c : String} {k : Nat} {F : DF} {ga : Addr} {ps : List Str} (cl : Cls K (g.cl c)) (h1 : PySem.W.findIn K (.ref (g.cl c)) "__eq__" = some (some (.ref ga))) (h2 : PySem.W.isFn K (.ref ga) = true)
    (ne : PySem.W.findIn K (.ref (g.cl c)) "__ne__" = some (some (.builtin "object.__ne__"))) (mro : PySem.W.mroIn K (g.cl c) (.type "object") = some true) (ar : Arity ps.length F) (D : DefIn P w K mg base g ga k ps F) : EqK P w K mg base g c k F := by
  obtain ⟨fd, hb, FO⟩ := D.ex
  exact ⟨⟨ga, fd, ps, cl, h1, h2, hb, ar, FO⟩, ne, mro⟩
theorem cstK {c : String} {f : Str} {k : Nat} {F : DF} {p fa : Addr} {rest : List Value} {ps : List Str} (rd : PySem.W.readsIn K (g.cl c) (.type "type") = true) (ga : PySem.W.specialIn K (.ref (g.cl c)) "__getattribute__" = some (some (.builtin "type.__getattribute__")))
    (h1 : PySem.W.findCls K (.ref (g.cl c)) (.type "type") f = some (.get (.builtin "staticmethod.__get__") (.ref p) .none (.ref (g.cl c)))) (h2 : PySem.W.recIn K p "staticmethod" = some (.ref fa :: rest)) (h3 : PySem.W.keepIn K (.ref fa) = true)
    (ar : Arity ps.length F) (D : DefIn P w K mg base g fa k ps F) : CStK P w K mg base g c f k F := by
  obtain ⟨fd, hb, FO⟩ := D.ex
  exact ⟨rd, ga, p, fa, rest, fd, ps, h1, h2, h3, hb, ar, FO⟩
end

/-! ### the law's own head -/
section
variable {P : Program} {w : World} {K : PySem.W.Frag} {mg mb : Str → Option Value} {fa a : Addr} {vs : List Value} {ns : List Int} {s1 : Shared}
/-- the script among the tracked things: nothing, or one list that nobody writes -/
def scr (K : PySem.W.Frag) (a : Addr) (vs : List Value) (ns : List Int) : Hp := fun b => match K.lookup a with
  | some _ => none
  | none => if b = a then some (.frz { cls := .type "list", data := .seq vs.toArray } (.lst (ns.map V.int))) else none
theorem scr_k {o : Obj} (h : K.lookup a = some o) : scr K a vs ns = fun _ => none := by
  funext b; unfold scr; rw [h]
theorem scr_n (h : K.lookup a = none) : scr K a vs ns = fun b => if b = a then some (.frz { cls := .type "list", data := .seq vs.toArray } (.lst (ns.map V.int))) else none := by
  funext b; unfold scr; rw [h]
theorem scr_only {b : Addr} {u : HO} (h : scr K a vs ns b = some u) : b = a ∧ K.lookup a = none ∧ u = .frz { cls := .type "list", data := .seq vs.toArray } (.lst (ns.map V.int)) := by
  cases q : K.lookup a with
  | some o => rw [scr_k q] at h; cases h
  | none =>
    rw [scr_n q] at h
    by_cases e : b = a
    · have h' := (if_pos e).symm.trans h; cases h'; exact ⟨e, rfl, rfl⟩
    · have h' := (if_neg e).symm.trans h; cases h'
theorem scr_seq (KX : K.In s1.heap) (ha : s1.heap.get? a = some { cls := .type "list", data := .seq vs.toArray }) (hi : PyProof.Rows.IntsAre vs ns) (hl : ns.length ≤ sizeLine) : SqF K (scr K a vs ns) a (ns.map V.int) := by
  cases q : K.lookup a with
  | some o =>
    have e := KX a o q
    rw [ha] at e
    cases e
    exact .inr ⟨_, vs.toArray, 0, q, rfl, rfl, rfl, by rw [List.size_toArray, hi.length]; simpa using hl, by simpa using vals_ints hi⟩
  | none => exact .inl ⟨_, by rw [scr_n q]; exact if_pos rfl⟩
theorem scr_ok (ha : s1.heap.get? a = some { cls := .type "list", data := .seq vs.toArray }) (hi : PyProof.Rows.IntsAre vs ns) (hl : ns.length ≤ sizeLine) : HOk P w (scr K a vs ns) s1.heap := fun b u h => by
  obtain ⟨rfl, _, rfl⟩ := scr_only h
  exact ⟨ha, by rw [List.length_map]; exact hl, vs, _, vals_ints hi, ha⟩
theorem scr_free {b : Addr} {o : Obj} (KX : K.In s1.heap) (ha : s1.heap.get? a = some { cls := .type "list", data := .seq vs.toArray }) (h : K.lookup b = some o ∨ (s1.heap.get? b = some o ∧ ∃ es ep, o.data = .dict es ep)) : scr K a vs ns b = none := by
  cases q : scr K a vs ns b with
  | none => rfl
  | some u =>
    obtain ⟨rfl, h1, _⟩ := scr_only q
    rcases h with h | ⟨h, es, ep, d⟩
    · rw [h1] at h; cases h
    · rw [ha] at h; cases h; cases d
theorem script_call {g : G} {k : Nat} {fd : FuncData} {x : Str} {F : DF} {n : Nat} (hK : g.K = K) (KX : K.In s1.heap) (hns : s1.heap.Ns mainGlobals mg) (hbl : s1.heap.Ns builtinsNs mb) (hbb : ∀ x : Str, x ≠ "__name__" → mb x = bootBuiltins x) (hlim : s1.heap.NoLimit) (hg : s1.gens = #[])
    (ha : s1.heap.get? a = some { cls := .type "list", data := .seq vs.toArray }) (hi : PyProof.Rows.IntsAre vs ns) (hl : ns.length ≤ sizeLine) (hr : Room k callerA)
    (hsy : ∃ mm, s1.heap.Ns sysModules mm) (FO : ∀ base : Heap, Sys base → K.In base → base.Ns mainGlobals mg → FnG P w K mg base k fa fd [x] (spOf g F 1)) (hbind : ∀ (s : Shared) (u : Value), BindsTo s fd ⟨[u], []⟩ [(x, u)])
    (hF : ∃ m, F [.frz (ns.map W.int)] [] = .ok (.bl true) m) :
    codeAny (model P w) callerA (.call (.ref fa) ⟨[.ref a], []⟩) (fun r s' => r = .ok (.ret (.bool true)) ∧ OldK s1.heap s'.heap ∧ s'.os = s1.os ∧ PyProof.Rows.AllBare s'.gens) s1 := by
  have names : ∀ {b : Addr} {mm : Str → Option Value}, s1.heap.Ns b mm → (hidT s1.heap (scr K a vs ns)).Ns b mm := by
    rintro b mm ⟨o, es, ep, e, d, r⟩
    exact ⟨o, es, ep, hidT_get e (scr_free KX ha (.inr ⟨e, es, ep, d⟩)), d, r⟩
  have KB : K.In (hidT s1.heap (scr K a vs ns)) := fun b o e => hidT_get (KX b o e) (scr_free KX ha (.inl e))
  obtain ⟨mc, l1, l2⟩ := hlim
  have E0 : Env0 P w K mg (hidT s1.heap (scr K a vs ns)) callerA [] s1 (scr K a vs ns) := {
    frames := rfl
    mod := ⟨KB, names hns, ⟨mb, names hbl, hbb⟩, ⟨mc, names l1, l2⟩⟩
    bs := fun b o e => of_hidT e
    bsz := Nat.le_of_eq (hidT_size _ _)
    funs := trivial
    frf := fun b hb => by cases hb
    hok := scr_ok ha hi hl
    bare := .of_eq hg }
  obtain ⟨m, hm⟩ := hF
  have S0 : Sim g [] [] (scr K a vs ns) := ⟨rfl, .nil, fun i b o h => by simp at h⟩
  have hints : ∀ (l : List Int), VRs g [] (scr K a vs ns) (l.map W.int) (l.map V.int) := fun l => by
    induction l with
    | nil => exact .nil
    | cons i l ih => exact .cons (.int i) ih
  have promise : spOf g F 1 [.ref a] (scr K a vs ns) (fun v _ => v = .bl true) (fun _ _ _ => False) := by
    refine ⟨rfl, [.frz (ns.map W.int)], [], [], S0, .cons (.frz (by rw [hK]; exact scr_seq KX ha hi hl) (hints ns)) .nil, ?_⟩
    rw [hm]
    exact fun ρ' H' v _ _ r => by cases r; rfl
  refine codeAny_mono ((FO _ ⟨by
    obtain ⟨mm, hm⟩ := hsy
    obtain ⟨o, _, _, e, _⟩ := names hm
    rw [e]; exact fun z => nomatch z⟩ KB (names hns)).run callerA [] s1 _ ⟨[.ref a], []⟩ [.ref a] [.ref a] _ _ (.caller hr) E0 (hbind s1 (.ref a)) (.cons rfl .nil) promise) fun r s' h => ?_
  cases r with
  | error e =>
    obtain ⟨_, _, _, _, _, _, _, _, _, _, _, _, z⟩ := h
    exact z.elim
  | ok fl =>
    cases fl with
    | ret u =>
      obtain ⟨v, H', os, bare, un, hok', rv, hv⟩ := h
      subst hv
      cases rv
      refine ⟨rfl, OldK.of_keep fun b o e => ?_, os, bare⟩
      cases q : scr K a vs ns b with
      | none => exact un.keep b o e q (fun z => by cases z) (fun z => by cases z)
      | some u =>
        obtain ⟨rfl, _, rfl⟩ := scr_only q
        obtain ⟨e2, _⟩ := hok' b _ (un.frzs b _ _ q)
        rw [ha] at e; cases e
        exact e2
    | next => exact False.elim h
    | brk => exact False.elim h
    | cont => exact False.elim h
end
theorem walk_sh {l : PySem.W.OpenLaw} {n k : Nat} {q : Program} {loose : List Str} {XP : (Str → Option Value) → Heap → Prop} {YP : World → Heap → Prop} {d : DefRec} {K : Params → PySem.W.Frag} {F : DF} {x : Str}
    (himp : PyProof.Rows.importsNone q = true) (hn : l.most = some n) (hn2 : n ≤ sizeLine) (hdf : d.params.defaults = []) (hr : Room k callerA)
    (hY : ∀ (w : World) (h : Heap), YP w h → (K w.params).In h)
    (FO : ∀ (w : World) (mg : Str → Option Value) (fa : Addr) (h : Heap), (K w.params).In h → h.Ns mainGlobals mg → mg d.name = some (.ref fa) →
      ∃ (fd : FuncData) (cl : String → Addr), (∀ (s : Shared) (u : Value), BindsTo s fd ⟨[u], []⟩ [(x, u)]) ∧
        ∀ base : Heap, Sys base → (K w.params).In base → base.Ns mainGlobals mg → FnG l.prog w (K w.params) mg base k fa fd [x] (spOf ⟨K w.params, cl⟩ F 1))
    (hF : ∀ ns : List Int, ns.length ≤ n → ∃ m, F [.frz (ns.map W.int)] [] = .ok (.bl true) m) :
    PySem.W.WalkO q loose XP YP l.row.toRowW d [] (fun f vs => PySem.call f vs) := by
  refine Att.attach_call hn hdf fun w s0 s1 mg mb fa o pm cd doc a vs ns Gr Y ho hd hcd hmg hobj hints hlen hg => ?_
  have KX := hY w _ Y
  obtain ⟨fd, cl, hb, hFO⟩ := FO w mg fa _ KX Gr.T.g hmg
  exact script_call (g := ⟨K w.params, cl⟩) (n := n) rfl KX Gr.T.g Gr.T.b Gr.T.builtins Gr.T.nolimit hg hobj hints (Nat.le_trans hlen hn2) hr (let ⟨mm, h, _⟩ := (Gr.T.seer himp).mods; ⟨mm, h⟩) hFO hb (hF ns hlen)
end Sh

namespace Sh
open PySem PySem.Spec L2
open PyProof.Rows (envOfC)
/-! ### constants -/
theorem rv_str {l : List Nat} {x : Str} {t : Tok} (h : x = Sh.S l) : RelV (.str (Sh.S l)) (.str x t) := by subst h; exact ⟨t, rfl⟩
theorem rv_int {i : Int} {t : Tok} : RelV (.int i) (.int i t) := ⟨t, rfl⟩
theorem rv_bl {b : Bool} : RelV (.bl b) (.bool b) := rfl
theorem rv_ref {a : Addr} : RelV (.ref a) (.ref a) := rfl
/-! ### isinstance by the written part's words -/
theorem kit_oo {K : PySem.W.Frag} {t : Value} {D : Addr} {cd : ClassData} {b : Bool} (h1 : PySem.W.clsIn K D = some cd) (h2 : PySem.W.typeIn K (.ref D) = some (.type "type")) (h3 : PySem.W.subIn K t (.ref D) = some b) (h4 : b = false → (t == .ref D) = false) : PySem.W.kitOne K t (.ref D) = some b := by
  unfold PySem.W.kitOne
  split
  · rename_i e
    cases b with
    | true => rfl
    | false => rw [h4 rfl] at e; cases e
  · unfold PySem.W.kitCls
    show (if ((PySem.W.clsIn K D).isSome && PySem.W.typeIn K (.ref D) == some (.type "type")) = true then PySem.W.subIn K t (.ref D) else none) = some b
    rw [h1, h2, h3]
    simp
theorem kit_bo {K : PySem.W.Frag} {T : String} {D : Addr} {cd : ClassData} (h1 : PySem.W.clsIn K D = some cd) (h2 : PySem.W.typeIn K (.ref D) = some (.type "type")) (h3 : PySem.W.subIn K (.type T) (.ref D) = some false) : PySem.W.kitOne K (.type T) (.ref D) = some false :=
  kit_oo h1 h2 h3 fun _ => rfl
theorem kit_of2 {K : PySem.W.Frag} {C D : Addr} {cd : ClassData} (h1 : PySem.W.clsIn K D = some cd) (h2 : PySem.W.typeIn K (.ref D) = some (.type "type")) (h3 : PySem.W.subIn K (.ref C) (.ref D) = some false) (h4 : PySem.W.subIn K (.ref C) (.ref C) = some true) : PySem.W.kitOne K (.ref C) (.ref D) = some false :=
  kit_oo h1 h2 h3 fun _ => by
    cases q : (Value.ref C == Value.ref D) with
    | false => rfl
    | true =>
      have e := eq_of_beq q
      cases e
      rw [h3] at h4; cases h4
theorem kit_ot {K : PySem.W.Frag} {C D : Addr} {cd : ClassData} (h1 : PySem.W.clsIn K D = some cd) (h2 : PySem.W.typeIn K (.ref D) = some (.type "type")) (h3 : PySem.W.subIn K (.ref C) (.ref D) = some true) : PySem.W.kitOne K (.ref C) (.ref D) = some true :=
  kit_oo h1 h2 h3 fun z => by cases z
theorem kit_ob {K : PySem.W.Frag} {C : Addr} {T : String} {b : Bool} (h1 : PySem.W.kitMeta T = true) (h2 : PySem.W.subIn K (.ref C) (.type T) = some b) : PySem.W.kitOne K (.ref C) (.type T) = some b := by
  show (if (Value.ref C == Value.type T) = true then some true else PySem.W.kitCls K (.ref C) (.type T)) = some b
  have : (Value.ref C == Value.type T) = false := rfl
  rw [this]
  show (if PySem.W.kitMeta T = true then PySem.W.subIn K (.ref C) (.type T) else none) = some b
  rw [if_pos h1, h2]
/-! ### comparisons as tests -/
section
variable {g : G} {X : Cx} {wx : WX} {a b e : Expr} {fa fb : DE} {pos : Pos}
theorem st_cmp {op : CmpOp} {fn : W → W → Mem → R W} (hf : F2 g X wx (compareOp op) fn) (ha : SE g X wx a fa) (hb : SE g X wx b fb)
    (h1 : behindInMarks op b = false := by first | exact nobehind _ (by decide) (by decide) | rfl) : ST g X wx (.Compare a [op] [b] pos) (tVal (eBin fn fa fb)) := by
  refine ⟨fun whole pins s σ m ρ H τ Q hw I S L o => ?_⟩
  rcases hw with rfl | ⟨_, _, _, z⟩
  · refine wpAny_isTrue_Compare1 (bin2 (Q := fun c s3 => wpAny (model X.prog X.w) X.A (truthy c) Q X.xe s3) ha hb hf I S L ((o.bind S).imp fun x m1 ρ1 H1 P1 S1 o1 v u s1 I1 rv ru => ?_)) h1
    cases x with
    | bl k => cases rv; cases ru; exact wpAny_truthy_bool (Out.here o1 S1 s1 I1)
    | _ => exact o1.elim
  · cases z
theorem ST.ofPT {f : DB} {t : TT} (ht : PT X e t) (h : ∀ (σ : Loc) (m : Mem) (ρ : List Addr) (H : Hp) (τ : L2.St) (Q : Bool → Hp → Prop), Sim g ρ m H → LR g ρ H σ τ → Out g wx τ ρ H (f σ m) (fun b m' ρ' H' => Q b H') → t τ H Q)
    (hn : ∀ op es pos, e ≠ .BoolOp op es pos := by intro _ _ _ z; cases z) : ST g X wx e f := by
  refine ⟨fun whole pins s σ m ρ H τ Q hw I S L o => ?_⟩
  rcases hw with rfl | ⟨op, es, pos, z⟩
  · refine thn (ht.run pins s τ H (fun k H' => ∀ s', Inv X pins τ H' s' → Q k s') I (h σ m ρ H τ _ S L o)) fun k s1 ⟨H1, I1, q⟩ => q s1 I1
  · exact absurd z (hn _ _ _)
theorem inT_ok {neg : Bool} {op : CmpOp} {fl : DL} (hK : X.K = g.K) (h1 : OpR X (compareOp op) (rIn X.K neg)) (ha : SE g X wx a fa) (hb : SL g X wx b fl) (hm : behindInMarks op b = false) : ST g X wx (.Compare a [op] [b] pos) (tVal (eInL neg fa fl)) :=
  ST.ofPT (pt_cmpR h1 ha.pe hb.pe hm) fun σ m ρ H τ Q S L o => ⟨σ, m, ρ, S, L, ((o.bind S).bind S).imp fun x m1 ρ1 H1 P1 S1 o1 v rv => ⟨σ, m1, ρ1, S1, L.post S P1, (o1.bind S1).imp fun ws m2 ρ2 H2 P2 S2 o2 p vs h0 hp hn r => by
    rcases inD_cases (x := x) (ws := ws) (m := m2) with ⟨e1, e2, e3⟩ | e
    · rw [e3] at o2
      have rv2 := rv.post S1 P2
      exact ⟨p, vs, rfl, .inl (SqL.of hp), flat_V rv2 e1, flats_V r e2, ⟨_, rfl, by rw [inW_V rv2 e1 r e2]; exact Out.here (Out.here o2 S2) S2⟩⟩
    · rw [e] at o2; exact o2.elim⟩⟩
theorem st_inL {fl : DL} (hK : X.K = g.K) (ha : SE g X wx a fa) (hb : SL g X wx b fl) (hm : behindInMarks .In b = false := by first | exact nobehind _ (by decide) (by decide) | rfl) : ST g X wx (.Compare a [.In] [b] pos) (tVal (eInL false fa fl)) := inT_ok hK op_in_seq ha hb hm
theorem st_notInL {fl : DL} (hK : X.K = g.K) (ha : SE g X wx a fa) (hb : SL g X wx b fl) (hm : behindInMarks .NotIn b = false := by first | exact nobehind _ (by decide) (by decide) | rfl) : ST g X wx (.Compare a [.NotIn] [b] pos) (tVal (eInL true fa fl)) := inT_ok hK op_notIn_seq ha hb hm
end
/-! ### an __init__ that begins with super().__init__(..), as it stands in the written part -/
structure SupAt (P : Program) (K : PySem.W.Frag) (mg : Str → Option Value) (C : Addr) (qual : Str) (st : Stmt) (ps : List Str) (f f2 : Addr) : Prop where
  ex : ∃ (cda cc D : Addr) (doc pm ct oc : Value) (an od : Option Addr) (osl : Array (Option Value)) (ccl : Value) (cdd : Option Addr) (vs : Array Value) (ccs : Array (Option Value)) (file : Str) (tf : Tok) (cl : Value) (cld : Option Addr) (csl : Array (Option Value)) (cdD : ClassData),
    K.lookup f = some ⟨oc, od, .func (PySem.W.ksFn "__init__" qual (defArgs st) (defBody st) (defScope st) .none .none doc pm an (.ref cda) ct cc), osl⟩ ∧ PySem.W.codeIn K (.ref cda) qual = true ∧
    K.lookup cda = some ⟨ccl, cdd, .fields vs, ccs⟩ ∧ vs[2]? = some (.str file tf) ∧ ((P.main.file : Str) == file) = true ∧
    K.lookup cc = some ⟨cl, cld, .cell (some (.ref D)), csl⟩ ∧ PySem.W.clsIn K D = some cdD ∧ PySem.W.mroIn K C (.ref D) = some true ∧
    PySem.W.ks_superIn K C D "__init__" = some (some (.ref f2)) ∧ PySem.W.typeIn K (.ref f2) = some (.type "function") ∧ PySem.W.fnIn K f2 = true
  sup : mg "super" = none
  stat : PySem.W.nsIn K PySem.cStatics "thirdparty.any" = some none
section
variable {P : Program} {w : World} {K : PySem.W.Frag} {mg : Str → Option Value} {base : Heap} {g : G}
theorem sup_of {cs : String} {qual : Str} {st : Stmt} {ps ps2 N : List Str} {f f2 : Addr} {k : Nat} {F : DF} {p0 p1 apos cpos epos : Pos} {e : Expr} {es : List Expr} {fa : DL} {b : DS} {rest : List Stmt} {ar : Arg} {pl : Sem Bool}
    (A : SupAt P K mg (g.cl cs) qual st ps f f2) (top : (P.main.scope.names.lookup ("super" : Str)).isSome = false) (ccl : Cls K (g.cl cs)) (D2 : DefIn P w K mg base g f2 k ps2 F) (ari : Arity ps2.length F)
    (hbody : defBody st = .Expr (.Call (.Attribute (.Call (.Name "super" p0) [] [] p1) "__init__" apos) (e :: es) [] cpos) epos :: rest)
    (S : ScopeS N ps (defScope st)) (hps : ps[0]? = some ar.arg) (hpar : ((defArgs st).posonlyargs ++ (defArgs st).args).head? = some ar)
    (hks : (defScope st).names.lookup ("super" : Str) = some .globalImplicit) (hkc : (defScope st).names.lookup ("__class__" : Str) = some .free)
    (hbd : ∀ (doc pm cd ct : Value) (an : Option Addr) (cc : Addr) (us : List Value), us.length = ps.length → bindArgs (PySem.W.ksFn "__init__" qual (defArgs st) (defBody st) (defScope st) .none .none doc pm an cd ct cc) ⟨us, []⟩ = pure (ps.zip us))
    (hev : ∀ env, eval (.Call (.Attribute (.Call (.Name "super" p0) [] [] p1) "__init__" apos) (e :: es) [] cpos) env = (do
      let ov ← attributeBase (.Call (.Name "super" p0) [] [] p1) "__init__" env (eval (.Call (.Name "super" p0) [] [] p1) env)
      standAt apos.atName
      let (f, first) ← holding [ov] (getMethod ov "__init__" pl)
      callWith cpos f first (backTo cpos (starEach (e :: es) env)) []))
    (hsw : ∀ env, swapsWith (.Call (.Attribute (.Call (.Name "super" p0) [] [] p1) "__init__" apos) (e :: es) [] cpos) none epos.line env = pure false)
    (hst : ∀ env, starEach (e :: es) env = (false, eval e env) :: starEach es env) (hpl : ∀ env, (backTo cpos (starEach es env)).any (·.1) = false)
    (hb : ∀ (f cda cc : Addr) (A : Around) (outer : List Env) (s : Shared) (H : Hp) (E : XK), Rm k (A.deeper (PySem.W.ksEnv qual (defScope st) s.heap.objs.size f (.ref cda) cc)) →
      Takes (cxS P w K mg base N qual (defScope st) f cda cc A outer s H E) (fun cls d _ H => E cls d H) →
      PassesOwn (model P w) (A.deeper (PySem.W.ksEnv qual (defScope st) s.heap.objs.size f (.ref cda) cc)) (PySem.W.ksEnv qual (defScope st) s.heap.objs.size f (.ref cda) cc) (cxS P w K mg base N qual (defScope st) f cda cc A outer s H E).xe →
      SA g (cxS P w K mg base N qual (defScope st) f cda cc A outer s H E) (fun cls d _ H => E cls d H) (e :: es) fa ∧
      SSs g (cxS P w K mg base N qual (defScope st) f cda cc A outer s H E) (fun cls d _ H => E cls d H) rest b) :
    DefIn P w K mg base g f (k + 1) ps (defn ps.length N.length (sSeq (sSuper cs F fa) b)) := by
  obtain ⟨cda, cc, D, doc, pm, ct, oc, an, od, osl, c2, cdd, vs, ccs, file, tf, cl, cld, csl, cdD, lk, hcd, h1, h2, h3, h4, h5, h6, h7, h8, h9⟩ := A.ex
  obtain ⟨fd2, hb2, FO⟩ := D2.ex
  have U : SupK P w K mg base g cda cc D cs k F := ⟨⟨c2, cdd, vs, ccs, file, tf, h1, h2, h3⟩, ⟨cl, cld, csl, h4⟩, ⟨cdD, h5⟩, A.sup, A.stat, top, ccl, h6, ⟨f2, fd2, ps2, h7, h8, h9, hb2, ari, FO⟩⟩
  refine ⟨_, .all (hbd doc pm (.ref cda) ct an cc), ?_⟩
  rw [hbody] at lk ⊢
  exact superG lk hcd S hps hpar hks hkc U hev hsw (fun A outer s H E => hb f cda cc A outer s H E) hst hpl
end
end Sh

namespace Sh
open PySem PySem.Spec L2
open PyProof.Rows (envOfC)

/-! ### an own exception: class C(.. ValueError): def __init__(self, v): super().__init__('..'); self.f = v -/
section
variable {prog : Program} {w : World} {A : Around} {E : Value → Shared → Prop} {h : Heap} {g : Array GenState} {d : Drawn} {t : Nat} {os : OsState}
variable {nm q : Str} {C N : Addr} {bs bm bmB : List Value} {hdct : Bool} {sn : List Str} {sub : List Value} {ab : Bool} {col : Option Bool} {dd : Option Addr} {k0 k1 k2 k3 k5 : Option Value} {B newId initId : String}
theorem xcall_bw (FB : ExcBaseFacts B newId initId bmB) {u e t0 : Addr} {rest : List Value} {Q : Value → Shared → Prop}
    (hC : h.get? C = some (excClassObj nm q C N bs bm hdct sn sub ab col dd k0 k1 k2 k3 k5 newId)) (he : h.get? e = some (HandSPX.excO C t0)) (hu : h.get? u = some (PySem.W.kxs_mw initId e)) (hrest : rest.length ≤ sizeLine)
    (hq : ∀ h' t1, (∀ b o, b ≠ e → h.get? b = some o → h'.get? b = some o) → h'.get? e = some (HandSPX.excO C t1) → Q .none ⟨h', g, d, t, os⟩) :
    wpAny (model prog w) A (call (.ref u) rest) Q E ⟨h, g, d, t, os⟩ := by
  refine wpAny_call (codeAny_of_tree ?_)
  show wpAny _ A.in1 (callAny (.ref u) ⟨rest, []⟩) _ _ _
  simp only [callAny]
  refine wpAny_bind (wpAny_load hu ?_)
  simp only [PySem.W.kxs_mw, show (Value.type "method-wrapper" == Value.type "method" || Value.type "method-wrapper" == Value.type "builtin_function_or_method" || Value.type "method-wrapper" == Value.type "method-wrapper") = true by decide, if_true]
  refine PySem.W.KFB.if_so (by decide) ?_
  refine wpAny_bind (PySem.W.check_bound_init FB.toExcCallFacts hC he rfl ?_)
  refine wpAny_bind (wpAny_pure (wpAny_pure ?_))
  refine ⟨plainId_quiet FB.init.plain _, codeAny_builtin FB.initEntry ?_⟩
  exact PySem.W.exc_init_tree (cls := .ref C) (t0 := t0) (dv := none) (c2 := .none) (c3 := .none) (b4 := .bool false) he hrest fun h' k e' t' => hq h' _ k e'
end
/-- what stands around such a def -/
structure SupX (P : Program) (K : PySem.W.Frag) (mg : Str → Option Value) (cda cc C : Addr) : Prop where
  code : ∃ (ccl : Value) (cdd : Option Addr) (vs : Array Value) (ccs : Array (Option Value)) (file : Str) (tf : Tok), K.lookup cda = some ⟨ccl, cdd, .fields vs, ccs⟩ ∧ vs[2]? = some (.str file tf) ∧ ((P.main.file : Str) == file) = true
  cell : ∃ (cl : Value) (cld : Option Addr) (csl : Array (Option Value)), K.lookup cc = some ⟨cl, cld, .cell (some (.ref C)), csl⟩
  cls : ∃ cdD, PySem.W.clsIn K C = some cdD
  sup : mg "super" = none
  stat : PySem.W.nsIn K PySem.cStatics "thirdparty.any" = some none
  top : (P.main.scope.names.lookup ("super" : Str)).isSome = false
  sub : PySem.W.mroIn K C (.ref C) = some true
  ve : PySem.W.subIn K (.ref C) (.type "ValueError") = some true
  nxt : PySem.W.ks_superIn K C C "__init__" = some (some (.builtin "ValueError.__init__"))
/-- the promise of such an __init__: t reads what stands behind super().__init__(..) -/
def spX (C : Addr) (N : List Str) (n : Nat) (t : TS) : Sp := fun vs H Q E => vs.length = n ∧ ∃ a, vs[0]? = some (.ref a) ∧ H a = some (exo a C none) ∧ t { nx := fun _ H' => Q .non H', rt := Q } (L2.start N vs) H
section
variable {P : Program} {w : World} {K : PySem.W.Frag} {mg : Str → Option Value} {base : Heap} {k : Nat} {f cda cc C : Addr} {name qual : Str} {params : Arguments} {rest : List Stmt} {scope : Scope} {doc pm ct oc : Value} {an od : Option Addr}
  {osl : Array (Option Value)} {N ps : List Str} {p0 p1 apos cpos epos mp : Pos} {msg : Str} {kd : Nat} {t : TS} {ar : Arg} {pl : Sem Bool}
theorem superX (lk : K.lookup f = some ⟨oc, od, .func (PySem.W.ksFn name qual params (.Expr (.Call (.Attribute (.Call (.Name "super" p0) [] [] p1) "__init__" apos) [.Constant (.str msg) kd mp] [] cpos) epos :: rest) scope .none .none doc pm an (.ref cda) ct cc), osl⟩)
    (hcd : PySem.W.codeIn K (.ref cda) qual = true) (S : ScopeS N ps scope) (hps : ps[0]? = some ar.arg) (hpar : (params.posonlyargs ++ params.args).head? = some ar)
    (hks : scope.names.lookup ("super" : Str) = some .globalImplicit) (hkc : scope.names.lookup ("__class__" : Str) = some .free)
    (U : SupX P K mg cda cc C) (TC : OexC K C)
    (hev : ∀ env, eval (.Call (.Attribute (.Call (.Name "super" p0) [] [] p1) "__init__" apos) [.Constant (.str msg) kd mp] [] cpos) env = (do
      let ov ← attributeBase (.Call (.Name "super" p0) [] [] p1) "__init__" env (eval (.Call (.Name "super" p0) [] [] p1) env)
      standAt apos.atName
      let (f, first) ← holding [ov] (getMethod ov "__init__" pl)
      callWith cpos f first (backTo cpos (starEach [.Constant (.str msg) kd mp] env)) []))
    (hsw : ∀ env, swapsWith (.Call (.Attribute (.Call (.Name "super" p0) [] [] p1) "__init__" apos) [.Constant (.str msg) kd mp] [] cpos) none epos.line env = pure false)
    (hb : ∀ (A : Around) (outer : List Env) (s : Shared) (H : Hp) (E : XK), PSs (cxS P w K mg base N qual scope f cda cc A outer s H E) rest t) :
    FnG P w K mg base (k + 1) f (PySem.W.ksFn name qual params (.Expr (.Call (.Attribute (.Call (.Name "super" p0) [] [] p1) "__init__" apos) [.Constant (.str msg) kd mp] [] cpos) epos :: rest) scope .none .none doc pm an (.ref cda) ct cc) ps (spX C N ps.length t) := by
  refine ⟨fun vs H Q E h => h.1, fun A outer s H args us vs Q E hr e0 hbd r hsp => ?_⟩
  obtain ⟨hl, x, hv0, hHx, o⟩ := hsp
  obtain ⟨ccl, cdd, cvs, ccs, file, tf, hcode, hvs, hfile⟩ := U.code
  obtain ⟨ocl, ocd, ocs, hcell⟩ := U.cell
  obtain ⟨cdD, hD⟩ := U.cls
  have hlu : us.length = ps.length := by rw [← r.length]; exact hl
  have KX : K.In s.heap := e0.mod.kin.keeps fun b o e => (e0.bs b o e).1
  have lim : s.heap.NoLimit := e0.mod.nolimit.keeps fun b o e => (e0.bs b o e).1
  have hloc : ∀ y ∈ ps.zip us, scope.names.lookup y.1 = some .local := fun ⟨n, v⟩ hy => S.par n (List.of_mem_zip hy).1
  refine ks_codeAny_call_defAt (fd := PySem.W.ksFn name qual params (.Expr (.Call (.Attribute (.Call (.Name "super" p0) [] [] p1) "__init__" apos) [.Constant (.str msg) kd mp] [] cpos) epos :: rest) scope .none .none doc pm an (.ref cda) ct cc) (binds := ps.zip us) hr.r.depth (KX _ _ lk) rfl lim
    (PySem.W.codeRec_of KX hcd) rfl hbd S.nocell hloc (fun h0 hns hk => ?_) S.co S.gen S.kind
  show _root_.PySem.wpAt (model P w) (A.deeper (PySem.W.ksEnv qual scope s.heap.objs.size f (.ref cda) cc)) (.func (.Expr (.Call (.Attribute (.Call (.Name "super" p0) [] [] p1) "__init__" apos) [.Constant (.str msg) kd mp] [] cpos) epos :: rest) (PySem.W.ksEnv qual scope s.heap.objs.size f (.ref cda) cc))
    (execs (.Expr (.Call (.Attribute (.Call (.Name "super" p0) [] [] p1) "__init__" apos) [.Constant (.str msg) kd mp] [] cpos) epos :: rest) (PySem.W.ksEnv qual scope s.heap.objs.size f (.ref cda) cc)) _ _ _
  have I : Inv (cxS P w K mg base N qual scope f cda cc A outer s H E) [] (L2.start N vs) H { s with heap := h0, toks := s.toks + (ps.zip us).length } := inv_startS S hr.r.hd e0 hl r hcell rfl hns hk
  have hSS := hb A outer s H E
  have KX0 : K.In h0 := I.kIn
  obtain ⟨u0, hu0, ru0⟩ := r.get hv0
  obtain rfl : u0 = Value.ref x := ru0
  obtain ⟨t1, hx0⟩ := exo_at I.hok hHx
  have J : PySem.W.InstAt h0 x { cls := .ref C, dict := none, data := .fields #[.ref t1, .none, .none, .none, .bool false, .none] } C none := ⟨hx0, rfl, rfl, trivial⟩
  obtain ⟨oD, hD1, hD2⟩ : ∃ oD, h0.get? C = some oD ∧ oD.data = .cls cdD := by
    unfold PySem.W.clsIn at hD
    split at hD
    · rename_i c d cd' sl ho
      cases hD
      exact ⟨_, KX0 _ _ ho, rfl⟩
    · cases hD
  refine ks_wpAt_execs_cons (ks_wpAt_Expr_any (ks_wpAt_MethodCall (pl := pl) ?_ (hev _)) (by have := I.quiet; exact this) (hsw _))
  refine ks_wpAt_super_base (env := PySem.W.ksEnv qual scope s.heap.objs.size f (.ref cda) cc) hks hkc (by decide +kernel) rfl (KX0 _ _ lk) rfl hpar rfl (KX0 _ _ hcode) rfl hvs hfile U.top ?_
  obtain ⟨mb, hbn, hbv⟩ := I.mod.blt
  refine PySem.W.ks_loadName_global S.kind hks (Calls.loadGlobal_builtin (env := PySem.W.ksEnv qual scope s.heap.objs.size f (.ref cda) cc) (I.mod.glob.keeps I.bk) U.sup (hbn.keeps I.bk) ((hbv ("super" : Str) (by decide +kernel)).trans (show bootBuiltins ("super" : Str) = some (Value.type "super") by first | rfl | decide +kernel | kernel_rfl)) ⟨rfl, ?_⟩)
  refine wpAny_loadName_free S.kind hkc rfl ⟨_, KX0 _ _ hcell, rfl⟩ ?_
  have hself : (ps.zip us).reverse.lookup ar.arg = some (Value.ref x) := lookup_rev (by rw [← S.pre]; exact S.nd.sublist (List.take_sublist _ _)) hlu.symm hps hu0
  refine wpAny_loadName_local S.kind (S.par _ (List.mem_of_getElem? hps)) hns hself ?_
  refine ks_wpAny_isType_cls hD1 hD2 ⟨rfl, ?_⟩
  refine ks_wpAny_call_super hD1 hD2 J.at_ J.cls (fun c e => ?_) (PySem.W.looks_mroIn KX0 U.sub) (fun h' e1 k1 => ?_)
  · cases e
  have I2 : Inv (cxS P w K mg base N qual scope f cda cc A outer s H E) [] (L2.start N vs) H { s with heap := h', toks := s.toks + (ps.zip us).length } := I.kept (t' := s.toks + (ps.zip us).length) k1
  have KX2 : K.In h' := I2.kIn
  obtain ⟨cdc, hcc, hal⟩ : ∃ cdc, PySem.W.clsIn K C = some cdc ∧ PySem.W.alongIn K "__init__" ((cdc.mro.dropWhile (· != .ref C)).drop 1) = some (some (.builtin "ValueError.__init__")) := by
    have h2 := U.nxt
    unfold PySem.W.ks_superIn at h2
    cases z : PySem.W.clsIn K C with
    | none => rw [z] at h2; cases h2
    | some cd => rw [z] at h2; exact ⟨cd, rfl, h2⟩
  have J2 : PySem.W.InstAt h' x { cls := .ref C, dict := none, data := .fields #[.ref t1, .none, .none, .none, .bool false, .none] } C none := ⟨k1 _ _ hx0, rfl, rfl, trivial⟩
  refine PySem.W.kxs_getMethod PySem.W.kxs_ValueError e1 (PySem.W.looks_opaque KX2 U.stat) (l₀ := cdc.mro) (fun A Q E s k q => wpAny_bind ((PySem.W.looks_clsIn KX2 hcc) A _ E s k (wpAny_pure q))) rfl KX2 hal ((J2.type).andThen (PySem.W.looks_subIn KX2 U.ve)) (PySem.W.ks_ne KX2 J2 hcc) (by decide +kernel) ?_
  -- the method-wrapper stands at the heap's end
  have hq0 : H h'.objs.size = none := I2.hok.fresh (Nat.le_refl _)
  have I3a : Inv (cxS P w K mg base N qual scope f cda cc A outer s H E) [] (L2.start N vs) H { s with heap := h'.push (PySem.W.kxs_mw "ValueError.__init__" x), toks := s.toks + (ps.zip us).length + 1 } := I2.kept (t' := s.toks + (ps.zip us).length + 1) fun b u q => Heap.get?_push_of_some _ q
  have hq1 : (h'.push (PySem.W.kxs_mw "ValueError.__init__" x)).get? h'.objs.size = some (PySem.W.kxs_mw "ValueError.__init__" x) := Heap.get?_push_size h' rfl
  have I3 : Inv (cxS P w K mg base N qual scope f cda cc A outer s H E) [(h'.objs.size, PySem.W.kxs_mw "ValueError.__init__" x)] (L2.start N vs) H { s with heap := h'.push (PySem.W.kxs_mw "ValueError.__init__" x), toks := s.toks + (ps.zip us).length + 1 } :=
    I3a.pins_of fun p hp => by
      have hp : p = (h'.objs.size, PySem.W.kxs_mw "ValueError.__init__" x) := by simpa using hp
      subst hp
      have fo := I2.fpOk (H' := H) (b := h'.objs.size) (Nat.le_refl _) hq0
      exact ⟨hq1, hq0, fo.2.1, fo.2.2.1, fun v z => by cases z⟩
  show wpAny _ _ (callWith cpos (.ref h'.objs.size) [] (backTo cpos (starEach [.Constant (.str msg) kd mp] (PySem.W.ksEnv qual scope s.heap.objs.size f (.ref cda) cc))) []) _ _ _
  refine PySem.W.kxs_callWith (i := "ValueError.__init__") (x := x) rfl (Calls.evalArgs_plain ?_)
  refine Calls.spliced_cons ?_
  refine thn ((pe_str (X := cxS P w K mg base N qual scope f cda cc A outer s H E) (x := msg) (j := kd) (pos := mp)).run [(h'.objs.size, PySem.W.kxs_mw "ValueError.__init__" x)] _ (L2.start N vs) H (fun v H' => v = .str msg ∧ H' = H) I3 (by exact ⟨rfl, rfl⟩)) fun u4 s4 ⟨v4, H4, I4, r4, e4, e5⟩ => ?_
  rw [e5] at I4
  refine Calls.spliced_nil ?_
  have pin := I4.pin (h'.objs.size, PySem.W.kxs_mw "ValueError.__init__" x) (List.mem_append_right _ (List.mem_singleton.mpr rfl))
  refine ⟨pin.1, ?_⟩
  obtain ⟨nm, q, N', bs, bm, sn, sub, ab, col, dd, k0, k1', k2, k3, k5, hC, hbm⟩ := TC.cls
  obtain ⟨t4, ho4⟩ := exo_at I4.hok hHx
  obtain ⟨hp4, g4, d4, tk4, os4⟩ := s4
  refine xcall_bw F.excBase_ValueError (I4.kIn _ _ hC) ho4 pin.1 (by show 1 ≤ sizeLine; decide) fun h5 t5 k5 hx5 => ?_
  have I5 := I4.write (t' := tk4) (x := x) (e := x) (o := exo x C none) (by rw [hHx]; exact True.intro) (.inl rfl) k5 ⟨_, hx5⟩ (exo_ok hx5)
  have eu : upd H x (exo x C none) = H := by
    funext b
    by_cases hb : b = x
    · rw [hb, upd_same, hHx]
    · rw [upd_ne hb]
  rw [eu] at I5
  have fin : ∀ {pins : List (Addr × Obj)} {σ' : L2.St} {H' : Hp} {s' : Shared} {v : V} {u : Value}, Inv (cxS P w K mg base N qual scope f cda cc A outer s H E) pins σ' H' s' → RelV v u → Q v H' → CE outer P w H s Q u s' :=
    fun {pins σ' H' s' v u} J rv q => ⟨v, H', J.os, J.bare, J.base, J.hok, rv, q⟩
  refine wpAt_of_wpAny (wpAny_mono (hSS.run _ _ (L2.start N vs) H _ I5 o) (fun fl s6 hs => ?_) fun e s6 hs => hs)
  cases fl with
  | ret u =>
    obtain ⟨v, σ', H', J, rv, q⟩ := hs
    exact fin J rv q
  | next =>
    obtain ⟨σ', H', J, q⟩ := hs
    exact fin (v := V.non) (u := Value.none) J rfl q
  | brk =>
    obtain ⟨_, _, _, q⟩ := hs
    exact False.elim q
  | cont =>
    obtain ⟨_, _, _, q⟩ := hs
    exact False.elim q
end
end Sh

namespace Sh
open PySem PySem.Spec L2
open PyProof.Rows (envOfC)

/-! ### an exception is made -/
/-- __init__(self, v): super().__init__('..'); self.f = v -/
def sp1 (C : Addr) (f : Str) : Sp := fun vs H Q E => ∃ a y, vs = [.ref a, y] ∧ H a = some (exo a C none) ∧ ∀ dx, H dx = none → dx ≠ a → Q .non (upd (upd H dx (exd dx [(f, y)])) a (exo a C (some dx)))
/-- __init__(self): super().__init__('..') -/
def sp0 (C : Addr) : Sp := fun vs H Q E => ∃ a, vs = [.ref a] ∧ H a = some (exo a C none) ∧ Q .non H
theorem FnG.conv {P : Program} {w : World} {K : PySem.W.Frag} {mg : Str → Option Value} {base : Heap} {k : Nat} {f : Addr} {fd : FuncData} {ps : List Str} {sp sp' : Sp} (F : FnG P w K mg base k f fd ps sp) (h : ∀ vs H Q E, sp' vs H Q E → sp vs H Q E) : FnG P w K mg base k f fd ps sp' :=
  ⟨fun vs H Q E q => F.len vs H Q E (h _ _ _ _ q), fun A outer s H args us vs Q E hr e0 hb r q => F.run A outer s H args us vs Q E hr e0 hb r (h _ _ _ _ q)⟩
section
variable {P : Program} {w : World} {K : PySem.W.Frag} {mg : Str → Option Value} {base : Heap} {k : Nat} {fa : Addr} {fd : FuncData} {ps : List Str} {C : Addr} {f : Str}
theorem fn_sp1 {x y : Str} (F : FnG P w K mg base k fa fd [x, y] (spX C [x, y] 2 (tOst K f (tVar 0) (tVar 1)))) (T : OexC K C) (hno : PySem.W.findIn K (.ref C) f = some none) : FnG P w K mg base k fa fd [x, y] (sp1 C f) :=
  F.conv fun vs H Q E ⟨a, y, e, ha, q⟩ => by
    subst e
    exact ⟨rfl, a, rfl, ha, y, rfl, .ref a, rfl, a, C, rfl, T, hno, .inl ⟨ha, fun dx h1 h2 => q dx h1 h2⟩⟩
theorem fn_sp0 {x : Str} (F : FnG P w K mg base k fa fd [x] (spX C [x] 1 tNext)) : FnG P w K mg base k fa fd [x] (sp0 C) :=
  F.conv fun vs H Q E ⟨a, e, ha, q⟩ => by
    subst e
    exact ⟨rfl, a, rfl, ha, q⟩
end
/-- what is known of such a class -/
structure XcK (K : PySem.W.Frag) (C : Addr) (fi : Addr) : Prop where
  T : OexC K C
  ini : PySem.W.findIn K (.ref C) "__init__" = some (some (.ref fi))
  fn : PySem.W.typeIn K (.ref fi) = some (.type "function")
structure Exc1 (P : Program) (w : World) (K : PySem.W.Frag) (mg : Str → Option Value) (base : Heap) (g : G) (x : Str) (c : String) (k : Nat) (f : List Nat) : Prop where
  ex : ∃ (fi : Addr) (fd : FuncData) (ps : List Str), mg x = some (.ref (g.cl c)) ∧ XcK K (g.cl c) fi ∧ ps.length = 2 ∧ Binds K fd ps [] ∧ FnG P w K mg base k fi fd ps (sp1 (g.cl c) (Sh.S f))
structure Exc0 (P : Program) (w : World) (K : PySem.W.Frag) (mg : Str → Option Value) (base : Heap) (g : G) (x : Str) (c : String) (k : Nat) : Prop where
  ex : ∃ (fi : Addr) (fd : FuncData) (ps : List Str), mg x = some (.ref (g.cl c)) ∧ XcK K (g.cl c) fi ∧ ps.length = 1 ∧ Binds K fd ps [] ∧ FnG P w K mg base k fi fd ps (sp0 (g.cl c))
section
variable {g : G} {X : Cx} {wx : WX} {τ : L2.St} {ρ ρ' : List Addr} {H H' : Hp} {m m' : Mem} {e : Expr} {pins : List (Addr × Obj)} {s : Shared}
theorem upd_made {H : Hp} {a d C : Addr} {f : Str} {y : V} (hn : H a = none) (hd : H d = none) (ne : d ≠ a) : upd (del (upd (upd (upd H a (exo a C none)) d (exd d [(f, y)])) a (exo a C (some d))) a) d (.xd [(f, y)]) = upd H d (.xd [(f, y)]) := by
  funext b
  by_cases h1 : b = d
  · subst h1; rw [upd_same, upd_same]
  · rw [upd_ne h1, upd_ne h1]
    by_cases h2 : b = a
    · subst h2; rw [del_same, hn]
    · rw [del_ne h2, upd_ne h2, upd_ne h1, upd_ne h2]
theorem xmk1 {x : Str} {c : String} {k : Nat} {f : List Nat} {y : V} {u : Value} {Q : XK} (D : Exc1 X.prog X.w X.K X.mg X.base g x c k f) (hr : Rm (k + 1) X.A) (I : Inv X pins τ H s) (ru : RelV y u)
    (q : ∀ d, H d = none → Q (.ref (g.cl c)) (some d) (upd H d (.xd [(Sh.S f, y)]))) : wpAny (model X.prog X.w) X.A (call (.ref (g.cl c)) [u]) (MkP X pins τ Q) X.xe s := by
  obtain ⟨fI, fd, ps, hm, D, hps, hb, F1⟩ := D.ex
  have T := D.T
  obtain ⟨nm, q', N, bs, bm, sn, sub, ab, col, dd, k0, k1, k2, k3, k5, hC, hbm⟩ := D.T.cls
  obtain ⟨hp, gn, dr, tk, os⟩ := s
  have hsz : hp.objs.size ≤ hp.objs.size + 1 := Nat.le_succ _
  have hn : H (hp.objs.size + 1) = none := I.hok.fresh hsz
  have kk : ∀ b o, hp.get? b = some o → ((hp.push (PySem.W.kdv_tup [u])).push (PySem.HandSPX.excO (g.cl c) hp.objs.size)).get? b = some o := fun b o e => Heap.get?_push_of_some _ (Heap.get?_push_of_some _ e)
  have hget : ((hp.push (PySem.W.kdv_tup [u])).push (PySem.HandSPX.excO (g.cl c) hp.objs.size)).get? (hp.objs.size + 1) = some (PySem.HandSPX.excO (g.cl c) hp.objs.size) := by heap_get
  have I2 : Inv X pins τ (upd H (hp.objs.size + 1) (exo (hp.objs.size + 1) (g.cl c) none)) ⟨(hp.push (PySem.W.kdv_tup [u])).push (PySem.HandSPX.excO (g.cl c) hp.objs.size), gn, dr, tk, os⟩ :=
    I.laid (t' := tk) (a := hp.objs.size + 1) (o := exo (hp.objs.size + 1) (g.cl c) none) (h' := (hp.push (PySem.W.kdv_tup [u])).push (PySem.HandSPX.excO (g.cl c) hp.objs.size)) kk hsz (exo_ok hget)
  have r2 : Vals [V.ref (hp.objs.size + 1), y] [Value.ref (hp.objs.size + 1), u] := .cons rfl (.cons ru .nil)
  have hus : [u].length ≤ sizeLine := by show 1 ≤ sizeLine; decide
  have hbd := hb ⟨(hp.push (PySem.W.kdv_tup [u])).push (PySem.HandSPX.excO (g.cl c) hp.objs.size), gn, dr, tk, os⟩ [Value.ref (hp.objs.size + 1), u] I2.kIn (by rw [hps]; rfl)
  rw [List.append_nil] at hbd
  refine wpAny_call (PySem.HandSPX.call_own F.excBase_ValueError (fun Y => PySem.HandSPX.refsVE_contains Y bm hbm) (I.kIn _ _ hC) (PySem.W.looks_findIn I.kIn D.ini) (fun self => PySem.W.bind_fn I.kIn self D.fn) hus
    (codeAny_mono (F1.run _ X.stack _ _ ⟨[Value.ref (hp.objs.size + 1), u], []⟩ [Value.ref (hp.objs.size + 1), u] _
      (fun v H2 => v = .non ∧ ∃ d, H d = none ∧ d ≠ hp.objs.size + 1 ∧ H2 = upd (upd (upd H (hp.objs.size + 1) (exo (hp.objs.size + 1) (g.cl c) none)) d (exd d [(Sh.S f, y)])) (hp.objs.size + 1) (exo (hp.objs.size + 1) (g.cl c) (some d))) (fun _ _ _ => False)
      (Rm.make hr (g.cl c) [u] []) (I2.env0.make (g.cl c) [u] []) hbd r2 ⟨_, y, rfl, upd_same, fun dx h1 h2 => ⟨rfl, dx, by rw [upd_ne h2] at h1; exact h1, h2, rfl⟩⟩) fun r s' hq' => ?_))
  cases r with
  | error er =>
    obtain ⟨_, _, _, _, _, _, _, _, _, _, _, _, z⟩ := hq'
    exact z.elim
  | ok fl =>
    cases fl with
    | ret u' =>
      obtain ⟨v, H2, os2, bare2, un2, hok2, rv, ev, d, hd1, hne, e2⟩ := hq'
      subst ev e2
      obtain ⟨h2, g2, d2, t2, os'⟩ := s'
      refine ⟨rv, mk_end (d := d) (fs := [(Sh.S f, y)]) (raises_own T.exC T.tyC) I hsz kk un2 hok2 os2 bare2 upd_same (by rw [upd_ne hne, upd_same]) hd1 ?_⟩
      rw [upd_made hn hd1 hne]
      exact q d hd1
    | next => exact False.elim hq'
    | brk => exact False.elim hq'
    | cont => exact False.elim hq'
/-- the exception as a value: frozen -/
theorem mkP_held {Q : XK} {u : Value} {s' : Shared} (h : MkP X pins τ Q u s') : ∃ (a : Addr) (oe : Obj) (vs : Array Value) (H' : Hp) (cls : Value) (d : Option Addr), u = .ref a ∧ H' a = none ∧ Inv X pins τ (upd H' a (.frz oe (.own 0))) s' ∧ oe.cls = cls ∧ oe.dict = d ∧ oe.data = .fields vs ∧ Q cls d H' := by
  obtain ⟨a, oe, vs, sI, H', cls, d, rfl, J, k, hne, ha, hz, hd, h1, na, os, ag, _, q⟩ := h
  exact ⟨a, oe, vs, H', cls, d, rfl, na, J.call' (ch := []) os (Un.laidN k hne na) (J.hok.laidN k na ⟨ha, _, ha⟩) ag (fun b z => nomatch z), hz.1, hz.2, hd, q⟩
/-- C(v) -/
def makeX (c : String) (f : List Nat) (ws : List W) (m : Mem) : R W := match ws with
  | [w] => .ok (.ref m.length) (m ++ [.exc c [(f, w)]])
  | _ => .bad
def eMakeX (c : String) (f : List Nat) (a : DL) : DE := fun σ m => (a σ m).bind (makeX c f)
theorem makeX_ok {x : Str} {c : String} {k : Nat} {f : List Nat} {ws : List W} {vs : List V} {us : List Value} {Q : Value → Shared → Prop} (D : Exc1 X.prog X.w X.K X.mg X.base g x c k f) (hr : Rm (k + 1) X.A) (I : Inv X pins τ H s) (S : Sim g ρ m H) (r : VRs g ρ H ws vs) (ru : Vals vs us)
    (o : Out g wx τ ρ H (makeX c f ws m) (fun w m' ρ' H' => ∀ v u s', Inv X pins τ H' s' → VR g ρ' H' w v → RelV v u → Q u s')) : wpAny (model X.prog X.w) X.A (call (.ref (g.cl c)) us) Q X.xe s := by
  unfold makeX at o
  split at o
  · rename_i w0
    obtain ⟨y, rfl, ry⟩ := r.inv1
    cases ru with
    | @cons _ u _ _ r1 r2 =>
      cases r2
      refine wpAny_mono (xmk1 (Q := fun cls d H' => cls = .ref (g.cl c) ∧ ∃ dd, d = some dd ∧ H dd = none ∧ H' = upd H dd (.xd [(Sh.S f, y)])) D hr I r1 fun d hd => ⟨rfl, d, rfl, hd, rfl⟩) (fun u' s' h => ?_) fun _ _ z => z
      obtain ⟨a, oe, vs, H', cls, d, rfl, na, J, e1, e2, e3, e4, dd, e5, hdd, e6⟩ := mkP_held h
      subst e4 e5 e6
      obtain ⟨P1, S1⟩ := S.junk (u := .xd [(Sh.S f, y)]) hdd
      have hda : upd H dd (.xd [(Sh.S f, y)]) dd = some (.xd [(Sh.S f, y)]) := upd_same
      obtain ⟨P2, S2⟩ := S1.push (o := .exc c [(f, w0)]) (u := .frz oe (.own 0)) na ⟨oe, vs, some dd, [(Sh.S f, y)], rfl, e1, e2, e3, hda, .cons ⟨rfl, ry.post S P1⟩ .nil⟩
      exact o _ _ (P1.then P2 S S1) S2 (.ref a) _ s' J (.ref (by rw [← S1.len]; simp)) rfl
  · exact o.elim
theorem se_makeX {x : Str} {c : String} {k : Nat} {f : List Nat} {es : List Expr} {fa : DL} {p pos : Pos} (D : Exc1 X.prog X.w X.K X.mg X.base g x c k f) (hr : Rm (k + 1) X.A) (hg : Gl X x) (ha : SA g X wx (e :: es) fa)
    (hdb : (x == ("__debug__" : Str)) = false := by decide) (he : starEach (e :: es) X.env = (false, eval e X.env) :: starEach es X.env := by exact star1 rfl) (hpl : (backTo pos (starEach es X.env)).any (·.1) = false := by exact plain_ns rfl) :
    SE g X wx (.Call (.Name x p) (e :: es) [] pos) (eMakeX c f fa) := by
  obtain ⟨fi, fd, ps, hm, mk, _⟩ := id D.ex
  refine ⟨fun pins s σ m ρ H τ Q I S L o => ?_⟩
  refine wpAny_Call_Name_kw (ld_glob I hg hm ?_ hdb)
  refine PySem.W.callWith_K (h₀ := X.base) I.ok.mod.kin mk.T.kC (ha.run pos pins s σ m ρ H τ _ I S L ((o.bind S).imp fun ws m1 ρ1 H1 P1 S1 o1 vs us s1 I1 rv ru => ⟨I1.kIn, ?_⟩)) he hpl
  exact makeX_ok D hr I1 S1 rv ru o1
/-- raise C(v) -/
def sRaise (c : String) (f : List Nat) (a : DL) : DS := fun σ m => RS.of σ (a σ m) fun ws m1 => match ws with
  | [w] => .exc c [(f, w)] σ m1
  | _ => .bad
theorem ss_raise {x : Str} {c : String} {k : Nat} {f : List Nat} {es : List Expr} {fa : DL} {p pos rpos : Pos} (hc : X.calm = true) (tk : Takes X wx) (D : Exc1 X.prog X.w X.K X.mg X.base g x c k f) (hr : Rm (k + 1) X.A) (hg : Gl X x) (ha : SA g X wx (e :: es) fa)
    (hdb : (x == ("__debug__" : Str)) = false := by decide) (he : starEach (e :: es) X.env = (false, eval e X.env) :: starEach es X.env := by exact star1 rfl) (hpl : (backTo pos (starEach es X.env)).any (·.1) = false := by exact plain_ns rfl) :
    SS g X wx (.Raise (some (.Call (.Name x p) (e :: es) [] pos)) none rpos) (sRaise c f fa) := by
  obtain ⟨fi, fd, ps, hm, mk, _⟩ := id D.ex
  refine PS.conv (ps_raise (t := fun τ H Q => taOf g wx fa τ H fun vs H1 => ∃ y, vs = [y] ∧ ∀ d, H1 d = none → Q (.ref (g.cl c)) (some d) (upd H1 d (.xd [(Sh.S f, y)]))) hc tk ?_) ?_
  · intro pins s τ H Q I h
    refine wpAny_Call_Name_kw (ld_glob I hg hm ?_ hdb)
    refine PySem.W.callWith_K (h₀ := X.base) I.ok.mod.kin mk.T.kC (thn (ha.pa.run pos pins s τ H _ I h) fun us s1 ⟨vs, H1, I1, r1, y, e1, q⟩ => ⟨I1.kIn, ?_⟩) he hpl
    subst e1
    cases r1 with
    | @cons _ u _ _ r1 r2 =>
      cases r2
      exact xmk1 D hr I1 r1 q
  · intro D' τ H ⟨σ, m, ρ, S, L, o⟩
    refine ⟨σ, m, ρ, S, L, (o.of S L).imp fun ws m1 ρ1 H1 P1 S1 o1 vs rv => ?_⟩
    split at o1
    · rename_i w0
      obtain ⟨y, rfl, ry⟩ := rv.inv1
      refine ⟨y, rfl, fun d hd => ?_⟩
      obtain ⟨P2, S2⟩ := S1.junk (u := .xd [(Sh.S f, y)]) hd
      have hda : upd H1 d (.xd [(Sh.S f, y)]) d = some (.xd [(Sh.S f, y)]) := upd_same
      exact o1 _ _ τ (some d) _ P2 S2 ((L.post S P1).post S1 P2) hda (.cons ⟨rfl, ry.post S1 P2⟩ .nil)
    · exact o1.elim
end
end Sh

namespace Sh
open PySem PySem.Spec L2
open PyProof.Rows (envOfC)

/-! ### try .. except -/
inductive Tst (X : Cx) : Expr → List Value → Prop
  | one {x : Str} {c : Value} {p : Pos} : Names X x c → Tst X (.Name x p) [c]
  | tup3 {x1 x2 x3 : Str} {c1 c2 c3 : Value} {p1 p2 p3 tpos : Pos} {kk : Nat} : Names X x1 c1 → Names X x2 c2 → Names X x3 c3 → Tst X (.Tuple [.Name x1 p1, .Name x2 p2, .Name x3 p3] kk tpos) [c1, c2, c3]
section
variable {X : Cx} {pins : List (Addr × Obj)} {σ : St} {H : Hp} {s sI s' : Shared} {a : Addr} {pn : List (Addr × Obj)}
theorem names_run {x : Str} {c : Value} {p : Pos} {Q : Value → Shared → Prop} {E : Value → Shared → Prop} (N : Names X x c) (S3 : Inv (X.suite a pn) pins σ H s) (q : Q c s) : wpAny (model X.prog X.w) (X.A.mark (some (.ref a))) (eval (.Name x p) X.env) Q E s := by
  obtain ⟨hg, hdbg, hm | ⟨hm, hv, hnn⟩⟩ := N
  · exact ld_glob (X := X.suite a pn) S3 hg hm q hdbg
  · exact ld_blt (X := X.suite a pn) S3 hg hm hv q hnn hdbg
theorem Tst.run {te : Expr} {cs : List Value} {cls : Value} {b : Bool} {Q : Bool → Shared → Prop} {E E' : Value → Shared → Prop} (T : Tst X te cs) (S3 : Inv (X.suite a pn) pins σ H s) (LT : PySem.W.Looks (model X.prog X.w) s.heap (typeOf (.ref a)) cls) (he : PySem.W.exmAny X.K cls cs = some b)
    (q : ∀ h' tk, (∀ b o, s.heap.get? b = some o → h'.get? b = some o) → Q b { s with heap := h', toks := tk }) :
    wpAny (model X.prog X.w) (X.A.mark (some (.ref a))) (eval te X.env) (fun c s₁ => wpAny (model X.prog X.w) (X.A.mark (some (.ref a))) (excMatches (.ref a) c) Q E' s₁) E s := by
  have KX : X.K.In s.heap := S3.kIn
  cases T with
  | @one x c p N =>
    obtain ⟨b1, d1, h1, h2, h3⟩ := PySem.W.exmAny_cons he
    cases h2
    rw [Bool.or_false] at h3
    subst h3
    refine names_run N S3 ?_
    exact (PySem.W.exm_one KX LT h1).here (q s.heap s.toks fun _ _ z => z)
  | @tup3 x1 x2 x3 c1 c2 c3 p1 p2 p3 tpos kk N1 N2 N3 =>
    refine wpAny_Tuple ?_
    refine wpAny_items_cons (names_run N1 S3 ?_)
    refine wpAny_items_cons (names_run N2 S3 ?_)
    refine wpAny_items_cons (names_run N3 S3 ?_)
    refine wpAny_items_nil ⟨by size_fits, ?_⟩
    have kp : ∀ q o, s.heap.get? q = some o → (s.heap.push { cls := .type "tuple", data := .seq [c1, c2, c3].toArray }).get? q = some o := fun _ _ z => Heap.get?_push_of_some _ z
    exact (PySem.W.exm_tup3 (KX.keeps kp) (LT.keeps kp) (Heap.get?_push_size s.heap rfl) he).here (q _ s.toks kp)
theorem flying_keeps {B h h' : Heap} {l : List Env} {e : Addr} {Z : Obj → Prop} (fl : HandSPX.FlyingZ B l e Z h) (k : ∀ b o, h.get? b = some o → h'.get? b = some o) : HandSPX.FlyingZ B l e Z h' := by
  obtain ⟨k1, k2, k3, oe, vs, T, oT, ts, he, hz, hd, h1, hnT, hTe, hT, hdT, h3⟩ := fl
  exact ⟨fun b o q => k b o (k1 b o q), k2, Heap.FunFrames.of_keeps (fun b o e _ => ⟨o, k b o e, rfl⟩) k3, oe, vs, T, oT, ts, k _ _ he, hz, hd, h1, hnT, hTe, k _ _ hT, hdT, h3⟩
theorem Inv.suite0 (I : Inv X pins σ H s) : Inv (X.suite a (X.pn ++ pins)) [] σ H s :=
  ⟨I.ok.suite _ _, I.os, I.bare, I.base, I.loc, I.cell, I.free, I.freeC, fun p hp => I.pin p (by rw [List.append_nil] at hp; exact hp), I.hok, I.len⟩
theorem Inv.unsuite0 {pn' : List (Addr × Obj)} (I : Inv (X.suite a (X.pn ++ pins)) pn' σ H s) (ok : X.Ok) : Inv X pins σ H s :=
  ⟨ok, I.os, I.bare, I.base, I.loc, I.cell, I.free, I.freeC, fun p hp => I.pin p (List.mem_append_left _ hp), I.hok, I.len⟩
/-- back on the ground, the exception held -/
theorem Inv.landedX {B : Heap} {oe : Obj} (I : Inv X pins σ H sI) (nb : ∀ b o, sI.heap.get? b = some o → b ∉ frs X.stack → B.get? b = some o) (st : B.StaysIn s'.heap) (up : sI.heap.UpToSlots s'.heap) (os : s'.os = sI.os) (ag : PyProof.Rows.AllBare s'.gens)
    (nB : B.get? a = none) (nF : a ∉ frs X.stack) (na : H a = none) (ha : s'.heap.get? a = some oe) : Inv X pins σ (upd H a (.frz oe (.own 0))) s' := by
  have nI : sI.heap.get? a = none := by
    cases q : sI.heap.get? a with
    | none => rfl
    | some o => rw [nb a o q nF] at nB; cases nB
  have nf : ∀ b ∈ frs X.stack, ∀ o, sI.heap.get? b = some o → ∃ sl, s'.heap.get? b = some { o with slots := sl } := fun b hb o e => by
    obtain ⟨_, o', e', hd⟩ := I.stack.mem hb
    rw [e] at e'; cases e'
    exact up b o e hd
  have ne : ∀ b o, sI.heap.get? b = some o → b ≠ a := fun b o e z => by rw [z, nI] at e; cases e
  refine I.call' (ch := []) os ⟨fun b o e _ hb _ => st b o (nb b o e hb), fun b o e _ hb _ => nf b hb o e, fun b o e n _ => by rw [upd_ne (ne b o e)]; exact n, fun b o e _ => by
      by_cases hb : b ∈ frs X.stack
      · obtain ⟨sl, q⟩ := nf b hb o e
        exact ⟨_, q⟩
      · exact ⟨o, st b o (nb b o e hb)⟩, fun b xs e => by rw [upd_ne (ne_of_none e na)]; exact e, fun b o u e => by rw [upd_ne (ne_of_none e na)]; exact e, fun b ps e => ⟨#[], by rw [upd_ne (ne_of_none e na), e]; simp⟩⟩
    (((I.inGround nb).kept st).laidN (fun _ _ q => q) na ⟨ha, _, ha⟩) ag (fun _ z => nomatch z)
end
/-- what the clause wishes of an exception of the body -/
def wTryA (K : PySem.W.Frag) (cs : List Value) (i : Nat) (ts : TS) (Wout : WX) (D : Ends) : WX := fun cls d σ H =>
  ∃ b, PySem.W.exmAny K cls cs = some b ∧ (b = true → ∀ a oe vs, H a = none → oe.cls = cls → oe.dict = d → oe.data = .fields vs →
    ts { nx := fun σ' H' => D.nx (σ'.set i none) H', rt := D.rt, bk := fun σ' H' => D.bk (σ'.set i none) H', ct := fun σ' H' => D.ct (σ'.set i none) H' } (σ.set i (some (.ref a))) (upd H a (.frz oe (.own 0)))) ∧ (b = false → Wout cls d σ H)
def wTryO (K : PySem.W.Frag) (cs : List Value) (ts : TS) (Wout : WX) (D : Ends) : WX := fun cls d σ H => ∃ b, PySem.W.exmAny K cls cs = some b ∧ (b = true → ts D σ H) ∧ (b = false → Wout cls d σ H)
section
variable {X : Cx} {te : Expr} {cs : List Value} {n : Str} {i : Nat} {body suite : List Stmt} {b₀ : Stmt} {pos pos' : Pos} {tb : WX → TS} {ts : TS} {Wout : WX}
theorem ps_tryA (hs : X.stack = X.env :: X.outer) (hf : X.env.frame = some X.env.locals) (hN : X.N.Nodup) (hi : X.N[i]? = some n) (hln : X.env.kindOf n = some .local) (hc : Tst X te cs) (tk : Takes X Wout)
    (hb : ∀ (W : WX) (pn : List (Addr × Obj)) (xe : Value → Shared → Prop), Takes (X.tr pn xe) W → PassesOwn (model X.prog X.w) X.A X.env xe → PSs (X.tr pn xe) body (tb W))
    (hsu : ∀ (a : Addr) (pn : List (Addr × Obj)), PSs (X.suite a pn) (b₀ :: suite) ts) :
    PS X (.Try body [.ExceptHandler (some te) (some n) (b₀ :: suite) pos'] [] [] pos) (fun D σ H => tb (wTryA X.K cs i ts Wout D) D σ H) := by
  refine ⟨fun pins s σ H D I h => ?_⟩
  have ok := I.ok
  have hfr : X.A.frames = some (X.env :: X.outer) := by rw [ok.frames, hs]
  have hloc : L2.Loc X.env.scope n := .inl hln
  refine wpAny_Try_except ?_
  refine wpAny_mono ((hb (wTryA X.K cs i ts Wout D) (X.pn ++ pins) (fun e s₁ => wpAny (model X.prog X.w) X.A (noteFrame e X.env) (fun _ s₂ => wpAny (model X.prog X.w) X.A (setFlight e none) (fun _ s₃ =>
    wpAny (model X.prog X.w) X.A (handleBy e X.env [.ExceptHandler (some te) (some n) (b₀ :: suite) pos']) (SP X pins D) X.xe s₃) X.xe s₂) X.xe s₁) (fun u s' xx => ?_) PassesOwn.looking).run [] s σ H D (I.toTry _) h) (fun f s1 hsp => ?_) (fun e s1 he => he)
  · obtain ⟨a, B, sI, pins', σ', H', cls, d, rfl, J', nb, up, sky, na, os, ag, b, hb1, hyes, hno⟩ := xx
    have J : Inv X pins σ' H' sI := J'.ofTry ok
    have sky' : Sky B (X.env :: X.outer) a (Zc cls d) X.env.locals s'.heap := by rw [← hs]; exact sky
    show wpAny (model X.prog X.w) X.A (noteFrame (.ref a) X.env) _ _ _
    refine Sky.land Zc.steady hfr hf sky' fun h3 fl3 up3 => ?_
    have J3 : Inv X pins σ' H' { s' with heap := h3 } := J.landed nb fl3.1 (up.trans up3) os ag
    obtain ⟨oe3, vs3, he3, hz3, hd3⟩ := fl3.there
    have nfr : a ∉ frs (X.env :: X.outer) := fun hm => by
      obtain ⟨_, o', e', hnf⟩ := fl3.2.2.1.mem hm
      rw [he3] at e'; cases e'
      exact hnf _ hd3
    have S3 := Inv.suite0 (a := a) J3
    refine wpAny_handleBy_cons (codeAny_handlers_test ?_) (by intro q; cases q)
    have LT : PySem.W.Looks (model X.prog X.w) h3 (typeOf (.ref a)) cls := fun A Q E s k q => wpAny_typeOf_ref (k _ _ he3) (by rw [hz3.1]; exact q)
    refine hc.run S3 LT hb1 fun hT tkT kT => ?_
    have flT := flying_keeps fl3 kT
    have upT := up3.trans (Heap.UpToSlots.of_keeps kT)
    cases b with
    | true =>
      refine codeAny_handlers_suite_as ?_
      refine HandSPX.lands_againZ flT fun h4 fl4 up4 => ?_
      obtain ⟨oe4, vs4, he4, hz4, hd4⟩ := fl4.there
      have J4 : Inv X pins σ' (upd H' a (.frz oe4 (.own 0))) { s' with heap := h4, toks := tkT } := Inv.landedX (s' := { s' with heap := h4, toks := tkT }) J nb fl4.1 ((up.trans upT).trans up4) os ag fl4.2.1 (by rw [hs]; exact nfr) na he4
      have S4 := Inv.suite0 (a := a) J4
      refine store_ok (X := X.suite a (X.pn ++ pins)) (v := .ref a) S4 hN hi hloc rfl (fun s5 S5 => ?_) (.inr hln)
      refine wpAny_mono ((hsu a (X.pn ++ pins)).run [] s5 _ _ _ S5 (hyes rfl a oe4 vs4 na hz4.1 hz4.2 hd4)) (fun f s6 hsp => ?_) (fun _ _ z => False.elim z)
      have end_ : ∀ {σ6 : St} {H6 : Hp} {Q : Shared → Prop}, Inv (X.suite a (X.pn ++ pins)) [] σ6 H6 s6 → (∀ s7, Inv X pins (σ6.set i none) H6 s7 → Q s7) →
          wpAny (model X.prog X.w) X.A (do bindName X.env n .none; unbindBehindTheSuite X.env n pos') (fun _ s7 => Q s7) X.xe s6 := fun {σ6 H6 Q} S6 hq => gone_ok (Inv.unsuite0 S6 ok) hN hi hln hq
      cases f with
      | next =>
        obtain ⟨σ6, H6, S6, q6⟩ := hsp
        exact end_ S6 fun s7 J7 => ⟨_, _, J7, q6⟩
      | brk =>
        obtain ⟨σ6, H6, S6, q6⟩ := hsp
        exact end_ S6 fun s7 J7 => ⟨_, _, J7, q6⟩
      | cont =>
        obtain ⟨σ6, H6, S6, q6⟩ := hsp
        exact end_ S6 fun s7 J7 => ⟨_, _, J7, q6⟩
      | ret u =>
        obtain ⟨v6, σ6, H6, S6, r6, q6⟩ := hsp
        exact end_ S6 fun s7 J7 => ⟨_, _, _, J7, r6, q6⟩
    | false =>
      show wpAny _ X.A (handleBy (.ref a) X.env []) _ _ _
      refine wpAny_handleBy_nil ?_
      obtain ⟨k1, k2, k3, oe, vs, T, oT, ts', he, hz, hd, h1, hr⟩ := id flT
      unfold PySem.passOn
      refine wpAny_bind (wpAny_field he hd h1 ?_)
      rw [if_neg (show ¬ ((Value.ref T == Value.none) = true) from by simp)]
      have fin : wpAny (model X.prog X.w) X.A (setFlight (.ref a) X.env.frame) (fun _ s4 => wpAny (model X.prog X.w) X.A (throw (.ref a) : Sem Flow) (SP X pins D) X.xe s4) X.xe { s' with heap := hT, toks := tkT } := by
        rw [hf]
        refine HandSPX.setFlight_upZ flT fun h4 hh4 up4 => wpAny_throw (tk _ _ ?_)
        exact ⟨a, B, sI, pins, σ', H', cls, d, rfl, J, nb, (up.trans upT).trans up4, .inr (.inr (by rw [hs]; exact hh4)), na, os, ag, hno rfl⟩
      first
        | exact wpAny_bind (wpAny_pure (wpAny_bind fin))
        | exact wpAny_bind fin
  · cases f with
    | next =>
      obtain ⟨σ', H', J', q⟩ := hsp
      exact wpAny_execs_nil ⟨σ', H', J'.ofTry ok, q⟩
    | brk =>
      obtain ⟨σ', H', J', q⟩ := hsp
      exact ⟨σ', H', J'.ofTry ok, q⟩
    | cont =>
      obtain ⟨σ', H', J', q⟩ := hsp
      exact ⟨σ', H', J'.ofTry ok, q⟩
    | ret u =>
      obtain ⟨v, σ', H', J', r, q⟩ := hsp
      exact ⟨v, σ', H', J'.ofTry ok, r, q⟩
theorem ps_tryO (hs : X.stack = X.env :: X.outer) (hf : X.env.frame = some X.env.locals) (hc : Tst X te cs) (tk : Takes X Wout)
    (hb : ∀ (W : WX) (pn : List (Addr × Obj)) (xe : Value → Shared → Prop), Takes (X.tr pn xe) W → PassesOwn (model X.prog X.w) X.A X.env xe → PSs (X.tr pn xe) body (tb W))
    (hsu : ∀ (a : Addr) (pn : List (Addr × Obj)), PSs (X.suite a pn) (b₀ :: suite) ts) :
    PS X (.Try body [.ExceptHandler (some te) none (b₀ :: suite) pos'] [] [] pos) (fun D σ H => tb (wTryO X.K cs ts Wout D) D σ H) := by
  refine ⟨fun pins s σ H D I h => ?_⟩
  have ok := I.ok
  have hfr : X.A.frames = some (X.env :: X.outer) := by rw [ok.frames, hs]
  refine wpAny_Try_except ?_
  refine wpAny_mono ((hb (wTryO X.K cs ts Wout D) (X.pn ++ pins) (fun e s₁ => wpAny (model X.prog X.w) X.A (noteFrame e X.env) (fun _ s₂ => wpAny (model X.prog X.w) X.A (setFlight e none) (fun _ s₃ =>
    wpAny (model X.prog X.w) X.A (handleBy e X.env [.ExceptHandler (some te) none (b₀ :: suite) pos']) (SP X pins D) X.xe s₃) X.xe s₂) X.xe s₁) (fun u s' xx => ?_) PassesOwn.looking).run [] s σ H D (I.toTry _) h) (fun f s1 hsp => ?_) (fun e s1 he => he)
  · obtain ⟨a, B, sI, pins', σ', H', cls, d, rfl, J', nb, up, sky, na, os, ag, b, hb1, hyes, hno⟩ := xx
    have J : Inv X pins σ' H' sI := J'.ofTry ok
    have sky' : Sky B (X.env :: X.outer) a (Zc cls d) X.env.locals s'.heap := by rw [← hs]; exact sky
    show wpAny (model X.prog X.w) X.A (noteFrame (.ref a) X.env) _ _ _
    refine Sky.land Zc.steady hfr hf sky' fun h3 fl3 up3 => ?_
    have J3 : Inv X pins σ' H' { s' with heap := h3 } := J.landed nb fl3.1 (up.trans up3) os ag
    obtain ⟨oe3, vs3, he3, hz3, hd3⟩ := fl3.there
    have S3 := Inv.suite0 (a := a) J3
    refine wpAny_handleBy_cons (codeAny_handlers_test ?_) (by intro q; cases q)
    have LT : PySem.W.Looks (model X.prog X.w) h3 (typeOf (.ref a)) cls := fun A Q E s k q => wpAny_typeOf_ref (k _ _ he3) (by rw [hz3.1]; exact q)
    refine hc.run S3 LT hb1 fun hT tkT kT => ?_
    have flT := flying_keeps fl3 kT
    have upT := up3.trans (Heap.UpToSlots.of_keeps kT)
    cases b with
    | true =>
      refine codeAny_handlers_suite ?_
      refine HandSPX.lands_againZ flT fun h4 fl4 up4 => ?_
      have J4 : Inv X pins σ' H' { s' with heap := h4, toks := tkT } := J.landed (s' := { s' with heap := h4, toks := tkT }) nb fl4.1 ((up.trans upT).trans up4) os ag
      have S4 := Inv.suite0 (a := a) J4
      refine wpAny_mono ((hsu a (X.pn ++ pins)).run [] _ _ _ _ S4 (hyes rfl)) (fun f s6 hsp => ?_) (fun _ _ z => False.elim z)
      cases f with
      | next =>
        obtain ⟨σ6, H6, S6, q6⟩ := hsp
        exact ⟨_, _, Inv.unsuite0 S6 ok, q6⟩
      | brk =>
        obtain ⟨σ6, H6, S6, q6⟩ := hsp
        exact ⟨_, _, Inv.unsuite0 S6 ok, q6⟩
      | cont =>
        obtain ⟨σ6, H6, S6, q6⟩ := hsp
        exact ⟨_, _, Inv.unsuite0 S6 ok, q6⟩
      | ret u =>
        obtain ⟨v6, σ6, H6, S6, r6, q6⟩ := hsp
        exact ⟨_, _, _, Inv.unsuite0 S6 ok, r6, q6⟩
    | false =>
      show wpAny _ X.A (handleBy (.ref a) X.env []) _ _ _
      refine wpAny_handleBy_nil ?_
      obtain ⟨k1, k2, k3, oe, vs, T, oT, ts', he, hz, hd, h1, hr⟩ := id flT
      unfold PySem.passOn
      refine wpAny_bind (wpAny_field he hd h1 ?_)
      rw [if_neg (show ¬ ((Value.ref T == Value.none) = true) from by simp)]
      have fin : wpAny (model X.prog X.w) X.A (setFlight (.ref a) X.env.frame) (fun _ s4 => wpAny (model X.prog X.w) X.A (throw (.ref a) : Sem Flow) (SP X pins D) X.xe s4) X.xe { s' with heap := hT, toks := tkT } := by
        rw [hf]
        refine HandSPX.setFlight_upZ flT fun h4 hh4 up4 => wpAny_throw (tk _ _ ?_)
        exact ⟨a, B, sI, pins, σ', H', cls, d, rfl, J, nb, (up.trans upT).trans up4, .inr (.inr (by rw [hs]; exact hh4)), na, os, ag, hno rfl⟩
      first
        | exact wpAny_bind (wpAny_pure (wpAny_bind fin))
        | exact wpAny_bind fin
  · cases f with
    | next =>
      obtain ⟨σ', H', J', q⟩ := hsp
      exact wpAny_execs_nil ⟨σ', H', J'.ofTry ok, q⟩
    | brk =>
      obtain ⟨σ', H', J', q⟩ := hsp
      exact ⟨σ', H', J'.ofTry ok, q⟩
    | cont =>
      obtain ⟨σ', H', J', q⟩ := hsp
      exact ⟨σ', H', J'.ofTry ok, q⟩
    | ret u =>
      obtain ⟨v, σ', H', J', r, q⟩ := hsp
      exact ⟨v, σ', H', J'.ofTry ok, r, q⟩
end
/-! .. in our reading -/
def sTryA (f : DS) (isa : String → Option Bool) (i : Nat) (su : DS) : DS := fun σ m => match f σ m with
  | .exc c fs σ1 m1 => match isa c with
    | some true => match su (σ1.set i (some (.ref m1.length))) (m1 ++ [.exc c fs]) with
      | .nx σ2 m2 => .nx (σ2.set i none) m2
      | .rt w m2 => .rt w m2
      | .bk σ2 m2 => .bk (σ2.set i none) m2
      | .ct σ2 m2 => .ct (σ2.set i none) m2
      | _ => .bad
    | some false => .exc c fs σ1 m1
    | none => .bad
  | r => r
def sTryO (f : DS) (isa : String → Option Bool) (su : DS) : DS := fun σ m => match f σ m with
  | .exc c fs σ1 m1 => match isa c with
    | some true => match su σ1 m1 with
      | .exc _ _ _ _ => .bad
      | r => r
    | some false => .exc c fs σ1 m1
    | none => .bad
  | r => r
section
variable {g : G} {X : Cx} {wx : WX} {τ : L2.St} {ρ ρ' : List Addr} {H H' : Hp} {m m' : Mem} {te : Expr} {cs : List Value} {n : Str} {i : Nat} {body suite : List Stmt} {b₀ : Stmt} {pos pos' : Pos} {f su : DS} {isa : String → Option Bool}
theorem ss_tryA (hs : X.stack = X.env :: X.outer) (hf : X.env.frame = some X.env.locals) (hN : X.N.Nodup) (hi : X.N[i]? = some n) (hln : X.env.kindOf n = some .local) (hc : Tst X te cs) (tk : Takes X wx) (hisa : ∀ c b, isa c = some b → PySem.W.exmAny X.K (.ref (g.cl c)) cs = some b)
    (hb : ∀ (W : WX) (pn : List (Addr × Obj)) (xe : Value → Shared → Prop), Takes (X.tr pn xe) W → PassesOwn (model X.prog X.w) X.A X.env xe → SSs g (X.tr pn xe) W body f)
    (hsu : ∀ (a : Addr) (pn : List (Addr × Obj)), SSs g (X.suite a pn) wx0 (b₀ :: suite) su) :
    SS g X wx (.Try body [.ExceptHandler (some te) (some n) (b₀ :: suite) pos'] [] [] pos) (sTryA f isa i su) :=
  PS.conv (ps_tryA (tb := fun W => tsOf g W f) (ts := tsOf g wx0 su) hs hf hN hi hln hc tk hb hsu) fun D τ H ⟨σ, m, ρ, S, L, o⟩ => ⟨σ, m, ρ, S, L, by
    unfold sTryA at o
    cases hr : f σ m with
    | exc c fs σ1 m1 =>
      rw [hr] at o
      simp only at o
      intro ρ1 H1 τ1 d gs P1 S1 L1 hd hfr
      cases hi' : isa c with
      | none => rw [hi'] at o; exact o.elim
      | some b =>
        rw [hi'] at o
        refine ⟨b, hisa c b hi', fun hb => ?_, fun hb => ?_⟩
        · subst hb
          intro a oe vs na e1 e2 e3
          obtain ⟨P2, S2⟩ := S1.push (o := .exc c fs) (u := .frz oe (.own 0)) na ⟨oe, vs, d, gs, rfl, e1, e2, e3, hd, hfr⟩
          have hl : (ρ1 ++ [a])[m1.length]? = some a := by rw [← S1.len]; simp
          refine ⟨σ1.set i (some (.ref m1.length)), m1 ++ [.exc c fs], ρ1 ++ [a], S2, (L1.post S1 P2).set i (.ref hl), ?_⟩
          have P12 := P1.then P2 S S1
          simp only at o
          cases hsr : su (σ1.set i (some (.ref m1.length))) (m1 ++ [.exc c fs]) with
          | nx σ2 m2 => rw [hsr] at o; exact fun ρ3 H3 τ3 P3 S3 L3 => o ρ3 H3 _ (P12.then P3 S S2) S3 (L3.forget i)
          | rt w m2 => rw [hsr] at o; exact fun ρ3 H3 v P3 S3 r => o ρ3 H3 v (P12.then P3 S S2) S3 r
          | bk σ2 m2 => rw [hsr] at o; exact fun ρ3 H3 τ3 P3 S3 L3 => o ρ3 H3 _ (P12.then P3 S S2) S3 (L3.forget i)
          | ct σ2 m2 => rw [hsr] at o; exact fun ρ3 H3 τ3 P3 S3 L3 => o ρ3 H3 _ (P12.then P3 S S2) S3 (L3.forget i)
          | exc c2 fs2 σ2 m2 => rw [hsr] at o; exact o.elim
          | bad => rw [hsr] at o; exact o.elim
        · subst hb
          exact o ρ1 H1 τ1 d gs P1 S1 L1 hd hfr
    | nx σ' m' => rw [hr] at o; exact o
    | rt w m' => rw [hr] at o; exact o
    | bk σ' m' => rw [hr] at o; exact o
    | ct σ' m' => rw [hr] at o; exact o
    | bad => rw [hr] at o; exact o⟩
theorem ss_tryO (hs : X.stack = X.env :: X.outer) (hf : X.env.frame = some X.env.locals) (hc : Tst X te cs) (tk : Takes X wx) (hisa : ∀ c b, isa c = some b → PySem.W.exmAny X.K (.ref (g.cl c)) cs = some b)
    (hb : ∀ (W : WX) (pn : List (Addr × Obj)) (xe : Value → Shared → Prop), Takes (X.tr pn xe) W → PassesOwn (model X.prog X.w) X.A X.env xe → SSs g (X.tr pn xe) W body f)
    (hsu : ∀ (a : Addr) (pn : List (Addr × Obj)), SSs g (X.suite a pn) wx0 (b₀ :: suite) su) :
    SS g X wx (.Try body [.ExceptHandler (some te) none (b₀ :: suite) pos'] [] [] pos) (sTryO f isa su) :=
  PS.conv (ps_tryO (tb := fun W => tsOf g W f) (ts := tsOf g wx0 su) hs hf hc tk hb hsu) fun D τ H ⟨σ, m, ρ, S, L, o⟩ => ⟨σ, m, ρ, S, L, by
    unfold sTryO at o
    cases hr : f σ m with
    | exc c fs σ1 m1 =>
      rw [hr] at o
      simp only at o
      intro ρ1 H1 τ1 d gs P1 S1 L1 hd hfr
      cases hi' : isa c with
      | none => rw [hi'] at o; exact o.elim
      | some b =>
        rw [hi'] at o
        refine ⟨b, hisa c b hi', fun hb => ?_, fun hb => ?_⟩
        · subst hb
          refine ⟨σ1, m1, ρ1, S1, L1, ?_⟩
          simp only at o
          cases hsr : su σ1 m1 with
          | nx σ2 m2 => rw [hsr] at o; exact fun ρ3 H3 τ3 P3 S3 L3 => o ρ3 H3 _ (P1.then P3 S S1) S3 L3
          | rt w m2 => rw [hsr] at o; exact fun ρ3 H3 v P3 S3 r => o ρ3 H3 v (P1.then P3 S S1) S3 r
          | bk σ2 m2 => rw [hsr] at o; exact fun ρ3 H3 τ3 P3 S3 L3 => o ρ3 H3 _ (P1.then P3 S S1) S3 L3
          | ct σ2 m2 => rw [hsr] at o; exact fun ρ3 H3 τ3 P3 S3 L3 => o ρ3 H3 _ (P1.then P3 S S1) S3 L3
          | exc c2 fs2 σ2 m2 => rw [hsr] at o; exact o.elim
          | bad => rw [hsr] at o; exact o.elim
        · subst hb
          exact o ρ1 H1 τ1 d gs P1 S1 L1 hd hfr
    | nx σ' m' => rw [hr] at o; exact o
    | rt w m' => rw [hr] at o; exact o
    | bk σ' m' => rw [hr] at o; exact o
    | ct σ' m' => rw [hr] at o; exact o
    | bad => rw [hr] at o; exact o⟩
end
end Sh

namespace Sh
open PySem PySem.Spec L2

/-! ### dicts whose keys are ints and texts -/
def keyW : W → Option Key
  | .int i => some (.inl i)
  | .str l => some (.inr (Sh.S l))
  | _ => none
def findK (kvs : List (Key × W)) (k : Key) : Option W := (kvs.find? fun kv => decide (kv.1 = k)).map (·.2)
def putKW (kvs : List (Key × W)) (k : Key) (w : W) : List (Key × W) :=
  if (kvs.any fun kv => decide (kv.1 = k)) = true then kvs.map (fun kv => if kv.1 = k then (kv.1, w) else kv) else kvs ++ [(k, w)]
def mergeKW (kvs more : List (Key × W)) : List (Key × W) := more.foldl (fun acc kv => putKW acc kv.1 kv.2) kvs
section
variable {g : G} {X : Cx} {wx : WX} {τ : L2.St} {ρ ρ' : List Addr} {H H' : Hp} {m m' : Mem} {e a b : Expr} {fa fb fo fi fe : DE} {pos : Pos} {pins : List (Addr × Obj)} {s : Shared}
theorem keyW_V {w : W} {v : V} {k : Key} (r : VR g ρ H w v) (h : keyW w = some k) : v = kV k := by
  unfold keyW at h
  split at h
  · cases h; cases r; rfl
  · cases h; cases r; rfl
  · cases h
theorem KR.len {kvs : List (Key × W)} {vs : List (Key × V)} (r : KR g ρ H kvs vs) : kvs.length = vs.length := Paired.length r
theorem KR.find {kvs : List (Key × W)} {vs : List (Key × V)} (r : KR g ρ H kvs vs) (k : Key) : (∀ w, findK kvs k = some w → ∃ v, valV vs k = some v ∧ VR g ρ H w v) ∧ (findK kvs k = none → valV vs k = none) := by
  induction r with
  | nil => exact ⟨fun w h => (by cases h), fun _ => rfl⟩
  | @cons p q kvs vs hq hr ih =>
    obtain ⟨k1, w1⟩ := p
    obtain ⟨k2, v2⟩ := q
    obtain ⟨e, rv⟩ := hq
    have e : k1 = k2 := e
    subst e
    by_cases hk : k1 = k
    · subst hk
      refine ⟨fun w h => ⟨v2, by simp [valV], ?_⟩, fun h => ?_⟩
      · simp [findK] at h; subst h; exact rv
      · simp [findK] at h
    · have h1 : findK ((k1, w1) :: kvs) k = findK kvs k := by simp [findK, hk]
      have h2 : valV ((k1, v2) :: vs) k = valV vs k := by simp [valV, hk]
      rw [h1, h2]
      exact ih
theorem KR.any {kvs : List (Key × W)} {vs : List (Key × V)} (r : KR g ρ H kvs vs) (k : Key) : (kvs.any fun kv => decide (kv.1 = k)) = (vs.any fun kv => decide (kv.1 = k)) := by
  induction r with
  | nil => rfl
  | @cons p q kvs vs hq hr ih =>
    have e : p.1 = q.1 := hq.1
    simp only [List.any_cons, ih, e]
theorem KR.snoc {kvs : List (Key × W)} {vs : List (Key × V)} (r : KR g ρ H kvs vs) {k : Key} {w : W} {v : V} (q : VR g ρ H w v) : KR g ρ H (kvs ++ [(k, w)]) (vs ++ [(k, v)]) := by
  induction r with
  | nil => exact .cons ⟨rfl, q⟩ .nil
  | cons h t ih => exact .cons h ih
theorem KR.put {kvs : List (Key × W)} {vs : List (Key × V)} (r : KR g ρ H kvs vs) (k : Key) {w : W} {v : V} (q : VR g ρ H w v) : KR g ρ H (putKW kvs k w) (putK vs k v) := by
  unfold putKW putK
  rw [r.any k]
  split
  · have key : ∀ {kvs : List (Key × W)} {vs : List (Key × V)}, KR g ρ H kvs vs → KR g ρ H (kvs.map fun kv => if kv.1 = k then (kv.1, w) else kv) (vs.map fun kv => if kv.1 = k then (kv.1, v) else kv) := by
      intro kvs vs r
      induction r with
      | nil => exact .nil
      | @cons p p' kvs vs hq hr ih =>
        obtain ⟨k1, w1⟩ := p
        obtain ⟨k2, v2⟩ := p'
        obtain ⟨e, rv⟩ := hq
        have e : k1 = k2 := e
        subst e
        refine .cons ?_ ih
        by_cases hk : k1 = k
        · subst hk; simpa using q
        · simpa [hk] using rv
    exact key r
  · exact r.snoc q
theorem KR.merge {kvs more : List (Key × W)} {vs ms : List (Key × V)} (r : KR g ρ H kvs vs) (q : KR g ρ H more ms) : KR g ρ H (mergeKW kvs more) (mergeK vs ms) := by
  induction q generalizing kvs vs with
  | nil => exact r
  | @cons p p' more ms hq hr ih =>
    obtain ⟨k1, w1⟩ := p
    obtain ⟨k2, v2⟩ := p'
    obtain ⟨e, rv⟩ := hq
    have e : k1 = k2 := e
    subst e
    exact ih (r.put k1 rv)
theorem obj_dK (S : Sim g ρ m H) {n : Nat} {p : Addr} {kvs : List (Key × W)} (hp : ρ[n]? = some p) (hm : m[n]? = some (.dK kvs)) : ∃ vs, H p = some (.dK vs) ∧ KR g ρ H kvs vs := by
  obtain ⟨u, h1, vs, e1, r⟩ := S.obj n p _ hp hm
  subst e1
  exact ⟨vs, h1, r⟩

/-- d[k] -/
def dGetW (x y : W) (m : Mem) : R W := match x with
  | .ref n => match m[n]?, keyW y with
    | some (.dK kvs), some k => match findK kvs k with
      | some w => .ok w m
      | none => .bad
    | _, _ => .bad
  | _ => .bad
def eDGet (fo fi : DE) : DE := eBin dGetW fo fi
theorem se_dget (hr : ∃ k, Rm k X.A) (ha : SE g X wx a fa) (hb : SE g X wx b fb) (hs : NoSl b := by exact fun _ _ => rfl) : SE g X wx (.Subscript a b pos) (eDGet fa fb) := by
  obtain ⟨k, hr⟩ := hr
  refine SE.ofPE (pe_dget (hu_of hr.r) ha.pe hb.pe hs) fun σ m ρ H τ Q S L o => ?_
  have o : Out g wx τ ρ H ((fa σ m).bind fun x m1 => (fb σ m1).bind fun y m2 => dGetW x y m2) _ := o
  refine ⟨σ, m, ρ, S, L, (o.bind S).imp fun x m1 ρ1 H1 P1 S1 o1 v rv => ⟨σ, m1, ρ1, S1, L.post S P1, (o1.bind S1).imp fun y m2 ρ2 H2 P2 S2 o2 z rz => ?_⟩⟩
  have rv2 := rv.post S1 P2
  unfold dGetW at o2
  split at o2
  · rename_i n
    cases rv2 with
    | @ref _ p hp =>
      split at o2
      · rename_i kvs k hm hk
        obtain ⟨vs, h1, r1⟩ := obj_dK S2 hp hm
        split at o2
        · rename_i w hw
          obtain ⟨v', h2, r2⟩ := (r1.find k).1 w hw
          obtain rfl := keyW_V rz hk
          exact ⟨p, v', rfl, by rw [← h2]; exact DGet.k h1, Out.here o2 S2 v' r2⟩
        · exact o2.elim
      · exact o2.elim
  · exact o2.elim
/-- k in d -/
def dInW (neg : Bool) (y x : W) (m : Mem) : R W := match x with
  | .ref n => match m[n]?, keyW y with
    | some (.dK kvs), some k => .ok (.bl (if neg then !(findK kvs k).isSome else (findK kvs k).isSome)) m
    | _, _ => .bad
  | _ => .bad
theorem dIn_inv {neg : Bool} {x y : W} {v z : V} {Q : W → Mem → List Addr → Hp → Prop} (S : Sim g ρ m H) (rx : VR g ρ H x v) (ry : VR g ρ H y z) (o : Out g wx τ ρ H (dInW neg y x m) Q) :
    ∃ p r, v = .ref p ∧ DGet H p z r ∧ Q (.bl (if neg then !r.isSome else r.isSome)) m ρ H := by
  unfold dInW at o
  split at o
  · rename_i n
    cases rx with
    | @ref _ p hp =>
      split at o
      · rename_i kvs k hm hk
        obtain ⟨vs, h1, r1⟩ := obj_dK S hp hm
        obtain rfl := keyW_V ry hk
        refine ⟨p, valV vs k, rfl, DGet.k h1, ?_⟩
        have : (valV vs k).isSome = (findK kvs k).isSome := by
          cases q : findK kvs k with
          | none => rw [(r1.find k).2 q]; rfl
          | some w => obtain ⟨v, h, _⟩ := (r1.find k).1 w q; rw [h]; rfl
        rw [this]
        exact Out.here o S
      · exact o.elim
  · exact o.elim
theorem f_dIn (hr : ∃ k, Rm k X.A) : F2 g X wx (compareOp .In) (dInW false) := by
  obtain ⟨k, hr⟩ := hr
  refine ⟨fun pins s m ρ H τ x y v z u t Q I S rx ru ry rt o => ?_⟩
  obtain ⟨p, r, rfl, gd, q⟩ := dIn_inv S ry rx o
  obtain rfl : t = Value.ref p := rt
  exact d_in (hu_of hr.r) I gd ru fun s3 I3 => q (.bl r.isSome) _ s3 I3 (.bl _) rfl
theorem f_dNotIn (hr : ∃ k, Rm k X.A) : F2 g X wx (compareOp .NotIn) (dInW true) := by
  obtain ⟨k, hr⟩ := hr
  refine ⟨fun pins s m ρ H τ x y v z u t Q I S rx ru ry rt o => ?_⟩
  obtain ⟨p, r, rfl, gd, q⟩ := dIn_inv S ry rx o
  obtain rfl : t = Value.ref p := rt
  exact d_notIn (hu_of hr.r) I gd ru fun s3 I3 => q (.bl (!r.isSome)) _ s3 I3 (.bl _) rfl
/-- d[k] = v -/
def dPutM (x y w : W) (m : Mem) : Option Mem := match x with
  | .ref n => match m[n]?, keyW y with
    | some (.dK kvs), some k => if kvs.length < 1000000 then some (m.set n (.dK (putKW kvs k w))) else none
    | _, _ => none
  | _ => none
def sDPut (fo fi fe : DE) : DS := fun σ m => RS.of σ (fe σ m) fun w m1 => RS.of σ (fo σ m1) fun x m2 => RS.of σ (fi σ m2) fun y m3 => match dPutM x y w m3 with
  | some m4 => .nx σ m4
  | none => .bad
theorem ss_dput {o i : Expr} {pos' : Pos} (hr : ∃ k, Rm k X.A) (ho : SE g X wx o fo) (hi : SE g X wx i fi) (he : SE g X wx e fe) (hs : swapsWith e (some (.Subscript o i pos')) pos.line X.env = pure false := by rfl) :
    SS g X wx (.Assign [.Subscript o i pos'] e pos) (sDPut fo fi fe) := by
  obtain ⟨k, hr⟩ := hr
  refine PS.conv (ps_dput (hu_of hr.r) ho.pe hi.pe he.pe hs) fun D τ H ⟨σ, m, ρ, S, L, oo⟩ => ⟨σ, m, ρ, S, L, (oo.of S L).imp fun w m1 ρ1 H1 P1 S1 o1 v r => ⟨σ, m1, ρ1, S1, L.post S P1, (o1.of S1 (L.post S P1)).imp fun x m2 ρ2 H2 P2 S2 o2 v2 r2 =>
    ⟨σ, m2, ρ2, S2, (L.post S P1).post S1 P2, (o2.of S2 ((L.post S P1).post S1 P2)).imp fun y m3 ρ3 H3 P3 S3 o3 v3 r3 => ?_⟩⟩⟩
  have L3 := ((L.post S P1).post S1 P2).post S2 P3
  have rx := r2.post S2 P3
  have rw_ := (r.post S1 P2).post S2 P3
  unfold dPutM at o3
  cases x with
  | ref n =>
    cases rx with
    | @ref _ p hp =>
      simp only at o3
      cases hm : m3[n]? with
      | none => simp only [hm] at o3; exact o3.elim
      | some ob =>
        cases ob with
        | dK kvs =>
          cases hk : keyW y with
          | none => simp only [hm, hk] at o3; exact o3.elim
          | some k =>
            simp only [hm, hk] at o3
            by_cases hl : kvs.length < 1000000
            · simp only [hl, if_true] at o3
              obtain ⟨vs, h1, r1⟩ := obj_dK S3 hp hm
              obtain rfl := keyW_V r3 hk
              obtain ⟨P4, S4⟩ := S3.set (u := .dK (putK vs k v)) (o := .dK (putKW kvs k w)) hp ⟨_, rfl, r1.put k rw_⟩
              exact ⟨p, _, rfl, DPut.k h1 (by rw [← r1.len, sizeLine_eq]; omega), o3 _ _ τ P4 S4 (L3.post S3 P4)⟩
            · simp only [hl, if_false] at o3; exact o3.elim
        | _ => simp only [hm] at o3; exact o3.elim
  | _ => exact o3.elim

/-! {k: v, ..} -/
def eDict0 : DE := fun _ m => .ok (.ref m.length) (m ++ [.dK []])
theorem se_dict0 : SE g X wx (.Dict [] [] pos) eDict0 := SE.ofPE pe_dnewK fun σ m ρ H τ Q S L o p hp => by
  obtain ⟨P2, S2⟩ := S.push (o := .dK []) (u := .dK []) hp ⟨_, rfl, .nil⟩
  exact o _ _ P2 S2 _ (.ref (by rw [← S.len]; simp))
def dPairs : List (DE × DE) → Loc → Mem → R (List (W × W))
  | [], _, m => .ok [] m
  | (k, v) :: r, σ, m => (k σ m).bind fun x m1 => (v σ m1).bind fun y m2 => (dPairs r σ m2).bind fun ps m3 => .ok ((x, y) :: ps) m3
def keysW : List (W × W) → Option (List (Key × W))
  | [] => some []
  | (x, y) :: r => match keyW x, keysW r with
    | some k, some ks => some ((k, y) :: ks)
    | _, _ => none
def eDict (ps : List (DE × DE)) : DE := fun σ m => (dPairs ps σ m).bind fun kws m1 => match keysW kws with
  | some kvs => if kvs.length ≤ 15 then .ok (.ref m1.length) (m1 ++ [.dK (mergeKW [] kvs)]) else .bad
  | none => .bad
def SPs (g : G) (X : Cx) (wx : WX) (pos : Pos) (keys : List (Option Expr)) (values : List Expr) (ps : List (DE × DE)) : Prop := PPs X pos keys values (ps.map fun p => (teOf g wx p.1, teOf g wx p.2))
theorem sps_nil : SPs g X wx pos [] [] [] := pps_nil
theorem sps_cons {k v : Expr} {fk fv : DE} {ks : List (Option Expr)} {vs : List Expr} {ps : List (DE × DE)} (hk : SE g X wx k fk) (hv : SE g X wx v fv) (hr : SPs g X wx pos ks vs ps) : SPs g X wx pos (some k :: ks) (v :: vs) ((fk, fv) :: ps) := pps_cons hk.pe hv.pe hr
abbrev VVR (g : G) (ρ : List Addr) (H : Hp) : List (W × W) → List (V × V) → Prop := Paired fun p q => VR g ρ H p.1 q.1 ∧ VR g ρ H p.2 q.2
theorem pairs_ok {σ : Loc} : ∀ {ps : List (DE × DE)} {m : Mem} {ρ : List Addr} {H : Hp} {Q : List (V × V) → Hp → Prop}, Sim g ρ m H → LR g ρ H σ τ → Out g wx τ ρ H (dPairs ps σ m) (fun kws m' ρ' H' => ∀ vvs, VVR g ρ' H' kws vvs → Q vvs H') →
    tPairs (ps.map fun p => (teOf g wx p.1, teOf g wx p.2)) τ H Q
  | [], m, ρ, H, Q, S, L, o => Out.here o S [] .nil
  | (k, v) :: r, m, ρ, H, Q, S, L, o => by
    have o : Out g wx τ ρ H ((k σ m).bind fun x m1 => (v σ m1).bind fun y m2 => (dPairs r σ m2).bind fun ps m3 => .ok ((x, y) :: ps) m3) _ := o
    refine ⟨σ, m, ρ, S, L, (o.bind S).imp fun x m1 ρ1 H1 P1 S1 o1 v1 r1 => ⟨σ, m1, ρ1, S1, L.post S P1, (o1.bind S1).imp fun y m2 ρ2 H2 P2 S2 o2 v2 r2 => ?_⟩⟩
    exact pairs_ok S2 ((L.post S P1).post S1 P2) ((o2.bind S2).imp fun ps m3 ρ3 H3 P3 S3 o3 vvs rr => Out.here o3 S3 _ (.cons ⟨(r1.post S1 P2).post S2 P3, r2.post S2 P3⟩ rr))
theorem keysW_ok : ∀ {kws : List (W × W)} {vvs : List (V × V)} {kvs : List (Key × W)}, VVR g ρ H kws vvs → keysW kws = some kvs → ∃ vs : List (Key × V), KR g ρ H kvs vs ∧ vvs = vs.map fun kv => (kV kv.1, kv.2)
  | _, _, _, .nil, h => by cases h; exact ⟨[], .nil, rfl⟩
  | _, _, _, .cons (a := (x, y)) (b := (v, z)) hq hr, h => by
    unfold keysW at h
    split at h
    · rename_i k ks h1 h2
      cases h
      obtain ⟨vs, r, e⟩ := keysW_ok hr h2
      obtain rfl := keyW_V hq.1 h1
      exact ⟨(k, z) :: vs, .cons ⟨rfl, hq.2⟩ r, by rw [e]; rfl⟩
    · cases h
section
variable {D : Addr} {vs us : List (Key × V)}
theorem SqT.swapD {K : PySem.W.Frag} {xs : List V} {a : Addr} (hD : H D = some (.dK vs)) (h : SqT K H a xs) : SqT K (upd H D (.dK us)) a xs := by
  rcases h with (h | ⟨o, h⟩) | h
  · exact .inl (.inl (by rw [upd_ne (fun e => by subst e; rw [hD] at h; cases h)]; exact h))
  · exact .inl (.inr ⟨o, by rw [upd_ne (fun e => by subst e; rw [hD] at h; cases h)]; exact h⟩)
  · exact .inr h
theorem SqF.swapD {K : PySem.W.Frag} {xs : List V} {a : Addr} (hD : H D = some (.dK vs)) (h : SqF K H a xs) : SqF K (upd H D (.dK us)) a xs := by
  rcases h with ⟨o, h⟩ | h
  · exact .inl ⟨o, by rw [upd_ne (fun e => by subst e; rw [hD] at h; cases h)]; exact h⟩
  · exact .inr h
mutual
theorem VR.swapD (hD : H D = some (.dK vs)) : ∀ {w : W} {v : V}, VR g ρ H w v → VR g ρ (upd H D (.dK us)) w v
  | _, _, .non => .non
  | _, _, .bl b => .bl b
  | _, _, .int b => .int b
  | _, _, .str b => .str b
  | _, _, .tup h r => .tup (SqT.swapD hD h) (VRs.swapD hD r)
  | _, _, .frz h r => .frz (SqF.swapD hD h) (VRs.swapD hD r)
  | _, _, .ref h => .ref h
  | _, _, .cls c => .cls c
  | _, _, .ty c => .ty c
theorem VRs.swapD (hD : H D = some (.dK vs)) : ∀ {ws : List W} {xs : List V}, VRs g ρ H ws xs → VRs g ρ (upd H D (.dK us)) ws xs
  | _, _, .nil => .nil
  | _, _, .cons h r => .cons (VR.swapD hD h) (VRs.swapD hD r)
end
theorem OR.swapD (hD : H D = some (.dK vs)) {o : O} {u : HO} (h : OR g ρ H o u) : OR g ρ (upd H D (.dK us)) o u := by
  cases o with
  | lst ws => obtain ⟨vs, e, r⟩ := h; exact ⟨vs, e, r.swapD hD⟩
  | dK ws => obtain ⟨vs, e, r⟩ := h; exact ⟨vs, e, Paired.imp r fun _ _ q => ⟨q.1, q.2.swapD hD⟩⟩
  | dT ws => obtain ⟨vs, e, r⟩ := h; exact ⟨vs, e, Paired.imp r fun _ _ q => ⟨q.1, q.2.swapD hD⟩⟩
  | ins c fs => obtain ⟨dx, gs, e, r⟩ := h; exact ⟨dx, gs, e, Paired.imp r fun _ _ q => ⟨q.1, q.2.swapD hD⟩⟩
  | exc c fs =>
    obtain ⟨oe, vs, d, gs, e, h1, h2, h3, h4, h5⟩ := h
    refine ⟨oe, vs, d, gs, e, h1, h2, h3, ?_, Paired.imp h5 fun _ _ q => ⟨q.1, q.2.swapD hD⟩⟩
    cases d with
    | none => exact h4
    | some a =>
      show upd H D _ a = some (.xd gs)
      rw [upd_ne (fun z => by subst z; have h4' : H a = some (.xd gs) := h4; rw [hD] at h4'; cases h4')]
      exact h4
  | exh c fs msg =>
    obtain ⟨oe, vs', d, gs, tt, e, h1, h2, h3, h4, h5, h6, h7⟩ := h
    refine ⟨oe, vs', d, gs, tt, e, h1, h2, h3, ?_, Paired.imp h5 fun _ _ q => ⟨q.1, q.2.swapD hD⟩, h6, ?_⟩
    · cases d with
      | none => exact h4
      | some a =>
        show upd H D _ a = some (.xd gs)
        rw [upd_ne (fun z => by subst z; have h4' : H a = some (.xd gs) := h4; rw [hD] at h4'; cases h4')]
        exact h4
    · rw [upd_ne (fun z => by subst z; rw [hD] at h7; cases h7)]
      exact h7
theorem Sim.swapD (S : Sim g ρ m H) (hD : H D = some (.dK vs)) (hn : D ∉ ρ) : Sim g ρ m (upd H D (.dK us)) := by
  refine ⟨S.len, S.nd, fun i a o h1 h2 => ?_⟩
  obtain ⟨u, h3, h4⟩ := S.obj i a o h1 h2
  refine ⟨u, ?_, h4.swapD hD⟩
  rw [upd_ne]
  · exact h3
  · rintro rfl
    exact hn (List.mem_of_getElem? h1)
end
theorem Post.keepOut (P : Post ρ H ρ' H') {p : Addr} {u : HO} (hp : H p = some u) (hn : p ∉ ρ) : H' p = some u ∧ p ∉ ρ' := by
  refine ⟨P.keep p u hp hn, fun z => ?_⟩
  obtain ⟨l, e, hl⟩ := P.ext
  rw [e] at z
  rcases List.mem_append.mp z with z | z
  · exact hn z
  · rw [hl p z] at hp; cases hp
theorem se_dict {keys : List (Option Expr)} {values : List Expr} {ps : List (DE × DE)} (h : SPs g X wx pos keys values ps) (hall : keys.all (·.isSome) = true := by rfl) (hl : keys.length = values.length := by rfl) (h0 : keys ≠ [] := by intro z; cases z)
    (h15 : keys.length ≤ 15 := by decide) : SE g X wx (.Dict keys values pos) (eDict ps) := SE.ofPE (pe_disp h hall hl h0 h15) fun σ m ρ H τ Q S L o p hp => by
  obtain ⟨P0, S0⟩ := S.junk (u := .dK []) hp
  have hpn : p ∉ ρ := fun z => S.isSm z hp
  have o0 : Out g wx τ ρ (upd H p (.dK [])) ((dPairs ps σ m).bind fun kws m1 => match keysW kws with
    | some kvs => if kvs.length ≤ 15 then .ok (.ref m1.length) (m1 ++ [.dK (mergeKW [] kvs)]) else .bad
    | none => .bad) (fun w m' ρ' H' => ∀ v, VR g ρ' H' w v → Q v H') := o.from P0 S S0
  have o1 : Out g wx τ ρ (upd H p (.dK [])) (dPairs ps σ m) (fun kws m1 ρ1 H1 => ∃ kvs, keysW kws = some kvs ∧ kvs.length ≤ 15 ∧ Post ρ H ρ1 H1 ∧ Post ρ (upd H p (.dK [])) ρ1 H1 ∧ Sim g ρ1 m1 H1) := by
    cases hd : dPairs ps σ m with
    | ok kws m1 =>
      rw [hd] at o0
      intro ρ1 H1 P1 S1
      have o0' : Out g wx τ ρ (upd H p (.dK [])) (match keysW kws with
        | some kvs => if kvs.length ≤ 15 then .ok (.ref m1.length) (m1 ++ [.dK (mergeKW [] kvs)]) else .bad
        | none => .bad) (fun w m' ρ' H' => ∀ v, VR g ρ' H' w v → Q v H') := o0
      cases hk : keysW kws with
      | none => rw [hk] at o0'; exact o0'.elim
      | some kvs =>
        rw [hk] at o0'
        by_cases hl : kvs.length ≤ 15
        · exact ⟨kvs, rfl, hl, P0.then P1 S S0, P1, S1⟩
        · simp only [hl, if_false] at o0'; exact o0'.elim
    | exc c fs m1 => rw [hd] at o0; exact o0
    | bad => rw [hd] at o0; exact o0
  refine pairs_ok S0 (L.post S P0) ?_
  have o2 : Out g wx τ ρ H (dPairs ps σ m) (fun kws m1 ρ1 H1 => ∀ kvs, keysW kws = some kvs → kvs.length ≤ 15 → ∀ ρ2 H2, Post ρ H ρ2 H2 → Sim g ρ2 (m1 ++ [.dK (mergeKW [] kvs)]) H2 → ∀ v, VR g ρ2 H2 (.ref m1.length) v → Q v H2) := by
    have o' : Out g wx τ ρ H ((dPairs ps σ m).bind fun kws m1 => match keysW kws with
      | some kvs => if kvs.length ≤ 15 then .ok (.ref m1.length) (m1 ++ [.dK (mergeKW [] kvs)]) else .bad
      | none => .bad) (fun w m' ρ' H' => ∀ v, VR g ρ' H' w v → Q v H') := o
    cases hd : dPairs ps σ m with
    | ok kws m1 =>
      rw [hd] at o'
      intro ρ1 H1 P1 S1 kvs hk hl ρ2 H2 P2 S2
      have o3 : Out g wx τ ρ H (match keysW kws with
        | some kvs => if kvs.length ≤ 15 then .ok (.ref m1.length) (m1 ++ [.dK (mergeKW [] kvs)]) else .bad
        | none => .bad) (fun w m' ρ' H' => ∀ v, VR g ρ' H' w v → Q v H') := o'
      rw [hk] at o3
      simp only [hl, if_true] at o3
      exact o3 ρ2 H2 P2 S2
    | exc c fs m1 => rw [hd] at o'; exact o'
    | bad => rw [hd] at o'; exact o'
  cases hd : dPairs ps σ m with
  | exc c fs m1 => rw [hd] at o1; exact o1
  | bad => rw [hd] at o1; exact o1
  | ok kws m1 =>
    rw [hd] at o1 o2
    intro ρ1 H1 P1 S1 vvs rr
    obtain ⟨kvs, hk, hl, PH, _, _⟩ := o1 ρ1 H1 P1 S1
    obtain ⟨vs, rk, ev⟩ := keysW_ok rr hk
    have f1 := P1.keepOut (p := p) upd_same hpn
    refine ⟨f1.1, vs, ev, by rw [← rk.len]; exact hl, ?_⟩
    have S3 : Sim g ρ1 m1 (upd H1 p (.dK (mergeK [] vs))) := S1.swapD f1.1 f1.2
    have P3 : Post ρ H ρ1 (upd H1 p (.dK (mergeK [] vs))) := PH.out hp
    have rk3 : KR g ρ1 (upd H1 p (.dK (mergeK [] vs))) kvs vs := Paired.imp rk fun _ _ q => ⟨q.1, q.2.swapD f1.1⟩
    obtain ⟨P4, S4⟩ := S3.adopt (o := .dK (mergeKW [] kvs)) upd_same f1.2 ⟨_, rfl, KR.merge (kvs := []) (vs := []) .nil rk3⟩ P3 hp
    refine o2 ρ1 H1 PH S1 kvs hk hl _ _ P4 S4 (.ref p) (.ref ?_)
    rw [← S1.len]; simp
end
end Sh

namespace Sh
open PySem PySem.Spec L2
open PyProof.Rows (envOfC)

/-! ### e.f of an exception that is held -/
def xattr (f : List Nat) (ok : String → Bool) (x : W) (m : Mem) : R W := match x with
  | .ref n => match m[n]? with
    | some (.exc c fs) => if ok c = true then (match fs.lookup f with
      | some w => .ok w m
      | none => .bad) else .bad
    | some (.exh c fs _) => if ok c = true then (match fs.lookup f with
      | some w => .ok w m
      | none => .bad) else .bad
    | _ => .bad
  | _ => .bad
def eXAttr (f : List Nat) (ok : String → Bool) (o : DE) : DE := fun σ m => (o σ m).bind (xattr f ok)
section
variable {g : G} {X : Cx} {wx : WX} {τ : L2.St} {ρ ρ' : List Addr} {H H' : Hp} {m m' : Mem} {o : Expr} {fo : DE} {f : List Nat} {fn : Str} {ok : String → Bool} {pos : Pos}
theorem se_xattr (ho : SE g X wx o fo) (ht : ∀ c, ok c = true → XfC X.K (g.cl c) ∧ PySem.W.findIn X.K (.ref (g.cl c)) (Sh.S f) = some none) (hf : fn = Sh.S f) (hb : attributeBase o fn X.env (eval o X.env) = eval o X.env := by rfl) : SE g X wx (.Attribute o fn pos) (eXAttr f ok fo) := by
  subst hf
  refine ⟨fun pins s σ m ρ H τ Q I S L oo => ?_⟩
  refine attr_of hb (ho.run pins s σ m ρ H τ _ I S L ((oo.bind S).imp fun x m1 ρ1 H1 P1 S1 o1 v u s1 I1 rv ru => ?_))
  unfold xattr at o1
  split at o1
  · rename_i n
    cases rv with
    | @ref _ a ha =>
      obtain rfl : u = Value.ref a := ru
      split at o1
      · rename_i c fs hm
        split at o1
        · rename_i hc
          split at o1
          · rename_i w hw
            obtain ⟨oe, od, gs, J, rf, hl⟩ := exc_inst I1 S1 ha (.inl hm)
            obtain ⟨T, hno⟩ := ht c hc
            obtain ⟨v, h2, r2⟩ := (rf.lookup f).1 w hw
            obtain ⟨oo', u, e1, e2, ru⟩ := hl _ v h2
            subst e1
            exact HandSPX.exc_get I1.kIn J T.ga T.gg T.exC (PySem.W.findObj_own T.hdC hno rfl e2) (handed_of ru) (Out.here o1 S1 v u _ (I1.tok _) r2 ru)
          · exact o1.elim
        · exact o1.elim
      · rename_i c fs msg hm
        split at o1
        · rename_i hc
          split at o1
          · rename_i w hw
            obtain ⟨oe, od, gs, J, rf, hl⟩ := exc_inst I1 S1 ha (.inr ⟨msg, hm⟩)
            obtain ⟨T, hno⟩ := ht c hc
            obtain ⟨v, h2, r2⟩ := (rf.lookup f).1 w hw
            obtain ⟨oo', u, e1, e2, ru⟩ := hl _ v h2
            subst e1
            exact HandSPX.exc_get I1.kIn J T.ga T.gg T.exC (PySem.W.findObj_own T.hdC hno rfl e2) (handed_of ru) (Out.here o1 S1 v u _ (I1.tok _) r2 ru)
          · exact o1.elim
        · exact o1.elim
      · exact o1.elim
  · exact o1.elim
end

/-! ### an except clause's test, by the written part's words -/
theorem exm_ok {K : PySem.W.Frag} {C : Addr} {cls : Value} {b : Bool} (h1 : PySem.W.subIn K (.ref C) (.type "BaseException") = some true) (h2 : (PySem.W.clsIn K C).isSome = true) (h3 : PySem.W.typeIn K (.ref C) = some (.type "type")) (h4 : PySem.W.subIn K cls (.ref C) = some b) :
    PySem.W.exmOne K cls (.ref C) = some b := by
  have e1 : (PySem.W.subIn K (.ref C) (.type "BaseException") == some true) = true := by rw [h1] <;> rfl
  have e2 : ((PySem.W.clsIn K C).isSome && PySem.W.typeIn K (.ref C) == some (.type "type")) = true := by rw [h2, h3] <;> rfl
  show (if (PySem.W.subIn K (.ref C) (.type "BaseException") == some true) = true then (if ((PySem.W.clsIn K C).isSome && PySem.W.typeIn K (.ref C) == some (.type "type")) = true then PySem.W.subIn K cls (.ref C) else none) else none) = some b
  rw [if_pos e1, if_pos e2]
  exact h4
theorem some_is {α : Type} {o : Option α} {a : α} (h : o = some a) : o.isSome = true := by rw [h]; rfl
theorem exm_nil {K : PySem.W.Frag} {cls : Value} : PySem.W.exmAny K cls [] = some false := rfl
theorem exm_cons {K : PySem.W.Frag} {cls c : Value} {r : List Value} {b d : Bool} (h1 : PySem.W.exmOne K cls c = some b) (h2 : PySem.W.exmAny K cls r = some d) : PySem.W.exmAny K cls (c :: r) = some (b || d) := by
  unfold PySem.W.exmAny
  rw [h1, h2]
theorem names_own {X : Cx} {x : Str} {c : Value} (hg : Gl X x) (hm : X.mg x = some c) (hd : (x == ("__debug__" : Str)) = false := by decide) : Names X x c := ⟨hg, hd, .inl hm⟩

/-! ### an own exception's __init__, as it stands in the written part -/
structure ExcAt (P : Program) (K : PySem.W.Frag) (mg : Str → Option Value) (C : Addr) (qual : Str) (st : Stmt) (f : Addr) : Prop where
  ex : ∃ (cda cc : Addr) (doc pm ct oc : Value) (an od : Option Addr) (osl : Array (Option Value)),
    K.lookup f = some ⟨oc, od, .func (PySem.W.ksFn "__init__" qual (defArgs st) (defBody st) (defScope st) .none .none doc pm an (.ref cda) ct cc), osl⟩ ∧ PySem.W.codeIn K (.ref cda) qual = true ∧ SupX P K mg cda cc C
section
variable {P : Program} {w : World} {K : PySem.W.Frag} {mg : Str → Option Value} {base : Heap} {g : G}
theorem exc1_of {x : Str} {c : String} {qual y : Str} {f : List Nat} {fn : Str} {st : Stmt} {fi : Addr} {k : Nat} {p0 p1 apos cpos epos mp ap sp np vp : Pos} {msg : Str} {kd : Nat} {ar : Arg} {pl : Sem Bool}
    (hm : mg x = some (.ref (g.cl c))) (D : XcK K (g.cl c) fi) (A : ExcAt P K mg (g.cl c) qual st fi) (hno : PySem.W.findIn K (.ref (g.cl c)) (Sh.S f) = some none)
    (hbody : defBody st = [.Expr (.Call (.Attribute (.Call (.Name "super" p0) [] [] p1) "__init__" apos) [.Constant (.str msg) kd mp] [] cpos) epos, .Assign [.Attribute (.Name "self" np) fn ap] (.Name y vp) sp]) (hf : fn = Sh.S f)
    (S : ScopeS ["self", y] ["self", y] (defScope st)) (hpar : ((defArgs st).posonlyargs ++ (defArgs st).args).head? = some ar) (har : ar.arg = "self")
    (hks : (defScope st).names.lookup ("super" : Str) = some .globalImplicit) (hkc : (defScope st).names.lookup ("__class__" : Str) = some .free)
    (hbd : ∀ (doc pm cd ct : Value) (an : Option Addr) (cc : Addr) (us : List Value), us.length = 2 → bindArgs (PySem.W.ksFn "__init__" qual (defArgs st) (defBody st) (defScope st) .none .none doc pm an cd ct cc) ⟨us, []⟩ = pure ((["self", y] : List Str).zip us))
    (hv0 : Vis (defScope st) ("self" : Str)) (hv1 : Vis (defScope st) y) (hd1 : (y == ("__debug__" : Str)) = false) (hc1 : (y == ("__classdict__" : Str)) = false)
    (hev : ∀ env, eval (.Call (.Attribute (.Call (.Name "super" p0) [] [] p1) "__init__" apos) [.Constant (.str msg) kd mp] [] cpos) env = (do
      let ov ← attributeBase (.Call (.Name "super" p0) [] [] p1) "__init__" env (eval (.Call (.Name "super" p0) [] [] p1) env)
      standAt apos.atName
      let (f, first) ← holding [ov] (getMethod ov "__init__" pl)
      callWith cpos f first (backTo cpos (starEach [.Constant (.str msg) kd mp] env)) []))
    (hsw : ∀ env, swapsWith (.Call (.Attribute (.Call (.Name "super" p0) [] [] p1) "__init__" apos) [.Constant (.str msg) kd mp] [] cpos) none epos.line env = pure false)
    (hsw2 : ∀ env, swapsWith (.Name y vp) (some (.Attribute (.Name "self" np) fn ap)) sp.line env = pure false) :
    Exc1 P w K mg base g x c (k + 1) f := by
  subst hf
  obtain ⟨cda, cc, doc, pm, ct, oc, an, od, osl, lk, hcd, U⟩ := A.ex
  refine ⟨fi, _, ["self", y], hm, D, rfl, .all (hbd doc pm (.ref cda) ct an cc), ?_⟩
  rw [hbody] at lk ⊢
  refine fn_sp1 (superX (t := tOst K (Sh.S f) (tVar 0) (tVar 1)) lk hcd S (by rw [har]; rfl) hpar hks hkc U D.T hev hsw fun A outer s H E => pss_one (ps_ost (pe_var (i := 0) rfl hv0 (by decide) (by decide)) (pe_var (i := 1) rfl hv1 hd1 hc1) (hsw2 _))) D.T hno
theorem exc0_of {x : Str} {c : String} {qual : Str} {st : Stmt} {fi : Addr} {k : Nat} {p0 p1 apos cpos epos mp : Pos} {msg : Str} {kd : Nat} {ar : Arg} {pl : Sem Bool}
    (hm : mg x = some (.ref (g.cl c))) (D : XcK K (g.cl c) fi) (A : ExcAt P K mg (g.cl c) qual st fi)
    (hbody : defBody st = [.Expr (.Call (.Attribute (.Call (.Name "super" p0) [] [] p1) "__init__" apos) [.Constant (.str msg) kd mp] [] cpos) epos])
    (S : ScopeS ["self"] ["self"] (defScope st)) (hpar : ((defArgs st).posonlyargs ++ (defArgs st).args).head? = some ar) (har : ar.arg = "self")
    (hks : (defScope st).names.lookup ("super" : Str) = some .globalImplicit) (hkc : (defScope st).names.lookup ("__class__" : Str) = some .free)
    (hbd : ∀ (doc pm cd ct : Value) (an : Option Addr) (cc : Addr) (us : List Value), us.length = 1 → bindArgs (PySem.W.ksFn "__init__" qual (defArgs st) (defBody st) (defScope st) .none .none doc pm an cd ct cc) ⟨us, []⟩ = pure ((["self"] : List Str).zip us))
    (hev : ∀ env, eval (.Call (.Attribute (.Call (.Name "super" p0) [] [] p1) "__init__" apos) [.Constant (.str msg) kd mp] [] cpos) env = (do
      let ov ← attributeBase (.Call (.Name "super" p0) [] [] p1) "__init__" env (eval (.Call (.Name "super" p0) [] [] p1) env)
      standAt apos.atName
      let (f, first) ← holding [ov] (getMethod ov "__init__" pl)
      callWith cpos f first (backTo cpos (starEach [.Constant (.str msg) kd mp] env)) []))
    (hsw : ∀ env, swapsWith (.Call (.Attribute (.Call (.Name "super" p0) [] [] p1) "__init__" apos) [.Constant (.str msg) kd mp] [] cpos) none epos.line env = pure false) :
    Exc0 P w K mg base g x c (k + 1) := by
  obtain ⟨cda, cc, doc, pm, ct, oc, an, od, osl, lk, hcd, U⟩ := A.ex
  refine ⟨fi, _, ["self"], hm, D, rfl, .all (hbd doc pm (.ref cda) ct an cc), ?_⟩
  rw [hbody] at lk ⊢
  exact fn_sp0 (superX (t := tNext) lk hcd S (by rw [har]; rfl) hpar hks hkc U D.T hev hsw fun A outer s H E => pss_nil)
end
end Sh

namespace Sh
open PySem PySem.Spec L2

/-! ### s * 0, s * 1, xs * 0, xs * 1 -/
def wRep (x y : W) (m : Mem) : R W := match x, y with
  | .str a, .int j => if a.length ≤ 1000000 then (if j = 0 then .ok (.str []) m else if j = 1 then .ok (.str a) m else .bad) else .bad
  | .ref n, .int j => match m[n]? with
    | some (.lst ws) => if j = 0 then .ok (.ref m.length) (m ++ [.lst []]) else if j = 1 then .ok (.ref m.length) (m ++ [.lst ws]) else .bad
    | _ => .bad
  | _, _ => .bad
section
variable {g : G} {X : Cx} {wx : WX} {τ : L2.St} {ρ ρ' : List Addr} {H H' : Hp} {m m' : Mem} {e a b : Expr} {fa fb : DE} {pos : Pos} {pins : List (Addr × Obj)} {s : Shared}
theorem rep_list {p : Addr} {xs : List V} {j : Int} {t : Tok} {Q : Value → Shared → Prop} (I : Inv X pins τ H s) (hp : H p = some (.lst xs)) (hj : j = 0 ∨ j = 1)
    (q : ∀ s', Inv X pins τ (upd H s.heap.objs.size (.lst (if j = 1 then xs else []))) s' → Q (.ref s.heap.objs.size) s') : wpAny (model X.prog X.w) X.A (binaryOp .Mult (.ref p) (.int j t)) Q X.xe s := by
  obtain ⟨hlen, its, n, rv, ho⟩ := (show ObjOk X.prog X.w H s.heap p (.lst xs) from I.hok p _ hp)
  have hz : its.length ≤ sizeLine := by rw [← rv.length]; exact hlen
  have hsl := sizeLine_eq
  have hm : its.toArray.size * j.toNat ≤ its.length := by
    rw [List.size_toArray]
    rcases hj with rfl | rfl
    · simp
    · simp
  refine wpAny_binaryOp_repeat_ref (T := "list") (U := "int") (by decide) ⟨_, ho, rfl⟩ (fun s' => typeIs_int s' j t) noFill_list_mul F.fills_int_mul F.slot_int_rmul repeat_list F.slot_int_index.lookup
    (call_meets F.slot_int_rmul (typeIs_int s j t) F.entry_int_rmul (F.args_int_rmul_2 _ _) (int___rmul___int_list j t p its.toArray n)
      ⟨ho, rfl, ⟨_, ho, rfl⟩, call_meets F.slot_list_mul ⟨_, ho, rfl⟩ F.entry_list_mul (F.args_list_mul_2 _ _)
        (AutoListH.list___mul___list_int_3 p its.toArray n j t (by rcases hj with rfl | rfl <;> decide) (by omega) (by simp only [Builtin.List.listTooLong, decide_eq_true_eq]; omega))
        ⟨ho, ?_⟩⟩)
  have e : List.foldl (fun x1 x2 => x1 ++ x2) #[] (List.replicate (if its.toArray.isEmpty = true then 0 else j.toNat) its.toArray) = (if j = 1 then its else []).toArray := by
    rw [PyProof.Rows.listMul_foldl]
    rcases hj with rfl | rfl
    · simp
    · cases its <;> simp
  rw [e]
  refine q _ (I.laid (t' := s.toks) (fun b o e => Heap.get?_push_of_some _ e) (Nat.le_refl _) ⟨?_, (if j = 1 then its else []), 0, ?_, Heap.get?_push_size _ rfl⟩)
  · split
    · exact hlen
    · exact Nat.zero_le _
  · split
    · exact rv
    · exact .nil
theorem f_rep : F2 g X wx (binaryOp .Mult) wRep := by
  refine ⟨fun pins s m ρ H τ x y v z u t Q I S rx ru ry rt o => ?_⟩
  unfold wRep at o
  split at o
  · rename_i a j
    cases rx; cases ry
    obtain ⟨tu, rfl⟩ := ru
    obtain ⟨tt, rfl⟩ := rt
    split at o
    · rename_i hl
      split at o
      · rename_i h0
        subst h0
        refine PySem.P.mul_str_none (by decide) (by decide) ?_
        exact Out.here o S (.str (Sh.S [])) _ _ (I.tok _) (.str []) ⟨_, rfl⟩
      · split at o
        · rename_i h1
          subst h1
          refine PySem.P.mul_str (by decide) (fun _ h => by simp at h) (fun _ h => by simp at h) ?_
          rw [if_neg (by decide), if_pos (by simp)]
          exact Out.here o S (.str (Sh.S a)) _ _ I (.str a) ⟨_, rfl⟩
        · exact o.elim
    · exact o.elim
  · rename_i n j
    cases ry
    obtain ⟨tt, rfl⟩ := rt
    cases rx with
    | @ref _ p hp =>
      obtain rfl : u = Value.ref p := ru
      split at o
      · rename_i ws hm
        obtain ⟨vs, h1, rv⟩ := obj_lst S hp hm
        have hn : H s.heap.objs.size = none := I.hok.fresh (Nat.le_refl _)
        split at o
        · rename_i h0
          subst h0
          refine rep_list I h1 (.inl rfl) fun s' J => ?_
          obtain ⟨P2, S2⟩ := S.push (o := .lst []) (u := .lst []) hn ⟨_, rfl, .nil⟩
          exact o _ _ P2 S2 (.ref s.heap.objs.size) _ s' J (.ref (by rw [← S.len]; simp)) rfl
        · split at o
          · rename_i h1'
            subst h1'
            refine rep_list I h1 (.inr rfl) fun s' J => ?_
            obtain ⟨P2, S2⟩ := S.push (o := .lst ws) (u := .lst vs) hn ⟨_, rfl, rv⟩
            exact o _ _ P2 S2 (.ref s.heap.objs.size) _ s' J (.ref (by rw [← S.len]; simp)) rfl
          · exact o.elim
      · exact o.elim
  · exact o.elim

/-! ### xs[lo:hi:k] of a list -/
def stepW {α : Type} (xs : List α) (lo hi : Option Int) (k : Int) : List α := (sliceRange (sliceBounds lo hi (some k) xs.length).1 (sliceBounds lo hi (some k) xs.length).2.1 (sliceBounds lo hi (some k) xs.length).2.2).filterMap (xs[·]?)
theorem slicePick_step (its : List Value) (lo hi : Option Int) (k : Int) : slicePick its.toArray lo hi (some k) = (stepW its lo hi k).toArray := by
  unfold slicePick stepW
  simp only [List.size_toArray, List.getElem?_toArray]
theorem VRs.pick {ws : List W} {vs : List V} (r : VRs g ρ H ws vs) : ∀ is : List Nat, VRs g ρ H (is.filterMap (ws[·]?)) (is.filterMap (vs[·]?))
  | [] => .nil
  | i :: is => by
    cases q : ws[i]? with
    | none =>
      have q2 : vs[i]? = none := by rw [List.getElem?_eq_none_iff] at q ⊢; rw [← r.length]; exact q
      simp only [List.filterMap_cons, q, q2]
      exact VRs.pick r is
    | some w =>
      obtain ⟨v, h1, h2⟩ := r.get q
      simp only [List.filterMap_cons, q, h1]
      exact .cons h2 (VRs.pick r is)
theorem Vals.pick {ws : List V} {vs : List Value} (r : Vals ws vs) : ∀ is : List Nat, Vals (is.filterMap (ws[·]?)) (is.filterMap (vs[·]?))
  | [] => .nil
  | i :: is => by
    cases q : ws[i]? with
    | none =>
      have q2 : vs[i]? = none := r.none_of q
      simp only [List.filterMap_cons, q, q2]
      exact Vals.pick r is
    | some w =>
      obtain ⟨v, h1, h2⟩ := r.get q
      simp only [List.filterMap_cons, q, h1]
      exact .cons h2 (Vals.pick r is)
def wSlS (x : W) (lo hi : Option Int) (k : Int) (m : Mem) : R W := match x with
  | .ref n => match m[n]? with
    | some (.lst ws) => if (stepW ws lo hi k).length ≤ 1000000 then .ok (.ref m.length) (m ++ [.lst (stepW ws lo hi k)]) else .bad
    | _ => .bad
  | _ => .bad
def eSlS (f : DE) (fl fh : DO) (k : Int) : DE := fun σ m => (f σ m).bind fun x m1 => (fl σ m1).bind fun l m2 => (fh σ m2).bind fun h m3 => wSlS x l h k m3
theorem se_slS {lo hi : Option Expr} {fl fh : DO} {p2 cp : Pos} {k : Int} {kd : Nat} (ha : SE g X wx a fa) (hl : SO g X wx lo fl) (hh : SO g X wx hi fh) (hk : k ≠ 0) : SE g X wx (.Subscript a (.Slice lo hi (some (.Constant (.int k) kd cp)) p2) pos) (eSlS fa fl fh k) := by
  refine ⟨fun pins s σ m ρ H τ Q I S L o => ?_⟩
  refine PyProof.Rows.Subscript_ (ha.run pins s σ m ρ H τ _ I S L ((o.bind S).imp fun x m1 ρ1 H1 P1 S1 o1 v u s1 I1 rv ru => ?_))
  have L1 := L.post S P1
  refine wpAny_Slice (thn (hl.run pins s1 τ H1 (fun l H2 => ∃ m2 ρ2, Sim g ρ2 m2 H2 ∧ Post ρ1 H1 ρ2 H2 ∧ Out g wx τ ρ2 H2 ((fh σ m2).bind fun h m3 => wSlS x l h k m3) (fun w m' ρ' H' => ∀ v u s', Inv X pins τ H' s' → VR g ρ' H' w v → RelV v u → Q u s')) I1 ⟨σ, m1, ρ1, S1, L1, (o1.bind S1).imp fun l m2 ρ2 H2 P2 S2 o2 => ⟨m2, ρ2, S2, P2, o2⟩⟩) fun vl s2 ⟨l, H2, I2, pl, m2, ρ2, S2, P2, o2⟩ => ?_)
  have L2' := L1.post S1 P2
  refine thn (hh.run pins s2 τ H2 (fun h H3 => ∃ m3 ρ3, Sim g ρ3 m3 H3 ∧ Post ρ2 H2 ρ3 H3 ∧ Out g wx τ ρ3 H3 (wSlS x l h k m3) (fun w m' ρ' H' => ∀ v u s', Inv X pins τ H' s' → VR g ρ' H' w v → RelV v u → Q u s')) I2 ⟨σ, m2, ρ2, S2, L2', (o2.bind S2).imp fun h m3 ρ3 H3 P3 S3 o3 => ⟨m3, ρ3, S3, P3, o3⟩⟩) fun vu s3 ⟨h, H3, I3, pu, m3, ρ3, S3, P3, o3⟩ => ?_
  rw [evalPart_some]
  refine thn ((pe_int (X := X) (i := k) (j := kd) (pos := cp)).run pins s3 τ H3 (fun v H' => v = .int k ∧ H' = H3) I3 (by exact ⟨rfl, rfl⟩)) fun vs s4 ⟨v4, H4, I4, r4, e4, e5⟩ => ?_
  subst e4
  rw [e5] at I4
  obtain ⟨t4, rfl⟩ := r4
  have rv3 := (rv.post S1 P2).post S2 P3
  unfold wSlS at o3
  cases x with
  | ref n =>
    cases rv3 with
    | @ref _ p hp =>
      obtain rfl : u = Value.ref p := ru
      simp only at o3
      cases hm : m3[n]? with
      | none => rw [hm] at o3; exact o3.elim
      | some ob =>
        cases ob with
        | lst ws =>
          rw [hm] at o3
          simp only at o3
          split at o3
          · rename_i hlen
            obtain ⟨xs, h1, rvs⟩ := obj_lst S3 hp hm
            have I5 : Inv X pins τ H3 { s4 with heap := s4.heap.push { cls := .type "slice", data := .fields #[vl, vu, .int k t4] } } := I4.kept (t' := s4.toks) fun b ob q => Heap.get?_push_of_some _ q
            obtain ⟨its, r, ht, hz⟩ := I5.list (SqL.of h1)
            have hlen' := r.length
            show wpAny (model X.prog X.w) X.A (PyProof.Rows.subscriptTail a (.Slice lo hi (some (.Constant (.int k) kd cp)) p2) (.ref p) (.ref s4.heap.objs.size)) Q X.xe { s4 with heap := s4.heap.push { cls := .type "slice", data := .fields #[vl, vu, .int k t4] } }
            refine PyProof.Rows.tail_any (ops := [.ref p, .ref s4.heap.objs.size]) (T := "list") ht.isList.typeIs slot_list_getitem.lookup ?_ (by rfl)
            refine wpAny_getItem_list_slice (lo := l) (hi := h) (st := some k) ht.isList (Heap.IsSliceOf.new ..) pl pu (.int k t4) (by simpa using hk) ?_ (by rw [List.size_toArray] <;> omega)
            rw [slicePick_step]
            have hn : H3 (s4.heap.push { cls := .type "slice", data := .fields #[vl, vu, .int k t4] }).objs.size = none := I5.hok.fresh (Nat.le_refl _)
            have rvp : VRs g ρ3 H3 (stepW ws l h k) (stepW xs l h k) := by unfold stepW; rw [rvs.length]; exact rvs.pick _
            have rp : Vals (stepW xs l h k) (stepW its l h k) := by unfold stepW; rw [hlen']; exact Vals.pick r _
            have I6 := I5.laid (t' := s4.toks) (o := .lst (stepW xs l h k)) (fun b ob q => Heap.get?_push_of_some { cls := .type "list", data := .seq (stepW its l h k).toArray } q) (Nat.le_refl _) ⟨by rw [← rvp.length]; exact sizeM hlen, _, 0, rp, Heap.get?_push_size _ rfl⟩
            obtain ⟨P6, S6⟩ := S3.push (o := .lst (stepW ws l h k)) (u := .lst (stepW xs l h k)) hn ⟨_, rfl, rvp⟩
            exact o3 _ _ P6 S6 (.ref _) _ _ I6 (.ref (by rw [← S3.len]; simp)) rfl
          · exact o3.elim
        | _ => rw [hm] at o3; exact o3.elim
  | _ => exact o3.elim
end
/-! ### sep.join(xs) -/
def eJoin (fo fe : DE) : DE := fun σ m => (fo σ m).bind fun x m1 => match x with
  | .str a => (fe σ m1).bind fun y m2 => (itemsW y m2).bind fun ws m3 => joinW a ws m3
  | _ => .bad
section
variable {g : G} {X : Cx} {wx : WX} {o e : Expr} {fo fe : DE}
theorem se_join {apos pos : Pos} (hK : X.K = g.K) (ho : SE g X wx o fo) (he : SE g X wx e fe) (hs : starEach [e] X.env = [(false, eval e X.env)] := by rfl) (hbase : attributeBase o "join" X.env (eval o X.env) = eval o X.env := by rfl) (hline : (apos.endLine == pos.line) = true := by rfl) :
    SE g X wx (.Call (.Attribute o "join" apos) [e] [] pos) (eJoin fo fe) :=
  SE.ofPE (pe_join ho.pe he.pe hs hbase hline) fun σ m ρ H τ Q S L oo => ⟨σ, m, ρ, S, L, (oo.bind S).imp fun x m1 ρ1 H1 P1 S1 o1 v rv => by
    cases rv with
    | str a => exact ⟨⟨_, rfl⟩, σ, m1, ρ1, S1, L.post S P1, (o1.bind S1).imp fun y m2 ρ2 H2 P2 S2 o2 z rz => by
        obtain ⟨p, ws, vs, h1, h2, h3, h4⟩ := items_ok (u := (match z with | .ref a => Value.ref a | _ => .none)) hK S2 rz (by
          cases y with
          | tup ws => cases rz; rfl
          | ref n => cases rz; rfl
          | _ => exact ((show Out g wx _ ρ2 H2 (R.bad.bind fun ws m3 => joinW a ws m3) _ from o2)).elim) (o2.bind S2)
        have hz : z = .ref p := by
          cases y with
          | tup ws => cases rz; cases h1; rfl
          | ref n => cases rz; cases h1; rfl
          | _ => exact ((show Out g wx _ ρ2 H2 (R.bad.bind fun ws m3 => joinW a ws m3) _ from o2)).elim
        subst hz
        obtain ⟨ys, rfl, h5, h6⟩ := joinW_out S2 h3 h4
        exact ⟨_, p, ys, rfl, rfl, h2.symm, h5, h6⟩⟩
    | _ => exact o1.elim⟩
end
end Sh

namespace Sh
open PySem PySem.Spec L2

/-! ### sorted: ints, pairs of ints -/
theorem perm_uniq {α : Type} {r : α → α → Prop} (anti : ∀ a b, r a b → r b a → a = b) : ∀ {l1 l2 : List α}, l1.Perm l2 → l1.Pairwise r → l2.Pairwise r → l1 = l2
  | [], l2, p, _, _ => (List.nil_perm.mp p).symm
  | a :: l1, [], p, _, _ => absurd p.length_eq (by simp)
  | a :: l1, b :: l2, p, h1, h2 => by
    have e : a = b := by
      have m1 : a ∈ b :: l2 := p.mem_iff.mp List.mem_cons_self
      have m2 : b ∈ a :: l1 := p.mem_iff.mpr List.mem_cons_self
      rcases List.mem_cons.mp m1 with e | m1
      · exact e
      · rcases List.mem_cons.mp m2 with e | m2
        · exact e.symm
        · exact anti a b ((List.pairwise_cons.mp h1).1 b m2) ((List.pairwise_cons.mp h2).1 a m1)
    subst e
    rw [perm_uniq anti p.cons_inv (List.pairwise_cons.mp h1).2 (List.pairwise_cons.mp h2).2]
def sortI (ns : List Int) : List Int := ns.mergeSort fun a b => decide (a ≤ b)
def sortP (ps : List (Int × Int)) : List (Int × Int) := ps.mergeSort fun a b => !SrtO.lexB b a
theorem sortI_perm (ns : List Int) : (sortI ns).Perm ns := List.mergeSort_perm _ _
theorem sortI_asc (ns : List Int) : (sortI ns).Pairwise (· ≤ ·) := by
  have := List.pairwise_mergeSort (le := fun a b : Int => decide (a ≤ b)) (fun a b c h1 h2 => by simp at h1 h2 ⊢; omega) (fun a b => by simp; omega) ns
  exact this.imp fun h => by simpa using h
theorem sortP_perm (ps : List (Int × Int)) : (sortP ps).Perm ps := List.mergeSort_perm _ _
theorem sortP_asc (ps : List (Int × Int)) : (sortP ps).Pairwise fun a b => SrtO.lexB b a = false := by
  have := List.pairwise_mergeSort (le := fun a b : Int × Int => !SrtO.lexB b a) (fun a b c h1 h2 => by
    simp only [Bool.not_eq_true', SrtO.lexB_no] at h1 h2 ⊢
    omega) (fun a b => by
    simp only [Bool.or_eq_true, Bool.not_eq_true', SrtO.lexB_no]
    omega) ps
  exact this.imp fun h => by simpa using h
theorem sortI_of {ns ns' : List Int} (p : ns'.Perm ns) (h : ns'.Pairwise (· ≤ ·)) : ns' = sortI ns := perm_uniq (fun a b h1 h2 => Int.le_antisymm h1 h2) (p.trans (sortI_perm ns).symm) h (sortI_asc ns)
theorem sortP_of {ps ps' : List (Int × Int)} (p : ps'.Perm ps) (h : ps'.Pairwise fun a b => SrtO.lexB b a = false) : ps' = sortP ps := perm_uniq (fun a b h1 h2 => by
  have a1 := SrtO.lexB_no.mp h1
  have a2 := SrtO.lexB_no.mp h2
  obtain ⟨x, y⟩ := a
  obtain ⟨z, u⟩ := b
  simp only at a1 a2
  have e1 : x = z := by omega
  have e2 : y = u := by omega
  rw [e1, e2]) (p.trans (sortP_perm ps).symm) h (sortP_asc ps)
def pairW (p : Int × Int) : W := .tup [.int p.1, .int p.2]
def pairsW : List W → Option (List (Int × Int))
  | [] => some []
  | .tup [.int i, .int j] :: ws => (pairsW ws).map ((i, j) :: ·)
  | _ :: _ => none
def bSorted (ws : List W) (m : Mem) : R W := match ws with
  | [.ref n] => match m[n]? with
    | some (.lst ws) => match intsW ws with
      | some ns => .ok (.ref m.length) (m ++ [.lst ((sortI ns).map W.int)])
      | none => match pairsW ws with
        | some ps => .ok (.ref m.length) (m ++ [.lst ((sortP ps).map pairW)])
        | none => .bad
    | _ => .bad
  | _ => .bad
section
variable {g : G} {X : Cx} {wx : WX} {τ : L2.St} {ρ ρ' : List Addr} {H H' : Hp} {m m' : Mem} {pins : List (Addr × Obj)} {s : Shared}
def PairAt (K : PySem.W.Frag) (H : Hp) (p : Int × Int) (v : V) : Prop := ∃ t, v = .ref t ∧ SqT K H t [.int p.1, .int p.2]
theorem pairs_V : ∀ {ws : List W} {vs : List V} {ps : List (Int × Int)}, VRs g ρ H ws vs → pairsW ws = some ps → Paired (PairAt g.K H) ps vs
  | _, _, _, .nil, h => by cases h; exact .nil
  | w :: ws, v :: vs, ps, .cons r rr, h => by
    unfold pairsW at h
    split at h
    · rename_i hnil; cases hnil
    · rename_i i j ws' he
      cases he
      simp only [Option.map_eq_some_iff] at h
      obtain ⟨qs, h1, rfl⟩ := h
      refine .cons ?_ (pairs_V rr h1)
      cases r with
      | tup hs rs =>
        cases rs with
        | cons r1 rs =>
          cases rs with
          | cons r2 rs =>
            cases rs
            cases r1
            cases r2
            exact ⟨_, rfl, hs⟩
    · cases h
theorem VR_pair {p : Int × Int} {v : V} (h : PairAt g.K H p v) : VR g ρ H (pairW p) v := by
  obtain ⟨t, rfl, hs⟩ := h
  exact .tup hs (.cons (.int _) (.cons (.int _) .nil))
theorem ints_VRs : ∀ ns : List Int, VRs g ρ H (ns.map W.int) (ns.map V.int)
  | [] => .nil
  | n :: ns => .cons (.int n) (ints_VRs ns)
theorem paired_mem {α β : Type} {R : α → β → Prop} : ∀ {xs : List α} {ys : List β}, Paired R xs ys → ∀ y ∈ ys, ∃ x ∈ xs, R x y
  | _, _, .nil, y, h => by cases h
  | _, _, .cons hq hr, y, h => by
    rcases List.mem_cons.mp h with rfl | h
    · exact ⟨_, List.mem_cons_self, hq⟩
    · obtain ⟨x, hx, r⟩ := paired_mem hr y h
      exact ⟨x, List.mem_cons_of_mem _ hx, r⟩
theorem sorted_pairs {a : Addr} {vs : List V} {ps : List (Int × Int)} {Q : Value → Shared → Prop} (I : Inv X pins τ H s) (hs : SqL X.K H a vs) (hp : Paired (PairAt X.K H) ps vs)
    (q : ∀ ys d s', H d = none → Paired (PairAt X.K H) (sortP ps) ys → Inv X pins τ (upd H d (.lst ys)) s' → Q (.ref d) s') : wpAny (model X.prog X.w) X.A (call (.builtin "sorted") [.ref a]) Q X.xe s := by
  classical
  obtain ⟨its, rv, hl, hz⟩ := I.list hs
  let k : V → Int × Int := fun v => if h : ∃ p, PairAt X.K H p v then h.choose else (0, 0)
  have hk : ∀ {p : Int × Int} {v : V}, PairAt X.K H p v → k v = p := fun {p v} h => by
    have he : ∃ p, PairAt X.K H p v := ⟨p, h⟩
    have e : k v = he.choose := dif_pos he
    rw [e]
    have h2 := he.choose_spec
    obtain ⟨t, e1, h3⟩ := h
    obtain ⟨t', e2, h4⟩ := h2
    subst e1
    cases e2
    have := I.tuple_inj h4 h3
    simp only [List.cons.injEq, V.int.injEq, and_true] at this
    exact Prod.ext this.1 this.2
  have hm : vs.map k = ps := by
    have go : ∀ {ps : List (Int × Int)} {vs : List V}, Paired (PairAt X.K H) ps vs → vs.map k = ps := by
      intro ps vs h
      induction h with
      | nil => rfl
      | cons hq hr ih => rw [List.map_cons, hk hq, ih]
    exact go hp
  have hx : ∀ x ∈ vs, ∃ t, x = V.ref t ∧ SqT X.K H t [.int (k x).1, .int (k x).2] := fun x hx => by
    obtain ⟨p, _, hq⟩ := paired_mem hp x hx
    have := hk hq
    obtain ⟨t, e, h2⟩ := hq
    exact ⟨t, e, by rw [this]; exact h2⟩
  obtain ⟨e1, e2⟩ := refs_back rv fun x m => by
    obtain ⟨t, e, _⟩ := hx x m
    exact ⟨t, e⟩
  refine SrtO.sorted_pairsO (k := fun u => k (backV u)) hl.isList (by rw [← rv.length]; exact hz) (fun v hv => ?_) fun h' d out h1 h2 kp hd hn => ?_
  · obtain ⟨t, rfl⟩ := e2 v hv
    have hmem : V.ref t ∈ vs := by rw [e1]; exact List.mem_map.mpr ⟨_, hv, rfl⟩
    obtain ⟨t', e, ht⟩ := hx _ hmem
    cases e
    obtain ⟨its2, r2, ⟨o, ho, hc, n, hd⟩, _⟩ := I.tuple ht
    obtain ⟨u1, u2, rfl, ri, rj⟩ := vals2 r2
    obtain ⟨t1, rfl⟩ := ri
    obtain ⟨t2, rfl⟩ := rj
    exact ⟨t, o, t1, t2, n, rfl, ho, hc, hd⟩
  · have h3 : ∀ u ∈ out, ∃ a, u = Value.ref a := fun u hu => e2 u (h2.perm.mem_iff.mp hu)
    obtain ⟨n, hn⟩ := hn
    have hb : SrtO.Stb (ltP k) (out.map backV) vs := by
      rw [e1]
      exact SrtO.Stb.map (ltP_swo k) backV h2
    have hsd : SrtO.Srtd (ltP k) (out.map backV) := SrtO.srtd_map h1
    have hkey : (out.map backV).map k = sortP ps := by
      refine sortP_of ?_ ?_
      · rw [← hm]; exact hb.perm.map k
      · exact List.pairwise_map.mpr hsd
    have hpair : Paired (PairAt X.K H) (sortP ps) (out.map backV) := by
      rw [← hkey]
      have : ∀ ys : List V, (∀ y ∈ ys, y ∈ vs) → Paired (PairAt X.K H) (ys.map k) ys := by
        intro ys
        induction ys with
        | nil => intro _; exact .nil
        | cons y ys ih =>
          intro h
          refine .cons ?_ (ih fun z hz => h z (List.mem_cons_of_mem _ hz))
          obtain ⟨t, e, ht⟩ := hx y (h y List.mem_cons_self)
          exact ⟨t, e, ht⟩
      exact this _ fun y hy => hb.perm.mem_iff.mp hy
    refine q _ d _ (I.hok.fresh hd) hpair (I.laid (t' := s.toks) kp hd ⟨?_, out, n, vals_back h3, hn⟩)
    rw [hb.perm.length_eq]
    exact hz
theorem f_sorted (hK : X.K = g.K) : Fn g X wx (fun us => call (.builtin "sorted") us) bSorted := by
  refine ⟨fun pins s m ρ H τ xs vs us Q I S rx ru o => ?_⟩
  unfold bSorted at o
  split at o
  · rename_i n
    obtain ⟨v, rfl, r⟩ := rx.inv1
    cases r with
    | @ref _ p hp =>
      obtain rfl := Vals.ref1 ru
      split at o
      · rename_i ws hm
        obtain ⟨vs, h1, rv⟩ := obj_lst S hp hm
        split at o
        · rename_i ns hn
          obtain rfl := ints_V rv hn
          refine thn (cr_sortedI pins s τ H [.ref p] [.ref p] (fun v H' => ∀ u s', Inv X pins τ H' s' → RelV v u → Q u s') I (.cons rfl .nil) ⟨p, ns, rfl, SqL.of h1, fun ns' d pm asc hd => ?_⟩) fun u1 s1 ⟨v1, H1, I1, r1, q⟩ => q u1 s1 I1 r1
          intro u s' I' ru'
          obtain rfl := sortI_of pm asc
          obtain ⟨P2, S2⟩ := S.push (o := .lst ((sortI ns).map W.int)) (u := .lst ((sortI ns).map V.int)) hd ⟨_, rfl, ints_VRs _⟩
          exact o _ _ P2 S2 (.ref d) u s' I' (.ref (by rw [← S.len]; simp)) ru'
        · split at o
          · rename_i ps hp2
            have hpr := pairs_V rv hp2
            rw [← hK] at hpr
            refine sorted_pairs I (SqL.of h1) hpr fun ys d s' hd hpy I' => ?_
            obtain ⟨P2, S2⟩ := S.junk (u := .lst ys) hd
            have rys : VRs g ρ H ((sortP ps).map pairW) ys := by
              rw [hK] at hpy
              have : ∀ {ps : List (Int × Int)} {ys : List V}, Paired (PairAt g.K H) ps ys → VRs g ρ H (ps.map pairW) ys := by
                intro ps ys h
                induction h with
                | nil => exact .nil
                | cons hq hr ih => exact .cons (VR_pair hq) ih
              exact this hpy
            obtain ⟨P3, S3⟩ := S.push (o := .lst ((sortP ps).map pairW)) (u := .lst ys) hd ⟨_, rfl, rys⟩
            exact o _ _ P3 S3 (.ref d) _ s' I' (.ref (by rw [← S.len]; simp)) rfl
          · exact o.elim
      · exact o.elim
  · exact o.elim
end
end Sh

namespace Sh
open PySem PySem.Spec L2

/-! ### wider forms: tuples' order, tuples' sum, in over data, str of lists -/
def wLtX (x y : W) (m : Mem) : R W := match x, y with
  | .int i, .int j => .ok (.bl (decide (i < j))) m
  | .tup xs, .tup ys => match intsW xs, intsW ys with
    | some a, some b => .ok (.bl (HT.lexLt a b)) m
    | _, _ => .bad
  | _, _ => .bad
def wAddX (x y : W) (m : Mem) : R W := match x, y with
  | .tup xs, .tup ys => if xs.length + ys.length ≤ 1000000 then .ok (.tup (xs ++ ys)) m else .bad
  | x, y => wAdd x y m
def inX (x y : W) (m : Mem) : R Bool := match y with
  | .tup ws => inD x ws m
  | .str l => inB x (.str l) m
  | .ref n => match m[n]? with
    | some (.lst ws) => if flatW x = true ∧ ws.all flatW = true then .ok (inW x ws) m else
      match dat m 30 x, dats m 29 ws with
      | some d, some ds => if SeqAt.shaped d = true ∧ SeqAt.shaped (.list ds) = true then .ok (ds.any fun z => PyData.eqv z d) m else .bad
      | _, _ => .bad
    | _ => .bad
  | _ => .bad
def wInX (x y : W) (m : Mem) : R W := (inX x y m).bind fun b m1 => .ok (.bl b) m1
def wNotInX (x y : W) (m : Mem) : R W := (inX x y m).bind fun b m1 => .ok (.bl (!b)) m1
def bStrX (ws : List W) (m : Mem) : R W := match ws with
  | [.int i] => bStr [.int i] m
  | [.str l] => bStr [.str l] m
  | [.tup ws] => match datX m 30 (.tup ws) with | some d => reprD d m | none => .bad
  | [.ref n] => match datX m 30 (.ref n) with | some d => reprD d m | none => .bad
  | _ => .bad
section
variable {g : G} {X : Cx} {wx : WX} {τ : L2.St} {ρ ρ' : List Addr} {H H' : Hp} {m m' : Mem} {pins : List (Addr × Obj)} {s : Shared}
theorem f_ltX {k : Nat} (hK : X.K = g.K) (hr : Rm k X.A) : F2 g X wx (compareOp .Lt) wLtX := F2.ofR fun m ρ H τ x y v z Q S rx ry o => by
  unfold wLtX at o
  split at o
  · cases rx; cases ry; exact ⟨_, op_lt, _, _, rfl, rfl, Out.ok0 S o (.bl _)⟩
  · split at o
    · rename_i a b h1 h2
      cases rx with
      | tup hx rx =>
        cases ry with
        | tup hy ry =>
          obtain rfl := ints_V rx h1
          obtain rfl := ints_V ry h2
          exact ⟨_, op_ltT (by have := hr.r.units; omega), _, _, a, b, rfl, rfl, by rw [hK]; exact hx, by rw [hK]; exact hy, Out.ok0 S o (.bl _)⟩
    · exact o.elim
  · exact o.elim
theorem f_addX (hK : X.K = g.K) : F2 g X wx (binaryOp .Add) wAddX := by
  refine ⟨fun pins s m ρ H τ x y v z u t Q I S rx ru ry rt o => ?_⟩
  unfold wAddX at o
  split at o
  · rename_i xs ys
    split at o
    · rename_i hl
      have fin : ∃ r, OpR X (binaryOp .Add) r ∧ r v z H (fun v H' => ∀ u s', Inv X pins τ H' s' → RelV v u → Q u s') := by
        cases rx with
        | @tup _ vs a hx rx =>
          cases ry with
          | @tup _ us b hy ry =>
            refine ⟨_, op_catA, a, b, vs, us, rfl, rfl, by rw [hK]; exact hx, by rw [hK]; exact hy, by rw [← rx.length, ← ry.length, sizeLine_eq]; omega, fun e => ?_, fun e e2 => ?_, fun _ _ p hp => ?_⟩
            · subst e
              cases rx
              exact fun u s' I' ru' => (Out.ok0 (Q := fun v H' => ∀ u s', Inv X pins τ H' s' → RelV v u → Q u s') S (o.imp fun w m' ρ' H' _ _ k v r u s' I' ru => k v u s' I' r ru) (.tup hy ry)) u s' I' ru'
            · subst e2
              cases ry
              rw [List.append_nil] at o
              exact fun u s' I' ru' => (Out.ok0 (Q := fun v H' => ∀ u s', Inv X pins τ H' s' → RelV v u → Q u s') S (o.imp fun w m' ρ' H' _ _ k v r u s' I' ru => k v u s' I' r ru) (.tup hx rx)) u s' I' ru'
            · intro u s' I' ru'
              obtain ⟨P2, S2⟩ := S.junk (u := .tup (vs ++ us)) hp
              exact (o : Out g wx τ ρ H (R.ok (W.tup (xs ++ ys)) m) _) ρ _ P2 S2 _ u s' I' (.tup (SqT.of upd_same) ((rx.append ry).post S P2)) ru'
      obtain ⟨r, hr, hq⟩ := fin
      exact thn (hr pins s τ H v z u t _ I ru rt hq) fun u1 s1 ⟨v1, H1, I1, r1, q⟩ => q u1 s1 I1 r1
    · exact o.elim
  · exact (f_add (wx := wx) hK).run pins s m ρ H τ _ _ v z u t Q I S rx ru ry rt o
theorem inX_ok {k : Nat} {op : CmpOp} (neg : Bool) (hK : X.K = g.K) (hr : Rm k X.A) (h1 : OpR X (compareOp op) (rIn X.K neg)) (h2 : OpR X (compareOp op) fun x y H Q => ∃ d ds, Dp X.K H x d ∧ Dp X.K H y (.list ds) ∧ SeqAt.shaped d = true ∧ SeqAt.shaped (.list ds) = true ∧ Q (.bl (if neg then !(ds.any fun z => PyData.eqv z d) else ds.any fun z => PyData.eqv z d)) H)
    (hB : F2 g X wx (compareOp op) fun x y m => (inB x y m).bind fun b m1 => .ok (.bl (if neg then !b else b)) m1) : F2 g X wx (compareOp op) fun x y m => (inX x y m).bind fun b m1 => .ok (.bl (if neg then !b else b)) m1 := by
  refine ⟨fun pins s m ρ H τ x y v z u t Q I S rx ru ry rt o => ?_⟩
  have o : Out g wx τ ρ H ((inX x y m).bind fun b m1 => R.ok (W.bl (if neg then !b else b)) m1) (fun w m' ρ' H' => ∀ v u s', Inv X pins τ H' s' → VR g ρ' H' w v → RelV v u → Q u s') := o
  have viaB : (inX x y m = inB x y m) → wpAny (model X.prog X.w) X.A (compareOp op u t) Q X.xe s := fun e => by
    rw [e] at o
    exact hB.run pins s m ρ H τ x y v z u t Q I S rx ru ry rt o
  cases y with
  | tup ws => exact viaB rfl
  | str l => exact viaB rfl
  | ref n =>
    cases hm : m[n]? with
    | none => simp only [inX, hm] at o; exact o.elim
    | some ob =>
      cases ob with
      | lst ws =>
        by_cases hf : flatW x = true ∧ ws.all flatW = true
        · refine viaB ?_
          unfold inX inB inD
          simp only [hm]
          rw [if_pos hf, if_pos hf]
        · have e : inX x (.ref n) m = match dat m 30 x, dats m 29 ws with
            | some d, some ds => if SeqAt.shaped d = true ∧ SeqAt.shaped (.list ds) = true then .ok (ds.any fun z => PyData.eqv z d) m else .bad
            | _, _ => .bad := by
            unfold inX
            simp only [hm, if_neg hf]
          rw [e] at o
          cases hd : dat m 30 x with
          | none => rw [hd] at o; exact o.elim
          | some d =>
            cases hds : dats m 29 ws with
            | none => rw [hd, hds] at o; exact o.elim
            | some ds =>
              rw [hd, hds] at o
              simp only at o
              by_cases hs : SeqAt.shaped d = true ∧ SeqAt.shaped (.list ds) = true
              · rw [if_pos hs] at o
                have hl : dat m 30 (.ref n) = some (.list ds) := by simp only [dat, hm, hds, Option.map_some]
                exact thn (h2 pins s τ H v z u t (fun v H' => ∀ u s', Inv X pins τ H' s' → RelV v u → Q u s') I ru rt ⟨d, ds, dat_ok hK S 30 x v d rx hd, dat_ok hK S 30 (.ref n) z _ ry hl, hs.1, hs.2, fun u s' I' ru' => Out.ok0 (Q := fun v H' => ∀ u s', Inv X pins τ H' s' → RelV v u → Q u s') S (o.imp fun w m' ρ' H' _ _ k v r u s' I' ru => k v u s' I' r ru) (.bl _) u s' I' ru'⟩) fun u1 s1 ⟨v1, H1, I1, r1, q⟩ => q u1 s1 I1 r1
              · rw [if_neg hs] at o; exact o.elim
      | _ => simp only [inX, hm] at o; exact o.elim
  | _ => simp only [inX] at o; exact o.elim
theorem f_inX {k : Nat} (hK : X.K = g.K) (hr : Rm k X.A) : F2 g X wx (compareOp .In) wInX := inX_ok false hK hr op_in_seq (op_inD (by have := hr.r.un; omega)) (f_in hK)
theorem f_notInX {k : Nat} (hK : X.K = g.K) (hr : Rm k X.A) : F2 g X wx (compareOp .NotIn) wNotInX := inX_ok true hK hr op_notIn_seq (op_notInD (by have := hr.r.un; omega)) (f_notIn hK)
/-- room where an exception may be handled -/
structure Ru (A : Around) : Prop where
  un : A.units + 200 < cLine
  g : A.guards = some []
theorem Rm.ru {k : Nat} {A : Around} (r : Rm k A) : Ru A := ⟨by have := r.r.un; omega, r.g⟩
theorem Ru.suite {a : Addr} {pn : List (Addr × Obj)} (r : Ru X.A) : Ru (X.suite a pn).A := ⟨r.un, r.g⟩
theorem f_strX (hK : X.K = g.K) (hr : Ru X.A) (hs : X.base.get? sysModules ≠ none) : Fn g X wx (fun us => call (.type "str") us) bStrX := by
  refine ⟨fun pins s m ρ H τ xs vs us Q I S rx ru o => ?_⟩
  have go : ∀ (x : W) (a : Addr), VR g ρ H x (.ref a) → xs = [x] → us = [.ref a] → Out g wx τ ρ H (match datX m 30 x with | some d => reprD d m | none => .bad) (fun w m' ρ' H' => ∀ v u s', Inv X pins τ H' s' → VR g ρ' H' w v → RelV v u → Q u s') → wpAny (model X.prog X.w) X.A (call (.type "str") us) Q X.xe s := by
    intro x a r e1 e2 o
    subst e2
    split at o
    · rename_i d hd
      rcases reprD_cases (d := d) (m := m) with ⟨⟨h1, h3, h4⟩, h5⟩ | h
      · rw [h5] at o
        obtain ⟨as, rd, hn⟩ := datX_reads hK I S hs 30 x _ (.ref a) d r rfl hd
        refine PySem.str_of_reads rd h1 (fun _ => hn) hr.g (by have := hr.un; omega) (fun _ _ q => q) (fun h' u tk hk => ?_) (by rw [sizeLine_eq]; omega)
        exact Out.here o S (.str d.shown) _ _ (I.kept hk) (by have := VR.str (g := g) (ρ := ρ) (H := H) d.shown.cps.toList; rw [S_of] at this; exact this) ⟨u, rfl⟩
      · rw [h] at o; exact o.elim
    · exact o.elim
  unfold bStrX at o
  split at o
  · exact f_str.run pins s m ρ H τ _ vs us Q I S rx ru o
  · exact f_str.run pins s m ρ H τ _ vs us Q I S rx ru o
  · rename_i ws
    obtain ⟨v, rfl, r⟩ := rx.inv1
    cases ru with
    | cons r1 r2 =>
      cases r2
      cases r with
      | tup h rv => cases r1; exact go _ _ (.tup h rv) rfl rfl o
  · obtain ⟨v, rfl, r⟩ := rx.inv1
    cases ru with
    | cons r1 r2 =>
      cases r2
      cases r with
      | ref h => cases r1; exact go _ _ (.ref h) rfl rfl o
  · exact o.elim
theorem ss_dputU {o i e : Expr} {fo fi fe : DE} {pos pos' : Pos} (hr : Ru X.A) (ho : SE g X wx o fo) (hi : SE g X wx i fi) (he : SE g X wx e fe) (hs : swapsWith e (some (.Subscript o i pos')) pos.line X.env = pure false := by rfl) :
    SS g X wx (.Assign [.Subscript o i pos'] e pos) (sDPut fo fi fe) := by
  refine PS.conv (ps_dput (by have := hr.un; omega) ho.pe hi.pe he.pe hs) fun D τ H ⟨σ, m, ρ, S, L, oo⟩ => ⟨σ, m, ρ, S, L, (oo.of S L).imp fun w m1 ρ1 H1 P1 S1 o1 v r => ⟨σ, m1, ρ1, S1, L.post S P1, (o1.of S1 (L.post S P1)).imp fun x m2 ρ2 H2 P2 S2 o2 v2 r2 =>
    ⟨σ, m2, ρ2, S2, (L.post S P1).post S1 P2, (o2.of S2 ((L.post S P1).post S1 P2)).imp fun y m3 ρ3 H3 P3 S3 o3 v3 r3 => ?_⟩⟩⟩
  have L3 := ((L.post S P1).post S1 P2).post S2 P3
  have rx := r2.post S2 P3
  have rw_ := (r.post S1 P2).post S2 P3
  unfold dPutM at o3
  cases x with
  | ref n =>
    cases rx with
    | @ref _ p hp =>
      simp only at o3
      cases hm : m3[n]? with
      | none => simp only [hm] at o3; exact o3.elim
      | some ob =>
        cases ob with
        | dK kvs =>
          cases hk : keyW y with
          | none => simp only [hm, hk] at o3; exact o3.elim
          | some k =>
            simp only [hm, hk] at o3
            by_cases hl : kvs.length < 1000000
            · simp only [hl, if_true] at o3
              obtain ⟨vs, h1, r1⟩ := obj_dK S3 hp hm
              obtain rfl := keyW_V r3 hk
              obtain ⟨P4, S4⟩ := S3.set (u := .dK (putK vs k v)) (o := .dK (putKW kvs k w)) hp ⟨_, rfl, r1.put k rw_⟩
              exact ⟨p, _, rfl, DPut.k h1 (by rw [← r1.len, sizeLine_eq]; omega), o3 _ _ τ P4 S4 (L3.post S3 P4)⟩
            · simp only [hl, if_false] at o3; exact o3.elim
        | _ => simp only [hm] at o3; exact o3.elim
  | _ => exact o3.elim
end
end Sh

namespace Sh
open PySem PySem.Spec L2 HandSPX
open PyProof.Rows (envOfC)

/-! ### C(.., f=v) of an own exception: type.__call__ with names -/
section
variable {M : Model} {prog : Program} {w : World} {A : Around} {E : Value → Shared → Prop} {R : Result → Shared → Prop} {h : Heap} {g : Array GenState} {d : Drawn} {t : Nat} {os : OsState}
variable {nm q : Str} {C N : Addr} {bs bm bmB : List Value} {hdct : Bool} {sn : List Str} {sub : List Value} {ab : Bool} {col : Option Bool} {dd : Option Addr} {k0 k1 k2 k3 k5 : Option Value} {B newId initId : String}
theorem kx_check (F : ExcBaseFacts B newId initId bmB) (hT : ∀ X : String, bm.contains (.type X) = bmB.contains (.type X)) {rest : List Value} {kw : List (Str × Value)} {Q : Unit → Shared → Prop}
    (hC : h.get? C = some (excClassObj nm q C N bs bm hdct sn sub ab col dd k0 k1 k2 k3 k5 newId)) (hq : Q () ⟨h, g, d, t, os⟩) : wpAny M A (checkBuiltinCall newId ⟨.ref C :: rest, kw⟩) Q E ⟨h, g, d, t, os⟩ := by
  have hcont : (Value.ref C :: bm).contains (.type B) = true := by rw [List.contains_cons, hT, F.hasB, Bool.or_true]
  have hstar := F.noStar
  simp only [checkBuiltinCall, F.newKind, F.newSplit, F.newRow]
  repeat (first | refine wpAny_loadPart_at hC ?_ | (refine wpAny_isSubtype_exc hC ?_; rw [hcont]) | refine wpAny_staticBase_exc hC ?_ | refine wpAny_madeBy_exc hC ?_ | simp only [bne_self_eq_false, Bool.false_eq_true, if_false] | wp_step)
  exact hq
theorem kx_new (F : ExcBaseFacts B newId initId bmB) (hT : ∀ X : String, bm.contains (.type X) = bmB.contains (.type X)) {rest : List Value} {kw : List (Str × Value)}
    (hC : h.get? C = some (excClassObj nm q C N bs bm hdct sn sub ab col dd k0 k1 k2 k3 k5 newId))
    (hq : R (.ok (.ret (.ref (h.objs.size + 1)))) ⟨(h.push (PySem.W.kdv_tup rest)).push (excO C h.objs.size), g, d, t, os⟩) (hrest : rest.length ≤ sizeLine) :
    codeAny (model prog w) A (.builtin newId ⟨.ref C :: rest, kw⟩) R ⟨h, g, d, t, os⟩ := by
  have hends := F.ends
  have hcB : (Value.ref C :: bm).contains (.type B) = true := by rw [List.contains_cons, hT, F.hasB, Bool.or_true]
  have hcA : (Value.ref C :: bm).contains (.type "AttributeError") = false := by rw [List.contains_cons, hT, F.noAttr]; rfl
  have hcN : (Value.ref C :: bm).contains (.type "NameError") = false := by rw [List.contains_cons, hT, F.noName]; rfl
  refine codeAny_builtinAt F.entry ?_
  unfold Builtin.«BaseException.__new__»
  refine wpAt_bind ?_
  show wpAt _ _ _ (stack >>= _) _ _ _
  refine wpAt_bind (wpAt_stack fun p below => wpAt_of_wpAny ?_)
  wp_walk
  refine wpAt_of_wpAny ?_
  rw [F.owner]
  repeat (first | with_reducible refine wpAny_madeHere_exc F.canon hC ?_ | with_reducible refine wpAny_loadPart_at hC ?_ | (with_reducible refine wpAny_isSubtype_exc hC ?_; first | rw [hcB] | rw [hcA] | rw [hcN]) | wp_step)
  show R _ _
  rw [Heap.size_push]
  exact hq
theorem kx_type (F : ExcBaseFacts B newId initId bmB) (hT : ∀ X : String, bm.contains (.type X) = bmB.contains (.type X)) {rest : List Value} {kw : List (Str × Value)} {fI : Addr} {Q : Fin → Shared → Prop}
    (hC : h.get? C = some (excClassObj nm q C N bs bm hdct sn sub ab col dd k0 k1 k2 k3 k5 newId))
    (hi : PySem.W.Looks (model prog w) h (typeLookup (.ref C) "__init__") (some (.ref fI))) (hb : ∀ self, PySem.W.Looks (model prog w) h (bindSpecial (.ref fI) self) (.ref fI, [self])) (hrest : rest.length ≤ sizeLine)
    (hq : codeAny (model prog w) A (.call (.ref fI) ⟨.ref (h.objs.size + 1) :: rest, kw⟩)
      (fun r s' => match r with | .ok (.ret v) => v = .none ∧ Q (.done (.ret (.ref (h.objs.size + 1)))) s' | .ok _ => False | .error e => E e s')
      ⟨(h.push (PySem.W.kdv_tup rest)).push (excO C h.objs.size), g, d, t, os⟩) :
    wpAny (model prog w) A (Builtin.«type.__call__» ⟨.ref C :: rest, kw⟩) Q E ⟨h, g, d, t, os⟩ := by
  repeat (first | with_reducible refine wpAny_loadPart_at hC ?_ | with_reducible refine wpAny_madeBy_exc hC ?_ | wp_step)
  refine codeAny_call_builtin_code (Code.quiet_builtin _ F.quiet) (kx_check F hT hC ?_)
  refine kx_new F hT hC ?_ hrest
  show wpAny _ _ _ _ _ _
  have k : ∀ b o, h.get? b = some o → ((h.push (PySem.W.kdv_tup rest)).push (excO C h.objs.size)).get? b = some o := fun b o e => Heap.get?_push_of_some _ (Heap.get?_push_of_some _ e)
  have hC₁ := k _ _ hC
  have hget : ((h.push (PySem.W.kdv_tup rest)).push (excO C h.objs.size)).get? (h.objs.size + 1) = some (excO C h.objs.size) := by heap_get
  have hcC : (Value.ref C :: bm).contains (.ref C) = true := by simp
  have i1 := hi.keeps k
  have b1 := (hb (.ref (h.objs.size + 1))).keeps k
  unfold isInstance
  repeat (first | with_reducible refine wpAny_loadPart_at hget ?_ | (with_reducible refine wpAny_isSubtype_exc hC₁ ?_; rw [hcC]) | wp_step)
  show wpAny _ _ (typeLookup (.ref C) _) _ _ _
  refine i1.at ?_
  refine wpAny_holding (wpAny_bind (b1.at ?_))
  refine wpAny_bind (wpAny_call (codeAny_mono hq fun r s' z => ?_))
  rcases r with e | (v | _ | _ | _) <;> first | exact z | exact z.elim | skip
  obtain ⟨rfl, z⟩ := z
  first
    | exact wpAny_pure (wpAny_pure z)
    | (wp_walk; exact z)
theorem kx_call (F : ExcBaseFacts B newId initId bmB) (hT : ∀ X : String, bm.contains (.type X) = bmB.contains (.type X)) {rest : List Value} {kw : List (Str × Value)} {fI : Addr}
    (hC : h.get? C = some (excClassObj nm q C N bs bm hdct sn sub ab col dd k0 k1 k2 k3 k5 newId))
    (hi : PySem.W.Looks (model prog w) h (typeLookup (.ref C) "__init__") (some (.ref fI))) (hb : ∀ self, PySem.W.Looks (model prog w) h (bindSpecial (.ref fI) self) (.ref fI, [self])) (hrest : rest.length ≤ sizeLine)
    (hq : codeAny (model prog w) (A.under (.builtin "type.__call__" ⟨.ref C :: rest, kw⟩)) (.call (.ref fI) ⟨.ref (h.objs.size + 1) :: rest, kw⟩) (PySem.W.InitBack (h.objs.size + 1) R)
      ⟨(h.push (PySem.W.kdv_tup rest)).push (excO C h.objs.size), g, d, t, os⟩) :
    codeAny (model prog w) A (.call (.ref C) ⟨rest, kw⟩) R ⟨h, g, d, t, os⟩ := by
  have f1 := tc_lookup
  have f2 := tc_bind (.ref C)
  have hTy : (⟨h, g, d, t, os⟩ : Shared).TypeIs (.ref C) "type" := ⟨_, hC, rfl⟩
  refine codeAny_of_tree ?_
  show wpAny _ _ (callAny (.ref C) _) _ _ _
  repeat (any_goals (first | assumption | with_reducible refine wpAny_loadPart_at hC ?_ | wp_step))
  refine ⟨rfl, ?_⟩
  refine codeAny_call_builtin_at (Code.quiet_builtin _ (by decide +kernel)) entry_typeCall (wpAny_check_type_call_sub hC (kx_type F hT hC hi hb hrest ?_))
  refine codeAny_mono hq fun r s' z => ?_
  rcases r with e | (v | _ | _ | _) <;> first | exact z | exact z.elim
end
end Sh

namespace Sh
open PySem PySem.Spec L2
open PyProof.Rows (envOfC)

/-! ### an exception held with its text -/
def exoT (e C : Addr) (d : Option Addr) (tt : Addr) : HO := .ext fun h => h.get? e = some ({ cls := .ref C, dict := d, data := .fields #[.ref tt, .none, .none, .none, .bool false, .none] } : Obj)
abbrev excR (C : Addr) (d : Option Addr) (tt : Addr) : Obj := { cls := .ref C, dict := d, data := .fields #[.ref tt, .none, .none, .none, .bool false, .none] }
theorem exoT_ok {P : Program} {w : World} {H : Hp} {h : Heap} {e C tt : Addr} {d : Option Addr} (he : h.get? e = some (excR C d tt)) : ObjOk P w H h e (exoT e C d tt) := ⟨he, ⟨_, he⟩, fun h1 h2 z k => k _ z⟩
theorem exoT_at {P : Program} {w : World} {H : Hp} {h : Heap} {e C tt : Addr} {d : Option Addr} (hok : HOk P w H h) (he : H e = some (exoT e C d tt)) : h.get? e = some (excR C d tt) := by
  have x : ObjOk P w H h e (.ext fun h => h.get? e = some (excR C d tt)) := hok e _ he
  exact x.1
section
variable {X : Cx} {pins : List (Addr × Obj)} {σ : L2.St} {H : Hp} {hp h' : Heap} {g : Array GenState} {d : Drawn} {t t' : Nat} {os : OsState} {a dx : Addr} {φ : Heap → Prop} {oA oD : HO}
theorem ext_own {x : Addr} : HO.ext φ ≠ .own x := fun z => by cases z
theorem ext_tup {xs : List V} : HO.ext φ ≠ .tup xs := fun z => by cases z
theorem ext_frz {o : Obj} {u : HO} : HO.ext φ ≠ .frz o u := fun z => by cases z
theorem ext_tbl {ps : Array Value} : HO.ext φ ≠ .tbl ps := fun z => by cases z
/-- one object is written, one new one stands -/
theorem inv_two (I : Inv X pins σ H ⟨hp, g, d, t, os⟩) (e : H a = some (.ext φ)) (dn : hp.objs.size ≤ dx) (k : ∀ b o, b ≠ a → hp.get? b = some o → h'.get? b = some o) (hx : ∃ o, h'.get? a = some o)
    (hA : ObjOk X.prog X.w (upd (upd H dx oD) a oA) h' a oA) (hD : ObjOk X.prog X.w (upd (upd H dx oD) a oA) h' dx oD) : Inv X pins σ (upd (upd H dx oD) a oA) ⟨h', g, d, t', os⟩ := by
  have hnd : H dx = none := I.hok.fresh dn
  have nd : ∀ {b : Addr} {o : Obj}, hp.get? b = some o → b ≠ dx := fun {b o} q => Nat.ne_of_lt (Nat.lt_of_lt_of_le (Heap.lt_size q) dn)
  have na : ∀ {b : Addr}, H b = none → b ≠ a := fun {b} n z => by
    rw [z, e] at n
    cases n
  have Un1 : Un X.fs [] H (upd (upd H dx oD) a oA) hp h' := {
    keep := fun b o q n _ _ => k b o (na n) q
    slot := fun b o q n _ _ => ⟨o.slots, k b o (na n) q⟩
    free := fun b o q n _ => by rw [upd_ne (na n), upd_ne (nd q)]; exact n
    there := fun b o q _ => by
      by_cases hb : b = a
      · rw [hb]; exact hx
      · exact ⟨o, k b o hb q⟩
    tups := fun b xs q => by rw [upd_ne (at_ne e q ext_tup), upd_ne (ne_of_none q hnd)]; exact q
    frzs := fun b o v q => by rw [upd_ne (at_ne e q ext_frz), upd_ne (ne_of_none q hnd)]; exact q
    tbls := fun b ps q => ⟨#[], by rw [upd_ne (at_ne e q ext_tbl), upd_ne (ne_of_none q hnd), q]; simp⟩ }
  refine I.un (t' := t') Un1 fun b o q => ?_
  by_cases hb : b = a
  · subst hb
    rw [upd_same] at q
    cases q
    exact hA
  · rw [upd_ne hb] at q
    by_cases hd : b = dx
    · subst hd
      rw [upd_same] at q
      cases q
      exact hD
    · rw [upd_ne hd] at q
      exact (I.hok b o q).stay (fun c v hc z => k c v (by
          rcases hc with hc | hc
          · rw [hc]
            exact hb
          · exact at_ne e hc ext_own) z)
        (fun c hc => by rw [upd_ne (at_ne e hc ext_own), upd_ne (ne_of_none hc hnd)]; exact hc) (fun c xs hc => by rw [upd_ne (at_ne e hc ext_tup), upd_ne (ne_of_none hc hnd)]; exact hc)
end
section
variable {prog : Program} {w : World} {A : Around} {E : Value → Shared → Prop} {h : Heap} {g : Array GenState} {d : Drawn} {t : Nat} {os : OsState}
variable {nm q : Str} {C N : Addr} {bs bm bmB : List Value} {hdct : Bool} {sn : List Str} {sub : List Value} {ab : Bool} {col : Option Bool} {dd : Option Addr} {k0 k1 k2 k3 k5 : Option Value} {B newId initId : String}
theorem xcall_bwT (FB : ExcBaseFacts B newId initId bmB) {u e t0 : Addr} {rest : List Value} {Q : Value → Shared → Prop}
    (hC : h.get? C = some (excClassObj nm q C N bs bm hdct sn sub ab col dd k0 k1 k2 k3 k5 newId)) (he : h.get? e = some (HandSPX.excO C t0)) (hu : h.get? u = some (PySem.W.kxs_mw initId e)) (hrest : rest.length ≤ sizeLine)
    (hq : ∀ h', (∀ b o, b ≠ e → h.get? b = some o → h'.get? b = some o) → h'.get? e = some (HandSPX.excO C h.objs.size) → h'.get? h.objs.size = some (PySem.W.kdv_tup rest) → Q .none ⟨h', g, d, t, os⟩) :
    wpAny (model prog w) A (call (.ref u) rest) Q E ⟨h, g, d, t, os⟩ := by
  refine wpAny_call (codeAny_of_tree ?_)
  show wpAny _ A.in1 (callAny (.ref u) ⟨rest, []⟩) _ _ _
  simp only [callAny]
  refine wpAny_bind (wpAny_load hu ?_)
  simp only [PySem.W.kxs_mw, show (Value.type "method-wrapper" == Value.type "method" || Value.type "method-wrapper" == Value.type "builtin_function_or_method" || Value.type "method-wrapper" == Value.type "method-wrapper") = true by decide, if_true]
  refine PySem.W.KFB.if_so (by decide) ?_
  refine wpAny_bind (PySem.W.check_bound_init FB.toExcCallFacts hC he rfl ?_)
  refine wpAny_bind (wpAny_pure (wpAny_pure ?_))
  refine ⟨plainId_quiet FB.init.plain _, codeAny_builtin FB.initEntry ?_⟩
  exact PySem.W.exc_init_tree (cls := .ref C) (t0 := t0) (dv := none) (c2 := .none) (c3 := .none) (b4 := .bool false) he hrest fun h' k e' t' => hq h' k e' t'
end
/-- the promise of such an __init__: t reads what stands behind super().__init__(msg) -/
def spXT (C : Addr) (N : List Str) (n : Nat) (msg : Str) (t : TS) : Sp := fun vs H Q E => vs.length = n ∧ ∃ a, vs[0]? = some (.ref a) ∧ H a = some (exo a C none) ∧ ∀ tt, H tt = none → tt ≠ a → t { nx := fun _ H' => Q .non H', rt := Q } (L2.start N vs) (upd (upd H tt (.tup [.str msg])) a (exoT a C none tt))
section
variable {P : Program} {w : World} {K : PySem.W.Frag} {mg : Str → Option Value} {base : Heap} {k : Nat} {f cda cc C : Addr} {name qual : Str} {params : Arguments} {rest : List Stmt} {scope : Scope} {doc pm ct oc : Value} {an od : Option Addr}
  {osl : Array (Option Value)} {N ps : List Str} {p0 p1 apos cpos epos mp : Pos} {msg : Str} {kd : Nat} {t : TS} {ar : Arg} {pl : Sem Bool}
theorem superXT (lk : K.lookup f = some ⟨oc, od, .func (PySem.W.ksFn name qual params (.Expr (.Call (.Attribute (.Call (.Name "super" p0) [] [] p1) "__init__" apos) [.Constant (.str msg) kd mp] [] cpos) epos :: rest) scope .none .none doc pm an (.ref cda) ct cc), osl⟩)
    (hcd : PySem.W.codeIn K (.ref cda) qual = true) (S : ScopeS N ps scope) (hps : ps[0]? = some ar.arg) (hpar : (params.posonlyargs ++ params.args).head? = some ar)
    (hks : scope.names.lookup ("super" : Str) = some .globalImplicit) (hkc : scope.names.lookup ("__class__" : Str) = some .free)
    (U : SupX P K mg cda cc C) (TC : OexC K C)
    (hev : ∀ env, eval (.Call (.Attribute (.Call (.Name "super" p0) [] [] p1) "__init__" apos) [.Constant (.str msg) kd mp] [] cpos) env = (do
      let ov ← attributeBase (.Call (.Name "super" p0) [] [] p1) "__init__" env (eval (.Call (.Name "super" p0) [] [] p1) env)
      standAt apos.atName
      let (f, first) ← holding [ov] (getMethod ov "__init__" pl)
      callWith cpos f first (backTo cpos (starEach [.Constant (.str msg) kd mp] env)) []))
    (hsw : ∀ env, swapsWith (.Call (.Attribute (.Call (.Name "super" p0) [] [] p1) "__init__" apos) [.Constant (.str msg) kd mp] [] cpos) none epos.line env = pure false)
    (hb : ∀ (A : Around) (outer : List Env) (s : Shared) (H : Hp) (E : XK), PSs (cxS P w K mg base N qual scope f cda cc A outer s H E) rest t) :
    FnG P w K mg base (k + 1) f (PySem.W.ksFn name qual params (.Expr (.Call (.Attribute (.Call (.Name "super" p0) [] [] p1) "__init__" apos) [.Constant (.str msg) kd mp] [] cpos) epos :: rest) scope .none .none doc pm an (.ref cda) ct cc) ps (spXT C N ps.length msg t) := by
  refine ⟨fun vs H Q E h => h.1, fun A outer s H args us vs Q E hr e0 hbd r hsp => ?_⟩
  obtain ⟨hl, x, hv0, hHx, o⟩ := hsp
  obtain ⟨ccl, cdd, cvs, ccs, file, tf, hcode, hvs, hfile⟩ := U.code
  obtain ⟨ocl, ocd, ocs, hcell⟩ := U.cell
  obtain ⟨cdD, hD⟩ := U.cls
  have hlu : us.length = ps.length := by rw [← r.length]; exact hl
  have KX : K.In s.heap := e0.mod.kin.keeps fun b o e => (e0.bs b o e).1
  have lim : s.heap.NoLimit := e0.mod.nolimit.keeps fun b o e => (e0.bs b o e).1
  have hloc : ∀ y ∈ ps.zip us, scope.names.lookup y.1 = some .local := fun ⟨n, v⟩ hy => S.par n (List.of_mem_zip hy).1
  refine ks_codeAny_call_defAt (fd := PySem.W.ksFn name qual params (.Expr (.Call (.Attribute (.Call (.Name "super" p0) [] [] p1) "__init__" apos) [.Constant (.str msg) kd mp] [] cpos) epos :: rest) scope .none .none doc pm an (.ref cda) ct cc) (binds := ps.zip us) hr.r.depth (KX _ _ lk) rfl lim
    (PySem.W.codeRec_of KX hcd) rfl hbd S.nocell hloc (fun h0 hns hk => ?_) S.co S.gen S.kind
  show _root_.PySem.wpAt (model P w) (A.deeper (PySem.W.ksEnv qual scope s.heap.objs.size f (.ref cda) cc)) (.func (.Expr (.Call (.Attribute (.Call (.Name "super" p0) [] [] p1) "__init__" apos) [.Constant (.str msg) kd mp] [] cpos) epos :: rest) (PySem.W.ksEnv qual scope s.heap.objs.size f (.ref cda) cc))
    (execs (.Expr (.Call (.Attribute (.Call (.Name "super" p0) [] [] p1) "__init__" apos) [.Constant (.str msg) kd mp] [] cpos) epos :: rest) (PySem.W.ksEnv qual scope s.heap.objs.size f (.ref cda) cc)) _ _ _
  have I : Inv (cxS P w K mg base N qual scope f cda cc A outer s H E) [] (L2.start N vs) H { s with heap := h0, toks := s.toks + (ps.zip us).length } := inv_startS S hr.r.hd e0 hl r hcell rfl hns hk
  have hSS := hb A outer s H E
  have KX0 : K.In h0 := I.kIn
  obtain ⟨u0, hu0, ru0⟩ := r.get hv0
  obtain rfl : u0 = Value.ref x := ru0
  obtain ⟨t1, hx0⟩ := exo_at I.hok hHx
  have J : PySem.W.InstAt h0 x { cls := .ref C, dict := none, data := .fields #[.ref t1, .none, .none, .none, .bool false, .none] } C none := ⟨hx0, rfl, rfl, trivial⟩
  obtain ⟨oD, hD1, hD2⟩ : ∃ oD, h0.get? C = some oD ∧ oD.data = .cls cdD := by
    unfold PySem.W.clsIn at hD
    split at hD
    · rename_i c d cd' sl ho
      cases hD
      exact ⟨_, KX0 _ _ ho, rfl⟩
    · cases hD
  refine ks_wpAt_execs_cons (ks_wpAt_Expr_any (ks_wpAt_MethodCall (pl := pl) ?_ (hev _)) (by have := I.quiet; exact this) (hsw _))
  refine ks_wpAt_super_base (env := PySem.W.ksEnv qual scope s.heap.objs.size f (.ref cda) cc) hks hkc (by decide +kernel) rfl (KX0 _ _ lk) rfl hpar rfl (KX0 _ _ hcode) rfl hvs hfile U.top ?_
  obtain ⟨mb, hbn, hbv⟩ := I.mod.blt
  refine PySem.W.ks_loadName_global S.kind hks (Calls.loadGlobal_builtin (env := PySem.W.ksEnv qual scope s.heap.objs.size f (.ref cda) cc) (I.mod.glob.keeps I.bk) U.sup (hbn.keeps I.bk) ((hbv ("super" : Str) (by decide +kernel)).trans (show bootBuiltins ("super" : Str) = some (Value.type "super") by first | rfl | decide +kernel | kernel_rfl)) ⟨rfl, ?_⟩)
  refine wpAny_loadName_free S.kind hkc rfl ⟨_, KX0 _ _ hcell, rfl⟩ ?_
  have hself : (ps.zip us).reverse.lookup ar.arg = some (Value.ref x) := lookup_rev (by rw [← S.pre]; exact S.nd.sublist (List.take_sublist _ _)) hlu.symm hps hu0
  refine wpAny_loadName_local S.kind (S.par _ (List.mem_of_getElem? hps)) hns hself ?_
  refine ks_wpAny_isType_cls hD1 hD2 ⟨rfl, ?_⟩
  refine ks_wpAny_call_super hD1 hD2 J.at_ J.cls (fun c e => ?_) (PySem.W.looks_mroIn KX0 U.sub) (fun h' e1 k1 => ?_)
  · cases e
  have I2 : Inv (cxS P w K mg base N qual scope f cda cc A outer s H E) [] (L2.start N vs) H { s with heap := h', toks := s.toks + (ps.zip us).length } := I.kept (t' := s.toks + (ps.zip us).length) k1
  have KX2 : K.In h' := I2.kIn
  obtain ⟨cdc, hcc, hal⟩ : ∃ cdc, PySem.W.clsIn K C = some cdc ∧ PySem.W.alongIn K "__init__" ((cdc.mro.dropWhile (· != .ref C)).drop 1) = some (some (.builtin "ValueError.__init__")) := by
    have h2 := U.nxt
    unfold PySem.W.ks_superIn at h2
    cases z : PySem.W.clsIn K C with
    | none => rw [z] at h2; cases h2
    | some cd => rw [z] at h2; exact ⟨cd, rfl, h2⟩
  have J2 : PySem.W.InstAt h' x { cls := .ref C, dict := none, data := .fields #[.ref t1, .none, .none, .none, .bool false, .none] } C none := ⟨k1 _ _ hx0, rfl, rfl, trivial⟩
  refine PySem.W.kxs_getMethod PySem.W.kxs_ValueError e1 (PySem.W.looks_opaque KX2 U.stat) (l₀ := cdc.mro) (fun A Q E s k q => wpAny_bind ((PySem.W.looks_clsIn KX2 hcc) A _ E s k (wpAny_pure q))) rfl KX2 hal ((J2.type).andThen (PySem.W.looks_subIn KX2 U.ve)) (PySem.W.ks_ne KX2 J2 hcc) (by decide +kernel) ?_
  -- the method-wrapper stands at the heap's end
  have hq0 : H h'.objs.size = none := I2.hok.fresh (Nat.le_refl _)
  have I3a : Inv (cxS P w K mg base N qual scope f cda cc A outer s H E) [] (L2.start N vs) H { s with heap := h'.push (PySem.W.kxs_mw "ValueError.__init__" x), toks := s.toks + (ps.zip us).length + 1 } := I2.kept (t' := s.toks + (ps.zip us).length + 1) fun b u q => Heap.get?_push_of_some _ q
  have hq1 : (h'.push (PySem.W.kxs_mw "ValueError.__init__" x)).get? h'.objs.size = some (PySem.W.kxs_mw "ValueError.__init__" x) := Heap.get?_push_size h' rfl
  have I3 : Inv (cxS P w K mg base N qual scope f cda cc A outer s H E) [(h'.objs.size, PySem.W.kxs_mw "ValueError.__init__" x)] (L2.start N vs) H { s with heap := h'.push (PySem.W.kxs_mw "ValueError.__init__" x), toks := s.toks + (ps.zip us).length + 1 } :=
    I3a.pins_of fun p hp => by
      have hp : p = (h'.objs.size, PySem.W.kxs_mw "ValueError.__init__" x) := by simpa using hp
      subst hp
      have fo := I2.fpOk (H' := H) (b := h'.objs.size) (Nat.le_refl _) hq0
      exact ⟨hq1, hq0, fo.2.1, fo.2.2.1, fun v z => by cases z⟩
  show wpAny _ _ (callWith cpos (.ref h'.objs.size) [] (backTo cpos (starEach [.Constant (.str msg) kd mp] (PySem.W.ksEnv qual scope s.heap.objs.size f (.ref cda) cc))) []) _ _ _
  refine PySem.W.kxs_callWith (i := "ValueError.__init__") (x := x) rfl (Calls.evalArgs_plain ?_)
  refine Calls.spliced_cons ?_
  refine thn ((pe_str (X := cxS P w K mg base N qual scope f cda cc A outer s H E) (x := msg) (j := kd) (pos := mp)).run [(h'.objs.size, PySem.W.kxs_mw "ValueError.__init__" x)] _ (L2.start N vs) H (fun v H' => v = .str msg ∧ H' = H) I3 (by exact ⟨rfl, rfl⟩)) fun u4 s4 ⟨v4, H4, I4, r4, e4, e5⟩ => ?_
  rw [e5] at I4
  refine Calls.spliced_nil ?_
  have pin := I4.pin (h'.objs.size, PySem.W.kxs_mw "ValueError.__init__" x) (List.mem_append_right _ (List.mem_singleton.mpr rfl))
  refine ⟨pin.1, ?_⟩
  obtain ⟨nm, q, N', bs, bm, sn, sub, ab, col, dd, k0, k1', k2, k3, k5, hC, hbm⟩ := TC.cls
  obtain ⟨t4, ho4⟩ := exo_at I4.hok hHx
  obtain ⟨hp4, g4, d4, tk4, os4⟩ := s4
  have hne : hp4.objs.size ≠ x := Ne.symm (Nat.ne_of_lt (Heap.lt_size ho4))
  refine xcall_bwT F.excBase_ValueError (I4.kIn _ _ hC) ho4 pin.1 (by show 1 ≤ sizeLine; decide) fun h5 k5 hx5 ht5 => ?_
  subst e4
  have I5 := inv_two (t' := tk4) (oA := exoT x C none hp4.objs.size) (oD := .tup [.str msg]) I4 (show H x = some (.ext _) from hHx) (dx := hp4.objs.size) (Nat.le_refl _) k5 ⟨_, hx5⟩ (exoT_ok hx5) ⟨by show 1 ≤ sizeLine; decide, [u4], .cons r4 .nil, ⟨_, ht5, rfl, 0, rfl⟩⟩
  have o := o hp4.objs.size (I4.hok.fresh (Nat.le_refl _)) hne
  have fin : ∀ {pins : List (Addr × Obj)} {σ' : L2.St} {H' : Hp} {s' : Shared} {v : V} {u : Value}, Inv (cxS P w K mg base N qual scope f cda cc A outer s H E) pins σ' H' s' → RelV v u → Q v H' → CE outer P w H s Q u s' :=
    fun {pins σ' H' s' v u} J rv q => ⟨v, H', J.os, J.bare, J.base, J.hok, rv, q⟩
  refine wpAt_of_wpAny (wpAny_mono (hSS.run _ _ (L2.start N vs) _ _ I5 o) (fun fl s6 hs => ?_) fun e s6 hs => hs)
  cases fl with
  | ret u =>
    obtain ⟨v, σ', H', J, rv, q⟩ := hs
    exact fin J rv q
  | next =>
    obtain ⟨σ', H', J, q⟩ := hs
    exact fin (v := V.non) (u := Value.none) J rfl q
  | brk =>
    obtain ⟨_, _, _, q⟩ := hs
    exact False.elim q
  | cont =>
    obtain ⟨_, _, _, q⟩ := hs
    exact False.elim q
end
/-! the field -/
def frzX (C dx tt : Addr) : HO := .frz (excR C (some dx) tt) (.own 0)
def tOstT (K : PySem.W.Frag) (f : Str) (to te : TE) : TS := fun D σ H => te σ H fun y H1 => to σ H1 fun x H2 => ∃ a C tt : Addr, x = .ref a ∧ OexC K C ∧ PySem.W.findIn K (.ref C) f = some none ∧ H2 a = some (exoT a C none tt) ∧
  ∀ dx, H2 dx = none → dx ≠ a → D.nx σ (upd (upd H2 dx (.xd [(f, y)])) a (frzX C dx tt))
section
variable {X : Cx} {pins : List (Addr × Obj)} {σ : L2.St} {H : Hp} {s : Shared} {a C tt : Addr} {f : Str} {y : V} {u : Value} {Q : Unit → Shared → Prop} {E : Value → Shared → Prop} {A : Around} {o e : Expr} {to te : TE} {p' pos : Pos}
theorem ost_T (T : OexC X.K C) (I : Inv X pins σ H s) (e : H a = some (exoT a C none tt)) (hno : PySem.W.findIn X.K (.ref C) f = some none) (ry : RelV y u)
    (h : ∀ dx s', H dx = none → dx ≠ a → Inv X pins σ (upd (upd H dx (.xd [(f, y)])) a (frzX C dx tt)) s' → Q () s') : wpAny (model X.prog X.w) A (setAttr (.ref a) f u) Q E s := by
  obtain ⟨nm, q, N, bs, bm, sn, sub, ab, col, dd, k0, k1, k2, k3, k5, hC, hbm⟩ := T.cls
  have hcl : PySem.W.clsIn X.K C = some { name := nm, bases := bs, mro := .ref C :: bm, ns := N, qualname := q, hasDict := true, slotNames := sn, subclasses := sub, abstract := ab, collection := col, hasDel := false } := by unfold PySem.W.clsIn; rw [hC] <;> rfl
  have ho := exoT_at I.hok e
  obtain ⟨hp, g, d, t, os⟩ := s
  refine PySem.W.set_plain I.kIn (ox := { cls := .ref C, dict := none, data := .fields #[.ref tt, .none, .none, .none, .bool false, .none] }) (od := none) ⟨ho, rfl, rfl, trivial⟩ T.sa ?_
  refine PySem.HandSPX.exc_osa I.kIn ho hcl (show PySem.HandSPX.refsVE (.ref C :: bm) = true from hbm) rfl hno (fun h' tk' dx k dn dne hx hn => ?_)
  refine h dx _ (I.hok.fresh dn) dne (inv_two (t' := tk') I (show H a = some (.ext _) from e) dn k ⟨_, hx⟩ ⟨hx, _, hx⟩ ⟨_, hn, relO_put (fs := []) ry fun g => True.intro⟩)
theorem ps_ostT (ho : PE X o to) (he : PE X e te) (hs : swapsWith e (some (.Attribute o f p')) pos.line X.env = pure false := by rfl) : PS X (.Assign [.Attribute o f p'] e pos) (tOstT X.K f to te) := by
  refine ⟨fun pins s σ H D I h => ?_⟩
  refine plainObj_wpAny_Assign_Attribute (thn (he.run pins s σ H _ I h) fun v s1 ⟨y, H1, I1, r1, q1⟩ => thn (ho.run pins s1 σ H1 _ I1 q1) fun u s2 ⟨x, H2, I2, r2, a, C, tt, ex, T, hno, ea, q⟩ => ?_) hs
  subst ex
  obtain rfl : u = Value.ref a := r2
  exact ost_T T I2 ea hno r1 fun dx s' n ne J => ⟨σ, _, J, q dx n ne⟩
end
/-- __init__(self, v): super().__init__(msg); self.f = v -/
def sp1T (C : Addr) (f msg : Str) : Sp := fun vs H Q E => ∃ a y, vs = [.ref a, y] ∧ H a = some (exo a C none) ∧ ∀ tt dx, H tt = none → H dx = none → tt ≠ a → dx ≠ a → dx ≠ tt → Q .non (upd (upd (upd H tt (.tup [.str msg])) dx (.xd [(f, y)])) a (frzX C dx tt))
section
variable {P : Program} {w : World} {K : PySem.W.Frag} {mg : Str → Option Value} {base : Heap} {k : Nat} {fa : Addr} {fd : FuncData} {ps : List Str} {C : Addr} {f msg : Str}
theorem upd_swap {H : Hp} {a b : Addr} {u v w : HO} (h : b ≠ a) : upd (upd (upd H a u) b v) a w = upd (upd H b v) a w := by
  funext c
  by_cases h1 : c = a
  · subst h1; rw [upd_same, upd_same]
  · rw [upd_ne h1, upd_ne h1]
    by_cases h2 : c = b
    · subst h2; rw [upd_same, upd_same]
    · rw [upd_ne h2, upd_ne h2, upd_ne h1]
theorem fn_sp1T {x y : Str} (F : FnG P w K mg base k fa fd [x, y] (spXT C [x, y] 2 msg (tOstT K f (tVar 0) (tVar 1)))) (T : OexC K C) (hno : PySem.W.findIn K (.ref C) f = some none) : FnG P w K mg base k fa fd [x, y] (sp1T C f msg) :=
  F.conv fun vs H Q E ⟨a, y, e, ha, q⟩ => by
    subst e
    refine ⟨rfl, a, rfl, ha, fun tt h1 h2 => ⟨y, rfl, .ref a, rfl, a, C, tt, rfl, T, hno, upd_same, fun dx h3 h4 => ?_⟩⟩
    rw [upd_ne h4] at h3
    have h5 : dx ≠ tt := fun z => by subst z; rw [upd_same] at h3; cases h3
    rw [upd_ne h5] at h3
    have := q tt dx h1 h3 h2 h4 h5
    rw [upd_swap h4]
    exact this
end
end Sh

namespace Sh
open PySem PySem.Spec L2
open PyProof.Rows (envOfC)

/-! ### C(v), C(f=v), held with its text; C() without a field -/
structure Exc1T (P : Program) (w : World) (K : PySem.W.Frag) (mg : Str → Option Value) (base : Heap) (g : G) (x : Str) (c : String) (k : Nat) (f : List Nat) (msg : List Nat) (pn : Str) : Prop where
  ex : ∃ (fi : Addr) (fd : FuncData) (p0 : Str), mg x = some (.ref (g.cl c)) ∧ XcK K (g.cl c) fi ∧ (∀ (s : Shared) (v u : Value), BindsTo s fd ⟨[v, u], []⟩ [(p0, v), (pn, u)]) ∧ (∀ (s : Shared) (v u : Value), BindsTo s fd ⟨[v], [(pn, u)]⟩ [(p0, v), (pn, u)]) ∧ FnG P w K mg base k fi fd [p0, pn] (sp1T (g.cl c) (Sh.S f) (Sh.S msg))
section
variable {g : G} {X : Cx} {wx : WX} {τ : L2.St} {ρ ρ' : List Addr} {H H' : Hp} {m m' : Mem} {e : Expr} {pins : List (Addr × Obj)} {s : Shared}
theorem upd_dup {H : Hp} {a : Addr} {u v : HO} : upd (upd H a u) a v = upd H a v := by
  funext b
  by_cases h : b = a
  · subst h; rw [upd_same, upd_same]
  · rw [upd_ne h, upd_ne h, upd_ne h]
theorem upd_comm {H : Hp} {a b : Addr} {u v : HO} (h : b ≠ a) : upd (upd H a u) b v = upd (upd H b v) a u := by
  funext c
  by_cases h1 : c = a
  · subst h1; rw [upd_same, upd_ne (Ne.symm h), upd_same]
  · rw [upd_ne h1]
    by_cases h2 : c = b
    · subst h2; rw [upd_same, upd_same]
    · rw [upd_ne h2, upd_ne h2, upd_ne h1]
theorem xmkT {x : Str} {c : String} {k : Nat} {f msg : List Nat} {pn : Str} {y : V} {u : Value} {rest : List Value} {kw : List (Str × Value)} {Q : Value → Shared → Prop} (D : Exc1T X.prog X.w X.K X.mg X.base g x c k f msg pn) (hr : Rm (k + 1) X.A) (I : Inv X pins τ H s) (ru : RelV y u)
    (ha : (rest = [u] ∧ kw = []) ∨ (rest = [] ∧ kw = [(pn, u)]))
    (q : ∀ a tt dx s', H a = none → H tt = none → H dx = none → tt ≠ a → dx ≠ a → dx ≠ tt → Inv X pins τ (upd (upd (upd H tt (.tup [.str (Sh.S msg)])) dx (.xd [(Sh.S f, y)])) a (frzX (g.cl c) dx tt)) s' → Q (.ref a) s') : wpAny (model X.prog X.w) X.A (call (.ref (g.cl c)) rest kw) Q X.xe s := by
  obtain ⟨fI, fd, p0, hm, D, hb1, hb2, F1⟩ := D.ex
  have T := D.T
  obtain ⟨nm, q', N, bs, bm, sn, sub, ab, col, dd, k0, k1, k2, k3, k5, hC, hbm⟩ := D.T.cls
  obtain ⟨hp, gn, dr, tk, os⟩ := s
  have hsz : hp.objs.size ≤ hp.objs.size + 1 := Nat.le_succ _
  have hn : H (hp.objs.size + 1) = none := I.hok.fresh hsz
  have kk : ∀ b o, hp.get? b = some o → ((hp.push (PySem.W.kdv_tup rest)).push (PySem.HandSPX.excO (g.cl c) hp.objs.size)).get? b = some o := fun b o e => Heap.get?_push_of_some _ (Heap.get?_push_of_some _ e)
  have hget : ((hp.push (PySem.W.kdv_tup rest)).push (PySem.HandSPX.excO (g.cl c) hp.objs.size)).get? (hp.objs.size + 1) = some (PySem.HandSPX.excO (g.cl c) hp.objs.size) := by heap_get
  have I2 : Inv X pins τ (upd H (hp.objs.size + 1) (exo (hp.objs.size + 1) (g.cl c) none)) ⟨(hp.push (PySem.W.kdv_tup rest)).push (PySem.HandSPX.excO (g.cl c) hp.objs.size), gn, dr, tk, os⟩ :=
    I.laid (t' := tk) (a := hp.objs.size + 1) (o := exo (hp.objs.size + 1) (g.cl c) none) (h' := (hp.push (PySem.W.kdv_tup rest)).push (PySem.HandSPX.excO (g.cl c) hp.objs.size)) kk hsz (exo_ok hget)
  have r2 : Vals [V.ref (hp.objs.size + 1), y] [Value.ref (hp.objs.size + 1), u] := .cons rfl (.cons ru .nil)
  have hus : rest.length ≤ sizeLine := by
    rcases ha with ⟨h, _⟩ | ⟨h, _⟩ <;> (rw [h, sizeLine_eq]; simp)
  have hbd : BindsTo ⟨(hp.push (PySem.W.kdv_tup rest)).push (PySem.HandSPX.excO (g.cl c) hp.objs.size), gn, dr, tk, os⟩ fd ⟨.ref (hp.objs.size + 1) :: rest, kw⟩ ([p0, pn].zip [Value.ref (hp.objs.size + 1), u]) := by
    rcases ha with ⟨h1, h2⟩ | ⟨h1, h2⟩
    · subst h1 h2; exact hb1 _ _ _
    · subst h1 h2; exact hb2 _ _ _
  have nha : ∀ {b : Addr} {o : Obj}, hp.get? b = some o → b ≠ hp.objs.size + 1 := fun {b o} z => Nat.ne_of_lt (Nat.lt_of_lt_of_le (Heap.lt_size z) hsz)
  refine wpAny_call (kx_call F.excBase_ValueError (fun Y => PySem.HandSPX.refsVE_contains Y bm hbm) (I.kIn _ _ hC) (PySem.W.looks_findIn I.kIn D.ini) (fun self => PySem.W.bind_fn I.kIn self D.fn) hus
    (codeAny_mono (F1.run _ X.stack _ _ ⟨.ref (hp.objs.size + 1) :: rest, kw⟩ [Value.ref (hp.objs.size + 1), u] _
      (fun v H2 => v = .non ∧ ∃ tt dx, H tt = none ∧ H dx = none ∧ tt ≠ hp.objs.size + 1 ∧ dx ≠ hp.objs.size + 1 ∧ dx ≠ tt ∧ H2 = upd (upd (upd (upd H (hp.objs.size + 1) (exo (hp.objs.size + 1) (g.cl c) none)) tt (.tup [.str (Sh.S msg)])) dx (.xd [(Sh.S f, y)])) (hp.objs.size + 1) (frzX (g.cl c) dx tt)) (fun _ _ _ => False)
      (Rm.make hr (g.cl c) rest kw) (I2.env0.make (g.cl c) rest kw) hbd r2 ⟨_, y, rfl, upd_same, fun tt dx h1 h2 h3 h4 h5 => ⟨rfl, tt, dx, by rw [upd_ne h3] at h1; exact h1, by rw [upd_ne h4] at h2; exact h2, h3, h4, h5, rfl⟩⟩) fun r s' hq' => ?_))
  cases r with
  | error er =>
    obtain ⟨_, _, _, _, _, _, _, _, _, _, _, _, z⟩ := hq'
    exact z.elim
  | ok fl =>
    cases fl with
    | ret u' =>
      obtain ⟨v, H2, os2, bare2, un2, hok2, rv, ev, tt, dx, ht, hd, h3, h4, h5, e2⟩ := hq'
      subst ev
      have e3 : H2 = upd (upd (upd H tt (.tup [.str (Sh.S msg)])) dx (.xd [(Sh.S f, y)])) (hp.objs.size + 1) (frzX (g.cl c) dx tt) := by
        rw [e2, upd_comm h3, upd_comm h4, upd_dup]
      rw [e3] at un2 hok2
      obtain ⟨h2, g2, d2, t2, os'⟩ := s'
      refine ⟨rv, q _ tt dx _ hn ht hd h3 h4 h5 ?_⟩
      have up : ∀ {b : Addr}, b ≠ hp.objs.size + 1 → H b = none → upd H (hp.objs.size + 1) (exo (hp.objs.size + 1) (g.cl c) none) b = none := fun {b} hb n => by rw [upd_ne hb]; exact n
      have U : Un (frs X.stack) [] H (upd (upd (upd H tt (.tup [.str (Sh.S msg)])) dx (.xd [(Sh.S f, y)])) (hp.objs.size + 1) (frzX (g.cl c) dx tt)) hp h2 := {
        keep := fun b o z n hf hx => un2.keep b o (kk b o z) (up (nha z) n) hf hx
        slot := fun b o z n hf hx => un2.slot b o (kk b o z) (up (nha z) n) hf hx
        free := fun b o z n hx => un2.free b o (kk b o z) (up (nha z) n) hx
        there := fun b o z hx => un2.there b o (kk b o z) hx
        tups := fun b xs z => un2.tups b xs (by rw [upd_ne (ne_of_none z hn)]; exact z)
        frzs := fun b o v z => un2.frzs b o v (by rw [upd_ne (ne_of_none z hn)]; exact z)
        tbls := fun b ps z => un2.tbls b ps (by rw [upd_ne (ne_of_none z hn)]; exact z) }
      exact I.call' (ch := []) os2 U hok2 bare2 (fun b z => absurd z (by simp))
    | next => exact False.elim hq'
    | brk => exact False.elim hq'
    | cont => exact False.elim hq'
def makeXT (c : String) (f msg : List Nat) (ws : List W) (m : Mem) : R W := match ws with
  | [w] => .ok (.ref m.length) (m ++ [.exh c [(f, w)] msg])
  | _ => .bad
def eMakeXT (c : String) (f msg : List Nat) (a : DL) : DE := fun σ m => (a σ m).bind (makeXT c f msg)
theorem makeXT_ok {x : Str} {c : String} {k : Nat} {f msg : List Nat} {pn : Str} {w0 : W} {y : V} {u : Value} {rest : List Value} {kw : List (Str × Value)} {Q : Value → Shared → Prop} (D : Exc1T X.prog X.w X.K X.mg X.base g x c k f msg pn) (hr : Rm (k + 1) X.A) (I : Inv X pins τ H s) (S : Sim g ρ m H) (ry : VR g ρ H w0 y) (ru : RelV y u)
    (ha : (rest = [u] ∧ kw = []) ∨ (rest = [] ∧ kw = [(pn, u)]))
    (o : Out g wx τ ρ H (R.ok (W.ref m.length) (m ++ [.exh c [(f, w0)] msg])) (fun w m' ρ' H' => ∀ v u s', Inv X pins τ H' s' → VR g ρ' H' w v → RelV v u → Q u s')) : wpAny (model X.prog X.w) X.A (call (.ref (g.cl c)) rest kw) Q X.xe s := by
  refine xmkT D hr I ru ha fun a tt dx s' na ht hd h3 h4 h5 J => ?_
  obtain ⟨P1, S1⟩ := S.junk (u := .tup [.str (Sh.S msg)]) ht
  have hd1 : upd H tt (.tup [.str (Sh.S msg)]) dx = none := by rw [upd_ne h5]; exact hd
  obtain ⟨P2, S2⟩ := S1.junk (u := .xd [(Sh.S f, y)]) hd1
  have P12 := P1.then P2 S S1
  have na2 : upd (upd H tt (.tup [.str (Sh.S msg)])) dx (.xd [(Sh.S f, y)]) a = none := by rw [upd_ne (Ne.symm h4), upd_ne (Ne.symm h3)]; exact na
  obtain ⟨P3, S3⟩ := S2.push (o := .exh c [(f, w0)] msg) (u := frzX (g.cl c) dx tt) na2 ⟨excR (g.cl c) (some dx) tt, _, some dx, [(Sh.S f, y)], tt, rfl, rfl, rfl, rfl, (by show upd _ dx _ dx = _; rw [upd_same]), .cons ⟨rfl, ry.post S P12⟩ .nil, rfl, by rw [upd_ne (Ne.symm h5), upd_same]⟩
  exact o _ _ (P12.then P3 S S2) S3 (.ref a) _ s' J (.ref (by rw [← S.len]; simp)) rfl
theorem se_makeXT {x : Str} {c : String} {k : Nat} {f msg : List Nat} {pn : Str} {es : List Expr} {fa : DL} {p pos : Pos} (D : Exc1T X.prog X.w X.K X.mg X.base g x c k f msg pn) (hr : Rm (k + 1) X.A) (hg : Gl X x) (ha : SA g X wx (e :: es) fa)
    (hdb : (x == ("__debug__" : Str)) = false := by decide) (he : starEach (e :: es) X.env = (false, eval e X.env) :: starEach es X.env := by exact star1 rfl) (hpl : (backTo pos (starEach es X.env)).any (·.1) = false := by exact plain_ns rfl) :
    SE g X wx (.Call (.Name x p) (e :: es) [] pos) (eMakeXT c f msg fa) := by
  obtain ⟨fi, fd, p0, hm, mk, _⟩ := id D.ex
  refine ⟨fun pins s σ m ρ H τ Q I S L o => ?_⟩
  refine wpAny_Call_Name_kw (ld_glob I hg hm ?_ hdb)
  refine PySem.W.callWith_K (h₀ := X.base) I.ok.mod.kin mk.T.kC (ha.run pos pins s σ m ρ H τ _ I S L ((o.bind S).imp fun ws m1 ρ1 H1 P1 S1 o1 vs us s1 I1 rv ru => ⟨I1.kIn, ?_⟩)) he hpl
  unfold makeXT at o1
  split at o1
  · rename_i w0
    obtain ⟨y, rfl, ry⟩ := rv.inv1
    cases ru with
    | @cons _ u _ _ r1 r2 =>
      cases r2
      exact makeXT_ok D hr I1 S1 ry r1 (.inl ⟨rfl, rfl⟩) o1
  · exact o1.elim
theorem se_makeXK {x : Str} {c : String} {k : Nat} {f msg : List Nat} {pn : Str} {fa : DE} {p pos kpos : Pos} (D : Exc1T X.prog X.w X.K X.mg X.base g x c k f msg pn) (hr : Rm (k + 1) X.A) (hg : Gl X x) (ha : SE g X wx e fa)
    (hdb : (x == ("__debug__" : Str)) = false := by decide) (hall : (backToKw pos (keywordEach [⟨some pn, e, kpos⟩] X.env)).all (·.1.isSome) = true := by rfl) (hks : (backToKw pos (keywordEach [⟨some pn, e, kpos⟩] X.env)).filterMap (·.1) = [pn] := by rfl)
    (hpl : ((backTo pos (starEach [] X.env)).any (·.1) || (backToKw pos (keywordEach [⟨some pn, e, kpos⟩] X.env)).any (·.1.isNone)) = false := by rfl) :
    SE g X wx (.Call (.Name x p) [] [⟨some pn, e, kpos⟩] pos) (eMakeXT c f msg (aCons fa aNil)) := by
  obtain ⟨fi, fd, p0, hm, mk, _⟩ := id D.ex
  refine ⟨fun pins s σ m ρ H τ Q I S L o => ?_⟩
  have o : Out g wx τ ρ H ((fa σ m).bind fun w m1 => R.ok (W.ref m1.length) (m1 ++ [.exh c [(f, w)] msg])) (fun w m' ρ' H' => ∀ v u s', Inv X pins τ H' s' → VR g ρ' H' w v → RelV v u → Q u s') := by
    have e0 : eMakeXT c f msg (aCons fa aNil) σ m = (fa σ m).bind fun w m1 => R.ok (W.ref m1.length) (m1 ++ [.exh c [(f, w)] msg]) := by
      unfold eMakeXT aCons aNil
      cases fa σ m <;> rfl
    rw [e0] at o
    exact o
  refine wpAny_Call_Name_kw (ld_glob I hg hm ?_ hdb)
  refine PySem.W.callWith_KW0 (h₀ := X.base) I.ok.mod.kin mk.T.kC hall ?_ hpl
  show wpAny _ _ (evalAll [(do let v ← eval e X.env; standAt pos; pure v)]) _ _ s
  refine wpAny_evalAll_cons (wpAny_bind (ha.run pins s σ m ρ H τ _ I S L ((o.bind S).imp fun w m1 ρ1 H1 P1 S1 o1 v u s1 I1 rv ru => wpAny_bind (wpAny_standAt (wpAny_pure (wpAny_evalAll_nil ⟨I1.kIn, ?_⟩))))))
  rw [hks]
  exact makeXT_ok D hr I1 S1 rv ru (.inr ⟨rfl, rfl⟩) o1
/-- C() of a class without a field -/
def eMakeX0 (c : String) : DE := fun _ m => .ok (.ref m.length) (m ++ [.exc c []])
theorem se_makeX0 {x : Str} {c : String} {k : Nat} {p pos : Pos} (D : Exc0 X.prog X.w X.K X.mg X.base g x c k) (hr : Rm (k + 1) X.A) (hg : Gl X x) (hdb : (x == ("__debug__" : Str)) = false := by decide) :
    SE g X wx (.Call (.Name x p) [] [] pos) (eMakeX0 c) := by
  obtain ⟨fI, fd, ps, hm, D, hps, hb, F1⟩ := D.ex
  have T := D.T
  obtain ⟨nm, q', N, bs, bm, sn, sub, ab, col, dd, k0, k1, k2, k3, k5, hC, hbm⟩ := D.T.cls
  refine ⟨fun pins s σ m ρ H τ Q I S L o => ?_⟩
  refine wpAny_Call_Name_kw (ld_glob I hg hm ?_ hdb)
  refine PySem.W.callWith_K0 I.kIn T.kC ?_
  obtain ⟨hp, gn, dr, tk, os⟩ := s
  have hsz : hp.objs.size ≤ hp.objs.size + 1 := Nat.le_succ _
  have hn : H (hp.objs.size + 1) = none := I.hok.fresh hsz
  have kk : ∀ b o, hp.get? b = some o → ((hp.push (PySem.W.kdv_tup [])).push (PySem.HandSPX.excO (g.cl c) hp.objs.size)).get? b = some o := fun b o e => Heap.get?_push_of_some _ (Heap.get?_push_of_some _ e)
  have hget : ((hp.push (PySem.W.kdv_tup [])).push (PySem.HandSPX.excO (g.cl c) hp.objs.size)).get? (hp.objs.size + 1) = some (PySem.HandSPX.excO (g.cl c) hp.objs.size) := by heap_get
  have I2 : Inv X pins τ (upd H (hp.objs.size + 1) (exo (hp.objs.size + 1) (g.cl c) none)) ⟨(hp.push (PySem.W.kdv_tup [])).push (PySem.HandSPX.excO (g.cl c) hp.objs.size), gn, dr, tk, os⟩ :=
    I.laid (t' := tk) (a := hp.objs.size + 1) (o := exo (hp.objs.size + 1) (g.cl c) none) (h' := (hp.push (PySem.W.kdv_tup [])).push (PySem.HandSPX.excO (g.cl c) hp.objs.size)) kk hsz (exo_ok hget)
  have hbd := hb ⟨(hp.push (PySem.W.kdv_tup [])).push (PySem.HandSPX.excO (g.cl c) hp.objs.size), gn, dr, tk, os⟩ [Value.ref (hp.objs.size + 1)] I2.kIn (by rw [hps]; rfl)
  rw [List.append_nil] at hbd
  have nha : ∀ {b : Addr} {o : Obj}, hp.get? b = some o → b ≠ hp.objs.size + 1 := fun {b o} z => Nat.ne_of_lt (Nat.lt_of_lt_of_le (Heap.lt_size z) hsz)
  refine wpAny_call (kx_call F.excBase_ValueError (fun Y => PySem.HandSPX.refsVE_contains Y bm hbm) (I.kIn _ _ hC) (PySem.W.looks_findIn I.kIn D.ini) (fun self => PySem.W.bind_fn I.kIn self D.fn) (by rw [sizeLine_eq]; simp)
    (codeAny_mono (F1.run _ X.stack _ _ ⟨[.ref (hp.objs.size + 1)], []⟩ [Value.ref (hp.objs.size + 1)] _
      (fun v H2 => v = .non ∧ H2 = upd H (hp.objs.size + 1) (exo (hp.objs.size + 1) (g.cl c) none)) (fun _ _ _ => False)
      (Rm.make hr (g.cl c) [] []) (I2.env0.make (g.cl c) [] []) hbd (show Vals [V.ref (hp.objs.size + 1)] [Value.ref (hp.objs.size + 1)] from .cons rfl .nil) ⟨_, rfl, upd_same, ⟨rfl, rfl⟩⟩) fun r s' hq' => ?_))
  cases r with
  | error er =>
    obtain ⟨_, _, _, _, _, _, _, _, _, _, _, _, z⟩ := hq'
    exact z.elim
  | ok fl =>
    cases fl with
    | ret u' =>
      obtain ⟨v, H2, os2, bare2, un2, hok2, rv, ev, e2⟩ := hq'
      subst ev e2
      obtain ⟨h2, g2, d2, t2, os'⟩ := s'
      obtain ⟨t0, hoe⟩ := exo_at hok2 upd_same
      have up : ∀ {b : Addr}, b ≠ hp.objs.size + 1 → H b = none → upd H (hp.objs.size + 1) (exo (hp.objs.size + 1) (g.cl c) none) b = none := fun {b} hb n => by rw [upd_ne hb]; exact n
      have U : Un (frs X.stack) [] H (upd H (hp.objs.size + 1) (.frz (excR (g.cl c) none t0) (.own 0))) hp h2 := {
        keep := fun b o z n hf hx => un2.keep b o (kk b o z) (up (nha z) n) hf hx
        slot := fun b o z n hf hx => un2.slot b o (kk b o z) (up (nha z) n) hf hx
        free := fun b o z n hx => by rw [upd_ne (nha z)]; exact n
        there := fun b o z hx => un2.there b o (kk b o z) hx
        tups := fun b xs z => by rw [upd_ne (ne_of_none z hn)]; exact z
        frzs := fun b o v z => by rw [upd_ne (ne_of_none z hn)]; exact z
        tbls := fun b ps z => ⟨#[], by rw [upd_ne (ne_of_none z hn), z]; simp⟩ }
      have hok3 : HOk X.prog X.w (upd H (hp.objs.size + 1) (.frz (excR (g.cl c) none t0) (.own 0))) h2 := fun b ob z => by
        by_cases hb : b = hp.objs.size + 1
        · subst hb
          rw [upd_same] at z
          cases z
          exact ⟨hoe, _, hoe⟩
        · rw [upd_ne hb] at z
          exact (hok2 b ob (by rw [upd_ne hb]; exact z)).stay (fun c' v hc y => y)
            (fun c' hc => by
              by_cases h1 : c' = hp.objs.size + 1
              · subst h1; rw [upd_same] at hc; exact absurd (Option.some.inj hc) exo_own
              · rw [upd_ne h1] at hc ⊢; exact hc)
            (fun c' xs hc => by
              by_cases h1 : c' = hp.objs.size + 1
              · subst h1; rw [upd_same] at hc; exact absurd (Option.some.inj hc) exo_tup
              · rw [upd_ne h1] at hc ⊢; exact hc)
      have J : Inv X pins τ (upd H (hp.objs.size + 1) (.frz (excR (g.cl c) none t0) (.own 0))) ⟨h2, g2, d2, t2, os'⟩ := I.call' (ch := []) os2 U hok3 bare2 (fun b z => absurd z (by simp))
      obtain ⟨P3, S3⟩ := S.push (o := .exc c []) (u := .frz (excR (g.cl c) none t0) (.own 0)) hn ⟨excR (g.cl c) none t0, _, none, [], rfl, rfl, rfl, rfl, rfl, .nil⟩
      exact ⟨rv, (o : Out g wx τ ρ H (R.ok (W.ref m.length) (m ++ [.exc c []])) _) _ _ P3 S3 (.ref _) _ _ J (.ref (by rw [← S.len]; simp)) rfl⟩
    | next => exact False.elim hq'
    | brk => exact False.elim hq'
    | cont => exact False.elim hq'
/-! ### str of an exception held with its text -/
structure StrK (K : PySem.W.Frag) (C : Addr) : Prop where
  s : PySem.W.findIn K (.ref C) "__str__" = some (some (.builtin "BaseException.__str__"))
  b : PySem.W.subIn K (.ref C) (.type "BaseException") = some true
def bStrE (ok : String → Bool) (ws : List W) (m : Mem) : R W := match ws with
  | [.ref n] => match m[n]? with
    | some (.exh c _ msg) => if ok c = true then .ok (.str msg) m else .bad
    | _ => .bad
  | _ => .bad
theorem f_strE {ok : String → Bool} (hr : Ru X.A) (ht : ∀ c, ok c = true → StrK X.K (g.cl c)) : Fn g X wx (fun us => call (.type "str") us) (bStrE ok) := by
  refine ⟨fun pins s m ρ H τ xs vs us Q I S rx ru o => ?_⟩
  unfold bStrE at o
  split at o
  · rename_i n
    obtain ⟨v, rfl, r⟩ := rx.inv1
    cases r with
    | @ref _ a ha =>
      obtain rfl := Vals.ref1 ru
      split at o
      · rename_i c fs msg hm
        split at o
        · rename_i hok
          have T := ht c hok
          obtain ⟨u, h1, oe, vs', d, gs, tt, e1, e2, e3, e4, hx, rf, h0, h7⟩ := S.obj n a _ ha hm
          subst e1
          have hg : s.heap.get? a = some oe := (show ObjOk X.prog X.w H s.heap a (.frz oe (.own 0)) from I.hok a _ h1).1
          obtain ⟨_, its, rv, ot, ho, hc, nn, hd⟩ := (show ObjOk X.prog X.w H s.heap tt (.tup [.str (Sh.S msg)]) from I.hok tt _ h7)
          cases rv with
          | cons r1 r2 =>
            cases r2
            obtain ⟨t1, rfl⟩ := r1
            refine PySem.P.str_of_C_one (by have := hr.un; omega) (K := X.K) (C := g.cl c) ⟨I.kIn, oe, vs', hg, e2, e4, h0⟩ ⟨ot, nn, ho, hc, hd⟩ T.s T.b ?_
            exact Out.here o S _ _ _ I (.str msg) ⟨t1, rfl⟩
        · exact o.elim
      · exact o.elim
  · exact o.elim
end
section
variable {P : Program} {w : World} {K : PySem.W.Frag} {mg : Str → Option Value} {base : Heap} {g : G}
theorem exc1T_of {x : Str} {c : String} {qual y : Str} {f : List Nat} {fn : Str} {st : Stmt} {fi : Addr} {k : Nat} {p0 p1 apos cpos epos mp ap sp np vp : Pos} {msg : Str} {ml : List Nat} {kd : Nat} {ar : Arg} {pl : Sem Bool}
    (hm : mg x = some (.ref (g.cl c))) (D : XcK K (g.cl c) fi) (A : ExcAt P K mg (g.cl c) qual st fi) (hno : PySem.W.findIn K (.ref (g.cl c)) (Sh.S f) = some none)
    (hbody : defBody st = [.Expr (.Call (.Attribute (.Call (.Name "super" p0) [] [] p1) "__init__" apos) [.Constant (.str msg) kd mp] [] cpos) epos, .Assign [.Attribute (.Name "self" np) fn ap] (.Name y vp) sp]) (hf : fn = Sh.S f)
    (S : ScopeS ["self", y] ["self", y] (defScope st)) (hpar : ((defArgs st).posonlyargs ++ (defArgs st).args).head? = some ar) (har : ar.arg = "self")
    (hks : (defScope st).names.lookup ("super" : Str) = some .globalImplicit) (hkc : (defScope st).names.lookup ("__class__" : Str) = some .free)
    (hbd : ∀ (doc pm cd ct : Value) (an : Option Addr) (cc : Addr) (us : List Value), us.length = 2 → bindArgs (PySem.W.ksFn "__init__" qual (defArgs st) (defBody st) (defScope st) .none .none doc pm an cd ct cc) ⟨us, []⟩ = pure ((["self", y] : List Str).zip us))
    (hbk : ∀ (doc pm cd ct : Value) (an : Option Addr) (cc : Addr) (v u : Value), bindArgs (PySem.W.ksFn "__init__" qual (defArgs st) (defBody st) (defScope st) .none .none doc pm an cd ct cc) ⟨[v], [(y, u)]⟩ = pure ((["self", y] : List Str).zip [v, u])) (hmsg : msg = Sh.S ml)
    (hv0 : Vis (defScope st) ("self" : Str)) (hv1 : Vis (defScope st) y) (hd1 : (y == ("__debug__" : Str)) = false) (hc1 : (y == ("__classdict__" : Str)) = false)
    (hev : ∀ env, eval (.Call (.Attribute (.Call (.Name "super" p0) [] [] p1) "__init__" apos) [.Constant (.str msg) kd mp] [] cpos) env = (do
      let ov ← attributeBase (.Call (.Name "super" p0) [] [] p1) "__init__" env (eval (.Call (.Name "super" p0) [] [] p1) env)
      standAt apos.atName
      let (f, first) ← holding [ov] (getMethod ov "__init__" pl)
      callWith cpos f first (backTo cpos (starEach [.Constant (.str msg) kd mp] env)) []))
    (hsw : ∀ env, swapsWith (.Call (.Attribute (.Call (.Name "super" p0) [] [] p1) "__init__" apos) [.Constant (.str msg) kd mp] [] cpos) none epos.line env = pure false)
    (hsw2 : ∀ env, swapsWith (.Name y vp) (some (.Attribute (.Name "self" np) fn ap)) sp.line env = pure false) :
    Exc1T P w K mg base g x c (k + 1) f ml y := by
  subst hf
  subst hmsg
  obtain ⟨cda, cc, doc, pm, ct, oc, an, od, osl, lk, hcd, U⟩ := A.ex
  refine ⟨fi, _, "self", hm, D, fun s v u => .of_eq (hbd doc pm (.ref cda) ct an cc [v, u] rfl), fun s v u => .of_eq (hbk doc pm (.ref cda) ct an cc v u), ?_⟩
  rw [hbody] at lk ⊢
  refine fn_sp1T (superXT (t := tOstT K (Sh.S f) (tVar 0) (tVar 1)) lk hcd S (by rw [har]; rfl) hpar hks hkc U D.T hev hsw fun A outer s H E => pss_one (ps_ostT (pe_var (i := 0) rfl hv0 (by decide) (by decide)) (pe_var (i := 1) rfl hv1 hd1 hc1) (hsw2 _))) D.T hno
end
end Sh

namespace Sh
open PySem PySem.Spec L2

/-! ### isinstance over a family of exceptions: each one over one base of the program's, over ValueError -/
def famMro (C B : Addr) : List Value := [.ref C, .ref B, .type "ValueError", .type "Exception", .type "BaseException", .type "object"]
structure FamK (K : PySem.W.Frag) (C B : Addr) : Prop where
  cls : ∃ cd, PySem.W.clsIn K C = some cd ∧ cd.mro = famMro C B
  ty : PySem.W.typeIn K (.ref C) = some (.type "type")
theorem fam_cls {K : PySem.W.Frag} {nm q : Str} {C N B : Addr} {bs : List Value} {sn : List Str} {sub : List Value} {ab : Bool} {col : Option Bool} {dd : Option Addr} {k0 k1 k2 k3 k5 : Option Value}
    (h : K.lookup C = some (excClassObj nm q C N bs [.ref B, .type "ValueError", .type "Exception", .type "BaseException", .type "object"] true sn sub ab col dd k0 k1 k2 k3 k5 "ValueError.__new__")) (ht : PySem.W.typeIn K (.ref C) = some (.type "type")) : FamK K C B := by
  refine ⟨⟨{ name := nm, bases := bs, mro := famMro C B, ns := N, qualname := q, hasDict := true, slotNames := sn, subclasses := sub, abstract := ab, collection := col, hasDel := false }, ?_, rfl⟩, ht⟩
  unfold PySem.W.clsIn
  rw [h] <;> rfl
section
variable {K : PySem.W.Frag} {C D B : Addr}
theorem FamK.sub (F : FamK K C B) (x : Value) : PySem.W.subIn K (.ref C) x = some ((famMro C B).contains x) := by
  obtain ⟨cd, h1, h2⟩ := F.cls
  show PySem.W.mroIn K C x = _
  unfold PySem.W.mroIn
  rw [h1, Option.bind_some, h2]
  rfl
theorem fam_same (F : FamK K C B) : PySem.W.kitOne K (.ref C) (.ref C) = some true := by
  obtain ⟨cd, h1, h2⟩ := F.cls
  refine kit_ot h1 F.ty ?_
  rw [F.sub]
  congr 1
  unfold famMro
  rw [List.contains_cons]
  simp
theorem fam_base (F : FamK K C B) {cd : ClassData} (h1 : PySem.W.clsIn K B = some cd) (h2 : PySem.W.typeIn K (.ref B) = some (.type "type")) : PySem.W.kitOne K (.ref C) (.ref B) = some true := by
  refine kit_ot h1 h2 ?_
  rw [F.sub]
  congr 1
  unfold famMro
  rw [List.contains_cons, List.contains_cons]
  simp
theorem fam_ne (F : FamK K C B) (G : FamK K D B) (h : D ≠ C) (hB : D ≠ B) : PySem.W.kitOne K (.ref C) (.ref D) = some false := by
  obtain ⟨cd, h1, h2⟩ := G.cls
  have e1 : (Value.ref D == Value.ref C) = false := beq_eq_false_iff_ne.mpr fun z => by cases z; exact h rfl
  have e2 : (Value.ref D == Value.ref B) = false := beq_eq_false_iff_ne.mpr fun z => by cases z; exact hB rfl
  refine kit_of2 h1 G.ty ?_ ?_
  · rw [F.sub]
    congr 1
    unfold famMro
    rw [List.contains_cons, List.contains_cons, e1, e2]
    rfl
  · rw [F.sub]
    congr 1
    unfold famMro
    rw [List.contains_cons]
    simp
theorem fam_ve (F : FamK K C B) : PySem.W.kitOne K (.ref C) (.type "ValueError") = some true := by
  refine kit_ob (by decide +kernel) ?_
  rw [F.sub]
  rfl
end
def famT (L : List String) (pe : String) (isiL : List ((Tc × Tc) × Bool)) : Tc → Tc → Option Bool := fun t d => match t, d with
  | .xc c, .own d => if c ∈ L ∧ d ∈ L then some (decide (c = d)) else if c ∈ L ∧ d = pe then some true else none
  | .xc c, .bi n => if c ∈ L ∧ n = "ValueError" then some true else none
  | t, d => isiL.lookup (t, d)
theorem map_inj {α β : Type} {f : α → β} : ∀ {l : List α}, (l.map f).Nodup → ∀ a ∈ l, ∀ b ∈ l, f a = f b → a = b
  | [], _, a, ha, _, _, _ => by cases ha
  | x :: l, h, a, ha, b, hb, e => by
    rw [List.map_cons, List.nodup_cons] at h
    rcases List.mem_cons.mp ha with e1 | ha1
    · rcases List.mem_cons.mp hb with e2 | hb1
      · rw [e1, e2]
      · exact absurd (List.mem_map.mpr ⟨b, hb1, by rw [← e, e1]⟩) h.1
    · rcases List.mem_cons.mp hb with e2 | hb1
      · exact absurd (List.mem_map.mpr ⟨a, ha1, by rw [e, e2]⟩) h.1
      · exact map_inj h.2 a ha1 b hb1 e
theorem fam_lookup {α β : Type} [BEq α] [LawfulBEq α] {l : List (α × β)} {a : α} {b : β} (h : l.lookup a = some b) : (a, b) ∈ l := by
  induction l with
  | nil => cases h
  | cons p l ih =>
    obtain ⟨x, y⟩ := p
    by_cases e : a = x
    · subst e; simp at h; subst h; exact List.mem_cons_self
    · have e2 : (a == x) = false := beq_eq_false_iff_ne.mpr e
      rw [List.lookup_cons, e2] at h
      exact List.mem_cons_of_mem _ (ih h)
theorem fam_isi {K : PySem.W.Frag} {cl : String → Addr} {L : List String} {pe : String} {isiL : List ((Tc × Tc) × Bool)} {cd : ClassData} (hF : ∀ c ∈ L, FamK K (cl c) (cl pe)) (hX : ∀ c ∈ L, XisK K (cl c)) (hn : (L.map cl).Nodup) (hp : cl pe ∉ L.map cl)
    (h1 : PySem.W.clsIn K (cl pe) = some cd) (h2 : PySem.W.typeIn K (.ref (cl pe)) = some (.type "type")) (hL : ∀ p ∈ isiL, PySem.W.kitOne K (p.1.1.val (⟨K, cl⟩ : G)) (p.1.2.val (⟨K, cl⟩ : G)) = some p.2) (hb : ∀ p ∈ isiL, ∃ n, p.1.1 = .bi n) :
    IsiK K (⟨K, cl⟩ : G) (famT L pe isiL) := by
  refine ⟨fun c d b h => ?_, fun c d b h => ?_, fun t d b h => ?_⟩
  · have h : isiL.lookup (.own c, d) = some b := h
    obtain ⟨n, e⟩ := hb _ (fam_lookup h)
    cases e
  · cases d with
    | own d =>
      have h : (if c ∈ L ∧ d ∈ L then some (decide (c = d)) else if c ∈ L ∧ d = pe then some true else none) = some b := h
      split at h
      · rename_i q; exact hX c q.1
      · split at h
        · rename_i q; exact hX c q.1
        · cases h
    | bi n =>
      have h : (if c ∈ L ∧ n = "ValueError" then some true else none) = some b := h
      split at h
      · rename_i q; exact hX c q.1
      · cases h
    | xc d =>
      have h : isiL.lookup (.xc c, .xc d) = some b := h
      obtain ⟨n, e⟩ := hb _ (fam_lookup h)
      cases e
  · cases t with
    | xc c =>
      cases d with
      | own d =>
        have h : (if c ∈ L ∧ d ∈ L then some (decide (c = d)) else if c ∈ L ∧ d = pe then some true else none) = some b := h
        split at h
        · rename_i q
          cases h
          by_cases e : c = d
          · subst e
            rw [decide_eq_true rfl]
            exact fam_same (hF c q.1)
          · rw [decide_eq_false e]
            refine fam_ne (hF c q.1) (hF d q.2) (fun z => e (map_inj hn d q.2 c q.1 z).symm) fun z => hp ?_
            rw [← z]
            exact List.mem_map.mpr ⟨d, q.2, rfl⟩
        · split at h
          · rename_i q
            cases h
            obtain ⟨q1, q2⟩ := q
            subst q2
            exact fam_base (hF c q1) h1 h2
          · cases h
      | bi n =>
        have h : (if c ∈ L ∧ n = "ValueError" then some true else none) = some b := h
        split at h
        · rename_i q
          cases h
          obtain ⟨q1, q2⟩ := q
          subst q2
          exact fam_ve (hF c q1)
        · cases h
      | xc d =>
        have h : isiL.lookup (.xc c, .xc d) = some b := h
        exact hL _ (fam_lookup h)
    | bi n =>
      have h : isiL.lookup (.bi n, d) = some b := by cases d <;> exact h
      exact hL _ (fam_lookup h)
    | own c =>
      have h : isiL.lookup (.own c, d) = some b := by cases d <;> exact h
      exact hL _ (fam_lookup h)
/-! ### repr of anything -/
def wNone : List Nat := [78, 111, 110, 101]
def wTF (b : Bool) : List Nat := if b then [84, 114, 117, 101] else [70, 97, 108, 115, 101]
def bReprX (ws : List W) (m : Mem) : R W := match ws with
  | [.non] => .ok (.str wNone) m
  | [.bl b] => .ok (.str (wTF b)) m
  | [.str l] => if (PySem.reprText (Sh.S l)).length ≤ 1000000 then .ok (.str (PySem.reprText (Sh.S l)).cps.toList) m else .bad
  | ws => bRepr ws m
section
variable {g : G} {X : Cx} {wx : WX} {τ : L2.St} {ρ ρ' : List Addr} {H H' : Hp} {m m' : Mem} {pins : List (Addr × Obj)} {s : Shared}
theorem f_reprX {k : Nat} (hK : X.K = g.K) (hr : Rm k X.A) (hs : X.base.get? sysModules ≠ none) : Fn g X wx (fun us => call (.builtin "repr") us) bReprX := by
  refine ⟨fun pins s m ρ H τ xs vs us Q I S rx ru o => ?_⟩
  unfold bReprX at o
  split at o
  · obtain ⟨v, rfl, r⟩ := rx.inv1
    cases r
    obtain ⟨u, rfl, ru1⟩ := vals1 ru
    obtain rfl : u = Value.none := ru1
    exact PySem.P.repr_of_none (Out.here o S (.str (Sh.S wNone)) _ _ (I.tok _) (.str wNone) ⟨_, rfl⟩)
  · rename_i b
    obtain ⟨v, rfl, r⟩ := rx.inv1
    cases r
    obtain ⟨u, rfl, ru1⟩ := vals1 ru
    obtain rfl : u = Value.bool b := ru1
    refine PySem.P.repr_of_bool ?_
    have e : (if b then "True" else "False" : Str) = Sh.S (wTF b) := by cases b <;> rfl
    rw [e]
    exact Out.here o S (.str (Sh.S (wTF b))) _ _ (I.tok _) (.str (wTF b)) ⟨_, rfl⟩
  · rename_i l
    obtain ⟨v, rfl, r⟩ := rx.inv1
    cases r
    obtain ⟨u, rfl, ru1⟩ := vals1 ru
    obtain ⟨t, rfl⟩ := ru1
    split at o
    · rename_i h
      refine PySem.P.repr_of_str (x := Sh.S l) ?_ (Nat.le_trans h (by rw [sizeLine_eq]; decide))
      refine Out.here o S (.str (PySem.reprText (Sh.S l))) _ _ (I.tok _) ?_ ⟨_, rfl⟩
      have := VR.str (g := g) (ρ := ρ) (H := H) (PySem.reprText (Sh.S l)).cps.toList
      rw [S_of] at this
      exact this
    · exact o.elim
  · exact (f_repr hK hr hs).run pins s m ρ H τ _ vs us Q I S rx ru o
end
end Sh

namespace Sh
open PySem PySem.Spec L2

/-! ### plain rules: what the denotations compute. Rewriting goes from the left: a continuation is looked at when its value is known -/
theorem R.bind_congr {α β : Type} {r r' : R α} {k : α → Mem → R β} (h : r = r') : r.bind k = r'.bind k := by rw [h]
theorem RS.of_congr {β : Type} {σ : Loc} {r r' : R β} {k : β → Mem → RS} (h : r = r') : RS.of σ r k = RS.of σ r' k := by rw [h]
def RS.seq (r : RS) (b : DS) : RS := match r with
  | .nx σ m => b σ m
  | r => r
theorem RS.seq_congr {r r' : RS} {b : DS} (h : r = r') : RS.seq r b = RS.seq r' b := by rw [h]
def R.ofRS (r : RS) : R W := match r with
  | .rt w m' => .ok w m'
  | .nx _ m' => .ok .non m'
  | .exc c fs _ m' => .exc c fs m'
  | _ => .bad
def RS.trd (r : RS) : RS := match r with
  | .exc _ _ _ _ => .bad
  | r => r
/-- a call's value made one of an instance -/
def R.made (n : Nat) (r : R W) : R W := r.bind fun w m2 => match w with
  | .non => .ok (.ref n) m2
  | _ => .bad
section
variable {σ : Loc} {m : Mem} {a b c : DE} {f : DL} {t u : DB} {d e : DS} {x y w : W} {i : Nat}
theorem seq_nx {σ : Loc} {m : Mem} {b : DS} : RS.seq (.nx σ m) b = b σ m := rfl
theorem seq_rt {w : W} {m : Mem} {b : DS} : RS.seq (.rt w m) b = .rt w m := rfl
theorem seq_bad {b : DS} : RS.seq .bad b = .bad := rfl
theorem of_rt : R.ofRS (.rt w m) = .ok w m := rfl
theorem of_nx : R.ofRS (.nx σ m) = .ok .non m := rfl
theorem trd_rt : RS.trd (.rt w m) = .rt w m := rfl
theorem trd_nx : RS.trd (.nx σ m) = .nx σ m := rfl
theorem r_defn {n N : Nat} {ws : List W} {b : DS} : defn n N b ws m = if ws.length = n then R.ofRS (b (ws.map some ++ List.replicate (N - n) none) m) else .bad := rfl
theorem r_seq : sSeq d e σ m = RS.seq (d σ m) e := rfl
theorem r_try : sTry d σ m = RS.trd (d σ m) := rfl
theorem r_nil : sNil σ m = .nx σ m := rfl
theorem r_expr : sExpr a σ m = RS.of σ (a σ m) fun _ m1 => .nx σ m1 := rfl
theorem r_ret : sRet a σ m = RS.of σ (a σ m) fun w m1 => .rt w m1 := rfl
theorem r_if : sIf t d e σ m = RS.of σ (t σ m) fun k m1 => if k = true then d σ m1 else e σ m1 := rfl
theorem r_set : sSet i a σ m = RS.of σ (a σ m) fun w m1 => .nx (σ.set i (some w)) m1 := rfl
theorem r_asg {h : W → Loc → Mem → R Loc} : sAsg a h σ m = RS.of σ (a σ m) fun w m1 => RS.of σ (h w σ m1) fun σ' m2 => .nx σ' m2 := rfl
theorem r_put : sPut a b c σ m = RS.of σ (c σ m) fun w m1 => RS.of σ (a σ m1) fun x m2 => RS.of σ (b σ m2) fun y m3 => match putAt m3 x y w with | some m4 => .nx σ m4 | none => .bad := rfl
theorem r_attr {fl : List Nat} {ok : String → Bool} : sAttr fl ok a b σ m = RS.of σ (b σ m) fun w m1 => RS.of σ (a σ m1) fun x m2 => match x with
  | .ref n => match m2[n]? with
    | some (.ins c fs) => if ok c = true ∧ fs.length < 100 then .nx σ (m2.set n (.ins c (putW fl w fs))) else .bad
    | _ => .bad
  | _ => .bad := rfl
theorem r_var : eVar i σ m = match σ[i]? with | some (some w) => .ok w m | _ => .bad := rfl
theorem r_c : eC w σ m = .ok w m := rfl
theorem r_bin {fn : W → W → Mem → R W} : eBin fn a b σ m = (a σ m).bind fun x m1 => (b σ m1).bind fun y m2 => fn x y m2 := rfl
theorem r_un {fn : W → Mem → R W} : eUn fn a σ m = (a σ m).bind fun x m1 => fn x m1 := rfl
theorem r_fn {fn : List W → Mem → R W} : eFn fn f σ m = (f σ m).bind fn := rfl
theorem r_fnL {fn : List W → Mem → R W} : eFnL fn f σ m = (f σ m).bind fn := rfl
theorem r_call {F : DF} : eCall F f σ m = (f σ m).bind F := rfl
theorem r_make {k : String} {F : DF} : eMake k F f σ m = (f σ m).bind fun ws m1 => R.made m1.length (F (.ref m1.length :: ws) (m1 ++ [.ins k []])) := rfl
theorem made_ok {n : Nat} : R.made n (.ok .non m) = .ok (.ref n) m := rfl
theorem made_exc {n : Nat} {c : String} {fs : List (List Nat × W)} : R.made n (.exc c fs m) = .exc c fs m := rfl
theorem r_eattr {fl : List Nat} {tb : String → Option (Option (DF ⊕ W))} : eAttr fl tb a σ m = (a σ m).bind fun x m1 => attr fl tb x m1 := rfl
theorem r_ixL : eIxL f b σ m = (f σ m).bind fun ws m1 => (b σ m1).bind fun y m2 => match y with | .int i => atW ws i m2 | _ => .bad := rfl
theorem r_new : eNew f σ m = (f σ m).bind fun ws m1 => .ok (.ref m1.length) (m1 ++ [.lst ws]) := rfl
theorem r_tup : eTup f σ m = (f σ m).bind fun ws m1 => (few ws m1).bind fun ws m2 => .ok (.tup ws) m2 := rfl
theorem r_disp : lDisp f σ m = (f σ m).bind few := rfl
theorem r_few {ws : List W} : few ws m = if ws.length ≤ 1000000 then .ok ws m else .bad := rfl
theorem r_eif : eIf t a b σ m = (t σ m).bind fun x m1 => if x = true then a σ m1 else b σ m1 := rfl
theorem r_eand : eAnd a b σ m = (a σ m).bind fun x m1 => match x with | .bl true => b σ m1 | .bl false => .ok (.bl false) m1 | _ => .bad := rfl
theorem r_eor : eOr a b σ m = (a σ m).bind fun x m1 => match x with | .bl true => .ok (.bl true) m1 | .bl false => b σ m1 | _ => .bad := rfl
theorem r_enot : eNot a σ m = (a σ m).bind fun x m1 => match x with | .bl b => .ok (.bl (!b)) m1 | _ => .bad := rfl
theorem r_acons {g : DL} : aCons a g σ m = (a σ m).bind fun x m1 => (g σ m1).bind fun xs m2 => .ok (x :: xs) m2 := rfl
theorem r_anil : aNil σ m = .ok [] m := rfl
theorem r_astar {g : DL} : aStar a g σ m = (a σ m).bind fun x m1 => (itemsW x m1).bind fun ws m2 => (g σ m2).bind fun xs m3 => .ok (ws ++ xs) m3 := rfl
theorem r_astarL {g : DL} : aStarL f g σ m = (f σ m).bind fun ws m1 => (g σ m1).bind fun xs m3 => .ok (ws ++ xs) m3 := rfl
theorem r_val : tVal a σ m = (a σ m).bind fun x m1 => match x with | .bl b => .ok b m1 | _ => .bad := rfl
theorem r_tru : tTru a σ m = (a σ m).bind truth := rfl
theorem r_not : tNot t σ m = (t σ m).bind fun x m1 => .ok (!x) m1 := rfl
theorem r_and : tAnd t u σ m = (t σ m).bind fun x m1 => if x = true then u σ m1 else .ok false m1 := rfl
theorem r_or : tOr t u σ m = (t σ m).bind fun x m1 => if x = true then .ok true m1 else u σ m1 := rfl
theorem r_chain {f1 f2 : W → W → Mem → R W} : tChain f1 f2 a b c σ m = (a σ m).bind fun x m1 => (b σ m1).bind fun y m2 => (f1 x y m2).bind fun t m3 => match t with
  | .bl true => (c σ m3).bind fun z m4 => (f2 y z m4).bind fun w m5 => match w with | .bl k => .ok k m5 | _ => .bad
  | .bl false => .ok false m3
  | _ => .bad := rfl
theorem r_inL {neg : Bool} : eInL neg a f σ m = (a σ m).bind fun x m1 => (f σ m1).bind fun ws m2 => (inD x ws m2).bind fun b m3 => .ok (.bl (if neg then !b else b)) m3 := rfl
theorem r_m1 {fn : W → W → Mem → R W} : eM1 fn a b σ m = (a σ m).bind fun x m1 => match x with
  | .str l => (b σ m1).bind fun y m2 => fn (.str l) y m2
  | _ => .bad := rfl
theorem r_joinL : eJoinL a f σ m = (a σ m).bind fun x m1 => match x with
  | .str a => (f σ m1).bind fun ws m2 => joinW a ws m2
  | _ => .bad := rfl
theorem r_split : lSplit a b σ m = (a σ m).bind fun x m1 => match x with
  | .str l => (b σ m1).bind fun y m2 => splitW (.str l) y m2
  | _ => .bad := rfl
theorem r_sl {p q : DO} : eSl a p q σ m = (a σ m).bind fun x m1 => (p σ m1).bind fun l m2 => (q σ m2).bind fun h m3 => wSl x l h m3 := rfl
theorem r_pno : pNo σ m = .ok none m := rfl
theorem r_pat : pAt a σ m = (a σ m).bind fun w m1 => match w with | .int i => .ok (some i) m1 | _ => .bad := rfl
theorem r_sub {cs : String} {F : DF} {n : Nat} {fs : List (List Nat × W)} (h0 : σ[0]? = some (some (.ref n))) (h1 : m[n]? = some (.ins cs fs)) : sSuper cs F f σ m = RS.of σ (f σ m) fun ws m1 => RS.of σ (F (.ref n :: ws) m1) fun _ m2 => .nx σ m2 := by
  unfold sSuper
  rw [h0]
  simp only [h1, if_true]
/-! by the shapes of values -/
theorem v_add {i j : Int} : wAdd (.int i) (.int j) m = .ok (.int (i + j)) m := rfl
theorem v_sub {i j : Int} : wSub (.int i) (.int j) m = .ok (.int (i - j)) m := rfl
theorem v_mod {i j : Int} : wMod (.int i) (.int j) m = if 0 < j then .ok (.int (i % j)) m else .bad := rfl
theorem v_div {i j : Int} : wDiv (.int i) (.int j) m = if 0 < j ∧ j < 1073741824 then .ok (.int (i / j)) m else .bad := rfl
theorem v_pow {i j : Int} : wPow (.int i) (.int j) m = if 0 ≤ j ∧ j ≤ 1000 ∧ i.natAbs < 1000000 then .ok (.int (i ^ j.toNat)) m else .bad := rfl
theorem v_neg {i : Int} : wNeg (.int i) m = .ok (.int (-i)) m := rfl
theorem v_lt {i j : Int} : wLt (.int i) (.int j) m = .ok (.bl (decide (i < j))) m := rfl
theorem v_le {i j : Int} : wLe (.int i) (.int j) m = .ok (.bl (decide (i ≤ j))) m := rfl
theorem v_gt {i j : Int} : wGt (.int i) (.int j) m = .ok (.bl (decide (j < i))) m := rfl
theorem v_ge {i j : Int} : wGe (.int i) (.int j) m = .ok (.bl (decide (j ≤ i))) m := rfl
theorem v_isN : wIsN x .non m = .ok (.bl (isNon x)) m := rfl
theorem v_notN : wNotN x .non m = .ok (.bl (!isNon x)) m := rfl
theorem v_intI {i : Int} : bInt [.int i] m = .ok (.int i) m := rfl
theorem v_intB {k : Bool} : bInt [.bl k] m = .ok (.int (b2 k)) m := rfl
theorem v_abs {i : Int} : bAbs [.int i] m = .ok (.int (if i < 0 then -i else i)) m := rfl
theorem v_strS {l : List Nat} : bStr [.str l] m = .ok (.str l) m := rfl
theorem v_len : bLen [x] m = match lenW x m with | some n => .ok (.int (n : Int)) m | none => .bad := rfl
theorem v_ixT {ws : List W} {i : Int} : wIx (.tup ws) (.int i) m = atW ws i m := rfl
theorem v_ixF {ws : List W} {i : Int} : wIx (.frz ws) (.int i) m = atW ws i m := rfl
theorem v_ixR {n : Nat} {ws : List W} {i : Int} (h : m[n]? = some (.lst ws)) : wIx (.ref n) (.int i) m = atW ws i m := by
  show (match m[n]? with | some (.lst ws) => atW ws i m | _ => .bad) = _
  rw [h]
theorem v_eqI {i j : Int} : wEq0 (.int i) (.int j) m = .ok (.bl (decide (i = j))) m := rfl
theorem v_neI {i j : Int} : wNe0 (.int i) (.int j) m = .ok (.bl (!decide (i = j))) m := rfl
theorem v_eqS {i j : List Nat} : wEq0 (.str i) (.str j) m = .ok (.bl (decide (i = j))) m := rfl
theorem v_neS {i j : List Nat} : wNe0 (.str i) (.str j) m = .ok (.bl (!decide (i = j))) m := rfl
theorem v_at {ws : List W} {i : Int} (h : L2.atI ws i = some w) : atW ws i m = .ok w m := by unfold atW; rw [h]
theorem atI_nat {α : Type} {ws : List α} {k : Nat} {v : α} (h : ws[k]? = some v) : L2.atI ws (k : Int) = some v := by
  have hk := (List.getElem?_eq_some_iff.mp h).1
  unfold L2.atI L2.ixN
  rw [if_pos (by omega), if_pos (by omega)]
  simpa using h
end
theorem lt_big {i : Int} (h : i.natAbs < 2 ^ 400) : i.natAbs < big := Nat.lt_of_lt_of_le h (Nat.pow_le_pow_right (by decide) (by decide))
/-- the straight-line part of a run -/
theorem wMul_ok {i j : Int} {m : Mem} (h1 : i.natAbs < 2 ^ 400) (h2 : j.natAbs < 2 ^ 400) : wMul (.int i) (.int j) m = .ok (.int (i * j)) m := by
  unfold wMul; exact if_pos ⟨lt_big h1, lt_big h2⟩
theorem wMod_ok {i j : Int} {m : Mem} (h : 0 < j) : wMod (.int i) (.int j) m = .ok (.int (i % j)) m := if_pos h
theorem wDiv_ok {i j : Int} {m : Mem} (h : 0 < j) (h2 : j < 1073741824) : wDiv (.int i) (.int j) m = .ok (.int (i / j)) m := if_pos ⟨h, h2⟩
theorem wPow_ok {i j : Int} {m : Mem} (h : 0 ≤ j) (h2 : j ≤ 1000) (h3 : i.natAbs < 1000000) : wPow (.int i) (.int j) m = .ok (.int (i ^ j.toNat)) m := if_pos ⟨h, h2, h3⟩
theorem forLoop_nx {src : Src} {h : W → Loc → Mem → R Loc} {b : DS} {N : Nat} (I : Nat → Loc → Mem → Prop)
    (step : ∀ i σ m, i < N → I i σ m → ∃ w σ1 m1 σ2 m2, src i m = some (some w) ∧ h w σ m = .ok σ1 m1 ∧ b σ1 m1 = .nx σ2 m2 ∧ I (i + 1) σ2 m2)
    (stop : ∀ σ m, I N σ m → src N m = some none) :
    ∀ (k i : Nat) (σ : Loc) (m : Mem), i + k = N → I i σ m → ∃ σ' m', forLoop src h b (k + 1) i σ m = .nx σ' m' ∧ I N σ' m'
  | 0, i, σ, m, e, hI => by
    have e' : i = N := by omega
    subst e'
    refine ⟨σ, m, ?_, hI⟩
    unfold forLoop
    rw [stop σ m hI]
  | k + 1, i, σ, m, e, hI => by
    obtain ⟨w, σ1, m1, σ2, m2, h1, h2, h3, h4⟩ := step i σ m (by omega) hI
    obtain ⟨σ', m', h5, h6⟩ := forLoop_nx I step stop k (i + 1) σ2 m2 (by omega) h4
    refine ⟨σ', m', ?_, h6⟩
    unfold forLoop
    rw [h1]
    show RS.of σ (h w σ m) _ = _
    rw [h2]
    show (match b σ1 m1 with | .nx σ2 m2 => forLoop src h b (k + 1) (i + 1) σ2 m2 | .ct σ2 m2 => forLoop src h b (k + 1) (i + 1) σ2 m2 | .bk σ2 m2 => .nx σ2 m2 | r => r) = _
    rw [h3]
    exact h5
theorem compLoop_ok {src : Src} {h : W → Loc → Mem → R Loc} {t : DB} {e : DE} {σ : Loc} {N : Nat} (I : Nat → List W → Mem → Prop) (hN : N ≤ 1000000)
    (hlen : ∀ i acc m, I i acc m → acc.length ≤ i)
    (step : ∀ i acc m, i < N → I i acc m → ∃ w σ1 m1 m2 y m3, src i m = some (some w) ∧ h w σ m = .ok σ1 m1 ∧ t σ1 m1 = .ok true m2 ∧ e σ1 m2 = .ok y m3 ∧ I (i + 1) (acc ++ [y]) m3)
    (stop : ∀ acc m, I N acc m → src N m = some none) :
    ∀ (k i : Nat) (acc : List W) (m : Mem), i + k = N → I i acc m → ∃ ws m', compLoop src h t e σ (k + 1) i acc m = .ok ws m' ∧ I N ws m'
  | 0, i, acc, m, hk, hI => by
    have e' : i = N := by omega
    subst e'
    refine ⟨acc, m, ?_, hI⟩
    unfold compLoop
    rw [stop acc m hI]
  | k + 1, i, acc, m, hk, hI => by
    obtain ⟨w, σ1, m1, m2, y, m3, h1, h2, h3, h4, h5⟩ := step i acc m (by omega) hI
    obtain ⟨ws, m', h6, h7⟩ := compLoop_ok I hN hlen step stop k (i + 1) (acc ++ [y]) m3 (by omega) h5
    refine ⟨ws, m', ?_, h7⟩
    have hl := hlen i acc m hI
    unfold compLoop
    simp only [h1, h2, h3, h4, R.bind_ok, R.nox_ok, if_true]
    first
      | (rw [if_pos (by omega)]; exact h6)
      | exact h6
theorem comp_map {src : Src} {ws : List W} {m : Mem} {k : Nat} {e : DE} {σ : Loc} {f : W → W} (hl : ws.length ≤ 1000000) (hs : ∀ i, src i m = some ws[i]?) (he : ∀ w, w ∈ ws → e (σ.set k (some w)) m = .ok (f w) m) :
    compLoop src (gSet k) tYesB e σ (ws.length + 1) 0 [] m = .ok (ws.map f) m := by
  obtain ⟨xs, m', h1, h2, h3⟩ := compLoop_ok (src := src) (h := gSet k) (t := tYesB) (e := e) (σ := σ) (N := ws.length) (fun i acc m' => acc = (ws.take i).map f ∧ m' = m) hl
    (fun i acc m' ⟨h, _⟩ => by rw [h]; simp; omega)
    (fun i acc m' hi ⟨h, hm⟩ => by
      subst hm
      refine ⟨ws[i], σ.set k (some ws[i]), m', m', f ws[i], m', ?_, rfl, rfl, he _ (List.getElem_mem hi), ?_, rfl⟩
      · rw [hs]; simp [hi]
      · rw [h, List.take_succ_eq_append_getElem hi, List.map_append]; rfl)
    (fun acc m' ⟨_, hm⟩ => by subst hm; rw [hs]; simp) ws.length 0 [] m (by omega) ⟨by simp, rfl⟩
  rw [h1, h2, h3]
  simp
theorem strs_map : ∀ ys : List (List Nat), strsW (ys.map W.str) = some ys
  | [] => rfl
  | y :: ys => by simp [strsW, strs_map ys]
theorem joinW_ok {a : List Nat} {ys : List (List Nat)} {m : Mem} (h : (ys.map (·.length)).sum + ys.length * a.length ≤ 1000000) : joinW a (ys.map W.str) m = .ok (.str (TL.joinL a ys)) m := by
  unfold joinW
  rw [strs_map]
  exact if_pos h
section
variable {σ : Loc} {m : Mem} {a : DE} {f : DL} {t : DB} {x : W}
theorem r_lcomp {p : DP} {h : W → Loc → Mem → R Loc} {vs : List Nat} : lComp p h t a vs σ m = (p σ m).bind fun pl m1 => compLoop pl.src h t a (wipeW σ vs) (pl.n + 1) 0 [] m1 := rfl
theorem r_pval : pVal a σ m = (a σ m).bind planOf := rfl
theorem r_pseq : pSeq a σ m = (a σ m).bind planL := rfl
theorem r_plist : pList f σ m = (f σ m).bind fun ws m1 => .ok ⟨ws.length, srcFix ws⟩ m1 := rfl
theorem r_planT {ws : List W} : planOf (.tup ws) m = .ok ⟨ws.length, srcFix ws⟩ m := rfl
theorem r_planS {l : List Nat} : planOf (.str l) m = .ok ⟨l.length, srcStr l⟩ m := rfl
theorem planR {n : Nat} {ws : List W} (h : m[n]? = some (.lst ws)) : planOf (.ref n) m = .ok ⟨ws.length, srcLive n⟩ m := by
  show (match m[n]? with | some (.lst xs) => R.ok (⟨xs.length, srcLive n⟩ : Plan) m | _ => .bad) = _
  rw [h]
theorem planLR {n : Nat} {ws : List W} (h : m[n]? = some (.lst ws)) : planL (.ref n) m = .ok ⟨ws.length, srcLive n⟩ m := by
  show (match m[n]? with | some (.lst xs) => R.ok (⟨xs.length, srcLive n⟩ : Plan) m | _ => .bad) = _
  rw [h]
theorem live_at {n : Nat} {ws : List W} (h : m[n]? = some (.lst ws)) (i : Nat) : srcLive n i m = some ws[i]? := by
  show (match m[n]? with | some (.lst xs) => some xs[i]? | _ => none) = _
  rw [h]
end
theorem wAdd_lst {a b : Nat} {xs ys : List W} {m : Mem} (h1 : m[a]? = some (.lst xs)) (h2 : m[b]? = some (.lst ys)) (hl : xs.length + ys.length ≤ 1000000) : wAdd (.ref a) (.ref b) m = .ok (.ref m.length) (m ++ [.lst (xs ++ ys)]) := by
  show (match m[a]?, m[b]? with
    | some (.lst xs), some (.lst ys) => if xs.length + ys.length ≤ 1000000 then R.ok (W.ref m.length) (m ++ [O.lst (xs ++ ys)]) else .bad
    | _, _ => .bad) = _
  rw [h1, h2]
  exact if_pos hl
section
variable {σ : Loc} {m : Mem} {a b c : DE} {f : DL} {d e : DS} {x y w : W} {i : Nat}
def RS.tryO (r : RS) (isa : String → Option Bool) (su : DS) : RS := match r with
  | .exc c fs σ1 m1 => match isa c with
    | some true => match su σ1 m1 with
      | .exc _ _ _ _ => .bad
      | r => r
    | some false => .exc c fs σ1 m1
    | none => .bad
  | r => r
def RS.tryA (r : RS) (isa : String → Option Bool) (i : Nat) (su : DS) : RS := match r with
  | .exc c fs σ1 m1 => match isa c with
    | some true => match su (σ1.set i (some (.ref m1.length))) (m1 ++ [.exc c fs]) with
      | .nx σ2 m2 => .nx (σ2.set i none) m2
      | .rt w m2 => .rt w m2
      | .bk σ2 m2 => .bk (σ2.set i none) m2
      | .ct σ2 m2 => .ct (σ2.set i none) m2
      | _ => .bad
    | some false => .exc c fs σ1 m1
    | none => .bad
  | r => r
theorem r_tryO {isa : String → Option Bool} {su : DS} : sTryO d isa su σ m = RS.tryO (d σ m) isa su := rfl
theorem r_tryA {isa : String → Option Bool} {su : DS} {i : Nat} : sTryA d isa i su σ m = RS.tryA (d σ m) isa i su := rfl
theorem seq_exc {c : String} {fs : List (List Nat × W)} {b : DS} : RS.seq (.exc c fs σ m) b = .exc c fs σ m := rfl
theorem of_exc {c : String} {fs : List (List Nat × W)} : R.ofRS (.exc c fs σ m) = .exc c fs m := rfl
theorem tryO_rt {isa : String → Option Bool} {su : DS} : RS.tryO (.rt w m) isa su = .rt w m := rfl
theorem tryO_nx {isa : String → Option Bool} {su : DS} : RS.tryO (.nx σ m) isa su = .nx σ m := rfl
theorem tryA_rt {isa : String → Option Bool} {su : DS} {i : Nat} : RS.tryA (.rt w m) isa i su = .rt w m := rfl
theorem tryA_nx {isa : String → Option Bool} {su : DS} {i : Nat} : RS.tryA (.nx σ m) isa i su = .nx σ m := rfl
theorem tryO_exc {isa : String → Option Bool} {su : DS} {c : String} {fs : List (List Nat × W)} (h : isa c = some true) : RS.tryO (.exc c fs σ m) isa su = (match su σ m with | .exc _ _ _ _ => .bad | r => r) := by
  unfold RS.tryO; simp only [h]
theorem tryA_exc {isa : String → Option Bool} {su : DS} {i : Nat} {c : String} {fs : List (List Nat × W)} (h : isa c = some true) : RS.tryA (.exc c fs σ m) isa i su = (match su (σ.set i (some (.ref m.length))) (m ++ [.exc c fs]) with
      | .nx σ2 m2 => .nx (σ2.set i none) m2
      | .rt w m2 => .rt w m2
      | .bk σ2 m2 => .bk (σ2.set i none) m2
      | .ct σ2 m2 => .ct (σ2.set i none) m2
      | _ => .bad) := by
  unfold RS.tryA; simp only [h]
def raise1 (c : String) (fl : List Nat) (σ : Loc) (ws : List W) (m : Mem) : RS := match ws with
  | [w] => .exc c [(fl, w)] σ m
  | _ => .bad
theorem r_raise {k : String} {fl : List Nat} : sRaise k fl f σ m = RS.of σ (f σ m) fun ws m1 => raise1 k fl σ ws m1 := rfl
theorem r_raise1 {k : String} {fl : List Nat} : raise1 k fl σ [w] m = .exc k [(fl, w)] σ m := rfl
theorem r_xattr {fl : List Nat} {ok : String → Bool} : eXAttr fl ok a σ m = (a σ m).bind fun x m1 => xattr fl ok x m1 := rfl
theorem r_slS {p q : DO} {k : Int} : eSlS a p q k σ m = (a σ m).bind fun x m1 => (p σ m1).bind fun l m2 => (q σ m2).bind fun h m3 => wSlS x l h k m3 := rfl
theorem r_join : eJoin a b σ m = (a σ m).bind fun x m1 => match x with
  | .str a => (b σ m1).bind fun y m2 => (itemsW y m2).bind fun ws m3 => joinW a ws m3
  | _ => .bad := rfl
theorem r_dget : eDGet a b σ m = (a σ m).bind fun x m1 => (b σ m1).bind fun y m2 => dGetW x y m2 := rfl
theorem r_dict0 : eDict0 σ m = .ok (.ref m.length) (m ++ [.dK []]) := rfl
theorem r_dput : sDPut a b c σ m = RS.of σ (c σ m) fun w m1 => RS.of σ (a σ m1) fun x m2 => RS.of σ (b σ m2) fun y m3 => match dPutM x y w m3 with | some m4 => .nx σ m4 | none => .bad := rfl
theorem r_mkx {k : String} {fl : List Nat} : eMakeX k fl f σ m = (f σ m).bind (makeX k fl) := rfl
theorem r_app {g : DL} : eApp a g σ m = (a σ m).bind fun x m1 => if isLst m1 x = true then (g σ m1).bind fun ys m2 => match ys with | [y] => wApp x y m2 | _ => .bad else .bad := rfl
end
end Sh

namespace K90
open PySem PySem.Spec L2 Sh
open PyProof.Rows (envOfC)
/-! ### what the defs compute -/
def b__law_pile : DS := sSeq (sSet 2 (eC (.int 0))) (sSeq (sIf (tVal (eBin wLt (eVar 1) (eFn bLen (aCons (eVar 0) (aNil))))) (sSet 2 (eBin wIx (eVar 0) (eVar 1))) (sNil)) (sSeq (sSet 3 (eIxL (lDisp (aCons (eC (.int 0)) (aCons (eBin wMod (eFn bInt (aCons (eVar 2) (aNil))) (eBin wMul (eBin wMul (eBin wPow (eC (.int 10)) (eC (.int 50))) (eBin wPow (eC (.int 10)) (eC (.int 50)))) (eBin wPow (eC (.int 10)) (eC (.int 50))))) (aNil)))) (eFn bInt (aCons (eBin wGe (eFn bAbs (aCons (eVar 2) (aNil))) (eBin wPow (eC (.int 10)) (eC (.int 18)))) (aNil))))) (sRet (eNew (lDisp (aCons (eVar 3) (aCons (eBin wMod (eFn bInt (aCons (eVar 2) (aNil))) (eC (.int 2147483647))) (aCons (eBin wMul (eC (.int 97)) (eVar 1)) (aCons (eBin wLt (eVar 1) (eC (.int 2))) (aNil))))))))))
def d__law_pile : DF := defn 2 4 b__law_pile
def b__law_first_ones : DS := sSeq (sIf (tVal (eBin wEq0 (eVar 0) (eC (.int 0)))) (sRet (eNew (lDisp (aCons (eMakeXT "NoName" [118, 97, 108, 117, 101] [110, 111, 116, 32, 97, 32, 110, 97, 109, 101] (aCons (eVar 1) (aNil))) (aCons (eMakeXT "NoName" [118, 97, 108, 117, 101] [110, 111, 116, 32, 97, 32, 110, 97, 109, 101] (aCons (eVar 1) (aNil))) (aNil)))))) (sNil)) (sSeq (sIf (tVal (eBin wEq0 (eVar 0) (eC (.int 1)))) (sRet (eNew (lDisp (aCons (eMakeXT "NoValue" [118, 97, 108, 117, 101] [110, 111, 116, 32, 97, 32, 118, 97, 108, 117, 101] (aCons (eVar 1) (aNil))) (aCons (eMakeXT "NoValue" [118, 97, 108, 117, 101] [110, 111, 116, 32, 97, 32, 118, 97, 108, 117, 101] (aCons (eVar 1) (aNil))) (aNil)))))) (sNil)) (sSeq (sIf (tVal (eBin wEq0 (eVar 0) (eC (.int 2)))) (sRet (eNew (lDisp (aCons (eMakeXT "NoOperator" [118, 97, 108, 117, 101] [110, 111, 116, 32, 97, 110, 32, 111, 112, 101, 114, 97, 116, 111, 114] (aCons (eVar 1) (aNil))) (aCons (eMakeXT "NoOperator" [118, 97, 108, 117, 101] [110, 111, 116, 32, 97, 110, 32, 111, 112, 101, 114, 97, 116, 111, 114] (aCons (eVar 1) (aNil))) (aNil)))))) (sNil)) (sSeq (sIf (tVal (eBin wEq0 (eVar 0) (eC (.int 3)))) (sRet (eNew (lDisp (aCons (eMakeXT "NoStatement" [118, 97, 108, 117, 101] [110, 111, 116, 32, 97, 32, 115, 116, 97, 116, 101, 109, 101, 110, 116] (aCons (eVar 1) (aNil))) (aCons (eMakeXT "NoStatement" [118, 97, 108, 117, 101] [110, 111, 116, 32, 97, 32, 115, 116, 97, 116, 101, 109, 101, 110, 116] (aCons (eVar 1) (aNil))) (aNil)))))) (sNil)) (sSeq (sIf (tVal (eBin wEq0 (eVar 0) (eC (.int 4)))) (sRet (eNew (lDisp (aCons (eMakeXT "NoText" [118, 97, 108, 117, 101] [110, 111, 116, 104, 105, 110, 103, 32, 104, 97, 115, 32, 116, 104, 105, 115, 32, 116, 101, 120, 116] (aCons (eVar 1) (aNil))) (aCons (eMakeXT "NoText" [118, 97, 108, 117, 101] [110, 111, 116, 104, 105, 110, 103, 32, 104, 97, 115, 32, 116, 104, 105, 115, 32, 116, 101, 120, 116] (aCons (eVar 1) (aNil))) (aNil)))))) (sNil)) (sSeq (sIf (tVal (eBin wEq0 (eVar 0) (eC (.int 5)))) (sRet (eNew (lDisp (aCons (eMakeXT "NoNumber" [118, 97, 108, 117, 101] [110, 111, 116, 32, 115, 117, 99, 104, 32, 97, 32, 110, 117, 109, 98, 101, 114] (aCons (eVar 1) (aNil))) (aCons (eMakeXT "NoNumber" [118, 97, 108, 117, 101] [110, 111, 116, 32, 115, 117, 99, 104, 32, 97, 32, 110, 117, 109, 98, 101, 114] (aCons (eVar 1) (aNil))) (aNil)))))) (sNil)) (sSeq (sIf (tVal (eBin wEq0 (eVar 0) (eC (.int 6)))) (sRet (eNew (lDisp (aCons (eMakeXT "NoInputs" [118, 97, 108, 117, 101] [110, 111, 116, 32, 105, 110, 112, 117, 116, 115] (aCons (eVar 1) (aNil))) (aCons (eMakeXT "NoInputs" [118, 97, 108, 117, 101] [110, 111, 116, 32, 105, 110, 112, 117, 116, 115] (aCons (eVar 1) (aNil))) (aNil)))))) (sNil)) (sSeq (sIf (tVal (eBin wEq0 (eVar 0) (eC (.int 7)))) (sRet (eNew (lDisp (aCons (eMakeXT "NoExpression" [118, 97, 108, 117, 101] [110, 111, 116, 32, 97, 110, 32, 101, 120, 112, 114, 101, 115, 115, 105, 111, 110] (aCons (eVar 1) (aNil))) (aCons (eMakeXT "NoExpression" [118, 97, 108, 117, 101] [110, 111, 116, 32, 97, 110, 32, 101, 120, 112, 114, 101, 115, 115, 105, 111, 110] (aCons (eVar 1) (aNil))) (aNil)))))) (sNil)) (sSeq (sIf (tVal (eBin wEq0 (eVar 0) (eC (.int 8)))) (sRet (eNew (lDisp (aCons (eMakeXT "NoPoint" [118, 97, 108, 117, 101] [110, 111, 116, 32, 97, 32, 112, 111, 105, 110, 116] (aCons (eVar 1) (aNil))) (aCons (eMakeXT "NoPoint" [118, 97, 108, 117, 101] [110, 111, 116, 32, 97, 32, 112, 111, 105, 110, 116] (aCons (eVar 1) (aNil))) (aNil)))))) (sNil)) (sSeq (sIf (tVal (eBin wEq0 (eVar 0) (eC (.int 9)))) (sRet (eNew (lDisp (aCons (eMakeXT "NoPlacement" [118, 97, 108, 117, 101] [110, 111, 116, 32, 97, 32, 112, 108, 97, 99, 101, 109, 101, 110, 116, 32, 116, 104, 97, 116, 32, 102, 105, 116, 115] (aCons (eVar 1) (aNil))) (aCons (eMakeXT "NoPlacement" [118, 97, 108, 117, 101] [110, 111, 116, 32, 97, 32, 112, 108, 97, 99, 101, 109, 101, 110, 116, 32, 116, 104, 97, 116, 32, 102, 105, 116, 115] (aCons (eVar 1) (aNil))) (aNil)))))) (sNil)) (sSeq (sIf (tVal (eBin wEq0 (eVar 0) (eC (.int 10)))) (sRet (eNew (lDisp (aCons (eMakeXT "NoPath" [118, 97, 108, 117, 101] [110, 111, 116, 32, 97, 32, 112, 97, 116, 104] (aCons (eVar 1) (aNil))) (aCons (eMakeXT "NoPath" [118, 97, 108, 117, 101] [110, 111, 116, 32, 97, 32, 112, 97, 116, 104] (aCons (eVar 1) (aNil))) (aNil)))))) (sNil)) (sRet (eNew (lDisp (aCons (eMakeXT "NotClosed" [118, 97, 108, 117, 101] [110, 111, 116, 32, 97, 32, 99, 108, 111, 115, 101, 100, 32, 115, 101, 116] (aCons (eVar 1) (aNil))) (aCons (eMakeXT "NotClosed" [118, 97, 108, 117, 101] [110, 111, 116, 32, 97, 32, 99, 108, 111, 115, 101, 100, 32, 115, 101, 116] (aCons (eVar 1) (aNil))) (aNil))))))))))))))))
def d__law_first_ones : DF := defn 2 2 b__law_first_ones
def b__law_other_ones : DS := sSeq (sIf (tVal (eBin wEq0 (eVar 0) (eC (.int 12)))) (sRet (eNew (lDisp (aCons (eMakeXT "NoPrice" [118, 97, 108, 117, 101] [110, 111, 116, 32, 97, 32, 112, 114, 105, 99, 101] (aCons (eVar 1) (aNil))) (aCons (eMakeXT "NoPrice" [118, 97, 108, 117, 101] [110, 111, 116, 32, 97, 32, 112, 114, 105, 99, 101] (aCons (eVar 1) (aNil))) (aNil)))))) (sNil)) (sSeq (sIf (tVal (eBin wEq0 (eVar 0) (eC (.int 13)))) (sRet (eNew (lDisp (aCons (eMakeXT "NoCounts" [118, 97, 108, 117, 101] [110, 111, 116, 32, 99, 111, 117, 110, 116, 115] (aCons (eVar 1) (aNil))) (aCons (eMakeXT "NoCounts" [118, 97, 108, 117, 101] [110, 111, 116, 32, 99, 111, 117, 110, 116, 115] (aCons (eVar 1) (aNil))) (aNil)))))) (sNil)) (sSeq (sIf (tVal (eBin wEq0 (eVar 0) (eC (.int 14)))) (sRet (eNew (lDisp (aCons (eMakeXT "NoPairs" [118, 97, 108, 117, 101] [110, 111, 116, 32, 115, 117, 99, 104, 32, 112, 97, 105, 114, 115] (aCons (eVar 1) (aNil))) (aCons (eMakeXT "NoPairs" [118, 97, 108, 117, 101] [110, 111, 116, 32, 115, 117, 99, 104, 32, 112, 97, 105, 114, 115] (aCons (eVar 1) (aNil))) (aNil)))))) (sNil)) (sSeq (sIf (tVal (eBin wEq0 (eVar 0) (eC (.int 15)))) (sRet (eNew (lDisp (aCons (eMakeXT "NoProgram" [110, 111, 100, 101] [110, 111, 116, 32, 97, 32, 112, 114, 111, 103, 114, 97, 109] (aCons (eVar 1) (aNil))) (aCons (eMakeXT "NoProgram" [110, 111, 100, 101] [110, 111, 116, 32, 97, 32, 112, 114, 111, 103, 114, 97, 109] (aCons (eVar 1) (aNil))) (aNil)))))) (sNil)) (sSeq (sIf (tVal (eBin wEq0 (eVar 0) (eC (.int 16)))) (sRet (eNew (lDisp (aCons (eMakeXT "Idle" [110, 111, 100, 101] [97, 32, 110, 111, 100, 101, 32, 111, 110, 32, 110, 111, 32, 99, 111, 109, 112, 108, 101, 116, 101, 32, 112, 97, 116, 104] (aCons (eVar 1) (aNil))) (aCons (eMakeXT "Idle" [110, 111, 100, 101] [97, 32, 110, 111, 100, 101, 32, 111, 110, 32, 110, 111, 32, 99, 111, 109, 112, 108, 101, 116, 101, 32, 112, 97, 116, 104] (aCons (eVar 1) (aNil))) (aNil)))))) (sNil)) (sSeq (sIf (tVal (eBin wEq0 (eVar 0) (eC (.int 17)))) (sRet (eNew (lDisp (aCons (eMakeXT "NoNode" [110, 111, 100, 101] [110, 111, 116, 32, 97, 32, 110, 111, 100, 101] (aCons (eVar 1) (aNil))) (aCons (eMakeXT "NoNode" [110, 111, 100, 101] [110, 111, 116, 32, 97, 32, 110, 111, 100, 101] (aCons (eVar 1) (aNil))) (aNil)))))) (sNil)) (sSeq (sIf (tVal (eBin wEq0 (eVar 0) (eC (.int 18)))) (sRet (eNew (lDisp (aCons (eMakeXT "NoEdge" [101, 100, 103, 101] [110, 111, 116, 32, 97, 110, 32, 101, 100, 103, 101] (aCons (eVar 1) (aNil))) (aCons (eMakeXT "NoEdge" [101, 100, 103, 101] [110, 111, 116, 32, 97, 110, 32, 101, 100, 103, 101] (aCons (eVar 1) (aNil))) (aNil)))))) (sNil)) (sSeq (sIf (tVal (eBin wEq0 (eVar 0) (eC (.int 19)))) (sRet (eNew (lDisp (aCons (eMakeXT "NoPlace" [112, 108, 97, 99, 101] [110, 111, 32, 115, 117, 99, 104, 32, 115, 117, 99, 99, 101, 115, 115, 111, 114] (aCons (eVar 1) (aNil))) (aCons (eMakeXT "NoPlace" [112, 108, 97, 99, 101] [110, 111, 32, 115, 117, 99, 104, 32, 115, 117, 99, 99, 101, 115, 115, 111, 114] (aCons (eVar 1) (aNil))) (aNil)))))) (sNil)) (sSeq (sIf (tVal (eBin wEq0 (eVar 0) (eC (.int 20)))) (sRet (eNew (lDisp (aCons (eMakeXT "NoStep" [112, 108, 97, 99, 101] [110, 111, 116, 32, 97, 32, 115, 116, 101, 112] (aCons (eVar 1) (aNil))) (aCons (eMakeXT "NoStep" [112, 108, 97, 99, 101] [110, 111, 116, 32, 97, 32, 115, 116, 101, 112] (aCons (eVar 1) (aNil))) (aNil)))))) (sNil)) (sSeq (sIf (tVal (eBin wEq0 (eVar 0) (eC (.int 21)))) (sRet (eNew (lDisp (aCons (eMakeXT "NoEdit" [110, 97, 109, 101] [110, 111, 116, 32, 97, 110, 32, 101, 100, 105, 116] (aCons (eVar 1) (aNil))) (aCons (eMakeXT "NoEdit" [110, 97, 109, 101] [110, 111, 116, 32, 97, 110, 32, 101, 100, 105, 116] (aCons (eVar 1) (aNil))) (aNil)))))) (sNil)) (sSeq (sIf (tVal (eBin wEq0 (eVar 0) (eC (.int 22)))) (sRet (eNew (lDisp (aCons (eMakeXT "Unfit" [116, 111, 108, 100] [116, 104, 101, 32, 112, 108, 97, 99, 101, 109, 101, 110, 116, 32, 105, 115, 32, 110, 111, 116, 32, 102, 105, 116] (aCons (eVar 1) (aNil))) (aCons (eMakeXT "Unfit" [116, 111, 108, 100] [116, 104, 101, 32, 112, 108, 97, 99, 101, 109, 101, 110, 116, 32, 105, 115, 32, 110, 111, 116, 32, 102, 105, 116] (aCons (eVar 1) (aNil))) (aNil)))))) (sNil)) (sRet (eNew (lDisp (aCons (eMakeXT "TooLong" [110, 111, 100, 101, 115] [116, 111, 111, 32, 109, 97, 110, 121, 32, 110, 111, 100, 101, 115] (aCons (eVar 1) (aNil))) (aCons (eMakeXT "TooLong" [110, 111, 100, 101, 115] [116, 111, 111, 32, 109, 97, 110, 121, 32, 110, 111, 100, 101, 115] (aCons (eVar 1) (aNil))) (aNil))))))))))))))))
def d__law_other_ones : DF := defn 2 2 b__law_other_ones
def okx_value : String → Bool := fun c => c == "NotClosed" || c == "NoName" || c == "NoValue" || c == "NoOperator" || c == "NoStatement" || c == "NoText" || c == "NoNumber" || c == "NoInputs" || c == "NoExpression" || c == "NoPoint" || c == "NoPlacement" || c == "NoPath" || c == "NoPrice" || c == "NoCounts" || c == "NoPairs"
def okx_node : String → Bool := fun c => c == "NoProgram" || c == "Idle" || c == "NoNode"
def okx_edge : String → Bool := fun c => c == "NoEdge"
def okx_place : String → Bool := fun c => c == "NoPlace" || c == "NoStep"
def okx_name : String → Bool := fun c => c == "NoEdit"
def okx_told : String → Bool := fun c => c == "Unfit"
def okx_nodes : String → Bool := fun c => c == "TooLong"
def b__law_value_of : DS := sSeq (sIf (tVal (eBin wLt (eVar 0) (eC (.int 15)))) (sRet (eXAttr [118, 97, 108, 117, 101] okx_value (eVar 1))) (sNil)) (sSeq (sIf (tVal (eBin wLt (eVar 0) (eC (.int 18)))) (sRet (eXAttr [110, 111, 100, 101] okx_node (eVar 1))) (sNil)) (sSeq (sIf (tVal (eBin wEq0 (eVar 0) (eC (.int 18)))) (sRet (eXAttr [101, 100, 103, 101] okx_edge (eVar 1))) (sNil)) (sSeq (sIf (tVal (eBin wLt (eVar 0) (eC (.int 21)))) (sRet (eXAttr [112, 108, 97, 99, 101] okx_place (eVar 1))) (sNil)) (sSeq (sIf (tVal (eBin wEq0 (eVar 0) (eC (.int 21)))) (sRet (eXAttr [110, 97, 109, 101] okx_name (eVar 1))) (sNil)) (sSeq (sIf (tVal (eBin wEq0 (eVar 0) (eC (.int 22)))) (sRet (eXAttr [116, 111, 108, 100] okx_told (eVar 1))) (sNil)) (sRet (eXAttr [110, 111, 100, 101, 115] okx_nodes (eVar 1))))))))
def d__law_value_of : DF := defn 2 2 b__law_value_of
def famL : List String := ["NotClosed", "NoName", "NoValue", "NoOperator", "NoStatement", "NoText", "NoNumber", "NoInputs", "NoExpression", "NoPoint", "NoPlacement", "NoPath", "TooLong", "NoPrice", "NoCounts", "NoPairs", "NoProgram", "Idle", "NoNode", "NoEdge", "NoPlace", "NoStep", "NoEdit", "Unfit", "NothingToUndo"]
def isiL : List ((Tc × Tc) × Bool) := [((.bi "NoneType", .bi "list"), false), ((.bi "NoneType", .bi "str"), false), ((.bi "bool", .bi "list"), false), ((.bi "bool", .bi "str"), false), ((.bi "int", .bi "list"), false), ((.bi "int", .bi "str"), false), ((.bi "str", .bi "list"), false), ((.bi "str", .bi "str"), true), ((.bi "tuple", .bi "list"), false), ((.bi "tuple", .bi "str"), false), ((.bi "list", .bi "list"), true), ((.bi "list", .bi "str"), false), ((.bi "dict", .bi "list"), false), ((.bi "dict", .bi "str"), false)]
def isiT : Tc → Tc → Option Bool := famT famL "PlaceError" isiL
def b__law_alike : DS := sRet (eBin wEq0 (eFn bReprX (aCons (eVar 0) (aNil))) (eFn bReprX (aCons (eVar 1) (aNil))))
def d__law_alike : DF := defn 2 2 b__law_alike
def ok_str : String → Bool := fun c => c == "NotClosed" || c == "NoName" || c == "NoValue" || c == "NoOperator" || c == "NoStatement" || c == "NoText" || c == "NoNumber" || c == "NoInputs" || c == "NoExpression" || c == "NoPoint" || c == "NoPlacement" || c == "NoPath" || c == "TooLong" || c == "NoPrice" || c == "NoCounts" || c == "NoPairs" || c == "NoProgram" || c == "Idle" || c == "NoNode" || c == "NoEdge" || c == "NoPlace" || c == "NoStep" || c == "NoEdit" || c == "Unfit"
def b__law_kept : DS := sSeq (sIf (tVal (eBin wLt (eVar 0) (eC (.int 12)))) (sSet 3 (eCall d__law_first_ones (aCons (eVar 0) (aCons (eVar 1) (aNil))))) (sSet 3 (eCall d__law_other_ones (aCons (eVar 0) (aCons (eVar 1) (aNil)))))) (sSeq (sSet 2 (eNew (lComp (pVal (eVar 3)) (gSet 4) (tYesB) (eCall d__law_value_of (aCons (eVar 0) (aCons (eVar 4) (aNil)))) [4]))) (sSeq (sIf (tVal (eFn (bIsi isiT) (aCons (eVar 1) (aCons (eC (.ty "list")) (aNil))))) (sExpr (eApp (eVar 1) (aCons (eC (.str [109, 97, 114, 107])) (aNil)))) (sDPut (eVar 1) (eC (.str [109, 97, 114, 107])) (eC (.int 0)))) (sRet (eAnd (eCall d__law_alike (aCons (eVar 2) (aCons (eNew (lDisp (aCons (eVar 1) (aCons (eVar 1) (aNil))))) (aNil)))) (eBin wEq0 (eNew (lComp (pVal (eVar 3)) (gSet 4) (tNot (tVal (eFn (bIsi isiT) (aCons (eFn (bStrE ok_str) (aCons (eVar 4) (aNil))) (aCons (eC (.ty "str")) (aNil)))))) (eVar 4) [4])) (eNew (lDisp (aNil))))))))
def d__law_kept : DF := defn 2 5 b__law_kept
def b__law_mixed : DS := sSeq (sSet 2 (eBin wMod (eFn bInt (aCons (eBin wAdd (eBin wAdd (eBin wMul (eBin wMod (eFn bInt (aCons (eVar 0) (aNil))) (eC (.int 2147483647))) (eC (.int 48271))) (eBin wMul (eVar 1) (eC (.int 69621)))) (eC (.int 11))) (aNil))) (eC (.int 2147483647)))) (sSeq (sSet 2 (eBin wMod (eFn bInt (aCons (eBin wMul (eVar 2) (eVar 2)) (aNil))) (eC (.int 2147483629)))) (sRet (eBin wDiv (eBin wMod (eFn bInt (aCons (eBin wMul (eVar 2) (eVar 2)) (aNil))) (eC (.int 2147483587))) (eC (.int 64)))))
def d__law_mixed : DF := defn 2 3 b__law_mixed
def b__law_take : DS := sSeq (sIf (tVal (eInL false (eBin wIx (eVar 0) (eC (.int 0))) (lDisp (aCons (eC (.int 0)) (aCons (eUn wNeg (eC (.int 1))) (aNil)))))) (sSeq (sPut (eVar 0) (eC (.int 2)) (eBin wAdd (eBin wIx (eVar 0) (eC (.int 2))) (eC (.int 1)))) (sRet (eBin wMod (eFn bInt (aCons (eCall d__law_mixed (aCons (eBin wIx (eVar 0) (eC (.int 1))) (aCons (eBin wIx (eVar 0) (eC (.int 2))) (aNil)))) (aNil))) (eVar 1)))) (sNil)) (sSeq (sSet 2 (eBin wMod (eFn bInt (aCons (eBin wIx (eVar 0) (eC (.int 0))) (aNil))) (eVar 1))) (sSeq (sPut (eVar 0) (eC (.int 0)) (eBin wDiv (eBin wIx (eVar 0) (eC (.int 0))) (eVar 1))) (sRet (eVar 2))))
def d__law_take : DF := defn 2 3 b__law_take
def b__law_odd : DS := sSeq (sSet 1 (eNew (lDisp (aCons (eC .non) (aCons (eC (.bl true)) (aCons (eC (.int 0)) (aCons (eC (.str [65])) (aCons (eC (.str [])) (aCons (eTup (aNil)) (aCons (eNew (lDisp (aNil))) (aCons (eDict0) (aCons (eC (.str [97, 49])) (aCons (eC (.str [97, 98, 99, 100, 101, 102, 103, 104, 105])) (aCons (eUn wNeg (eC (.int 1))) (aCons (eTup (aCons (eC (.str [97])) (aNil))) (aCons (eNew (lDisp (aCons (eC (.str [97])) (aNil)))) (aCons (eTup (aCons (eC (.int 1)) (aCons (eC (.int 2)) (aNil)))) (aCons (eC (.str [97, 32, 98])) (aCons (eC (.str [49])) (aNil)))))))))))))))))))) (sRet (eBin wIx (eBin wAdd (eVar 1) (eNew (lDisp (aCons (eC (.str [32, 97])) (aCons (eC (.str [97, 95])) (aCons (eC (.str [97, 10])) (aCons (eC (.bl false)) (aCons (eC (.str [97, 123])) (aCons (eC (.str [96, 97])) (aCons (eC (.str [97, 126])) (aNil))))))))))) (eCall d__law_take (aCons (eVar 0) (aCons (eC (.int 23)) (aNil))))))
def d__law_odd : DF := defn 1 2 b__law_odd
def b__law_kinds : DS := sSeq (sSet 1 (eNew (lDisp (aCons (eFn (bIsi isiT) (aCons (eVar 0) (aCons (eC (.cls "NoName")) (aNil)))) (aCons (eFn (bIsi isiT) (aCons (eVar 0) (aCons (eC (.cls "NoValue")) (aNil)))) (aCons (eFn (bIsi isiT) (aCons (eVar 0) (aCons (eC (.cls "NoOperator")) (aNil)))) (aNil))))))) (sSeq (sSet 1 (eBin wAdd (eVar 1) (eNew (lDisp (aCons (eFn (bIsi isiT) (aCons (eVar 0) (aCons (eC (.cls "NoStatement")) (aNil)))) (aCons (eFn (bIsi isiT) (aCons (eVar 0) (aCons (eC (.cls "NoText")) (aNil)))) (aCons (eFn (bIsi isiT) (aCons (eVar 0) (aCons (eC (.cls "NoNumber")) (aNil)))) (aNil)))))))) (sSeq (sSet 1 (eBin wAdd (eVar 1) (eNew (lDisp (aCons (eFn (bIsi isiT) (aCons (eVar 0) (aCons (eC (.cls "NoInputs")) (aNil)))) (aCons (eFn (bIsi isiT) (aCons (eVar 0) (aCons (eC (.cls "NoExpression")) (aNil)))) (aCons (eFn (bIsi isiT) (aCons (eVar 0) (aCons (eC (.cls "NoPoint")) (aNil)))) (aNil)))))))) (sSeq (sSet 1 (eBin wAdd (eVar 1) (eNew (lDisp (aCons (eFn (bIsi isiT) (aCons (eVar 0) (aCons (eC (.cls "NoPlacement")) (aNil)))) (aCons (eFn (bIsi isiT) (aCons (eVar 0) (aCons (eC (.cls "NoPath")) (aNil)))) (aCons (eFn (bIsi isiT) (aCons (eVar 0) (aCons (eC (.cls "NotClosed")) (aNil)))) (aNil)))))))) (sSeq (sSet 1 (eBin wAdd (eVar 1) (eNew (lDisp (aCons (eFn (bIsi isiT) (aCons (eVar 0) (aCons (eC (.cls "NoPrice")) (aNil)))) (aCons (eFn (bIsi isiT) (aCons (eVar 0) (aCons (eC (.cls "NoCounts")) (aNil)))) (aCons (eFn (bIsi isiT) (aCons (eVar 0) (aCons (eC (.cls "NoPairs")) (aNil)))) (aNil)))))))) (sSeq (sSet 1 (eBin wAdd (eVar 1) (eNew (lDisp (aCons (eFn (bIsi isiT) (aCons (eVar 0) (aCons (eC (.cls "NoProgram")) (aNil)))) (aCons (eFn (bIsi isiT) (aCons (eVar 0) (aCons (eC (.cls "Idle")) (aNil)))) (aCons (eFn (bIsi isiT) (aCons (eVar 0) (aCons (eC (.cls "NoNode")) (aNil)))) (aNil)))))))) (sSeq (sSet 1 (eBin wAdd (eVar 1) (eNew (lDisp (aCons (eFn (bIsi isiT) (aCons (eVar 0) (aCons (eC (.cls "NoEdge")) (aNil)))) (aCons (eFn (bIsi isiT) (aCons (eVar 0) (aCons (eC (.cls "NoPlace")) (aNil)))) (aCons (eFn (bIsi isiT) (aCons (eVar 0) (aCons (eC (.cls "NoStep")) (aNil)))) (aNil)))))))) (sSeq (sSet 1 (eBin wAdd (eVar 1) (eNew (lDisp (aCons (eFn (bIsi isiT) (aCons (eVar 0) (aCons (eC (.cls "NoEdit")) (aNil)))) (aCons (eFn (bIsi isiT) (aCons (eVar 0) (aCons (eC (.cls "Unfit")) (aNil)))) (aCons (eFn (bIsi isiT) (aCons (eVar 0) (aCons (eC (.cls "TooLong")) (aNil)))) (aNil)))))))) (sSeq (sExpr (eApp (eVar 1) (aCons (eFn (bIsi isiT) (aCons (eVar 0) (aCons (eC (.cls "NothingToUndo")) (aNil)))) (aNil)))) (sRet (eNew (lComp (pEnum (pSeq (eVar 1))) (gSeq [gSet 2, gSet 3]) (tTru (eVar 3)) (eVar 2) [2, 3])))))))))))
def d__law_kinds : DF := defn 1 4 b__law_kinds
def b__law_great_kept : DS := sSeq (sSet 1 (eC (.int 1))) (sSeq (sFor (pRange1 (aCons (eC (.int 60)) (aNil))) (gSet 2) (sSet 1 (eBin wMul (eVar 1) (eBin wPow (eC (.int 10)) (eC (.int 50)))))) (sSeq (sIf (tVal (eBin wLt (eVar 0) (eC (.int 12)))) (sSet 3 (eCall d__law_first_ones (aCons (eVar 0) (aCons (eVar 1) (aNil))))) (sSet 3 (eCall d__law_other_ones (aCons (eVar 0) (aCons (eVar 1) (aNil)))))) (sRet (eBin wEq0 (eNew (lComp (pVal (eVar 3)) (gSet 4) (tYesB) (eBin wEq0 (eCall d__law_value_of (aCons (eVar 0) (aCons (eVar 4) (aNil)))) (eVar 1)) [4])) (eNew (lDisp (aCons (eC (.bl true)) (aCons (eC (.bl true)) (aNil)))))))))
def d__law_great_kept : DF := defn 1 5 b__law_great_kept
def b_law : DS := sSeq (sSet 1 (eNew (lDisp (aNil)))) (sSeq (sFor (pRange1 (aCons (eC (.int 8)) (aNil))) (gSet 2) (sSeq (sSet 4 (eCall d__law_pile (aCons (eVar 0) (aCons (eVar 2) (aNil))))) (sFor (pRange1 (aCons (eC (.int 24)) (aNil))) (gSet 5) (sSeq (sIf (tOr (tNot (tVal (eCall d__law_kept (aCons (eVar 5) (aCons (eNew (lDisp (aCons (eVar 2) (aNil)))) (aNil)))))) (tNot (tVal (eCall d__law_kept (aCons (eVar 5) (aCons (eDict [(eC (.str [97]), eVar 2)]) (aNil))))))) (sRet (eC (.bl false))) (sNil)) (sSeq (sSet 7 (eCall d__law_odd (aCons (eVar 4) (aNil)))) (sIf (tVal (eBin wLt (eVar 5) (eC (.int 12)))) (sExpr (eApp (eVar 1) (aCons (eTup (aCons (eVar 5) (aCons (eCall d__law_first_ones (aCons (eVar 5) (aCons (eVar 7) (aNil)))) (aCons (eVar 7) (aNil))))) (aNil)))) (sExpr (eApp (eVar 1) (aCons (eTup (aCons (eVar 5) (aCons (eCall d__law_other_ones (aCons (eVar 5) (aCons (eVar 7) (aNil)))) (aCons (eVar 7) (aNil))))) (aNil)))))))))) (sSeq (sFor (pVal (eVar 1)) (gSeq [gSet 5, gSet 6, gSet 7]) (sFor (pVal (eVar 6)) (gSet 8) (sSeq (sIf (tOr (tNot (tVal (eFn (bIsi isiT) (aCons (eVar 8) (aCons (eC (.cls "PlaceError")) (aNil)))))) (tOr (tNot (tVal (eFn (bIsi isiT) (aCons (eVar 8) (aCons (eC (.ty "ValueError")) (aNil)))))) (tVal (eBin wNe0 (eCall d__law_kinds (aCons (eVar 8) (aNil))) (eNew (lDisp (aCons (eVar 5) (aNil)))))))) (sRet (eC (.bl false))) (sNil)) (sIf (tNot (tVal (eCall d__law_alike (aCons (eCall d__law_value_of (aCons (eVar 5) (aCons (eVar 8) (aNil)))) (aCons (eVar 7) (aNil)))))) (sRet (eC (.bl false))) (sNil))))) (sSeq (sIf (tVal (eBin wNe0 (eNew (lComp (pRange1 (aCons (eC (.int 24)) (aNil))) (gSet 5) (tNot (tVal (eCall d__law_great_kept (aCons (eVar 5) (aNil))))) (eVar 5) [5])) (eNew (lDisp (aNil))))) (sRet (eC (.bl false))) (sNil)) (sSeq (sSet 3 (eMakeX0 "NothingToUndo")) (sRet (eAnd (eFn (bIsi isiT) (aCons (eVar 3) (aCons (eC (.cls "PlaceError")) (aNil)))) (eBin wEq0 (eCall d__law_kinds (aCons (eVar 3) (aNil))) (eNew (lDisp (aCons (eC (.int 24)) (aNil)))))))))))
def d_law : DF := defn 1 9 b_law
end K90

namespace K90
open PySem PySem.Spec L2 Sh
open PyProof.Rows (envOfC)
/-! ### the text by places -/
def top (i : Nat) : Stmt := PySem.Challenge.pw_placedonce_k90_errors_made.main.body.getD i (.Pass ⟨0, 0, 0, 0⟩)
abbrev st_NoName___init__ : Stmt := (inClass (top 2) 0)
abbrev st_NoValue___init__ : Stmt := (inClass (top 3) 0)
abbrev st_NoOperator___init__ : Stmt := (inClass (top 4) 0)
abbrev st_NoStatement___init__ : Stmt := (inClass (top 5) 0)
abbrev st_NoText___init__ : Stmt := (inClass (top 6) 0)
abbrev st_NoProgram___init__ : Stmt := (inClass (top 7) 0)
abbrev st_Idle___init__ : Stmt := (inClass (top 8) 0)
abbrev st_NoNode___init__ : Stmt := (inClass (top 9) 0)
abbrev st_NoEdge___init__ : Stmt := (inClass (top 10) 0)
abbrev st_NoPlace___init__ : Stmt := (inClass (top 11) 0)
abbrev st_NoEdit___init__ : Stmt := (inClass (top 12) 0)
abbrev st_NoNumber___init__ : Stmt := (inClass (top 13) 0)
abbrev st_NoInputs___init__ : Stmt := (inClass (top 14) 0)
abbrev st_NoExpression___init__ : Stmt := (inClass (top 15) 0)
abbrev st_NoPoint___init__ : Stmt := (inClass (top 16) 0)
abbrev st_NoPlacement___init__ : Stmt := (inClass (top 17) 0)
abbrev st_NoPath___init__ : Stmt := (inClass (top 18) 0)
abbrev st_Unfit___init__ : Stmt := (inClass (top 19) 0)
abbrev st_NotClosed___init__ : Stmt := (inClass (top 20) 0)
abbrev st_NoPrice___init__ : Stmt := (inClass (top 21) 0)
abbrev st_NoCounts___init__ : Stmt := (inClass (top 22) 0)
abbrev st_NoPairs___init__ : Stmt := (inClass (top 23) 0)
abbrev st_TooLong___init__ : Stmt := (inClass (top 24) 0)
abbrev st_NoStep___init__ : Stmt := (inClass (top 25) 0)
abbrev st_NothingToUndo___init__ : Stmt := (inClass (top 26) 0)
abbrev st__law_mixed : Stmt := (top 28)
abbrev st__law_pile : Stmt := (top 29)
abbrev st__law_take : Stmt := (top 30)
abbrev st__law_alike : Stmt := (top 31)
abbrev st__law_odd : Stmt := (top 32)
abbrev st__law_first_ones : Stmt := (top 33)
abbrev st__law_other_ones : Stmt := (top 34)
abbrev st__law_kinds : Stmt := (top 35)
abbrev st__law_value_of : Stmt := (top 36)
abbrev st__law_kept : Stmt := (top 37)
abbrev st__law_great_kept : Stmt := (top 38)
abbrev st_law : Stmt := (top 39)
/-! ### what the walk asks of the text -/
structure Txt (P : Program) (K : PySem.W.Frag) (mg : Str → Option Value) (cl : String → Addr) (base : Heap) : Prop where
  sys : base.get? sysModules ≠ none
  none_range : mg "range" = none
  none_len : mg "len" = none
  none_int : mg "int" = none
  none_abs : mg "abs" = none
  fun__law_pile : FunAt K mg "_law_pile" st__law_pile ["_law_script", "_law_k"]
  m_NoName : mg "NoName" = some (.ref (cl "NoName"))
  m_PlaceError : mg "PlaceError" = some (.ref (cl "PlaceError"))
  none_super : mg "super" = none
  exc_NoName : ∃ fi, XcK K (cl "NoName") fi ∧ ExcAt P K mg (cl "NoName") "NoName.__init__" st_NoName___init__ fi
  xno_NoName_value : PySem.W.findIn K (.ref (cl "NoName")) "value" = some none
  m_NoValue : mg "NoValue" = some (.ref (cl "NoValue"))
  exc_NoValue : ∃ fi, XcK K (cl "NoValue") fi ∧ ExcAt P K mg (cl "NoValue") "NoValue.__init__" st_NoValue___init__ fi
  xno_NoValue_value : PySem.W.findIn K (.ref (cl "NoValue")) "value" = some none
  m_NoOperator : mg "NoOperator" = some (.ref (cl "NoOperator"))
  exc_NoOperator : ∃ fi, XcK K (cl "NoOperator") fi ∧ ExcAt P K mg (cl "NoOperator") "NoOperator.__init__" st_NoOperator___init__ fi
  xno_NoOperator_value : PySem.W.findIn K (.ref (cl "NoOperator")) "value" = some none
  m_NoStatement : mg "NoStatement" = some (.ref (cl "NoStatement"))
  exc_NoStatement : ∃ fi, XcK K (cl "NoStatement") fi ∧ ExcAt P K mg (cl "NoStatement") "NoStatement.__init__" st_NoStatement___init__ fi
  xno_NoStatement_value : PySem.W.findIn K (.ref (cl "NoStatement")) "value" = some none
  m_NoText : mg "NoText" = some (.ref (cl "NoText"))
  exc_NoText : ∃ fi, XcK K (cl "NoText") fi ∧ ExcAt P K mg (cl "NoText") "NoText.__init__" st_NoText___init__ fi
  xno_NoText_value : PySem.W.findIn K (.ref (cl "NoText")) "value" = some none
  m_NoNumber : mg "NoNumber" = some (.ref (cl "NoNumber"))
  exc_NoNumber : ∃ fi, XcK K (cl "NoNumber") fi ∧ ExcAt P K mg (cl "NoNumber") "NoNumber.__init__" st_NoNumber___init__ fi
  xno_NoNumber_value : PySem.W.findIn K (.ref (cl "NoNumber")) "value" = some none
  m_NoInputs : mg "NoInputs" = some (.ref (cl "NoInputs"))
  exc_NoInputs : ∃ fi, XcK K (cl "NoInputs") fi ∧ ExcAt P K mg (cl "NoInputs") "NoInputs.__init__" st_NoInputs___init__ fi
  xno_NoInputs_value : PySem.W.findIn K (.ref (cl "NoInputs")) "value" = some none
  m_NoExpression : mg "NoExpression" = some (.ref (cl "NoExpression"))
  exc_NoExpression : ∃ fi, XcK K (cl "NoExpression") fi ∧ ExcAt P K mg (cl "NoExpression") "NoExpression.__init__" st_NoExpression___init__ fi
  xno_NoExpression_value : PySem.W.findIn K (.ref (cl "NoExpression")) "value" = some none
  m_NoPoint : mg "NoPoint" = some (.ref (cl "NoPoint"))
  exc_NoPoint : ∃ fi, XcK K (cl "NoPoint") fi ∧ ExcAt P K mg (cl "NoPoint") "NoPoint.__init__" st_NoPoint___init__ fi
  xno_NoPoint_value : PySem.W.findIn K (.ref (cl "NoPoint")) "value" = some none
  m_NoPlacement : mg "NoPlacement" = some (.ref (cl "NoPlacement"))
  exc_NoPlacement : ∃ fi, XcK K (cl "NoPlacement") fi ∧ ExcAt P K mg (cl "NoPlacement") "NoPlacement.__init__" st_NoPlacement___init__ fi
  xno_NoPlacement_value : PySem.W.findIn K (.ref (cl "NoPlacement")) "value" = some none
  m_NoPath : mg "NoPath" = some (.ref (cl "NoPath"))
  exc_NoPath : ∃ fi, XcK K (cl "NoPath") fi ∧ ExcAt P K mg (cl "NoPath") "NoPath.__init__" st_NoPath___init__ fi
  xno_NoPath_value : PySem.W.findIn K (.ref (cl "NoPath")) "value" = some none
  m_NotClosed : mg "NotClosed" = some (.ref (cl "NotClosed"))
  exc_NotClosed : ∃ fi, XcK K (cl "NotClosed") fi ∧ ExcAt P K mg (cl "NotClosed") "NotClosed.__init__" st_NotClosed___init__ fi
  xno_NotClosed_value : PySem.W.findIn K (.ref (cl "NotClosed")) "value" = some none
  fun__law_first_ones : FunAt K mg "_law_first_ones" st__law_first_ones ["_law_which", "_law_thing"]
  m_NoPrice : mg "NoPrice" = some (.ref (cl "NoPrice"))
  exc_NoPrice : ∃ fi, XcK K (cl "NoPrice") fi ∧ ExcAt P K mg (cl "NoPrice") "NoPrice.__init__" st_NoPrice___init__ fi
  xno_NoPrice_value : PySem.W.findIn K (.ref (cl "NoPrice")) "value" = some none
  m_NoCounts : mg "NoCounts" = some (.ref (cl "NoCounts"))
  exc_NoCounts : ∃ fi, XcK K (cl "NoCounts") fi ∧ ExcAt P K mg (cl "NoCounts") "NoCounts.__init__" st_NoCounts___init__ fi
  xno_NoCounts_value : PySem.W.findIn K (.ref (cl "NoCounts")) "value" = some none
  m_NoPairs : mg "NoPairs" = some (.ref (cl "NoPairs"))
  exc_NoPairs : ∃ fi, XcK K (cl "NoPairs") fi ∧ ExcAt P K mg (cl "NoPairs") "NoPairs.__init__" st_NoPairs___init__ fi
  xno_NoPairs_value : PySem.W.findIn K (.ref (cl "NoPairs")) "value" = some none
  m_NoProgram : mg "NoProgram" = some (.ref (cl "NoProgram"))
  exc_NoProgram : ∃ fi, XcK K (cl "NoProgram") fi ∧ ExcAt P K mg (cl "NoProgram") "NoProgram.__init__" st_NoProgram___init__ fi
  xno_NoProgram_node : PySem.W.findIn K (.ref (cl "NoProgram")) "node" = some none
  m_Idle : mg "Idle" = some (.ref (cl "Idle"))
  exc_Idle : ∃ fi, XcK K (cl "Idle") fi ∧ ExcAt P K mg (cl "Idle") "Idle.__init__" st_Idle___init__ fi
  xno_Idle_node : PySem.W.findIn K (.ref (cl "Idle")) "node" = some none
  m_NoNode : mg "NoNode" = some (.ref (cl "NoNode"))
  exc_NoNode : ∃ fi, XcK K (cl "NoNode") fi ∧ ExcAt P K mg (cl "NoNode") "NoNode.__init__" st_NoNode___init__ fi
  xno_NoNode_node : PySem.W.findIn K (.ref (cl "NoNode")) "node" = some none
  m_NoEdge : mg "NoEdge" = some (.ref (cl "NoEdge"))
  exc_NoEdge : ∃ fi, XcK K (cl "NoEdge") fi ∧ ExcAt P K mg (cl "NoEdge") "NoEdge.__init__" st_NoEdge___init__ fi
  xno_NoEdge_edge : PySem.W.findIn K (.ref (cl "NoEdge")) "edge" = some none
  m_NoPlace : mg "NoPlace" = some (.ref (cl "NoPlace"))
  exc_NoPlace : ∃ fi, XcK K (cl "NoPlace") fi ∧ ExcAt P K mg (cl "NoPlace") "NoPlace.__init__" st_NoPlace___init__ fi
  xno_NoPlace_place : PySem.W.findIn K (.ref (cl "NoPlace")) "place" = some none
  m_NoStep : mg "NoStep" = some (.ref (cl "NoStep"))
  exc_NoStep : ∃ fi, XcK K (cl "NoStep") fi ∧ ExcAt P K mg (cl "NoStep") "NoStep.__init__" st_NoStep___init__ fi
  xno_NoStep_place : PySem.W.findIn K (.ref (cl "NoStep")) "place" = some none
  m_NoEdit : mg "NoEdit" = some (.ref (cl "NoEdit"))
  exc_NoEdit : ∃ fi, XcK K (cl "NoEdit") fi ∧ ExcAt P K mg (cl "NoEdit") "NoEdit.__init__" st_NoEdit___init__ fi
  xno_NoEdit_name : PySem.W.findIn K (.ref (cl "NoEdit")) "name" = some none
  m_Unfit : mg "Unfit" = some (.ref (cl "Unfit"))
  exc_Unfit : ∃ fi, XcK K (cl "Unfit") fi ∧ ExcAt P K mg (cl "Unfit") "Unfit.__init__" st_Unfit___init__ fi
  xno_Unfit_told : PySem.W.findIn K (.ref (cl "Unfit")) "told" = some none
  m_TooLong : mg "TooLong" = some (.ref (cl "TooLong"))
  exc_TooLong : ∃ fi, XcK K (cl "TooLong") fi ∧ ExcAt P K mg (cl "TooLong") "TooLong.__init__" st_TooLong___init__ fi
  xno_TooLong_nodes : PySem.W.findIn K (.ref (cl "TooLong")) "nodes" = some none
  fun__law_other_ones : FunAt K mg "_law_other_ones" st__law_other_ones ["_law_which", "_law_thing"]
  xis_NotClosed : XisK K (cl "NotClosed")
  xfc_NotClosed : XfC K (cl "NotClosed")
  xis_NoName : XisK K (cl "NoName")
  xfc_NoName : XfC K (cl "NoName")
  xis_NoValue : XisK K (cl "NoValue")
  xfc_NoValue : XfC K (cl "NoValue")
  xis_NoOperator : XisK K (cl "NoOperator")
  xfc_NoOperator : XfC K (cl "NoOperator")
  xis_NoStatement : XisK K (cl "NoStatement")
  xfc_NoStatement : XfC K (cl "NoStatement")
  xis_NoText : XisK K (cl "NoText")
  xfc_NoText : XfC K (cl "NoText")
  xis_NoNumber : XisK K (cl "NoNumber")
  xfc_NoNumber : XfC K (cl "NoNumber")
  xis_NoInputs : XisK K (cl "NoInputs")
  xfc_NoInputs : XfC K (cl "NoInputs")
  xis_NoExpression : XisK K (cl "NoExpression")
  xfc_NoExpression : XfC K (cl "NoExpression")
  xis_NoPoint : XisK K (cl "NoPoint")
  xfc_NoPoint : XfC K (cl "NoPoint")
  xis_NoPlacement : XisK K (cl "NoPlacement")
  xfc_NoPlacement : XfC K (cl "NoPlacement")
  xis_NoPath : XisK K (cl "NoPath")
  xfc_NoPath : XfC K (cl "NoPath")
  xis_NoPrice : XisK K (cl "NoPrice")
  xfc_NoPrice : XfC K (cl "NoPrice")
  xis_NoCounts : XisK K (cl "NoCounts")
  xfc_NoCounts : XfC K (cl "NoCounts")
  xis_NoPairs : XisK K (cl "NoPairs")
  xfc_NoPairs : XfC K (cl "NoPairs")
  xis_NoProgram : XisK K (cl "NoProgram")
  xfc_NoProgram : XfC K (cl "NoProgram")
  xis_Idle : XisK K (cl "Idle")
  xfc_Idle : XfC K (cl "Idle")
  xis_NoNode : XisK K (cl "NoNode")
  xfc_NoNode : XfC K (cl "NoNode")
  xis_NoEdge : XisK K (cl "NoEdge")
  xfc_NoEdge : XfC K (cl "NoEdge")
  xis_NoPlace : XisK K (cl "NoPlace")
  xfc_NoPlace : XfC K (cl "NoPlace")
  xis_NoStep : XisK K (cl "NoStep")
  xfc_NoStep : XfC K (cl "NoStep")
  xis_NoEdit : XisK K (cl "NoEdit")
  xfc_NoEdit : XfC K (cl "NoEdit")
  xis_Unfit : XisK K (cl "Unfit")
  xfc_Unfit : XfC K (cl "Unfit")
  xis_TooLong : XisK K (cl "TooLong")
  xfc_TooLong : XfC K (cl "TooLong")
  fun__law_value_of : FunAt K mg "_law_value_of" st__law_value_of ["_law_which", "_law_error"]
  fam_NotClosed : FamK K (cl "NotClosed") (cl "PlaceError")
  fam_NoName : FamK K (cl "NoName") (cl "PlaceError")
  fam_NoValue : FamK K (cl "NoValue") (cl "PlaceError")
  fam_NoOperator : FamK K (cl "NoOperator") (cl "PlaceError")
  fam_NoStatement : FamK K (cl "NoStatement") (cl "PlaceError")
  fam_NoText : FamK K (cl "NoText") (cl "PlaceError")
  fam_NoNumber : FamK K (cl "NoNumber") (cl "PlaceError")
  fam_NoInputs : FamK K (cl "NoInputs") (cl "PlaceError")
  fam_NoExpression : FamK K (cl "NoExpression") (cl "PlaceError")
  fam_NoPoint : FamK K (cl "NoPoint") (cl "PlaceError")
  fam_NoPlacement : FamK K (cl "NoPlacement") (cl "PlaceError")
  fam_NoPath : FamK K (cl "NoPath") (cl "PlaceError")
  fam_TooLong : FamK K (cl "TooLong") (cl "PlaceError")
  fam_NoPrice : FamK K (cl "NoPrice") (cl "PlaceError")
  fam_NoCounts : FamK K (cl "NoCounts") (cl "PlaceError")
  fam_NoPairs : FamK K (cl "NoPairs") (cl "PlaceError")
  fam_NoProgram : FamK K (cl "NoProgram") (cl "PlaceError")
  fam_Idle : FamK K (cl "Idle") (cl "PlaceError")
  fam_NoNode : FamK K (cl "NoNode") (cl "PlaceError")
  fam_NoEdge : FamK K (cl "NoEdge") (cl "PlaceError")
  fam_NoPlace : FamK K (cl "NoPlace") (cl "PlaceError")
  fam_NoStep : FamK K (cl "NoStep") (cl "PlaceError")
  fam_NoEdit : FamK K (cl "NoEdit") (cl "PlaceError")
  fam_Unfit : FamK K (cl "Unfit") (cl "PlaceError")
  m_NothingToUndo : mg "NothingToUndo" = some (.ref (cl "NothingToUndo"))
  exc_NothingToUndo : ∃ fi, XcK K (cl "NothingToUndo") fi ∧ ExcAt P K mg (cl "NothingToUndo") "NothingToUndo.__init__" st_NothingToUndo___init__ fi
  xis_NothingToUndo : XisK K (cl "NothingToUndo")
  xfc_NothingToUndo : XfC K (cl "NothingToUndo")
  fam_NothingToUndo : FamK K (cl "NothingToUndo") (cl "PlaceError")
  fnod : [cl "NotClosed", cl "NoName", cl "NoValue", cl "NoOperator", cl "NoStatement", cl "NoText", cl "NoNumber", cl "NoInputs", cl "NoExpression", cl "NoPoint", cl "NoPlacement", cl "NoPath", cl "TooLong", cl "NoPrice", cl "NoCounts", cl "NoPairs", cl "NoProgram", cl "Idle", cl "NoNode", cl "NoEdge", cl "NoPlace", cl "NoStep", cl "NoEdit", cl "Unfit", cl "NothingToUndo"].Nodup
  fnpe : cl "PlaceError" ∉ [cl "NotClosed", cl "NoName", cl "NoValue", cl "NoOperator", cl "NoStatement", cl "NoText", cl "NoNumber", cl "NoInputs", cl "NoExpression", cl "NoPoint", cl "NoPlacement", cl "NoPath", cl "TooLong", cl "NoPrice", cl "NoCounts", cl "NoPairs", cl "NoProgram", cl "Idle", cl "NoNode", cl "NoEdge", cl "NoPlace", cl "NoStep", cl "NoEdit", cl "Unfit", cl "NothingToUndo"]
  fpe : (∃ cd, PySem.W.clsIn K (cl "PlaceError") = some cd) ∧ PySem.W.typeIn K (.ref (cl "PlaceError")) = some (.type "type")
  none_isinstance : mg "isinstance" = none
  none_list : mg "list" = none
  none_repr : mg "repr" = none
  fun__law_alike : FunAt K mg "_law_alike" st__law_alike ["_law_one", "_law_other"]
  none_str : mg "str" = none
  strk_NotClosed : StrK K (cl "NotClosed")
  strk_NoName : StrK K (cl "NoName")
  strk_NoValue : StrK K (cl "NoValue")
  strk_NoOperator : StrK K (cl "NoOperator")
  strk_NoStatement : StrK K (cl "NoStatement")
  strk_NoText : StrK K (cl "NoText")
  strk_NoNumber : StrK K (cl "NoNumber")
  strk_NoInputs : StrK K (cl "NoInputs")
  strk_NoExpression : StrK K (cl "NoExpression")
  strk_NoPoint : StrK K (cl "NoPoint")
  strk_NoPlacement : StrK K (cl "NoPlacement")
  strk_NoPath : StrK K (cl "NoPath")
  strk_TooLong : StrK K (cl "TooLong")
  strk_NoPrice : StrK K (cl "NoPrice")
  strk_NoCounts : StrK K (cl "NoCounts")
  strk_NoPairs : StrK K (cl "NoPairs")
  strk_NoProgram : StrK K (cl "NoProgram")
  strk_Idle : StrK K (cl "Idle")
  strk_NoNode : StrK K (cl "NoNode")
  strk_NoEdge : StrK K (cl "NoEdge")
  strk_NoPlace : StrK K (cl "NoPlace")
  strk_NoStep : StrK K (cl "NoStep")
  strk_NoEdit : StrK K (cl "NoEdit")
  strk_Unfit : StrK K (cl "Unfit")
  fun__law_kept : FunAt K mg "_law_kept" st__law_kept ["_law_which", "_law_thing"]
  fun__law_mixed : FunAt K mg "_law_mixed" st__law_mixed ["_law_cell", "_law_k"]
  fun__law_take : FunAt K mg "_law_take" st__law_take ["_law_pile_here", "_law_many"]
  fun__law_odd : FunAt K mg "_law_odd" st__law_odd ["_law_pile_here"]
  none_ValueError : mg "ValueError" = none
  none_enumerate : mg "enumerate" = none
  fun__law_kinds : FunAt K mg "_law_kinds" st__law_kinds ["_law_error"]
  fun__law_great_kept : FunAt K mg "_law_great_kept" st__law_great_kept ["_law_which"]
  fun_law : FunAt K mg "law" st_law ["_law_script"]
/-! ### the walk -/
section
variable {P : Program} {w : World} {K : PySem.W.Frag} {mg : Str → Option Value} {base : Heap} {cl : String → Addr}
theorem se_globx {g : G} {X : Cx} {wx : WX} {x : Str} {w : W} {pos : Pos} (hg : Gl X x) (h : ∃ u, X.mg x = some u ∧ ∃ v, RelV v u ∧ ∀ ρ H, VR g ρ H w v) (hd : (x == ("__debug__" : Str)) = false := by decide) : SE g X wx (.Name x pos) (eC w) := by
  obtain ⟨u, hm, hv⟩ := h
  exact se_glob hg hm hv hd
theorem sc__law_pile : FnScope ["_law_script", "_law_k", "_law_cell", "_law_digits"] ["_law_script", "_law_k"] (defScope st__law_pile) := ⟨rfl, rfl, rfl, by decide +kernel, rfl, by decide +kernel, by decide +kernel⟩
theorem ok__law_pile (T : Txt P K mg cl base) : Def P w K mg base (⟨K, cl⟩ : G) "_law_pile" 1 ["_law_script", "_law_k"] d__law_pile :=
  def_of (k := 0) T.fun__law_pile sc__law_pile fun f cdv A outer s H E hr tk hp =>
  ss_cons (ss_set (i := 2) sc__law_pile.nd rfl (loc_of rfl) (se_int)) (
  ss_cons (ss_if (st_cmp f_lt (se_var (i := 1) rfl (vis_of rfl)) (se_blt (f_len rfl) rfl T.none_len (by first | rfl | decide +kernel) (sa_cons (se_var (i := 0) rfl (vis_of rfl)) (sa_nil)))) (ss_one (ss_set (i := 2) sc__law_pile.nd rfl (loc_of rfl) (se_ix rfl (se_var (i := 0) rfl (vis_of rfl)) (se_var (i := 1) rfl (vis_of rfl))))) (ss_nil)) (
  ss_cons (ss_set (i := 3) sc__law_pile.nd rfl (loc_of rfl) (se_ixL rfl (sl_disp (sa_cons (se_int) (sa_cons (se_bin f_mod (se_typ (f_int) rfl T.none_int (by first | rfl | decide +kernel) (sa_cons (se_var (i := 2) rfl (vis_of rfl)) (sa_nil))) (se_bin f_mul (se_bin f_mul (se_bin f_pow (se_int) (se_int)) (se_bin f_pow (se_int) (se_int))) (se_bin f_pow (se_int) (se_int)))) (sa_nil)))) (se_typ (f_int) rfl T.none_int (by first | rfl | decide +kernel) (sa_cons (se_cmp f_ge (se_blt (f_abs) rfl T.none_abs (by first | rfl | decide +kernel) (sa_cons (se_var (i := 2) rfl (vis_of rfl)) (sa_nil))) (se_bin f_pow (se_int) (se_int))) (sa_nil))))) (
  ss_one (ss_ret (se_new (sl_disp (sa_cons (se_var (i := 3) rfl (vis_of rfl)) (sa_cons (se_bin f_mod (se_typ (f_int) rfl T.none_int (by first | rfl | decide +kernel) (sa_cons (se_var (i := 2) rfl (vis_of rfl)) (sa_nil))) (se_int)) (sa_cons (se_bin f_mul (se_int) (se_var (i := 1) rfl (vis_of rfl))) (sa_cons (se_cmp f_lt (se_var (i := 1) rfl (vis_of rfl)) (se_int)) (sa_nil)))))))))))
theorem sc_NoName___init__ : ScopeS ["self", "value"] ["self", "value"] (defScope st_NoName___init__) := ⟨rfl, rfl, rfl, by decide +kernel, rfl, by decide +kernel, by decide +kernel, by decide +kernel⟩
theorem exc_NoName (T : Txt P K mg cl base) : Exc1T P w K mg base (⟨K, cl⟩ : G) "NoName" "NoName" 1 [118, 97, 108, 117, 101] [110, 111, 116, 32, 97, 32, 110, 97, 109, 101] "value" := by
  obtain ⟨fi, D, A⟩ := T.exc_NoName
  exact exc1T_of (k := 0) T.m_NoName D A T.xno_NoName_value rfl (by decide +kernel) sc_NoName___init__ rfl rfl rfl rfl (fun _ _ _ _ _ _ us hl => match us, hl with | [_, _], _ => rfl) (fun _ _ _ _ _ _ _ _ => rfl) (by decide +kernel) (vis_of rfl) (vis_of rfl) (by decide) (by decide) (fun _ => rfl) (fun _ => rfl) (fun _ => rfl)
theorem sc_NoValue___init__ : ScopeS ["self", "value"] ["self", "value"] (defScope st_NoValue___init__) := ⟨rfl, rfl, rfl, by decide +kernel, rfl, by decide +kernel, by decide +kernel, by decide +kernel⟩
theorem exc_NoValue (T : Txt P K mg cl base) : Exc1T P w K mg base (⟨K, cl⟩ : G) "NoValue" "NoValue" 1 [118, 97, 108, 117, 101] [110, 111, 116, 32, 97, 32, 118, 97, 108, 117, 101] "value" := by
  obtain ⟨fi, D, A⟩ := T.exc_NoValue
  exact exc1T_of (k := 0) T.m_NoValue D A T.xno_NoValue_value rfl (by decide +kernel) sc_NoValue___init__ rfl rfl rfl rfl (fun _ _ _ _ _ _ us hl => match us, hl with | [_, _], _ => rfl) (fun _ _ _ _ _ _ _ _ => rfl) (by decide +kernel) (vis_of rfl) (vis_of rfl) (by decide) (by decide) (fun _ => rfl) (fun _ => rfl) (fun _ => rfl)
theorem sc_NoOperator___init__ : ScopeS ["self", "value"] ["self", "value"] (defScope st_NoOperator___init__) := ⟨rfl, rfl, rfl, by decide +kernel, rfl, by decide +kernel, by decide +kernel, by decide +kernel⟩
theorem exc_NoOperator (T : Txt P K mg cl base) : Exc1T P w K mg base (⟨K, cl⟩ : G) "NoOperator" "NoOperator" 1 [118, 97, 108, 117, 101] [110, 111, 116, 32, 97, 110, 32, 111, 112, 101, 114, 97, 116, 111, 114] "value" := by
  obtain ⟨fi, D, A⟩ := T.exc_NoOperator
  exact exc1T_of (k := 0) T.m_NoOperator D A T.xno_NoOperator_value rfl (by decide +kernel) sc_NoOperator___init__ rfl rfl rfl rfl (fun _ _ _ _ _ _ us hl => match us, hl with | [_, _], _ => rfl) (fun _ _ _ _ _ _ _ _ => rfl) (by decide +kernel) (vis_of rfl) (vis_of rfl) (by decide) (by decide) (fun _ => rfl) (fun _ => rfl) (fun _ => rfl)
theorem sc_NoStatement___init__ : ScopeS ["self", "value"] ["self", "value"] (defScope st_NoStatement___init__) := ⟨rfl, rfl, rfl, by decide +kernel, rfl, by decide +kernel, by decide +kernel, by decide +kernel⟩
theorem exc_NoStatement (T : Txt P K mg cl base) : Exc1T P w K mg base (⟨K, cl⟩ : G) "NoStatement" "NoStatement" 1 [118, 97, 108, 117, 101] [110, 111, 116, 32, 97, 32, 115, 116, 97, 116, 101, 109, 101, 110, 116] "value" := by
  obtain ⟨fi, D, A⟩ := T.exc_NoStatement
  exact exc1T_of (k := 0) T.m_NoStatement D A T.xno_NoStatement_value rfl (by decide +kernel) sc_NoStatement___init__ rfl rfl rfl rfl (fun _ _ _ _ _ _ us hl => match us, hl with | [_, _], _ => rfl) (fun _ _ _ _ _ _ _ _ => rfl) (by decide +kernel) (vis_of rfl) (vis_of rfl) (by decide) (by decide) (fun _ => rfl) (fun _ => rfl) (fun _ => rfl)
theorem sc_NoText___init__ : ScopeS ["self", "value"] ["self", "value"] (defScope st_NoText___init__) := ⟨rfl, rfl, rfl, by decide +kernel, rfl, by decide +kernel, by decide +kernel, by decide +kernel⟩
theorem exc_NoText (T : Txt P K mg cl base) : Exc1T P w K mg base (⟨K, cl⟩ : G) "NoText" "NoText" 1 [118, 97, 108, 117, 101] [110, 111, 116, 104, 105, 110, 103, 32, 104, 97, 115, 32, 116, 104, 105, 115, 32, 116, 101, 120, 116] "value" := by
  obtain ⟨fi, D, A⟩ := T.exc_NoText
  exact exc1T_of (k := 0) T.m_NoText D A T.xno_NoText_value rfl (by decide +kernel) sc_NoText___init__ rfl rfl rfl rfl (fun _ _ _ _ _ _ us hl => match us, hl with | [_, _], _ => rfl) (fun _ _ _ _ _ _ _ _ => rfl) (by decide +kernel) (vis_of rfl) (vis_of rfl) (by decide) (by decide) (fun _ => rfl) (fun _ => rfl) (fun _ => rfl)
theorem sc_NoNumber___init__ : ScopeS ["self", "value"] ["self", "value"] (defScope st_NoNumber___init__) := ⟨rfl, rfl, rfl, by decide +kernel, rfl, by decide +kernel, by decide +kernel, by decide +kernel⟩
theorem exc_NoNumber (T : Txt P K mg cl base) : Exc1T P w K mg base (⟨K, cl⟩ : G) "NoNumber" "NoNumber" 1 [118, 97, 108, 117, 101] [110, 111, 116, 32, 115, 117, 99, 104, 32, 97, 32, 110, 117, 109, 98, 101, 114] "value" := by
  obtain ⟨fi, D, A⟩ := T.exc_NoNumber
  exact exc1T_of (k := 0) T.m_NoNumber D A T.xno_NoNumber_value rfl (by decide +kernel) sc_NoNumber___init__ rfl rfl rfl rfl (fun _ _ _ _ _ _ us hl => match us, hl with | [_, _], _ => rfl) (fun _ _ _ _ _ _ _ _ => rfl) (by decide +kernel) (vis_of rfl) (vis_of rfl) (by decide) (by decide) (fun _ => rfl) (fun _ => rfl) (fun _ => rfl)
theorem sc_NoInputs___init__ : ScopeS ["self", "value"] ["self", "value"] (defScope st_NoInputs___init__) := ⟨rfl, rfl, rfl, by decide +kernel, rfl, by decide +kernel, by decide +kernel, by decide +kernel⟩
theorem exc_NoInputs (T : Txt P K mg cl base) : Exc1T P w K mg base (⟨K, cl⟩ : G) "NoInputs" "NoInputs" 1 [118, 97, 108, 117, 101] [110, 111, 116, 32, 105, 110, 112, 117, 116, 115] "value" := by
  obtain ⟨fi, D, A⟩ := T.exc_NoInputs
  exact exc1T_of (k := 0) T.m_NoInputs D A T.xno_NoInputs_value rfl (by decide +kernel) sc_NoInputs___init__ rfl rfl rfl rfl (fun _ _ _ _ _ _ us hl => match us, hl with | [_, _], _ => rfl) (fun _ _ _ _ _ _ _ _ => rfl) (by decide +kernel) (vis_of rfl) (vis_of rfl) (by decide) (by decide) (fun _ => rfl) (fun _ => rfl) (fun _ => rfl)
theorem sc_NoExpression___init__ : ScopeS ["self", "value"] ["self", "value"] (defScope st_NoExpression___init__) := ⟨rfl, rfl, rfl, by decide +kernel, rfl, by decide +kernel, by decide +kernel, by decide +kernel⟩
theorem exc_NoExpression (T : Txt P K mg cl base) : Exc1T P w K mg base (⟨K, cl⟩ : G) "NoExpression" "NoExpression" 1 [118, 97, 108, 117, 101] [110, 111, 116, 32, 97, 110, 32, 101, 120, 112, 114, 101, 115, 115, 105, 111, 110] "value" := by
  obtain ⟨fi, D, A⟩ := T.exc_NoExpression
  exact exc1T_of (k := 0) T.m_NoExpression D A T.xno_NoExpression_value rfl (by decide +kernel) sc_NoExpression___init__ rfl rfl rfl rfl (fun _ _ _ _ _ _ us hl => match us, hl with | [_, _], _ => rfl) (fun _ _ _ _ _ _ _ _ => rfl) (by decide +kernel) (vis_of rfl) (vis_of rfl) (by decide) (by decide) (fun _ => rfl) (fun _ => rfl) (fun _ => rfl)
theorem sc_NoPoint___init__ : ScopeS ["self", "value"] ["self", "value"] (defScope st_NoPoint___init__) := ⟨rfl, rfl, rfl, by decide +kernel, rfl, by decide +kernel, by decide +kernel, by decide +kernel⟩
theorem exc_NoPoint (T : Txt P K mg cl base) : Exc1T P w K mg base (⟨K, cl⟩ : G) "NoPoint" "NoPoint" 1 [118, 97, 108, 117, 101] [110, 111, 116, 32, 97, 32, 112, 111, 105, 110, 116] "value" := by
  obtain ⟨fi, D, A⟩ := T.exc_NoPoint
  exact exc1T_of (k := 0) T.m_NoPoint D A T.xno_NoPoint_value rfl (by decide +kernel) sc_NoPoint___init__ rfl rfl rfl rfl (fun _ _ _ _ _ _ us hl => match us, hl with | [_, _], _ => rfl) (fun _ _ _ _ _ _ _ _ => rfl) (by decide +kernel) (vis_of rfl) (vis_of rfl) (by decide) (by decide) (fun _ => rfl) (fun _ => rfl) (fun _ => rfl)
theorem sc_NoPlacement___init__ : ScopeS ["self", "value"] ["self", "value"] (defScope st_NoPlacement___init__) := ⟨rfl, rfl, rfl, by decide +kernel, rfl, by decide +kernel, by decide +kernel, by decide +kernel⟩
theorem exc_NoPlacement (T : Txt P K mg cl base) : Exc1T P w K mg base (⟨K, cl⟩ : G) "NoPlacement" "NoPlacement" 1 [118, 97, 108, 117, 101] [110, 111, 116, 32, 97, 32, 112, 108, 97, 99, 101, 109, 101, 110, 116, 32, 116, 104, 97, 116, 32, 102, 105, 116, 115] "value" := by
  obtain ⟨fi, D, A⟩ := T.exc_NoPlacement
  exact exc1T_of (k := 0) T.m_NoPlacement D A T.xno_NoPlacement_value rfl (by decide +kernel) sc_NoPlacement___init__ rfl rfl rfl rfl (fun _ _ _ _ _ _ us hl => match us, hl with | [_, _], _ => rfl) (fun _ _ _ _ _ _ _ _ => rfl) (by decide +kernel) (vis_of rfl) (vis_of rfl) (by decide) (by decide) (fun _ => rfl) (fun _ => rfl) (fun _ => rfl)
theorem sc_NoPath___init__ : ScopeS ["self", "value"] ["self", "value"] (defScope st_NoPath___init__) := ⟨rfl, rfl, rfl, by decide +kernel, rfl, by decide +kernel, by decide +kernel, by decide +kernel⟩
theorem exc_NoPath (T : Txt P K mg cl base) : Exc1T P w K mg base (⟨K, cl⟩ : G) "NoPath" "NoPath" 1 [118, 97, 108, 117, 101] [110, 111, 116, 32, 97, 32, 112, 97, 116, 104] "value" := by
  obtain ⟨fi, D, A⟩ := T.exc_NoPath
  exact exc1T_of (k := 0) T.m_NoPath D A T.xno_NoPath_value rfl (by decide +kernel) sc_NoPath___init__ rfl rfl rfl rfl (fun _ _ _ _ _ _ us hl => match us, hl with | [_, _], _ => rfl) (fun _ _ _ _ _ _ _ _ => rfl) (by decide +kernel) (vis_of rfl) (vis_of rfl) (by decide) (by decide) (fun _ => rfl) (fun _ => rfl) (fun _ => rfl)
theorem sc_NotClosed___init__ : ScopeS ["self", "value"] ["self", "value"] (defScope st_NotClosed___init__) := ⟨rfl, rfl, rfl, by decide +kernel, rfl, by decide +kernel, by decide +kernel, by decide +kernel⟩
theorem exc_NotClosed (T : Txt P K mg cl base) : Exc1T P w K mg base (⟨K, cl⟩ : G) "NotClosed" "NotClosed" 1 [118, 97, 108, 117, 101] [110, 111, 116, 32, 97, 32, 99, 108, 111, 115, 101, 100, 32, 115, 101, 116] "value" := by
  obtain ⟨fi, D, A⟩ := T.exc_NotClosed
  exact exc1T_of (k := 0) T.m_NotClosed D A T.xno_NotClosed_value rfl (by decide +kernel) sc_NotClosed___init__ rfl rfl rfl rfl (fun _ _ _ _ _ _ us hl => match us, hl with | [_, _], _ => rfl) (fun _ _ _ _ _ _ _ _ => rfl) (by decide +kernel) (vis_of rfl) (vis_of rfl) (by decide) (by decide) (fun _ => rfl) (fun _ => rfl) (fun _ => rfl)
theorem sc__law_first_ones : FnScope ["_law_which", "_law_thing"] ["_law_which", "_law_thing"] (defScope st__law_first_ones) := ⟨rfl, rfl, rfl, by decide +kernel, rfl, by decide +kernel, by decide +kernel⟩
theorem ok__law_first_ones (T : Txt P K mg cl base) : Def P w K mg base (⟨K, cl⟩ : G) "_law_first_ones" 3 ["_law_which", "_law_thing"] d__law_first_ones :=
  def_of (k := 2) T.fun__law_first_ones sc__law_first_ones fun f cdv A outer s H E hr tk hp =>
  ss_cons (ss_if (st_cmp (f_eq0 rfl hr) (se_var (i := 0) rfl (vis_of rfl)) (se_int)) (ss_one (ss_ret (se_new (sl_disp (sa_cons (se_makeXT (exc_NoName T) (hr.mono (by decide)) rfl (sa_cons (se_var (i := 1) rfl (vis_of rfl)) (sa_nil))) (sa_cons (se_makeXK (exc_NoName T) (hr.mono (by decide)) rfl (se_var (i := 1) rfl (vis_of rfl))) (sa_nil))))))) (ss_nil)) (
  ss_cons (ss_if (st_cmp (f_eq0 rfl hr) (se_var (i := 0) rfl (vis_of rfl)) (se_int)) (ss_one (ss_ret (se_new (sl_disp (sa_cons (se_makeXT (exc_NoValue T) (hr.mono (by decide)) rfl (sa_cons (se_var (i := 1) rfl (vis_of rfl)) (sa_nil))) (sa_cons (se_makeXK (exc_NoValue T) (hr.mono (by decide)) rfl (se_var (i := 1) rfl (vis_of rfl))) (sa_nil))))))) (ss_nil)) (
  ss_cons (ss_if (st_cmp (f_eq0 rfl hr) (se_var (i := 0) rfl (vis_of rfl)) (se_int)) (ss_one (ss_ret (se_new (sl_disp (sa_cons (se_makeXT (exc_NoOperator T) (hr.mono (by decide)) rfl (sa_cons (se_var (i := 1) rfl (vis_of rfl)) (sa_nil))) (sa_cons (se_makeXK (exc_NoOperator T) (hr.mono (by decide)) rfl (se_var (i := 1) rfl (vis_of rfl))) (sa_nil))))))) (ss_nil)) (
  ss_cons (ss_if (st_cmp (f_eq0 rfl hr) (se_var (i := 0) rfl (vis_of rfl)) (se_int)) (ss_one (ss_ret (se_new (sl_disp (sa_cons (se_makeXT (exc_NoStatement T) (hr.mono (by decide)) rfl (sa_cons (se_var (i := 1) rfl (vis_of rfl)) (sa_nil))) (sa_cons (se_makeXK (exc_NoStatement T) (hr.mono (by decide)) rfl (se_var (i := 1) rfl (vis_of rfl))) (sa_nil))))))) (ss_nil)) (
  ss_cons (ss_if (st_cmp (f_eq0 rfl hr) (se_var (i := 0) rfl (vis_of rfl)) (se_int)) (ss_one (ss_ret (se_new (sl_disp (sa_cons (se_makeXT (exc_NoText T) (hr.mono (by decide)) rfl (sa_cons (se_var (i := 1) rfl (vis_of rfl)) (sa_nil))) (sa_cons (se_makeXK (exc_NoText T) (hr.mono (by decide)) rfl (se_var (i := 1) rfl (vis_of rfl))) (sa_nil))))))) (ss_nil)) (
  ss_cons (ss_if (st_cmp (f_eq0 rfl hr) (se_var (i := 0) rfl (vis_of rfl)) (se_int)) (ss_one (ss_ret (se_new (sl_disp (sa_cons (se_makeXT (exc_NoNumber T) (hr.mono (by decide)) rfl (sa_cons (se_var (i := 1) rfl (vis_of rfl)) (sa_nil))) (sa_cons (se_makeXK (exc_NoNumber T) (hr.mono (by decide)) rfl (se_var (i := 1) rfl (vis_of rfl))) (sa_nil))))))) (ss_nil)) (
  ss_cons (ss_if (st_cmp (f_eq0 rfl hr) (se_var (i := 0) rfl (vis_of rfl)) (se_int)) (ss_one (ss_ret (se_new (sl_disp (sa_cons (se_makeXT (exc_NoInputs T) (hr.mono (by decide)) rfl (sa_cons (se_var (i := 1) rfl (vis_of rfl)) (sa_nil))) (sa_cons (se_makeXK (exc_NoInputs T) (hr.mono (by decide)) rfl (se_var (i := 1) rfl (vis_of rfl))) (sa_nil))))))) (ss_nil)) (
  ss_cons (ss_if (st_cmp (f_eq0 rfl hr) (se_var (i := 0) rfl (vis_of rfl)) (se_int)) (ss_one (ss_ret (se_new (sl_disp (sa_cons (se_makeXT (exc_NoExpression T) (hr.mono (by decide)) rfl (sa_cons (se_var (i := 1) rfl (vis_of rfl)) (sa_nil))) (sa_cons (se_makeXK (exc_NoExpression T) (hr.mono (by decide)) rfl (se_var (i := 1) rfl (vis_of rfl))) (sa_nil))))))) (ss_nil)) (
  ss_cons (ss_if (st_cmp (f_eq0 rfl hr) (se_var (i := 0) rfl (vis_of rfl)) (se_int)) (ss_one (ss_ret (se_new (sl_disp (sa_cons (se_makeXT (exc_NoPoint T) (hr.mono (by decide)) rfl (sa_cons (se_var (i := 1) rfl (vis_of rfl)) (sa_nil))) (sa_cons (se_makeXK (exc_NoPoint T) (hr.mono (by decide)) rfl (se_var (i := 1) rfl (vis_of rfl))) (sa_nil))))))) (ss_nil)) (
  ss_cons (ss_if (st_cmp (f_eq0 rfl hr) (se_var (i := 0) rfl (vis_of rfl)) (se_int)) (ss_one (ss_ret (se_new (sl_disp (sa_cons (se_makeXT (exc_NoPlacement T) (hr.mono (by decide)) rfl (sa_cons (se_var (i := 1) rfl (vis_of rfl)) (sa_nil))) (sa_cons (se_makeXK (exc_NoPlacement T) (hr.mono (by decide)) rfl (se_var (i := 1) rfl (vis_of rfl))) (sa_nil))))))) (ss_nil)) (
  ss_cons (ss_if (st_cmp (f_eq0 rfl hr) (se_var (i := 0) rfl (vis_of rfl)) (se_int)) (ss_one (ss_ret (se_new (sl_disp (sa_cons (se_makeXT (exc_NoPath T) (hr.mono (by decide)) rfl (sa_cons (se_var (i := 1) rfl (vis_of rfl)) (sa_nil))) (sa_cons (se_makeXK (exc_NoPath T) (hr.mono (by decide)) rfl (se_var (i := 1) rfl (vis_of rfl))) (sa_nil))))))) (ss_nil)) (
  ss_one (ss_ret (se_new (sl_disp (sa_cons (se_makeXT (exc_NotClosed T) (hr.mono (by decide)) rfl (sa_cons (se_var (i := 1) rfl (vis_of rfl)) (sa_nil))) (sa_cons (se_makeXK (exc_NotClosed T) (hr.mono (by decide)) rfl (se_var (i := 1) rfl (vis_of rfl))) (sa_nil)))))))))))))))))
theorem sc_NoPrice___init__ : ScopeS ["self", "value"] ["self", "value"] (defScope st_NoPrice___init__) := ⟨rfl, rfl, rfl, by decide +kernel, rfl, by decide +kernel, by decide +kernel, by decide +kernel⟩
theorem exc_NoPrice (T : Txt P K mg cl base) : Exc1T P w K mg base (⟨K, cl⟩ : G) "NoPrice" "NoPrice" 1 [118, 97, 108, 117, 101] [110, 111, 116, 32, 97, 32, 112, 114, 105, 99, 101] "value" := by
  obtain ⟨fi, D, A⟩ := T.exc_NoPrice
  exact exc1T_of (k := 0) T.m_NoPrice D A T.xno_NoPrice_value rfl (by decide +kernel) sc_NoPrice___init__ rfl rfl rfl rfl (fun _ _ _ _ _ _ us hl => match us, hl with | [_, _], _ => rfl) (fun _ _ _ _ _ _ _ _ => rfl) (by decide +kernel) (vis_of rfl) (vis_of rfl) (by decide) (by decide) (fun _ => rfl) (fun _ => rfl) (fun _ => rfl)
theorem sc_NoCounts___init__ : ScopeS ["self", "value"] ["self", "value"] (defScope st_NoCounts___init__) := ⟨rfl, rfl, rfl, by decide +kernel, rfl, by decide +kernel, by decide +kernel, by decide +kernel⟩
theorem exc_NoCounts (T : Txt P K mg cl base) : Exc1T P w K mg base (⟨K, cl⟩ : G) "NoCounts" "NoCounts" 1 [118, 97, 108, 117, 101] [110, 111, 116, 32, 99, 111, 117, 110, 116, 115] "value" := by
  obtain ⟨fi, D, A⟩ := T.exc_NoCounts
  exact exc1T_of (k := 0) T.m_NoCounts D A T.xno_NoCounts_value rfl (by decide +kernel) sc_NoCounts___init__ rfl rfl rfl rfl (fun _ _ _ _ _ _ us hl => match us, hl with | [_, _], _ => rfl) (fun _ _ _ _ _ _ _ _ => rfl) (by decide +kernel) (vis_of rfl) (vis_of rfl) (by decide) (by decide) (fun _ => rfl) (fun _ => rfl) (fun _ => rfl)
theorem sc_NoPairs___init__ : ScopeS ["self", "value"] ["self", "value"] (defScope st_NoPairs___init__) := ⟨rfl, rfl, rfl, by decide +kernel, rfl, by decide +kernel, by decide +kernel, by decide +kernel⟩
theorem exc_NoPairs (T : Txt P K mg cl base) : Exc1T P w K mg base (⟨K, cl⟩ : G) "NoPairs" "NoPairs" 1 [118, 97, 108, 117, 101] [110, 111, 116, 32, 115, 117, 99, 104, 32, 112, 97, 105, 114, 115] "value" := by
  obtain ⟨fi, D, A⟩ := T.exc_NoPairs
  exact exc1T_of (k := 0) T.m_NoPairs D A T.xno_NoPairs_value rfl (by decide +kernel) sc_NoPairs___init__ rfl rfl rfl rfl (fun _ _ _ _ _ _ us hl => match us, hl with | [_, _], _ => rfl) (fun _ _ _ _ _ _ _ _ => rfl) (by decide +kernel) (vis_of rfl) (vis_of rfl) (by decide) (by decide) (fun _ => rfl) (fun _ => rfl) (fun _ => rfl)
theorem sc_NoProgram___init__ : ScopeS ["self", "node"] ["self", "node"] (defScope st_NoProgram___init__) := ⟨rfl, rfl, rfl, by decide +kernel, rfl, by decide +kernel, by decide +kernel, by decide +kernel⟩
theorem exc_NoProgram (T : Txt P K mg cl base) : Exc1T P w K mg base (⟨K, cl⟩ : G) "NoProgram" "NoProgram" 1 [110, 111, 100, 101] [110, 111, 116, 32, 97, 32, 112, 114, 111, 103, 114, 97, 109] "node" := by
  obtain ⟨fi, D, A⟩ := T.exc_NoProgram
  exact exc1T_of (k := 0) T.m_NoProgram D A T.xno_NoProgram_node rfl (by decide +kernel) sc_NoProgram___init__ rfl rfl rfl rfl (fun _ _ _ _ _ _ us hl => match us, hl with | [_, _], _ => rfl) (fun _ _ _ _ _ _ _ _ => rfl) (by decide +kernel) (vis_of rfl) (vis_of rfl) (by decide) (by decide) (fun _ => rfl) (fun _ => rfl) (fun _ => rfl)
theorem sc_Idle___init__ : ScopeS ["self", "node"] ["self", "node"] (defScope st_Idle___init__) := ⟨rfl, rfl, rfl, by decide +kernel, rfl, by decide +kernel, by decide +kernel, by decide +kernel⟩
theorem exc_Idle (T : Txt P K mg cl base) : Exc1T P w K mg base (⟨K, cl⟩ : G) "Idle" "Idle" 1 [110, 111, 100, 101] [97, 32, 110, 111, 100, 101, 32, 111, 110, 32, 110, 111, 32, 99, 111, 109, 112, 108, 101, 116, 101, 32, 112, 97, 116, 104] "node" := by
  obtain ⟨fi, D, A⟩ := T.exc_Idle
  exact exc1T_of (k := 0) T.m_Idle D A T.xno_Idle_node rfl (by decide +kernel) sc_Idle___init__ rfl rfl rfl rfl (fun _ _ _ _ _ _ us hl => match us, hl with | [_, _], _ => rfl) (fun _ _ _ _ _ _ _ _ => rfl) (by decide +kernel) (vis_of rfl) (vis_of rfl) (by decide) (by decide) (fun _ => rfl) (fun _ => rfl) (fun _ => rfl)
theorem sc_NoNode___init__ : ScopeS ["self", "node"] ["self", "node"] (defScope st_NoNode___init__) := ⟨rfl, rfl, rfl, by decide +kernel, rfl, by decide +kernel, by decide +kernel, by decide +kernel⟩
theorem exc_NoNode (T : Txt P K mg cl base) : Exc1T P w K mg base (⟨K, cl⟩ : G) "NoNode" "NoNode" 1 [110, 111, 100, 101] [110, 111, 116, 32, 97, 32, 110, 111, 100, 101] "node" := by
  obtain ⟨fi, D, A⟩ := T.exc_NoNode
  exact exc1T_of (k := 0) T.m_NoNode D A T.xno_NoNode_node rfl (by decide +kernel) sc_NoNode___init__ rfl rfl rfl rfl (fun _ _ _ _ _ _ us hl => match us, hl with | [_, _], _ => rfl) (fun _ _ _ _ _ _ _ _ => rfl) (by decide +kernel) (vis_of rfl) (vis_of rfl) (by decide) (by decide) (fun _ => rfl) (fun _ => rfl) (fun _ => rfl)
theorem sc_NoEdge___init__ : ScopeS ["self", "edge"] ["self", "edge"] (defScope st_NoEdge___init__) := ⟨rfl, rfl, rfl, by decide +kernel, rfl, by decide +kernel, by decide +kernel, by decide +kernel⟩
theorem exc_NoEdge (T : Txt P K mg cl base) : Exc1T P w K mg base (⟨K, cl⟩ : G) "NoEdge" "NoEdge" 1 [101, 100, 103, 101] [110, 111, 116, 32, 97, 110, 32, 101, 100, 103, 101] "edge" := by
  obtain ⟨fi, D, A⟩ := T.exc_NoEdge
  exact exc1T_of (k := 0) T.m_NoEdge D A T.xno_NoEdge_edge rfl (by decide +kernel) sc_NoEdge___init__ rfl rfl rfl rfl (fun _ _ _ _ _ _ us hl => match us, hl with | [_, _], _ => rfl) (fun _ _ _ _ _ _ _ _ => rfl) (by decide +kernel) (vis_of rfl) (vis_of rfl) (by decide) (by decide) (fun _ => rfl) (fun _ => rfl) (fun _ => rfl)
theorem sc_NoPlace___init__ : ScopeS ["self", "place"] ["self", "place"] (defScope st_NoPlace___init__) := ⟨rfl, rfl, rfl, by decide +kernel, rfl, by decide +kernel, by decide +kernel, by decide +kernel⟩
theorem exc_NoPlace (T : Txt P K mg cl base) : Exc1T P w K mg base (⟨K, cl⟩ : G) "NoPlace" "NoPlace" 1 [112, 108, 97, 99, 101] [110, 111, 32, 115, 117, 99, 104, 32, 115, 117, 99, 99, 101, 115, 115, 111, 114] "place" := by
  obtain ⟨fi, D, A⟩ := T.exc_NoPlace
  exact exc1T_of (k := 0) T.m_NoPlace D A T.xno_NoPlace_place rfl (by decide +kernel) sc_NoPlace___init__ rfl rfl rfl rfl (fun _ _ _ _ _ _ us hl => match us, hl with | [_, _], _ => rfl) (fun _ _ _ _ _ _ _ _ => rfl) (by decide +kernel) (vis_of rfl) (vis_of rfl) (by decide) (by decide) (fun _ => rfl) (fun _ => rfl) (fun _ => rfl)
theorem sc_NoStep___init__ : ScopeS ["self", "place"] ["self", "place"] (defScope st_NoStep___init__) := ⟨rfl, rfl, rfl, by decide +kernel, rfl, by decide +kernel, by decide +kernel, by decide +kernel⟩
theorem exc_NoStep (T : Txt P K mg cl base) : Exc1T P w K mg base (⟨K, cl⟩ : G) "NoStep" "NoStep" 1 [112, 108, 97, 99, 101] [110, 111, 116, 32, 97, 32, 115, 116, 101, 112] "place" := by
  obtain ⟨fi, D, A⟩ := T.exc_NoStep
  exact exc1T_of (k := 0) T.m_NoStep D A T.xno_NoStep_place rfl (by decide +kernel) sc_NoStep___init__ rfl rfl rfl rfl (fun _ _ _ _ _ _ us hl => match us, hl with | [_, _], _ => rfl) (fun _ _ _ _ _ _ _ _ => rfl) (by decide +kernel) (vis_of rfl) (vis_of rfl) (by decide) (by decide) (fun _ => rfl) (fun _ => rfl) (fun _ => rfl)
theorem sc_NoEdit___init__ : ScopeS ["self", "name"] ["self", "name"] (defScope st_NoEdit___init__) := ⟨rfl, rfl, rfl, by decide +kernel, rfl, by decide +kernel, by decide +kernel, by decide +kernel⟩
theorem exc_NoEdit (T : Txt P K mg cl base) : Exc1T P w K mg base (⟨K, cl⟩ : G) "NoEdit" "NoEdit" 1 [110, 97, 109, 101] [110, 111, 116, 32, 97, 110, 32, 101, 100, 105, 116] "name" := by
  obtain ⟨fi, D, A⟩ := T.exc_NoEdit
  exact exc1T_of (k := 0) T.m_NoEdit D A T.xno_NoEdit_name rfl (by decide +kernel) sc_NoEdit___init__ rfl rfl rfl rfl (fun _ _ _ _ _ _ us hl => match us, hl with | [_, _], _ => rfl) (fun _ _ _ _ _ _ _ _ => rfl) (by decide +kernel) (vis_of rfl) (vis_of rfl) (by decide) (by decide) (fun _ => rfl) (fun _ => rfl) (fun _ => rfl)
theorem sc_Unfit___init__ : ScopeS ["self", "told"] ["self", "told"] (defScope st_Unfit___init__) := ⟨rfl, rfl, rfl, by decide +kernel, rfl, by decide +kernel, by decide +kernel, by decide +kernel⟩
theorem exc_Unfit (T : Txt P K mg cl base) : Exc1T P w K mg base (⟨K, cl⟩ : G) "Unfit" "Unfit" 1 [116, 111, 108, 100] [116, 104, 101, 32, 112, 108, 97, 99, 101, 109, 101, 110, 116, 32, 105, 115, 32, 110, 111, 116, 32, 102, 105, 116] "told" := by
  obtain ⟨fi, D, A⟩ := T.exc_Unfit
  exact exc1T_of (k := 0) T.m_Unfit D A T.xno_Unfit_told rfl (by decide +kernel) sc_Unfit___init__ rfl rfl rfl rfl (fun _ _ _ _ _ _ us hl => match us, hl with | [_, _], _ => rfl) (fun _ _ _ _ _ _ _ _ => rfl) (by decide +kernel) (vis_of rfl) (vis_of rfl) (by decide) (by decide) (fun _ => rfl) (fun _ => rfl) (fun _ => rfl)
theorem sc_TooLong___init__ : ScopeS ["self", "nodes"] ["self", "nodes"] (defScope st_TooLong___init__) := ⟨rfl, rfl, rfl, by decide +kernel, rfl, by decide +kernel, by decide +kernel, by decide +kernel⟩
theorem exc_TooLong (T : Txt P K mg cl base) : Exc1T P w K mg base (⟨K, cl⟩ : G) "TooLong" "TooLong" 1 [110, 111, 100, 101, 115] [116, 111, 111, 32, 109, 97, 110, 121, 32, 110, 111, 100, 101, 115] "nodes" := by
  obtain ⟨fi, D, A⟩ := T.exc_TooLong
  exact exc1T_of (k := 0) T.m_TooLong D A T.xno_TooLong_nodes rfl (by decide +kernel) sc_TooLong___init__ rfl rfl rfl rfl (fun _ _ _ _ _ _ us hl => match us, hl with | [_, _], _ => rfl) (fun _ _ _ _ _ _ _ _ => rfl) (by decide +kernel) (vis_of rfl) (vis_of rfl) (by decide) (by decide) (fun _ => rfl) (fun _ => rfl) (fun _ => rfl)
theorem sc__law_other_ones : FnScope ["_law_which", "_law_thing"] ["_law_which", "_law_thing"] (defScope st__law_other_ones) := ⟨rfl, rfl, rfl, by decide +kernel, rfl, by decide +kernel, by decide +kernel⟩
theorem ok__law_other_ones (T : Txt P K mg cl base) : Def P w K mg base (⟨K, cl⟩ : G) "_law_other_ones" 3 ["_law_which", "_law_thing"] d__law_other_ones :=
  def_of (k := 2) T.fun__law_other_ones sc__law_other_ones fun f cdv A outer s H E hr tk hp =>
  ss_cons (ss_if (st_cmp (f_eq0 rfl hr) (se_var (i := 0) rfl (vis_of rfl)) (se_int)) (ss_one (ss_ret (se_new (sl_disp (sa_cons (se_makeXT (exc_NoPrice T) (hr.mono (by decide)) rfl (sa_cons (se_var (i := 1) rfl (vis_of rfl)) (sa_nil))) (sa_cons (se_makeXK (exc_NoPrice T) (hr.mono (by decide)) rfl (se_var (i := 1) rfl (vis_of rfl))) (sa_nil))))))) (ss_nil)) (
  ss_cons (ss_if (st_cmp (f_eq0 rfl hr) (se_var (i := 0) rfl (vis_of rfl)) (se_int)) (ss_one (ss_ret (se_new (sl_disp (sa_cons (se_makeXT (exc_NoCounts T) (hr.mono (by decide)) rfl (sa_cons (se_var (i := 1) rfl (vis_of rfl)) (sa_nil))) (sa_cons (se_makeXK (exc_NoCounts T) (hr.mono (by decide)) rfl (se_var (i := 1) rfl (vis_of rfl))) (sa_nil))))))) (ss_nil)) (
  ss_cons (ss_if (st_cmp (f_eq0 rfl hr) (se_var (i := 0) rfl (vis_of rfl)) (se_int)) (ss_one (ss_ret (se_new (sl_disp (sa_cons (se_makeXT (exc_NoPairs T) (hr.mono (by decide)) rfl (sa_cons (se_var (i := 1) rfl (vis_of rfl)) (sa_nil))) (sa_cons (se_makeXK (exc_NoPairs T) (hr.mono (by decide)) rfl (se_var (i := 1) rfl (vis_of rfl))) (sa_nil))))))) (ss_nil)) (
  ss_cons (ss_if (st_cmp (f_eq0 rfl hr) (se_var (i := 0) rfl (vis_of rfl)) (se_int)) (ss_one (ss_ret (se_new (sl_disp (sa_cons (se_makeXT (exc_NoProgram T) (hr.mono (by decide)) rfl (sa_cons (se_var (i := 1) rfl (vis_of rfl)) (sa_nil))) (sa_cons (se_makeXK (exc_NoProgram T) (hr.mono (by decide)) rfl (se_var (i := 1) rfl (vis_of rfl))) (sa_nil))))))) (ss_nil)) (
  ss_cons (ss_if (st_cmp (f_eq0 rfl hr) (se_var (i := 0) rfl (vis_of rfl)) (se_int)) (ss_one (ss_ret (se_new (sl_disp (sa_cons (se_makeXT (exc_Idle T) (hr.mono (by decide)) rfl (sa_cons (se_var (i := 1) rfl (vis_of rfl)) (sa_nil))) (sa_cons (se_makeXK (exc_Idle T) (hr.mono (by decide)) rfl (se_var (i := 1) rfl (vis_of rfl))) (sa_nil))))))) (ss_nil)) (
  ss_cons (ss_if (st_cmp (f_eq0 rfl hr) (se_var (i := 0) rfl (vis_of rfl)) (se_int)) (ss_one (ss_ret (se_new (sl_disp (sa_cons (se_makeXT (exc_NoNode T) (hr.mono (by decide)) rfl (sa_cons (se_var (i := 1) rfl (vis_of rfl)) (sa_nil))) (sa_cons (se_makeXK (exc_NoNode T) (hr.mono (by decide)) rfl (se_var (i := 1) rfl (vis_of rfl))) (sa_nil))))))) (ss_nil)) (
  ss_cons (ss_if (st_cmp (f_eq0 rfl hr) (se_var (i := 0) rfl (vis_of rfl)) (se_int)) (ss_one (ss_ret (se_new (sl_disp (sa_cons (se_makeXT (exc_NoEdge T) (hr.mono (by decide)) rfl (sa_cons (se_var (i := 1) rfl (vis_of rfl)) (sa_nil))) (sa_cons (se_makeXK (exc_NoEdge T) (hr.mono (by decide)) rfl (se_var (i := 1) rfl (vis_of rfl))) (sa_nil))))))) (ss_nil)) (
  ss_cons (ss_if (st_cmp (f_eq0 rfl hr) (se_var (i := 0) rfl (vis_of rfl)) (se_int)) (ss_one (ss_ret (se_new (sl_disp (sa_cons (se_makeXT (exc_NoPlace T) (hr.mono (by decide)) rfl (sa_cons (se_var (i := 1) rfl (vis_of rfl)) (sa_nil))) (sa_cons (se_makeXK (exc_NoPlace T) (hr.mono (by decide)) rfl (se_var (i := 1) rfl (vis_of rfl))) (sa_nil))))))) (ss_nil)) (
  ss_cons (ss_if (st_cmp (f_eq0 rfl hr) (se_var (i := 0) rfl (vis_of rfl)) (se_int)) (ss_one (ss_ret (se_new (sl_disp (sa_cons (se_makeXT (exc_NoStep T) (hr.mono (by decide)) rfl (sa_cons (se_var (i := 1) rfl (vis_of rfl)) (sa_nil))) (sa_cons (se_makeXK (exc_NoStep T) (hr.mono (by decide)) rfl (se_var (i := 1) rfl (vis_of rfl))) (sa_nil))))))) (ss_nil)) (
  ss_cons (ss_if (st_cmp (f_eq0 rfl hr) (se_var (i := 0) rfl (vis_of rfl)) (se_int)) (ss_one (ss_ret (se_new (sl_disp (sa_cons (se_makeXT (exc_NoEdit T) (hr.mono (by decide)) rfl (sa_cons (se_var (i := 1) rfl (vis_of rfl)) (sa_nil))) (sa_cons (se_makeXK (exc_NoEdit T) (hr.mono (by decide)) rfl (se_var (i := 1) rfl (vis_of rfl))) (sa_nil))))))) (ss_nil)) (
  ss_cons (ss_if (st_cmp (f_eq0 rfl hr) (se_var (i := 0) rfl (vis_of rfl)) (se_int)) (ss_one (ss_ret (se_new (sl_disp (sa_cons (se_makeXT (exc_Unfit T) (hr.mono (by decide)) rfl (sa_cons (se_var (i := 1) rfl (vis_of rfl)) (sa_nil))) (sa_cons (se_makeXK (exc_Unfit T) (hr.mono (by decide)) rfl (se_var (i := 1) rfl (vis_of rfl))) (sa_nil))))))) (ss_nil)) (
  ss_one (ss_ret (se_new (sl_disp (sa_cons (se_makeXT (exc_TooLong T) (hr.mono (by decide)) rfl (sa_cons (se_var (i := 1) rfl (vis_of rfl)) (sa_nil))) (sa_cons (se_makeXK (exc_TooLong T) (hr.mono (by decide)) rfl (se_var (i := 1) rfl (vis_of rfl))) (sa_nil)))))))))))))))))
theorem okx_value_ok (T : Txt P K mg cl base) : ∀ c, okx_value c = true → XfC K (cl c) ∧ PySem.W.findIn K (.ref (cl c)) (Sh.S [118, 97, 108, 117, 101]) = some none := by
  intro c h
  simp only [okx_value, Bool.or_eq_true, beq_iff_eq] at h
  rcases h with ((((((((((((((rfl | rfl) | rfl) | rfl) | rfl) | rfl) | rfl) | rfl) | rfl) | rfl) | rfl) | rfl) | rfl) | rfl) | rfl)
  · exact ⟨T.xfc_NotClosed, T.xno_NotClosed_value⟩
  · exact ⟨T.xfc_NoName, T.xno_NoName_value⟩
  · exact ⟨T.xfc_NoValue, T.xno_NoValue_value⟩
  · exact ⟨T.xfc_NoOperator, T.xno_NoOperator_value⟩
  · exact ⟨T.xfc_NoStatement, T.xno_NoStatement_value⟩
  · exact ⟨T.xfc_NoText, T.xno_NoText_value⟩
  · exact ⟨T.xfc_NoNumber, T.xno_NoNumber_value⟩
  · exact ⟨T.xfc_NoInputs, T.xno_NoInputs_value⟩
  · exact ⟨T.xfc_NoExpression, T.xno_NoExpression_value⟩
  · exact ⟨T.xfc_NoPoint, T.xno_NoPoint_value⟩
  · exact ⟨T.xfc_NoPlacement, T.xno_NoPlacement_value⟩
  · exact ⟨T.xfc_NoPath, T.xno_NoPath_value⟩
  · exact ⟨T.xfc_NoPrice, T.xno_NoPrice_value⟩
  · exact ⟨T.xfc_NoCounts, T.xno_NoCounts_value⟩
  · exact ⟨T.xfc_NoPairs, T.xno_NoPairs_value⟩
theorem okx_node_ok (T : Txt P K mg cl base) : ∀ c, okx_node c = true → XfC K (cl c) ∧ PySem.W.findIn K (.ref (cl c)) (Sh.S [110, 111, 100, 101]) = some none := by
  intro c h
  simp only [okx_node, Bool.or_eq_true, beq_iff_eq] at h
  rcases h with ((rfl | rfl) | rfl)
  · exact ⟨T.xfc_NoProgram, T.xno_NoProgram_node⟩
  · exact ⟨T.xfc_Idle, T.xno_Idle_node⟩
  · exact ⟨T.xfc_NoNode, T.xno_NoNode_node⟩
theorem okx_edge_ok (T : Txt P K mg cl base) : ∀ c, okx_edge c = true → XfC K (cl c) ∧ PySem.W.findIn K (.ref (cl c)) (Sh.S [101, 100, 103, 101]) = some none := by
  intro c h
  simp only [okx_edge, Bool.or_eq_true, beq_iff_eq] at h
  rcases h with rfl
  · exact ⟨T.xfc_NoEdge, T.xno_NoEdge_edge⟩
theorem okx_place_ok (T : Txt P K mg cl base) : ∀ c, okx_place c = true → XfC K (cl c) ∧ PySem.W.findIn K (.ref (cl c)) (Sh.S [112, 108, 97, 99, 101]) = some none := by
  intro c h
  simp only [okx_place, Bool.or_eq_true, beq_iff_eq] at h
  rcases h with (rfl | rfl)
  · exact ⟨T.xfc_NoPlace, T.xno_NoPlace_place⟩
  · exact ⟨T.xfc_NoStep, T.xno_NoStep_place⟩
theorem okx_name_ok (T : Txt P K mg cl base) : ∀ c, okx_name c = true → XfC K (cl c) ∧ PySem.W.findIn K (.ref (cl c)) (Sh.S [110, 97, 109, 101]) = some none := by
  intro c h
  simp only [okx_name, Bool.or_eq_true, beq_iff_eq] at h
  rcases h with rfl
  · exact ⟨T.xfc_NoEdit, T.xno_NoEdit_name⟩
theorem okx_told_ok (T : Txt P K mg cl base) : ∀ c, okx_told c = true → XfC K (cl c) ∧ PySem.W.findIn K (.ref (cl c)) (Sh.S [116, 111, 108, 100]) = some none := by
  intro c h
  simp only [okx_told, Bool.or_eq_true, beq_iff_eq] at h
  rcases h with rfl
  · exact ⟨T.xfc_Unfit, T.xno_Unfit_told⟩
theorem okx_nodes_ok (T : Txt P K mg cl base) : ∀ c, okx_nodes c = true → XfC K (cl c) ∧ PySem.W.findIn K (.ref (cl c)) (Sh.S [110, 111, 100, 101, 115]) = some none := by
  intro c h
  simp only [okx_nodes, Bool.or_eq_true, beq_iff_eq] at h
  rcases h with rfl
  · exact ⟨T.xfc_TooLong, T.xno_TooLong_nodes⟩
theorem sc__law_value_of : FnScope ["_law_which", "_law_error"] ["_law_which", "_law_error"] (defScope st__law_value_of) := ⟨rfl, rfl, rfl, by decide +kernel, rfl, by decide +kernel, by decide +kernel⟩
theorem ok__law_value_of (T : Txt P K mg cl base) : Def P w K mg base (⟨K, cl⟩ : G) "_law_value_of" 1 ["_law_which", "_law_error"] d__law_value_of :=
  def_of (k := 0) T.fun__law_value_of sc__law_value_of fun f cdv A outer s H E hr tk hp =>
  ss_cons (ss_if (st_cmp f_lt (se_var (i := 0) rfl (vis_of rfl)) (se_int)) (ss_one (ss_ret (se_xattr (se_var (i := 1) rfl (vis_of rfl)) (okx_value_ok T) (by decide +kernel)))) (ss_nil)) (
  ss_cons (ss_if (st_cmp f_lt (se_var (i := 0) rfl (vis_of rfl)) (se_int)) (ss_one (ss_ret (se_xattr (se_var (i := 1) rfl (vis_of rfl)) (okx_node_ok T) (by decide +kernel)))) (ss_nil)) (
  ss_cons (ss_if (st_cmp (f_eq0 rfl hr) (se_var (i := 0) rfl (vis_of rfl)) (se_int)) (ss_one (ss_ret (se_xattr (se_var (i := 1) rfl (vis_of rfl)) (okx_edge_ok T) (by decide +kernel)))) (ss_nil)) (
  ss_cons (ss_if (st_cmp f_lt (se_var (i := 0) rfl (vis_of rfl)) (se_int)) (ss_one (ss_ret (se_xattr (se_var (i := 1) rfl (vis_of rfl)) (okx_place_ok T) (by decide +kernel)))) (ss_nil)) (
  ss_cons (ss_if (st_cmp (f_eq0 rfl hr) (se_var (i := 0) rfl (vis_of rfl)) (se_int)) (ss_one (ss_ret (se_xattr (se_var (i := 1) rfl (vis_of rfl)) (okx_name_ok T) (by decide +kernel)))) (ss_nil)) (
  ss_cons (ss_if (st_cmp (f_eq0 rfl hr) (se_var (i := 0) rfl (vis_of rfl)) (se_int)) (ss_one (ss_ret (se_xattr (se_var (i := 1) rfl (vis_of rfl)) (okx_told_ok T) (by decide +kernel)))) (ss_nil)) (
  ss_one (ss_ret (se_xattr (se_var (i := 1) rfl (vis_of rfl)) (okx_nodes_ok T) (by decide +kernel)))))))))
theorem sc_NothingToUndo___init__ : ScopeS ["self"] ["self"] (defScope st_NothingToUndo___init__) := ⟨rfl, rfl, rfl, by decide +kernel, rfl, by decide +kernel, by decide +kernel, by decide +kernel⟩
theorem exc_NothingToUndo (T : Txt P K mg cl base) : Exc0 P w K mg base (⟨K, cl⟩ : G) "NothingToUndo" "NothingToUndo" 1 := by
  obtain ⟨fi, D, A⟩ := T.exc_NothingToUndo
  exact exc0_of (k := 0) T.m_NothingToUndo D A rfl sc_NothingToUndo___init__ rfl rfl rfl rfl (fun _ _ _ _ _ _ us hl => match us, hl with | [_], _ => rfl) (fun _ => rfl) (fun _ => rfl)
theorem isiL_ok (T : Txt P K mg cl base) : ∀ p ∈ isiL, PySem.W.kitOne K (p.1.1.val (⟨K, cl⟩ : G)) (p.1.2.val (⟨K, cl⟩ : G)) = some p.2 := by
  unfold isiL
  simp only [List.forall_mem_cons]
  exact ⟨(L2.kit_ty (by decide +kernel)), (L2.kit_ty (by decide +kernel)), (L2.kit_ty (by decide +kernel)), (L2.kit_ty (by decide +kernel)), (L2.kit_ty (by decide +kernel)), (L2.kit_ty (by decide +kernel)), (L2.kit_ty (by decide +kernel)), (L2.kit_ty (by decide +kernel)), (L2.kit_ty (by decide +kernel)), (L2.kit_ty (by decide +kernel)), (L2.kit_ty (by decide +kernel)), (L2.kit_ty (by decide +kernel)), (L2.kit_ty (by decide +kernel)), (L2.kit_ty (by decide +kernel)), by simp⟩
theorem fam_ok (T : Txt P K mg cl base) : ∀ c ∈ famL, FamK K (cl c) (cl "PlaceError") := by
  unfold famL
  simp only [List.forall_mem_cons]
  exact ⟨T.fam_NotClosed, T.fam_NoName, T.fam_NoValue, T.fam_NoOperator, T.fam_NoStatement, T.fam_NoText, T.fam_NoNumber, T.fam_NoInputs, T.fam_NoExpression, T.fam_NoPoint, T.fam_NoPlacement, T.fam_NoPath, T.fam_TooLong, T.fam_NoPrice, T.fam_NoCounts, T.fam_NoPairs, T.fam_NoProgram, T.fam_Idle, T.fam_NoNode, T.fam_NoEdge, T.fam_NoPlace, T.fam_NoStep, T.fam_NoEdit, T.fam_Unfit, T.fam_NothingToUndo, by simp⟩
theorem famx_ok (T : Txt P K mg cl base) : ∀ c ∈ famL, XisK K (cl c) := by
  unfold famL
  simp only [List.forall_mem_cons]
  exact ⟨T.xis_NotClosed, T.xis_NoName, T.xis_NoValue, T.xis_NoOperator, T.xis_NoStatement, T.xis_NoText, T.xis_NoNumber, T.xis_NoInputs, T.xis_NoExpression, T.xis_NoPoint, T.xis_NoPlacement, T.xis_NoPath, T.xis_TooLong, T.xis_NoPrice, T.xis_NoCounts, T.xis_NoPairs, T.xis_NoProgram, T.xis_Idle, T.xis_NoNode, T.xis_NoEdge, T.xis_NoPlace, T.xis_NoStep, T.xis_NoEdit, T.xis_Unfit, T.xis_NothingToUndo, by simp⟩
theorem isi_ok (T : Txt P K mg cl base) : IsiK K (⟨K, cl⟩ : G) isiT := by
  obtain ⟨⟨cd, h1⟩, h2⟩ := T.fpe
  exact fam_isi (fam_ok T) (famx_ok T) T.fnod T.fnpe h1 h2 (isiL_ok T) (by
    unfold isiL
    simp only [List.forall_mem_cons]
    exact ⟨⟨_, rfl⟩, ⟨_, rfl⟩, ⟨_, rfl⟩, ⟨_, rfl⟩, ⟨_, rfl⟩, ⟨_, rfl⟩, ⟨_, rfl⟩, ⟨_, rfl⟩, ⟨_, rfl⟩, ⟨_, rfl⟩, ⟨_, rfl⟩, ⟨_, rfl⟩, ⟨_, rfl⟩, ⟨_, rfl⟩, by simp⟩)
theorem sc__law_alike : FnScope ["_law_one", "_law_other"] ["_law_one", "_law_other"] (defScope st__law_alike) := ⟨rfl, rfl, rfl, by decide +kernel, rfl, by decide +kernel, by decide +kernel⟩
theorem ok__law_alike (T : Txt P K mg cl base) : Def P w K mg base (⟨K, cl⟩ : G) "_law_alike" 1 ["_law_one", "_law_other"] d__law_alike :=
  def_of (k := 0) T.fun__law_alike sc__law_alike fun f cdv A outer s H E hr tk hp =>
  ss_one (ss_ret (se_cmp (f_eq0 rfl hr) (se_blt (f_reprX rfl hr T.sys) rfl T.none_repr (by first | rfl | decide +kernel) (sa_cons (se_var (i := 0) rfl (vis_of rfl)) (sa_nil))) (se_blt (f_reprX rfl hr T.sys) rfl T.none_repr (by first | rfl | decide +kernel) (sa_cons (se_var (i := 1) rfl (vis_of rfl)) (sa_nil)))))
theorem ok_str_ok (T : Txt P K mg cl base) : ∀ c, ok_str c = true → StrK K (cl c) := by
  intro c h
  simp only [ok_str, Bool.or_eq_true, beq_iff_eq] at h
  rcases h with (((((((((((((((((((((((rfl | rfl) | rfl) | rfl) | rfl) | rfl) | rfl) | rfl) | rfl) | rfl) | rfl) | rfl) | rfl) | rfl) | rfl) | rfl) | rfl) | rfl) | rfl) | rfl) | rfl) | rfl) | rfl) | rfl)
  · exact T.strk_NotClosed
  · exact T.strk_NoName
  · exact T.strk_NoValue
  · exact T.strk_NoOperator
  · exact T.strk_NoStatement
  · exact T.strk_NoText
  · exact T.strk_NoNumber
  · exact T.strk_NoInputs
  · exact T.strk_NoExpression
  · exact T.strk_NoPoint
  · exact T.strk_NoPlacement
  · exact T.strk_NoPath
  · exact T.strk_TooLong
  · exact T.strk_NoPrice
  · exact T.strk_NoCounts
  · exact T.strk_NoPairs
  · exact T.strk_NoProgram
  · exact T.strk_Idle
  · exact T.strk_NoNode
  · exact T.strk_NoEdge
  · exact T.strk_NoPlace
  · exact T.strk_NoStep
  · exact T.strk_NoEdit
  · exact T.strk_Unfit
theorem sc__law_kept : FnScope ["_law_which", "_law_thing", "_law_values", "_law_both", "_law_error"] ["_law_which", "_law_thing"] (defScope st__law_kept) := ⟨rfl, rfl, rfl, by decide +kernel, rfl, by decide +kernel, by decide +kernel⟩
theorem ok__law_kept (T : Txt P K mg cl base) : Def P w K mg base (⟨K, cl⟩ : G) "_law_kept" 4 ["_law_which", "_law_thing"] d__law_kept :=
  def_of (k := 3) T.fun__law_kept sc__law_kept fun f cdv A outer s H E hr tk hp =>
  ss_cons (ss_if (st_cmp f_lt (se_var (i := 0) rfl (vis_of rfl)) (se_int)) (ss_one (ss_set (i := 3) sc__law_kept.nd rfl (loc_of rfl) (se_call tk (ok__law_first_ones T) arity_defn (hr.mono (by decide)) rfl (sa_cons (se_var (i := 0) rfl (vis_of rfl)) (sa_cons (se_var (i := 1) rfl (vis_of rfl)) (sa_nil)))))) (ss_one (ss_set (i := 3) sc__law_kept.nd rfl (loc_of rfl) (se_call tk (ok__law_other_ones T) arity_defn (hr.mono (by decide)) rfl (sa_cons (se_var (i := 0) rfl (vis_of rfl)) (sa_cons (se_var (i := 1) rfl (vis_of rfl)) (sa_nil))))))) (
  ss_cons (ss_setLc (i := 2) (own := [("_law_error", 4)]) (h := gSet 4) (t := tYesB) (fe := eCall d__law_value_of (aCons (eVar 0) (aCons (eVar 4) (aNil)))) rfl sc__law_kept.nd rfl rfl rfl (si_val rfl (se_var (i := 3) rfl (vis_of rfl))) (blkOk_by rfl) (fun _ _ _ _ _ => sg_name (i := 4) sc__law_kept.nd rfl (loc_of rfl)) (fun _ _ _ _ _ => sts_nil) (fun _ _ _ _ _ => se_call Sh.takes0 (ok__law_value_of T) arity_defn (hr.mono (by decide)) rfl (sa_cons (se_var (i := 0) rfl (vis_of rfl)) (sa_cons (se_var (i := 4) rfl (vis_of rfl)) (sa_nil))))) (
  ss_cons (ss_if (st_val (se_blt (f_isi rfl (isi_ok T)) rfl T.none_isinstance (by first | rfl | decide +kernel) (sa_cons (se_var (i := 1) rfl (vis_of rfl)) (sa_cons (se_bltn rfl T.none_list (by first | rfl | decide +kernel)) (sa_nil))))) (ss_one (ss_expr (se_app (se_var (i := 1) rfl (vis_of rfl)) (sa_cons (se_str (l := [109, 97, 114, 107]) (by decide +kernel)) (sa_nil))))) (ss_one (ss_dput ⟨_, hr⟩ (se_var (i := 1) rfl (vis_of rfl)) (se_str (l := [109, 97, 114, 107]) (by decide +kernel)) (se_int)))) (
  ss_one (ss_ret (se_and (se_call tk (ok__law_alike T) arity_defn (hr.mono (by decide)) rfl (sa_cons (se_var (i := 2) rfl (vis_of rfl)) (sa_cons (se_new (sl_disp (sa_cons (se_var (i := 1) rfl (vis_of rfl)) (sa_cons (se_var (i := 1) rfl (vis_of rfl)) (sa_nil))))) (sa_nil)))) (se_one (se_cmp (f_eq0 rfl hr) (se_new (sl_comp (own := [("_law_error", 4)]) (h := gSet 4) (t := tNot (tVal (eFn (bIsi isiT) (aCons (eFn (bStrE ok_str) (aCons (eVar 4) (aNil))) (aCons (eC (.ty "str")) (aNil)))))) (fe := eVar 4) rfl sc__law_kept.nd (si_val rfl (se_var (i := 3) rfl (vis_of rfl))) (blkOk_by rfl) (fun _ _ _ _ _ => sg_name (i := 4) sc__law_kept.nd rfl (loc_of rfl)) (fun _ _ _ _ _ => sts_one (st_not (st_val (se_blt (f_isi rfl (isi_ok T)) rfl T.none_isinstance (by first | rfl | decide +kernel) (sa_cons (se_typ (f_strE hr.ru (ok_str_ok T)) rfl T.none_str (by first | rfl | decide +kernel) (sa_cons (se_var (i := 4) rfl (vis_of rfl)) (sa_nil))) (sa_cons (se_bltn rfl T.none_str (by first | rfl | decide +kernel)) (sa_nil))))))) (fun _ _ _ _ _ => se_var (i := 4) rfl (vis_of rfl)))) (se_new (sl_disp (sa_nil))))))))))
theorem sc__law_mixed : FnScope ["_law_cell", "_law_k", "_law_figure"] ["_law_cell", "_law_k"] (defScope st__law_mixed) := ⟨rfl, rfl, rfl, by decide +kernel, rfl, by decide +kernel, by decide +kernel⟩
theorem ok__law_mixed (T : Txt P K mg cl base) : Def P w K mg base (⟨K, cl⟩ : G) "_law_mixed" 1 ["_law_cell", "_law_k"] d__law_mixed :=
  def_of (k := 0) T.fun__law_mixed sc__law_mixed fun f cdv A outer s H E hr tk hp =>
  ss_cons (ss_set (i := 2) sc__law_mixed.nd rfl (loc_of rfl) (se_bin f_mod (se_typ (f_int) rfl T.none_int (by first | rfl | decide +kernel) (sa_cons (se_bin (f_add rfl) (se_bin (f_add rfl) (se_bin f_mul (se_bin f_mod (se_typ (f_int) rfl T.none_int (by first | rfl | decide +kernel) (sa_cons (se_var (i := 0) rfl (vis_of rfl)) (sa_nil))) (se_int)) (se_int)) (se_bin f_mul (se_var (i := 1) rfl (vis_of rfl)) (se_int))) (se_int)) (sa_nil))) (se_int))) (
  ss_cons (ss_set (i := 2) sc__law_mixed.nd rfl (loc_of rfl) (se_bin f_mod (se_typ (f_int) rfl T.none_int (by first | rfl | decide +kernel) (sa_cons (se_bin f_mul (se_var (i := 2) rfl (vis_of rfl)) (se_var (i := 2) rfl (vis_of rfl))) (sa_nil))) (se_int))) (
  ss_one (ss_ret (se_bin f_div (se_bin f_mod (se_typ (f_int) rfl T.none_int (by first | rfl | decide +kernel) (sa_cons (se_bin f_mul (se_var (i := 2) rfl (vis_of rfl)) (se_var (i := 2) rfl (vis_of rfl))) (sa_nil))) (se_int)) (se_int)))))
theorem sc__law_take : FnScope ["_law_pile_here", "_law_many", "_law_digit"] ["_law_pile_here", "_law_many"] (defScope st__law_take) := ⟨rfl, rfl, rfl, by decide +kernel, rfl, by decide +kernel, by decide +kernel⟩
theorem ok__law_take (T : Txt P K mg cl base) : Def P w K mg base (⟨K, cl⟩ : G) "_law_take" 2 ["_law_pile_here", "_law_many"] d__law_take :=
  def_of (k := 1) T.fun__law_take sc__law_take fun f cdv A outer s H E hr tk hp =>
  ss_cons (ss_if (st_inL rfl (se_ix rfl (se_var (i := 0) rfl (vis_of rfl)) (se_int)) (sl_disp (sa_cons (se_int) (sa_cons (se_un f_neg (se_int)) (sa_nil))))) (ss_cons (ss_put (se_var (i := 0) rfl (vis_of rfl)) (se_int) (se_bin (f_add rfl) (se_ix rfl (se_var (i := 0) rfl (vis_of rfl)) (se_int)) (se_int))) (
  ss_one (ss_ret (se_bin f_mod (se_typ (f_int) rfl T.none_int (by first | rfl | decide +kernel) (sa_cons (se_call tk (ok__law_mixed T) arity_defn (hr.mono (by decide)) rfl (sa_cons (se_ix rfl (se_var (i := 0) rfl (vis_of rfl)) (se_int)) (sa_cons (se_ix rfl (se_var (i := 0) rfl (vis_of rfl)) (se_int)) (sa_nil)))) (sa_nil))) (se_var (i := 1) rfl (vis_of rfl)))))) (ss_nil)) (
  ss_cons (ss_set (i := 2) sc__law_take.nd rfl (loc_of rfl) (se_bin f_mod (se_typ (f_int) rfl T.none_int (by first | rfl | decide +kernel) (sa_cons (se_ix rfl (se_var (i := 0) rfl (vis_of rfl)) (se_int)) (sa_nil))) (se_var (i := 1) rfl (vis_of rfl)))) (
  ss_cons (ss_put (se_var (i := 0) rfl (vis_of rfl)) (se_int) (se_bin f_div (se_ix rfl (se_var (i := 0) rfl (vis_of rfl)) (se_int)) (se_var (i := 1) rfl (vis_of rfl)))) (
  ss_one (ss_ret (se_var (i := 2) rfl (vis_of rfl))))))
theorem sc__law_odd : FnScope ["_law_pile_here", "_law_some"] ["_law_pile_here"] (defScope st__law_odd) := ⟨rfl, rfl, rfl, by decide +kernel, rfl, by decide +kernel, by decide +kernel⟩
theorem ok__law_odd (T : Txt P K mg cl base) : Def P w K mg base (⟨K, cl⟩ : G) "_law_odd" 3 ["_law_pile_here"] d__law_odd :=
  def_of (k := 2) T.fun__law_odd sc__law_odd fun f cdv A outer s H E hr tk hp =>
  ss_cons (ss_set (i := 1) sc__law_odd.nd rfl (loc_of rfl) (se_new (sl_disp (sa_cons (se_non) (sa_cons (se_bl) (sa_cons (se_int) (sa_cons (se_str (l := [65]) (by decide +kernel)) (sa_cons (se_str (l := []) (by decide +kernel)) (sa_cons (se_tup (sa_nil)) (sa_cons (se_new (sl_disp (sa_nil))) (sa_cons (se_dict0) (sa_cons (se_str (l := [97, 49]) (by decide +kernel)) (sa_cons (se_str (l := [97, 98, 99, 100, 101, 102, 103, 104, 105]) (by decide +kernel)) (sa_cons (se_un f_neg (se_int)) (sa_cons (se_tup (sa_cons (se_str (l := [97]) (by decide +kernel)) (sa_nil))) (sa_cons (se_new (sl_disp (sa_cons (se_str (l := [97]) (by decide +kernel)) (sa_nil)))) (sa_cons (se_tup (sa_cons (se_int) (sa_cons (se_int) (sa_nil)))) (sa_cons (se_str (l := [97, 32, 98]) (by decide +kernel)) (sa_cons (se_str (l := [49]) (by decide +kernel)) (sa_nil)))))))))))))))))))) (
  ss_one (ss_ret (se_ix rfl (se_bin (f_add rfl) (se_var (i := 1) rfl (vis_of rfl)) (se_new (sl_disp (sa_cons (se_str (l := [32, 97]) (by decide +kernel)) (sa_cons (se_str (l := [97, 95]) (by decide +kernel)) (sa_cons (se_str (l := [97, 10]) (by decide +kernel)) (sa_cons (se_bl) (sa_cons (se_str (l := [97, 123]) (by decide +kernel)) (sa_cons (se_str (l := [96, 97]) (by decide +kernel)) (sa_cons (se_str (l := [97, 126]) (by decide +kernel)) (sa_nil))))))))))) (se_call tk (ok__law_take T) arity_defn (hr.mono (by decide)) rfl (sa_cons (se_var (i := 0) rfl (vis_of rfl)) (sa_cons (se_int) (sa_nil)))))))
theorem sc__law_kinds : FnScope ["_law_error", "_law_some", "_law_k", "_law_truth"] ["_law_error"] (defScope st__law_kinds) := ⟨rfl, rfl, rfl, by decide +kernel, rfl, by decide +kernel, by decide +kernel⟩
theorem ok__law_kinds (T : Txt P K mg cl base) : Def P w K mg base (⟨K, cl⟩ : G) "_law_kinds" 1 ["_law_error"] d__law_kinds :=
  def_of (k := 0) T.fun__law_kinds sc__law_kinds fun f cdv A outer s H E hr tk hp =>
  ss_cons (ss_set (i := 1) sc__law_kinds.nd rfl (loc_of rfl) (se_new (sl_disp (sa_cons (se_blt (f_isi rfl (isi_ok T)) rfl T.none_isinstance (by first | rfl | decide +kernel) (sa_cons (se_var (i := 0) rfl (vis_of rfl)) (sa_cons (se_glob rfl T.m_NoName ⟨.ref _, rfl, fun _ _ => .cls "NoName"⟩) (sa_nil)))) (sa_cons (se_blt (f_isi rfl (isi_ok T)) rfl T.none_isinstance (by first | rfl | decide +kernel) (sa_cons (se_var (i := 0) rfl (vis_of rfl)) (sa_cons (se_glob rfl T.m_NoValue ⟨.ref _, rfl, fun _ _ => .cls "NoValue"⟩) (sa_nil)))) (sa_cons (se_blt (f_isi rfl (isi_ok T)) rfl T.none_isinstance (by first | rfl | decide +kernel) (sa_cons (se_var (i := 0) rfl (vis_of rfl)) (sa_cons (se_glob rfl T.m_NoOperator ⟨.ref _, rfl, fun _ _ => .cls "NoOperator"⟩) (sa_nil)))) (sa_nil))))))) (
  ss_cons (ss_set (i := 1) sc__law_kinds.nd rfl (loc_of rfl) (se_bin (f_add rfl) (se_var (i := 1) rfl (vis_of rfl)) (se_new (sl_disp (sa_cons (se_blt (f_isi rfl (isi_ok T)) rfl T.none_isinstance (by first | rfl | decide +kernel) (sa_cons (se_var (i := 0) rfl (vis_of rfl)) (sa_cons (se_glob rfl T.m_NoStatement ⟨.ref _, rfl, fun _ _ => .cls "NoStatement"⟩) (sa_nil)))) (sa_cons (se_blt (f_isi rfl (isi_ok T)) rfl T.none_isinstance (by first | rfl | decide +kernel) (sa_cons (se_var (i := 0) rfl (vis_of rfl)) (sa_cons (se_glob rfl T.m_NoText ⟨.ref _, rfl, fun _ _ => .cls "NoText"⟩) (sa_nil)))) (sa_cons (se_blt (f_isi rfl (isi_ok T)) rfl T.none_isinstance (by first | rfl | decide +kernel) (sa_cons (se_var (i := 0) rfl (vis_of rfl)) (sa_cons (se_glob rfl T.m_NoNumber ⟨.ref _, rfl, fun _ _ => .cls "NoNumber"⟩) (sa_nil)))) (sa_nil)))))))) (
  ss_cons (ss_set (i := 1) sc__law_kinds.nd rfl (loc_of rfl) (se_bin (f_add rfl) (se_var (i := 1) rfl (vis_of rfl)) (se_new (sl_disp (sa_cons (se_blt (f_isi rfl (isi_ok T)) rfl T.none_isinstance (by first | rfl | decide +kernel) (sa_cons (se_var (i := 0) rfl (vis_of rfl)) (sa_cons (se_glob rfl T.m_NoInputs ⟨.ref _, rfl, fun _ _ => .cls "NoInputs"⟩) (sa_nil)))) (sa_cons (se_blt (f_isi rfl (isi_ok T)) rfl T.none_isinstance (by first | rfl | decide +kernel) (sa_cons (se_var (i := 0) rfl (vis_of rfl)) (sa_cons (se_glob rfl T.m_NoExpression ⟨.ref _, rfl, fun _ _ => .cls "NoExpression"⟩) (sa_nil)))) (sa_cons (se_blt (f_isi rfl (isi_ok T)) rfl T.none_isinstance (by first | rfl | decide +kernel) (sa_cons (se_var (i := 0) rfl (vis_of rfl)) (sa_cons (se_glob rfl T.m_NoPoint ⟨.ref _, rfl, fun _ _ => .cls "NoPoint"⟩) (sa_nil)))) (sa_nil)))))))) (
  ss_cons (ss_set (i := 1) sc__law_kinds.nd rfl (loc_of rfl) (se_bin (f_add rfl) (se_var (i := 1) rfl (vis_of rfl)) (se_new (sl_disp (sa_cons (se_blt (f_isi rfl (isi_ok T)) rfl T.none_isinstance (by first | rfl | decide +kernel) (sa_cons (se_var (i := 0) rfl (vis_of rfl)) (sa_cons (se_glob rfl T.m_NoPlacement ⟨.ref _, rfl, fun _ _ => .cls "NoPlacement"⟩) (sa_nil)))) (sa_cons (se_blt (f_isi rfl (isi_ok T)) rfl T.none_isinstance (by first | rfl | decide +kernel) (sa_cons (se_var (i := 0) rfl (vis_of rfl)) (sa_cons (se_glob rfl T.m_NoPath ⟨.ref _, rfl, fun _ _ => .cls "NoPath"⟩) (sa_nil)))) (sa_cons (se_blt (f_isi rfl (isi_ok T)) rfl T.none_isinstance (by first | rfl | decide +kernel) (sa_cons (se_var (i := 0) rfl (vis_of rfl)) (sa_cons (se_glob rfl T.m_NotClosed ⟨.ref _, rfl, fun _ _ => .cls "NotClosed"⟩) (sa_nil)))) (sa_nil)))))))) (
  ss_cons (ss_set (i := 1) sc__law_kinds.nd rfl (loc_of rfl) (se_bin (f_add rfl) (se_var (i := 1) rfl (vis_of rfl)) (se_new (sl_disp (sa_cons (se_blt (f_isi rfl (isi_ok T)) rfl T.none_isinstance (by first | rfl | decide +kernel) (sa_cons (se_var (i := 0) rfl (vis_of rfl)) (sa_cons (se_glob rfl T.m_NoPrice ⟨.ref _, rfl, fun _ _ => .cls "NoPrice"⟩) (sa_nil)))) (sa_cons (se_blt (f_isi rfl (isi_ok T)) rfl T.none_isinstance (by first | rfl | decide +kernel) (sa_cons (se_var (i := 0) rfl (vis_of rfl)) (sa_cons (se_glob rfl T.m_NoCounts ⟨.ref _, rfl, fun _ _ => .cls "NoCounts"⟩) (sa_nil)))) (sa_cons (se_blt (f_isi rfl (isi_ok T)) rfl T.none_isinstance (by first | rfl | decide +kernel) (sa_cons (se_var (i := 0) rfl (vis_of rfl)) (sa_cons (se_glob rfl T.m_NoPairs ⟨.ref _, rfl, fun _ _ => .cls "NoPairs"⟩) (sa_nil)))) (sa_nil)))))))) (
  ss_cons (ss_set (i := 1) sc__law_kinds.nd rfl (loc_of rfl) (se_bin (f_add rfl) (se_var (i := 1) rfl (vis_of rfl)) (se_new (sl_disp (sa_cons (se_blt (f_isi rfl (isi_ok T)) rfl T.none_isinstance (by first | rfl | decide +kernel) (sa_cons (se_var (i := 0) rfl (vis_of rfl)) (sa_cons (se_glob rfl T.m_NoProgram ⟨.ref _, rfl, fun _ _ => .cls "NoProgram"⟩) (sa_nil)))) (sa_cons (se_blt (f_isi rfl (isi_ok T)) rfl T.none_isinstance (by first | rfl | decide +kernel) (sa_cons (se_var (i := 0) rfl (vis_of rfl)) (sa_cons (se_glob rfl T.m_Idle ⟨.ref _, rfl, fun _ _ => .cls "Idle"⟩) (sa_nil)))) (sa_cons (se_blt (f_isi rfl (isi_ok T)) rfl T.none_isinstance (by first | rfl | decide +kernel) (sa_cons (se_var (i := 0) rfl (vis_of rfl)) (sa_cons (se_glob rfl T.m_NoNode ⟨.ref _, rfl, fun _ _ => .cls "NoNode"⟩) (sa_nil)))) (sa_nil)))))))) (
  ss_cons (ss_set (i := 1) sc__law_kinds.nd rfl (loc_of rfl) (se_bin (f_add rfl) (se_var (i := 1) rfl (vis_of rfl)) (se_new (sl_disp (sa_cons (se_blt (f_isi rfl (isi_ok T)) rfl T.none_isinstance (by first | rfl | decide +kernel) (sa_cons (se_var (i := 0) rfl (vis_of rfl)) (sa_cons (se_glob rfl T.m_NoEdge ⟨.ref _, rfl, fun _ _ => .cls "NoEdge"⟩) (sa_nil)))) (sa_cons (se_blt (f_isi rfl (isi_ok T)) rfl T.none_isinstance (by first | rfl | decide +kernel) (sa_cons (se_var (i := 0) rfl (vis_of rfl)) (sa_cons (se_glob rfl T.m_NoPlace ⟨.ref _, rfl, fun _ _ => .cls "NoPlace"⟩) (sa_nil)))) (sa_cons (se_blt (f_isi rfl (isi_ok T)) rfl T.none_isinstance (by first | rfl | decide +kernel) (sa_cons (se_var (i := 0) rfl (vis_of rfl)) (sa_cons (se_glob rfl T.m_NoStep ⟨.ref _, rfl, fun _ _ => .cls "NoStep"⟩) (sa_nil)))) (sa_nil)))))))) (
  ss_cons (ss_set (i := 1) sc__law_kinds.nd rfl (loc_of rfl) (se_bin (f_add rfl) (se_var (i := 1) rfl (vis_of rfl)) (se_new (sl_disp (sa_cons (se_blt (f_isi rfl (isi_ok T)) rfl T.none_isinstance (by first | rfl | decide +kernel) (sa_cons (se_var (i := 0) rfl (vis_of rfl)) (sa_cons (se_glob rfl T.m_NoEdit ⟨.ref _, rfl, fun _ _ => .cls "NoEdit"⟩) (sa_nil)))) (sa_cons (se_blt (f_isi rfl (isi_ok T)) rfl T.none_isinstance (by first | rfl | decide +kernel) (sa_cons (se_var (i := 0) rfl (vis_of rfl)) (sa_cons (se_glob rfl T.m_Unfit ⟨.ref _, rfl, fun _ _ => .cls "Unfit"⟩) (sa_nil)))) (sa_cons (se_blt (f_isi rfl (isi_ok T)) rfl T.none_isinstance (by first | rfl | decide +kernel) (sa_cons (se_var (i := 0) rfl (vis_of rfl)) (sa_cons (se_glob rfl T.m_TooLong ⟨.ref _, rfl, fun _ _ => .cls "TooLong"⟩) (sa_nil)))) (sa_nil)))))))) (
  ss_cons (ss_expr (se_app (se_var (i := 1) rfl (vis_of rfl)) (sa_cons (se_blt (f_isi rfl (isi_ok T)) rfl T.none_isinstance (by first | rfl | decide +kernel) (sa_cons (se_var (i := 0) rfl (vis_of rfl)) (sa_cons (se_glob rfl T.m_NothingToUndo ⟨.ref _, rfl, fun _ _ => .cls "NothingToUndo"⟩) (sa_nil)))) (sa_nil)))) (
  ss_one (ss_ret (se_new (sl_comp (own := [("_law_k", 2), ("_law_truth", 3)]) (h := gSeq [gSet 2, gSet 3]) (t := tTru (eVar 3)) (fe := eVar 2) rfl sc__law_kinds.nd (si_enum rfl T.none_enumerate (sq_val rfl (se_var (i := 1) rfl (vis_of rfl)))) (blkOk_by rfl) (fun _ _ _ _ _ => sg_seq rfl rfl (sgs_cons (sg_name (i := 2) sc__law_kinds.nd rfl (loc_of rfl)) (sgs_cons (sg_name (i := 3) sc__law_kinds.nd rfl (loc_of rfl)) (sgs_nil)))) (fun _ _ _ _ _ => sts_one (st_tru (se_var (i := 3) rfl (vis_of rfl)))) (fun _ _ _ _ _ => se_var (i := 2) rfl (vis_of rfl))))))))))))))
theorem sc__law_great_kept : FnScope ["_law_which", "_law_big", "_law_turn", "_law_both", "_law_error"] ["_law_which"] (defScope st__law_great_kept) := ⟨rfl, rfl, rfl, by decide +kernel, rfl, by decide +kernel, by decide +kernel⟩
theorem ok__law_great_kept (T : Txt P K mg cl base) : Def P w K mg base (⟨K, cl⟩ : G) "_law_great_kept" 4 ["_law_which"] d__law_great_kept :=
  def_of (k := 3) T.fun__law_great_kept sc__law_great_kept fun f cdv A outer s H E hr tk hp =>
  ss_cons (ss_set (i := 1) sc__law_great_kept.nd rfl (loc_of rfl) (se_int)) (
  ss_cons (ss_for hp rfl (si_range1 rfl T.none_range (sa_cons (se_int) (sa_nil))) (sg_name (i := 2) sc__law_great_kept.nd rfl (loc_of rfl)) (ss_one (ss_set (i := 1) sc__law_great_kept.nd rfl (loc_of rfl) (se_bin f_mul (se_var (i := 1) rfl (vis_of rfl)) (se_bin f_pow (se_int) (se_int)))))) (
  ss_cons (ss_if (st_cmp f_lt (se_var (i := 0) rfl (vis_of rfl)) (se_int)) (ss_one (ss_set (i := 3) sc__law_great_kept.nd rfl (loc_of rfl) (se_call tk (ok__law_first_ones T) arity_defn (hr.mono (by decide)) rfl (sa_cons (se_var (i := 0) rfl (vis_of rfl)) (sa_cons (se_var (i := 1) rfl (vis_of rfl)) (sa_nil)))))) (ss_one (ss_set (i := 3) sc__law_great_kept.nd rfl (loc_of rfl) (se_call tk (ok__law_other_ones T) arity_defn (hr.mono (by decide)) rfl (sa_cons (se_var (i := 0) rfl (vis_of rfl)) (sa_cons (se_var (i := 1) rfl (vis_of rfl)) (sa_nil))))))) (
  ss_one (ss_ret (se_cmp (f_eq0 rfl hr) (se_new (sl_comp (own := [("_law_error", 4)]) (h := gSet 4) (t := tYesB) (fe := eBin wEq0 (eCall d__law_value_of (aCons (eVar 0) (aCons (eVar 4) (aNil)))) (eVar 1)) rfl sc__law_great_kept.nd (si_val rfl (se_var (i := 3) rfl (vis_of rfl))) (blkOk_by rfl) (fun _ _ _ _ _ => sg_name (i := 4) sc__law_great_kept.nd rfl (loc_of rfl)) (fun _ _ _ _ _ => sts_nil) (fun _ _ _ _ _ => se_cmp (f_eq0 rfl hr) (se_call Sh.takes0 (ok__law_value_of T) arity_defn (hr.mono (by decide)) rfl (sa_cons (se_var (i := 0) rfl (vis_of rfl)) (sa_cons (se_var (i := 4) rfl (vis_of rfl)) (sa_nil)))) (se_var (i := 1) rfl (vis_of rfl))))) (se_new (sl_disp (sa_cons (se_bl) (sa_cons (se_bl) (sa_nil))))))))))
theorem sc_law : FnScope ["_law_script", "_law_made", "_law_k", "_law_nothing", "_law_pile_here", "_law_which", "_law_both", "_law_thing", "_law_error"] ["_law_script"] (defScope st_law) := ⟨rfl, rfl, rfl, by decide +kernel, rfl, by decide +kernel, by decide +kernel⟩
theorem run_law (T : Txt P K mg cl base) {f : Addr} {fd : FuncData} (F : Fun K "law" "law" st_law f fd) : FnG P w K mg base 5 f fd ["_law_script"] (spOf (⟨K, cl⟩ : G) d_law 1) :=
  fn_ok (k := 4) F sc_law fun cdv A outer s H E hr tk hp =>
  ss_cons (ss_set (i := 1) sc_law.nd rfl (loc_of rfl) (se_new (sl_disp (sa_nil)))) (
  ss_cons (ss_for hp rfl (si_range1 rfl T.none_range (sa_cons (se_int) (sa_nil))) (sg_name (i := 2) sc_law.nd rfl (loc_of rfl)) (ss_cons (ss_set (i := 4) sc_law.nd rfl (loc_of rfl) (se_call tk (ok__law_pile T) arity_defn (hr.mono (by decide)) rfl (sa_cons (se_var (i := 0) rfl (vis_of rfl)) (sa_cons (se_var (i := 2) rfl (vis_of rfl)) (sa_nil))))) (
  ss_one (ss_for hp rfl (si_range1 rfl T.none_range (sa_cons (se_int) (sa_nil))) (sg_name (i := 5) sc_law.nd rfl (loc_of rfl)) (ss_cons (ss_if (st_or (st_not (st_val (se_call tk (ok__law_kept T) arity_defn (hr.mono (by decide)) rfl (sa_cons (se_var (i := 5) rfl (vis_of rfl)) (sa_cons (se_new (sl_disp (sa_cons (se_var (i := 2) rfl (vis_of rfl)) (sa_nil)))) (sa_nil)))))) (st_or1 (st_not (st_val (se_call tk (ok__law_kept T) arity_defn (hr.mono (by decide)) rfl (sa_cons (se_var (i := 5) rfl (vis_of rfl)) (sa_cons (se_dict (sps_cons (se_str (l := [97]) (by decide +kernel)) (se_var (i := 2) rfl (vis_of rfl)) (sps_nil))) (sa_nil)))))))) (ss_one (ss_ret (se_bl))) (ss_nil)) (
  ss_cons (ss_set (i := 7) sc_law.nd rfl (loc_of rfl) (se_call tk (ok__law_odd T) arity_defn (hr.mono (by decide)) rfl (sa_cons (se_var (i := 4) rfl (vis_of rfl)) (sa_nil)))) (
  ss_one (ss_if (st_cmp f_lt (se_var (i := 5) rfl (vis_of rfl)) (se_int)) (ss_one (ss_expr (se_app (se_var (i := 1) rfl (vis_of rfl)) (sa_cons (se_tup (sa_cons (se_var (i := 5) rfl (vis_of rfl)) (sa_cons (se_call tk (ok__law_first_ones T) arity_defn (hr.mono (by decide)) rfl (sa_cons (se_var (i := 5) rfl (vis_of rfl)) (sa_cons (se_var (i := 7) rfl (vis_of rfl)) (sa_nil)))) (sa_cons (se_var (i := 7) rfl (vis_of rfl)) (sa_nil))))) (sa_nil))))) (ss_one (ss_expr (se_app (se_var (i := 1) rfl (vis_of rfl)) (sa_cons (se_tup (sa_cons (se_var (i := 5) rfl (vis_of rfl)) (sa_cons (se_call tk (ok__law_other_ones T) arity_defn (hr.mono (by decide)) rfl (sa_cons (se_var (i := 5) rfl (vis_of rfl)) (sa_cons (se_var (i := 7) rfl (vis_of rfl)) (sa_nil)))) (sa_cons (se_var (i := 7) rfl (vis_of rfl)) (sa_nil))))) (sa_nil))))))))))))) (
  ss_cons (ss_for hp rfl (si_val rfl (se_var (i := 1) rfl (vis_of rfl))) (sg_seq rfl rfl (sgs_cons (sg_name (i := 5) sc_law.nd rfl (loc_of rfl)) (sgs_cons (sg_name (i := 6) sc_law.nd rfl (loc_of rfl)) (sgs_cons (sg_name (i := 7) sc_law.nd rfl (loc_of rfl)) (sgs_nil))))) (ss_one (ss_for hp rfl (si_val rfl (se_var (i := 6) rfl (vis_of rfl))) (sg_name (i := 8) sc_law.nd rfl (loc_of rfl)) (ss_cons (ss_if (st_or (st_not (st_val (se_blt (f_isi rfl (isi_ok T)) rfl T.none_isinstance (by first | rfl | decide +kernel) (sa_cons (se_var (i := 8) rfl (vis_of rfl)) (sa_cons (se_glob rfl T.m_PlaceError ⟨.ref _, rfl, fun _ _ => .cls "PlaceError"⟩) (sa_nil)))))) (st_or (st_not (st_val (se_blt (f_isi rfl (isi_ok T)) rfl T.none_isinstance (by first | rfl | decide +kernel) (sa_cons (se_var (i := 8) rfl (vis_of rfl)) (sa_cons (se_bltn rfl T.none_ValueError (by first | rfl | decide +kernel)) (sa_nil)))))) (st_or1 (st_cmp (f_ne0 rfl hr) (se_call tk (ok__law_kinds T) arity_defn (hr.mono (by decide)) rfl (sa_cons (se_var (i := 8) rfl (vis_of rfl)) (sa_nil))) (se_new (sl_disp (sa_cons (se_var (i := 5) rfl (vis_of rfl)) (sa_nil)))))))) (ss_one (ss_ret (se_bl))) (ss_nil)) (
  ss_one (ss_if (st_not (st_val (se_call tk (ok__law_alike T) arity_defn (hr.mono (by decide)) rfl (sa_cons (se_call tk (ok__law_value_of T) arity_defn (hr.mono (by decide)) rfl (sa_cons (se_var (i := 5) rfl (vis_of rfl)) (sa_cons (se_var (i := 8) rfl (vis_of rfl)) (sa_nil)))) (sa_cons (se_var (i := 7) rfl (vis_of rfl)) (sa_nil)))))) (ss_one (ss_ret (se_bl))) (ss_nil))))))) (
  ss_cons (ss_if (st_cmp (f_ne0 rfl hr) (se_new (sl_comp (own := [("_law_which", 5)]) (h := gSet 5) (t := tNot (tVal (eCall d__law_great_kept (aCons (eVar 5) (aNil))))) (fe := eVar 5) rfl sc_law.nd (si_range1 rfl T.none_range (sa_cons (se_int) (sa_nil))) (blkOk_by rfl) (fun _ _ _ _ _ => sg_name (i := 5) sc_law.nd rfl (loc_of rfl)) (fun _ _ _ _ _ => sts_one (st_not (st_val (se_call Sh.takes0 (ok__law_great_kept T) arity_defn (hr.mono (by decide)) rfl (sa_cons (se_var (i := 5) rfl (vis_of rfl)) (sa_nil)))))) (fun _ _ _ _ _ => se_var (i := 5) rfl (vis_of rfl)))) (se_new (sl_disp (sa_nil)))) (ss_one (ss_ret (se_bl))) (ss_nil)) (
  ss_cons (ss_set (i := 3) sc_law.nd rfl (loc_of rfl) (se_makeX0 (exc_NothingToUndo T) (hr.mono (by decide)) rfl)) (
  ss_one (ss_ret (se_and (se_blt (f_isi rfl (isi_ok T)) rfl T.none_isinstance (by first | rfl | decide +kernel) (sa_cons (se_var (i := 3) rfl (vis_of rfl)) (sa_cons (se_glob rfl T.m_PlaceError ⟨.ref _, rfl, fun _ _ => .cls "PlaceError"⟩) (sa_nil)))) (se_one (se_cmp (f_eq0 rfl hr) (se_call tk (ok__law_kinds T) arity_defn (hr.mono (by decide)) rfl (sa_cons (se_var (i := 3) rfl (vis_of rfl)) (sa_nil))) (se_new (sl_disp (sa_cons (se_int) (sa_nil)))))))))))))
end
theorem all_mk {P : Program} {w : World} {K : PySem.W.Frag} {h : Heap} {mg : Str → Option Value} {fa : Addr} (X : K.In h) (Gn : h.Ns mainGlobals mg) (hfa : mg "law" = some (.ref fa))
    {f__law_pile C_NoName C_PlaceError xN_NoName f_NoName___init__ cda_NoName___init__ cc_NoName___init__ C_NoValue xN_NoValue f_NoValue___init__ cda_NoValue___init__ cc_NoValue___init__ C_NoOperator xN_NoOperator f_NoOperator___init__ cda_NoOperator___init__ cc_NoOperator___init__ C_NoStatement xN_NoStatement f_NoStatement___init__ cda_NoStatement___init__ cc_NoStatement___init__ C_NoText xN_NoText f_NoText___init__ cda_NoText___init__ cc_NoText___init__ C_NoNumber xN_NoNumber f_NoNumber___init__ cda_NoNumber___init__ cc_NoNumber___init__ C_NoInputs xN_NoInputs f_NoInputs___init__ cda_NoInputs___init__ cc_NoInputs___init__ C_NoExpression xN_NoExpression f_NoExpression___init__ cda_NoExpression___init__ cc_NoExpression___init__ C_NoPoint xN_NoPoint f_NoPoint___init__ cda_NoPoint___init__ cc_NoPoint___init__ C_NoPlacement xN_NoPlacement f_NoPlacement___init__ cda_NoPlacement___init__ cc_NoPlacement___init__ C_NoPath xN_NoPath f_NoPath___init__ cda_NoPath___init__ cc_NoPath___init__ C_NotClosed xN_NotClosed f_NotClosed___init__ cda_NotClosed___init__ cc_NotClosed___init__ f__law_first_ones C_NoPrice xN_NoPrice f_NoPrice___init__ cda_NoPrice___init__ cc_NoPrice___init__ C_NoCounts xN_NoCounts f_NoCounts___init__ cda_NoCounts___init__ cc_NoCounts___init__ C_NoPairs xN_NoPairs f_NoPairs___init__ cda_NoPairs___init__ cc_NoPairs___init__ C_NoProgram xN_NoProgram f_NoProgram___init__ cda_NoProgram___init__ cc_NoProgram___init__ C_Idle xN_Idle f_Idle___init__ cda_Idle___init__ cc_Idle___init__ C_NoNode xN_NoNode f_NoNode___init__ cda_NoNode___init__ cc_NoNode___init__ C_NoEdge xN_NoEdge f_NoEdge___init__ cda_NoEdge___init__ cc_NoEdge___init__ C_NoPlace xN_NoPlace f_NoPlace___init__ cda_NoPlace___init__ cc_NoPlace___init__ C_NoStep xN_NoStep f_NoStep___init__ cda_NoStep___init__ cc_NoStep___init__ C_NoEdit xN_NoEdit f_NoEdit___init__ cda_NoEdit___init__ cc_NoEdit___init__ C_Unfit xN_Unfit f_Unfit___init__ cda_Unfit___init__ cc_Unfit___init__ C_TooLong xN_TooLong f_TooLong___init__ cda_TooLong___init__ cc_TooLong___init__ f__law_other_ones f__law_value_of C_NothingToUndo xN_NothingToUndo f_NothingToUndo___init__ cda_NothingToUndo___init__ cc_NothingToUndo___init__ f__law_alike f__law_kept f__law_mixed f__law_take f__law_odd f__law_kinds f__law_great_kept f_law : Addr} {oc__law_pile kV__law_pile dc__law_pile pm__law_pile cd__law_pile ct__law_pile oc_NoName___init__ dc_NoName___init__ pm_NoName___init__ ct_NoName___init__ ccl_NoName___init__ el_NoName___init__ oc_NoValue___init__ dc_NoValue___init__ pm_NoValue___init__ ct_NoValue___init__ ccl_NoValue___init__ el_NoValue___init__ oc_NoOperator___init__ dc_NoOperator___init__ pm_NoOperator___init__ ct_NoOperator___init__ ccl_NoOperator___init__ el_NoOperator___init__ oc_NoStatement___init__ dc_NoStatement___init__ pm_NoStatement___init__ ct_NoStatement___init__ ccl_NoStatement___init__ el_NoStatement___init__ oc_NoText___init__ dc_NoText___init__ pm_NoText___init__ ct_NoText___init__ ccl_NoText___init__ el_NoText___init__ oc_NoNumber___init__ dc_NoNumber___init__ pm_NoNumber___init__ ct_NoNumber___init__ ccl_NoNumber___init__ el_NoNumber___init__ oc_NoInputs___init__ dc_NoInputs___init__ pm_NoInputs___init__ ct_NoInputs___init__ ccl_NoInputs___init__ el_NoInputs___init__ oc_NoExpression___init__ dc_NoExpression___init__ pm_NoExpression___init__ ct_NoExpression___init__ ccl_NoExpression___init__ el_NoExpression___init__ oc_NoPoint___init__ dc_NoPoint___init__ pm_NoPoint___init__ ct_NoPoint___init__ ccl_NoPoint___init__ el_NoPoint___init__ oc_NoPlacement___init__ dc_NoPlacement___init__ pm_NoPlacement___init__ ct_NoPlacement___init__ ccl_NoPlacement___init__ el_NoPlacement___init__ oc_NoPath___init__ dc_NoPath___init__ pm_NoPath___init__ ct_NoPath___init__ ccl_NoPath___init__ el_NoPath___init__ oc_NotClosed___init__ dc_NotClosed___init__ pm_NotClosed___init__ ct_NotClosed___init__ ccl_NotClosed___init__ el_NotClosed___init__ oc__law_first_ones kV__law_first_ones dc__law_first_ones pm__law_first_ones cd__law_first_ones ct__law_first_ones oc_NoPrice___init__ dc_NoPrice___init__ pm_NoPrice___init__ ct_NoPrice___init__ ccl_NoPrice___init__ el_NoPrice___init__ oc_NoCounts___init__ dc_NoCounts___init__ pm_NoCounts___init__ ct_NoCounts___init__ ccl_NoCounts___init__ el_NoCounts___init__ oc_NoPairs___init__ dc_NoPairs___init__ pm_NoPairs___init__ ct_NoPairs___init__ ccl_NoPairs___init__ el_NoPairs___init__ oc_NoProgram___init__ dc_NoProgram___init__ pm_NoProgram___init__ ct_NoProgram___init__ ccl_NoProgram___init__ el_NoProgram___init__ oc_Idle___init__ dc_Idle___init__ pm_Idle___init__ ct_Idle___init__ ccl_Idle___init__ el_Idle___init__ oc_NoNode___init__ dc_NoNode___init__ pm_NoNode___init__ ct_NoNode___init__ ccl_NoNode___init__ el_NoNode___init__ oc_NoEdge___init__ dc_NoEdge___init__ pm_NoEdge___init__ ct_NoEdge___init__ ccl_NoEdge___init__ el_NoEdge___init__ oc_NoPlace___init__ dc_NoPlace___init__ pm_NoPlace___init__ ct_NoPlace___init__ ccl_NoPlace___init__ el_NoPlace___init__ oc_NoStep___init__ dc_NoStep___init__ pm_NoStep___init__ ct_NoStep___init__ ccl_NoStep___init__ el_NoStep___init__ oc_NoEdit___init__ dc_NoEdit___init__ pm_NoEdit___init__ ct_NoEdit___init__ ccl_NoEdit___init__ el_NoEdit___init__ oc_Unfit___init__ dc_Unfit___init__ pm_Unfit___init__ ct_Unfit___init__ ccl_Unfit___init__ el_Unfit___init__ oc_TooLong___init__ dc_TooLong___init__ pm_TooLong___init__ ct_TooLong___init__ ccl_TooLong___init__ el_TooLong___init__ oc__law_other_ones kV__law_other_ones dc__law_other_ones pm__law_other_ones cd__law_other_ones ct__law_other_ones oc__law_value_of kV__law_value_of dc__law_value_of pm__law_value_of cd__law_value_of ct__law_value_of oc_NothingToUndo___init__ dc_NothingToUndo___init__ pm_NothingToUndo___init__ ct_NothingToUndo___init__ ccl_NothingToUndo___init__ el_NothingToUndo___init__ oc__law_alike kV__law_alike dc__law_alike pm__law_alike cd__law_alike ct__law_alike oc__law_kept kV__law_kept dc__law_kept pm__law_kept cd__law_kept ct__law_kept oc__law_mixed kV__law_mixed dc__law_mixed pm__law_mixed cd__law_mixed ct__law_mixed oc__law_take kV__law_take dc__law_take pm__law_take cd__law_take ct__law_take oc__law_odd kV__law_odd dc__law_odd pm__law_odd cd__law_odd ct__law_odd oc__law_kinds kV__law_kinds dc__law_kinds pm__law_kinds cd__law_kinds ct__law_kinds oc__law_great_kept kV__law_great_kept dc__law_great_kept pm__law_great_kept cd__law_great_kept ct__law_great_kept oc_law kV_law dc_law pm_law cd_law ct_law : Value} {od__law_pile an__law_pile xdd_NoName od_NoName___init__ an_NoName___init__ cdd_NoName___init__ eld_NoName___init__ xdd_NoValue od_NoValue___init__ an_NoValue___init__ cdd_NoValue___init__ eld_NoValue___init__ xdd_NoOperator od_NoOperator___init__ an_NoOperator___init__ cdd_NoOperator___init__ eld_NoOperator___init__ xdd_NoStatement od_NoStatement___init__ an_NoStatement___init__ cdd_NoStatement___init__ eld_NoStatement___init__ xdd_NoText od_NoText___init__ an_NoText___init__ cdd_NoText___init__ eld_NoText___init__ xdd_NoNumber od_NoNumber___init__ an_NoNumber___init__ cdd_NoNumber___init__ eld_NoNumber___init__ xdd_NoInputs od_NoInputs___init__ an_NoInputs___init__ cdd_NoInputs___init__ eld_NoInputs___init__ xdd_NoExpression od_NoExpression___init__ an_NoExpression___init__ cdd_NoExpression___init__ eld_NoExpression___init__ xdd_NoPoint od_NoPoint___init__ an_NoPoint___init__ cdd_NoPoint___init__ eld_NoPoint___init__ xdd_NoPlacement od_NoPlacement___init__ an_NoPlacement___init__ cdd_NoPlacement___init__ eld_NoPlacement___init__ xdd_NoPath od_NoPath___init__ an_NoPath___init__ cdd_NoPath___init__ eld_NoPath___init__ xdd_NotClosed od_NotClosed___init__ an_NotClosed___init__ cdd_NotClosed___init__ eld_NotClosed___init__ od__law_first_ones an__law_first_ones xdd_NoPrice od_NoPrice___init__ an_NoPrice___init__ cdd_NoPrice___init__ eld_NoPrice___init__ xdd_NoCounts od_NoCounts___init__ an_NoCounts___init__ cdd_NoCounts___init__ eld_NoCounts___init__ xdd_NoPairs od_NoPairs___init__ an_NoPairs___init__ cdd_NoPairs___init__ eld_NoPairs___init__ xdd_NoProgram od_NoProgram___init__ an_NoProgram___init__ cdd_NoProgram___init__ eld_NoProgram___init__ xdd_Idle od_Idle___init__ an_Idle___init__ cdd_Idle___init__ eld_Idle___init__ xdd_NoNode od_NoNode___init__ an_NoNode___init__ cdd_NoNode___init__ eld_NoNode___init__ xdd_NoEdge od_NoEdge___init__ an_NoEdge___init__ cdd_NoEdge___init__ eld_NoEdge___init__ xdd_NoPlace od_NoPlace___init__ an_NoPlace___init__ cdd_NoPlace___init__ eld_NoPlace___init__ xdd_NoStep od_NoStep___init__ an_NoStep___init__ cdd_NoStep___init__ eld_NoStep___init__ xdd_NoEdit od_NoEdit___init__ an_NoEdit___init__ cdd_NoEdit___init__ eld_NoEdit___init__ xdd_Unfit od_Unfit___init__ an_Unfit___init__ cdd_Unfit___init__ eld_Unfit___init__ xdd_TooLong od_TooLong___init__ an_TooLong___init__ cdd_TooLong___init__ eld_TooLong___init__ od__law_other_ones an__law_other_ones od__law_value_of an__law_value_of xdd_NothingToUndo od_NothingToUndo___init__ an_NothingToUndo___init__ cdd_NothingToUndo___init__ eld_NothingToUndo___init__ od__law_alike an__law_alike od__law_kept an__law_kept od__law_mixed an__law_mixed od__law_take an__law_take od__law_odd an__law_odd od__law_kinds an__law_kinds od__law_great_kept an__law_great_kept od_law an_law : Option Addr} {sl__law_pile sl_NoName___init__ ccs_NoName___init__ esl_NoName___init__ sl_NoValue___init__ ccs_NoValue___init__ esl_NoValue___init__ sl_NoOperator___init__ ccs_NoOperator___init__ esl_NoOperator___init__ sl_NoStatement___init__ ccs_NoStatement___init__ esl_NoStatement___init__ sl_NoText___init__ ccs_NoText___init__ esl_NoText___init__ sl_NoNumber___init__ ccs_NoNumber___init__ esl_NoNumber___init__ sl_NoInputs___init__ ccs_NoInputs___init__ esl_NoInputs___init__ sl_NoExpression___init__ ccs_NoExpression___init__ esl_NoExpression___init__ sl_NoPoint___init__ ccs_NoPoint___init__ esl_NoPoint___init__ sl_NoPlacement___init__ ccs_NoPlacement___init__ esl_NoPlacement___init__ sl_NoPath___init__ ccs_NoPath___init__ esl_NoPath___init__ sl_NotClosed___init__ ccs_NotClosed___init__ esl_NotClosed___init__ sl__law_first_ones sl_NoPrice___init__ ccs_NoPrice___init__ esl_NoPrice___init__ sl_NoCounts___init__ ccs_NoCounts___init__ esl_NoCounts___init__ sl_NoPairs___init__ ccs_NoPairs___init__ esl_NoPairs___init__ sl_NoProgram___init__ ccs_NoProgram___init__ esl_NoProgram___init__ sl_Idle___init__ ccs_Idle___init__ esl_Idle___init__ sl_NoNode___init__ ccs_NoNode___init__ esl_NoNode___init__ sl_NoEdge___init__ ccs_NoEdge___init__ esl_NoEdge___init__ sl_NoPlace___init__ ccs_NoPlace___init__ esl_NoPlace___init__ sl_NoStep___init__ ccs_NoStep___init__ esl_NoStep___init__ sl_NoEdit___init__ ccs_NoEdit___init__ esl_NoEdit___init__ sl_Unfit___init__ ccs_Unfit___init__ esl_Unfit___init__ sl_TooLong___init__ ccs_TooLong___init__ esl_TooLong___init__ sl__law_other_ones sl__law_value_of sl_NothingToUndo___init__ ccs_NothingToUndo___init__ esl_NothingToUndo___init__ sl__law_alike sl__law_kept sl__law_mixed sl__law_take sl__law_odd sl__law_kinds sl__law_great_kept sl_law : Array (Option Value)} {kd_NoName kd_NoValue kd_NoOperator kd_NoStatement kd_NoText kd_NoNumber kd_NoInputs kd_NoExpression kd_NoPoint kd_NoPlacement kd_NoPath kd_NotClosed kd_NoPrice kd_NoCounts kd_NoPairs kd_NoProgram kd_Idle kd_NoNode kd_NoEdge kd_NoPlace kd_NoStep kd_NoEdit kd_Unfit kd_TooLong kd_PlaceError kd_NothingToUndo : ClassData} {xnm_NoName xqn_NoName fi_NoName___init__ xnm_NoValue xqn_NoValue fi_NoValue___init__ xnm_NoOperator xqn_NoOperator fi_NoOperator___init__ xnm_NoStatement xqn_NoStatement fi_NoStatement___init__ xnm_NoText xqn_NoText fi_NoText___init__ xnm_NoNumber xqn_NoNumber fi_NoNumber___init__ xnm_NoInputs xqn_NoInputs fi_NoInputs___init__ xnm_NoExpression xqn_NoExpression fi_NoExpression___init__ xnm_NoPoint xqn_NoPoint fi_NoPoint___init__ xnm_NoPlacement xqn_NoPlacement fi_NoPlacement___init__ xnm_NoPath xqn_NoPath fi_NoPath___init__ xnm_NotClosed xqn_NotClosed fi_NotClosed___init__ xnm_NoPrice xqn_NoPrice fi_NoPrice___init__ xnm_NoCounts xqn_NoCounts fi_NoCounts___init__ xnm_NoPairs xqn_NoPairs fi_NoPairs___init__ xnm_NoProgram xqn_NoProgram fi_NoProgram___init__ xnm_Idle xqn_Idle fi_Idle___init__ xnm_NoNode xqn_NoNode fi_NoNode___init__ xnm_NoEdge xqn_NoEdge fi_NoEdge___init__ xnm_NoPlace xqn_NoPlace fi_NoPlace___init__ xnm_NoStep xqn_NoStep fi_NoStep___init__ xnm_NoEdit xqn_NoEdit fi_NoEdit___init__ xnm_Unfit xqn_Unfit fi_Unfit___init__ xnm_TooLong xqn_TooLong fi_TooLong___init__ xnm_NothingToUndo xqn_NothingToUndo fi_NothingToUndo___init__ : Str} {xbs_NoName xsub_NoName xbs_NoValue xsub_NoValue xbs_NoOperator xsub_NoOperator xbs_NoStatement xsub_NoStatement xbs_NoText xsub_NoText xbs_NoNumber xsub_NoNumber xbs_NoInputs xsub_NoInputs xbs_NoExpression xsub_NoExpression xbs_NoPoint xsub_NoPoint xbs_NoPlacement xsub_NoPlacement xbs_NoPath xsub_NoPath xbs_NotClosed xsub_NotClosed xbs_NoPrice xsub_NoPrice xbs_NoCounts xsub_NoCounts xbs_NoPairs xsub_NoPairs xbs_NoProgram xsub_NoProgram xbs_Idle xsub_Idle xbs_NoNode xsub_NoNode xbs_NoEdge xsub_NoEdge xbs_NoPlace xsub_NoPlace xbs_NoStep xsub_NoStep xbs_NoEdit xsub_NoEdit xbs_Unfit xsub_Unfit xbs_TooLong xsub_TooLong xbs_NothingToUndo xsub_NothingToUndo : List Value} {xsn_NoName xsn_NoValue xsn_NoOperator xsn_NoStatement xsn_NoText xsn_NoNumber xsn_NoInputs xsn_NoExpression xsn_NoPoint xsn_NoPlacement xsn_NoPath xsn_NotClosed xsn_NoPrice xsn_NoCounts xsn_NoPairs xsn_NoProgram xsn_Idle xsn_NoNode xsn_NoEdge xsn_NoPlace xsn_NoStep xsn_NoEdit xsn_Unfit xsn_TooLong xsn_NothingToUndo : List Str} {xab_NoName xab_NoValue xab_NoOperator xab_NoStatement xab_NoText xab_NoNumber xab_NoInputs xab_NoExpression xab_NoPoint xab_NoPlacement xab_NoPath xab_NotClosed xab_NoPrice xab_NoCounts xab_NoPairs xab_NoProgram xab_Idle xab_NoNode xab_NoEdge xab_NoPlace xab_NoStep xab_NoEdit xab_Unfit xab_TooLong xab_NothingToUndo : Bool} {xcol_NoName xcol_NoValue xcol_NoOperator xcol_NoStatement xcol_NoText xcol_NoNumber xcol_NoInputs xcol_NoExpression xcol_NoPoint xcol_NoPlacement xcol_NoPath xcol_NotClosed xcol_NoPrice xcol_NoCounts xcol_NoPairs xcol_NoProgram xcol_Idle xcol_NoNode xcol_NoEdge xcol_NoPlace xcol_NoStep xcol_NoEdit xcol_Unfit xcol_TooLong xcol_NothingToUndo : Option Bool} {xm0_NoName xm1_NoName xm2_NoName xm3_NoName xm5_NoName xm0_NoValue xm1_NoValue xm2_NoValue xm3_NoValue xm5_NoValue xm0_NoOperator xm1_NoOperator xm2_NoOperator xm3_NoOperator xm5_NoOperator xm0_NoStatement xm1_NoStatement xm2_NoStatement xm3_NoStatement xm5_NoStatement xm0_NoText xm1_NoText xm2_NoText xm3_NoText xm5_NoText xm0_NoNumber xm1_NoNumber xm2_NoNumber xm3_NoNumber xm5_NoNumber xm0_NoInputs xm1_NoInputs xm2_NoInputs xm3_NoInputs xm5_NoInputs xm0_NoExpression xm1_NoExpression xm2_NoExpression xm3_NoExpression xm5_NoExpression xm0_NoPoint xm1_NoPoint xm2_NoPoint xm3_NoPoint xm5_NoPoint xm0_NoPlacement xm1_NoPlacement xm2_NoPlacement xm3_NoPlacement xm5_NoPlacement xm0_NoPath xm1_NoPath xm2_NoPath xm3_NoPath xm5_NoPath xm0_NotClosed xm1_NotClosed xm2_NotClosed xm3_NotClosed xm5_NotClosed xm0_NoPrice xm1_NoPrice xm2_NoPrice xm3_NoPrice xm5_NoPrice xm0_NoCounts xm1_NoCounts xm2_NoCounts xm3_NoCounts xm5_NoCounts xm0_NoPairs xm1_NoPairs xm2_NoPairs xm3_NoPairs xm5_NoPairs xm0_NoProgram xm1_NoProgram xm2_NoProgram xm3_NoProgram xm5_NoProgram xm0_Idle xm1_Idle xm2_Idle xm3_Idle xm5_Idle xm0_NoNode xm1_NoNode xm2_NoNode xm3_NoNode xm5_NoNode xm0_NoEdge xm1_NoEdge xm2_NoEdge xm3_NoEdge xm5_NoEdge xm0_NoPlace xm1_NoPlace xm2_NoPlace xm3_NoPlace xm5_NoPlace xm0_NoStep xm1_NoStep xm2_NoStep xm3_NoStep xm5_NoStep xm0_NoEdit xm1_NoEdit xm2_NoEdit xm3_NoEdit xm5_NoEdit xm0_Unfit xm1_Unfit xm2_Unfit xm3_Unfit xm5_Unfit xm0_TooLong xm1_TooLong xm2_TooLong xm3_TooLong xm5_TooLong xm0_NothingToUndo xm1_NothingToUndo xm2_NothingToUndo xm3_NothingToUndo xm5_NothingToUndo : Option Value} {vs_NoName___init__ vs_NoValue___init__ vs_NoOperator___init__ vs_NoStatement___init__ vs_NoText___init__ vs_NoNumber___init__ vs_NoInputs___init__ vs_NoExpression___init__ vs_NoPoint___init__ vs_NoPlacement___init__ vs_NoPath___init__ vs_NotClosed___init__ vs_NoPrice___init__ vs_NoCounts___init__ vs_NoPairs___init__ vs_NoProgram___init__ vs_Idle___init__ vs_NoNode___init__ vs_NoEdge___init__ vs_NoPlace___init__ vs_NoStep___init__ vs_NoEdit___init__ vs_Unfit___init__ vs_TooLong___init__ vs_NothingToUndo___init__ : Array Value} {tf_NoName___init__ tf_NoValue___init__ tf_NoOperator___init__ tf_NoStatement___init__ tf_NoText___init__ tf_NoNumber___init__ tf_NoInputs___init__ tf_NoExpression___init__ tf_NoPoint___init__ tf_NoPlacement___init__ tf_NoPath___init__ tf_NotClosed___init__ tf_NoPrice___init__ tf_NoCounts___init__ tf_NoPairs___init__ tf_NoProgram___init__ tf_Idle___init__ tf_NoNode___init__ tf_NoEdge___init__ tf_NoPlace___init__ tf_NoStep___init__ tf_NoEdit___init__ tf_Unfit___init__ tf_TooLong___init__ tf_NothingToUndo___init__ : Tok}
    (z_range : PySem.W.nsIn K mainGlobals "range" = some none)
    (z_len : PySem.W.nsIn K mainGlobals "len" = some none)
    (z_int : PySem.W.nsIn K mainGlobals "int" = some none)
    (z_abs : PySem.W.nsIn K mainGlobals "abs" = some none)
    (a__law_pile : PySem.W.nsIn K mainGlobals "_law_pile" = some (some (.ref f__law_pile)))
    (l__law_pile : K.lookup f__law_pile = some ⟨oc__law_pile, od__law_pile, .func (PySem.W.fnOf "_law_pile" "_law_pile" (defArgs st__law_pile) (defBody st__law_pile) (defScope st__law_pile) .none kV__law_pile dc__law_pile pm__law_pile an__law_pile cd__law_pile ct__law_pile), sl__law_pile⟩)
    (c__law_pile : PySem.W.codeIn K cd__law_pile "_law_pile" = true)
    (k__law_pile : PySem.W.keepIn K (.ref f__law_pile) = true)
    (a_NoName : PySem.W.nsIn K mainGlobals "NoName" = some (some (.ref C_NoName)))
    (cd_NoName : PySem.W.clsIn K C_NoName = some kd_NoName)
    (ct_NoName : PySem.W.typeIn K (.ref C_NoName) = some (.type "type"))
    (eC_NoName : PySem.W.subIn K (.ref C_NoName) (.type "BaseException") = some true)
    (a_PlaceError : PySem.W.nsIn K mainGlobals "PlaceError" = some (some (.ref C_PlaceError)))
    (xl_NoName : K.lookup C_NoName = some (excClassObj xnm_NoName xqn_NoName C_NoName xN_NoName xbs_NoName [.ref C_PlaceError, .type "ValueError", .type "Exception", .type "BaseException", .type "object"] true xsn_NoName xsub_NoName xab_NoName xcol_NoName xdd_NoName xm0_NoName xm1_NoName xm2_NoName xm3_NoName xm5_NoName "ValueError.__new__"))
    (xsa_NoName : PySem.W.findIn K (.ref C_NoName) "__setattr__" = some (some (.builtin "object.__setattr__")))
    (kc_NoName : PySem.W.keepIn K (.ref C_NoName) = true)
    (mi_NoName : PySem.W.findIn K (.ref C_NoName) "__init__" = some (some (.ref f_NoName___init__)))
    (sc8_NoName___init__ : PySem.W.typeIn K (.ref f_NoName___init__) = some (.type "function"))
    (l_NoName___init__ : K.lookup f_NoName___init__ = some ⟨oc_NoName___init__, od_NoName___init__, .func (PySem.W.ksFn "__init__" "NoName.__init__" (defArgs st_NoName___init__) (defBody st_NoName___init__) (defScope st_NoName___init__) .none .none dc_NoName___init__ pm_NoName___init__ an_NoName___init__ (.ref cda_NoName___init__) ct_NoName___init__ cc_NoName___init__), sl_NoName___init__⟩)
    (c_NoName___init__ : PySem.W.codeIn K (.ref cda_NoName___init__) "NoName.__init__" = true)
    (sc1_NoName___init__ : K.lookup cda_NoName___init__ = some ⟨ccl_NoName___init__, cdd_NoName___init__, .fields vs_NoName___init__, ccs_NoName___init__⟩)
    (sc2_NoName___init__ : vs_NoName___init__[2]? = some (.str fi_NoName___init__ tf_NoName___init__))
    (sc3_NoName___init__ : ((P.main.file : Str) == fi_NoName___init__) = true)
    (sc4_NoName___init__ : K.lookup cc_NoName___init__ = some ⟨el_NoName___init__, eld_NoName___init__, .cell (some (.ref C_NoName)), esl_NoName___init__⟩)
    (xcm_NoName : PySem.W.mroIn K C_NoName (.ref C_NoName) = some true)
    (xve_NoName : PySem.W.subIn K (.ref C_NoName) (.type "ValueError") = some true)
    (xnx_NoName : PySem.W.ks_superIn K C_NoName C_NoName "__init__" = some (some (.builtin "ValueError.__init__")))
    (z_super : PySem.W.nsIn K mainGlobals "super" = some none)
    (zst : PySem.W.nsIn K PySem.cStatics "thirdparty.any" = some none)
    (ztop : (P.main.scope.names.lookup ("super" : Str)).isSome = false)
    (xno_NoName_value : PySem.W.findIn K (.ref C_NoName) "value" = some none)
    (a_NoValue : PySem.W.nsIn K mainGlobals "NoValue" = some (some (.ref C_NoValue)))
    (cd_NoValue : PySem.W.clsIn K C_NoValue = some kd_NoValue)
    (ct_NoValue : PySem.W.typeIn K (.ref C_NoValue) = some (.type "type"))
    (eC_NoValue : PySem.W.subIn K (.ref C_NoValue) (.type "BaseException") = some true)
    (xl_NoValue : K.lookup C_NoValue = some (excClassObj xnm_NoValue xqn_NoValue C_NoValue xN_NoValue xbs_NoValue [.ref C_PlaceError, .type "ValueError", .type "Exception", .type "BaseException", .type "object"] true xsn_NoValue xsub_NoValue xab_NoValue xcol_NoValue xdd_NoValue xm0_NoValue xm1_NoValue xm2_NoValue xm3_NoValue xm5_NoValue "ValueError.__new__"))
    (xsa_NoValue : PySem.W.findIn K (.ref C_NoValue) "__setattr__" = some (some (.builtin "object.__setattr__")))
    (kc_NoValue : PySem.W.keepIn K (.ref C_NoValue) = true)
    (mi_NoValue : PySem.W.findIn K (.ref C_NoValue) "__init__" = some (some (.ref f_NoValue___init__)))
    (sc8_NoValue___init__ : PySem.W.typeIn K (.ref f_NoValue___init__) = some (.type "function"))
    (l_NoValue___init__ : K.lookup f_NoValue___init__ = some ⟨oc_NoValue___init__, od_NoValue___init__, .func (PySem.W.ksFn "__init__" "NoValue.__init__" (defArgs st_NoValue___init__) (defBody st_NoValue___init__) (defScope st_NoValue___init__) .none .none dc_NoValue___init__ pm_NoValue___init__ an_NoValue___init__ (.ref cda_NoValue___init__) ct_NoValue___init__ cc_NoValue___init__), sl_NoValue___init__⟩)
    (c_NoValue___init__ : PySem.W.codeIn K (.ref cda_NoValue___init__) "NoValue.__init__" = true)
    (sc1_NoValue___init__ : K.lookup cda_NoValue___init__ = some ⟨ccl_NoValue___init__, cdd_NoValue___init__, .fields vs_NoValue___init__, ccs_NoValue___init__⟩)
    (sc2_NoValue___init__ : vs_NoValue___init__[2]? = some (.str fi_NoValue___init__ tf_NoValue___init__))
    (sc3_NoValue___init__ : ((P.main.file : Str) == fi_NoValue___init__) = true)
    (sc4_NoValue___init__ : K.lookup cc_NoValue___init__ = some ⟨el_NoValue___init__, eld_NoValue___init__, .cell (some (.ref C_NoValue)), esl_NoValue___init__⟩)
    (xcm_NoValue : PySem.W.mroIn K C_NoValue (.ref C_NoValue) = some true)
    (xve_NoValue : PySem.W.subIn K (.ref C_NoValue) (.type "ValueError") = some true)
    (xnx_NoValue : PySem.W.ks_superIn K C_NoValue C_NoValue "__init__" = some (some (.builtin "ValueError.__init__")))
    (xno_NoValue_value : PySem.W.findIn K (.ref C_NoValue) "value" = some none)
    (a_NoOperator : PySem.W.nsIn K mainGlobals "NoOperator" = some (some (.ref C_NoOperator)))
    (cd_NoOperator : PySem.W.clsIn K C_NoOperator = some kd_NoOperator)
    (ct_NoOperator : PySem.W.typeIn K (.ref C_NoOperator) = some (.type "type"))
    (eC_NoOperator : PySem.W.subIn K (.ref C_NoOperator) (.type "BaseException") = some true)
    (xl_NoOperator : K.lookup C_NoOperator = some (excClassObj xnm_NoOperator xqn_NoOperator C_NoOperator xN_NoOperator xbs_NoOperator [.ref C_PlaceError, .type "ValueError", .type "Exception", .type "BaseException", .type "object"] true xsn_NoOperator xsub_NoOperator xab_NoOperator xcol_NoOperator xdd_NoOperator xm0_NoOperator xm1_NoOperator xm2_NoOperator xm3_NoOperator xm5_NoOperator "ValueError.__new__"))
    (xsa_NoOperator : PySem.W.findIn K (.ref C_NoOperator) "__setattr__" = some (some (.builtin "object.__setattr__")))
    (kc_NoOperator : PySem.W.keepIn K (.ref C_NoOperator) = true)
    (mi_NoOperator : PySem.W.findIn K (.ref C_NoOperator) "__init__" = some (some (.ref f_NoOperator___init__)))
    (sc8_NoOperator___init__ : PySem.W.typeIn K (.ref f_NoOperator___init__) = some (.type "function"))
    (l_NoOperator___init__ : K.lookup f_NoOperator___init__ = some ⟨oc_NoOperator___init__, od_NoOperator___init__, .func (PySem.W.ksFn "__init__" "NoOperator.__init__" (defArgs st_NoOperator___init__) (defBody st_NoOperator___init__) (defScope st_NoOperator___init__) .none .none dc_NoOperator___init__ pm_NoOperator___init__ an_NoOperator___init__ (.ref cda_NoOperator___init__) ct_NoOperator___init__ cc_NoOperator___init__), sl_NoOperator___init__⟩)
    (c_NoOperator___init__ : PySem.W.codeIn K (.ref cda_NoOperator___init__) "NoOperator.__init__" = true)
    (sc1_NoOperator___init__ : K.lookup cda_NoOperator___init__ = some ⟨ccl_NoOperator___init__, cdd_NoOperator___init__, .fields vs_NoOperator___init__, ccs_NoOperator___init__⟩)
    (sc2_NoOperator___init__ : vs_NoOperator___init__[2]? = some (.str fi_NoOperator___init__ tf_NoOperator___init__))
    (sc3_NoOperator___init__ : ((P.main.file : Str) == fi_NoOperator___init__) = true)
    (sc4_NoOperator___init__ : K.lookup cc_NoOperator___init__ = some ⟨el_NoOperator___init__, eld_NoOperator___init__, .cell (some (.ref C_NoOperator)), esl_NoOperator___init__⟩)
    (xcm_NoOperator : PySem.W.mroIn K C_NoOperator (.ref C_NoOperator) = some true)
    (xve_NoOperator : PySem.W.subIn K (.ref C_NoOperator) (.type "ValueError") = some true)
    (xnx_NoOperator : PySem.W.ks_superIn K C_NoOperator C_NoOperator "__init__" = some (some (.builtin "ValueError.__init__")))
    (xno_NoOperator_value : PySem.W.findIn K (.ref C_NoOperator) "value" = some none)
    (a_NoStatement : PySem.W.nsIn K mainGlobals "NoStatement" = some (some (.ref C_NoStatement)))
    (cd_NoStatement : PySem.W.clsIn K C_NoStatement = some kd_NoStatement)
    (ct_NoStatement : PySem.W.typeIn K (.ref C_NoStatement) = some (.type "type"))
    (eC_NoStatement : PySem.W.subIn K (.ref C_NoStatement) (.type "BaseException") = some true)
    (xl_NoStatement : K.lookup C_NoStatement = some (excClassObj xnm_NoStatement xqn_NoStatement C_NoStatement xN_NoStatement xbs_NoStatement [.ref C_PlaceError, .type "ValueError", .type "Exception", .type "BaseException", .type "object"] true xsn_NoStatement xsub_NoStatement xab_NoStatement xcol_NoStatement xdd_NoStatement xm0_NoStatement xm1_NoStatement xm2_NoStatement xm3_NoStatement xm5_NoStatement "ValueError.__new__"))
    (xsa_NoStatement : PySem.W.findIn K (.ref C_NoStatement) "__setattr__" = some (some (.builtin "object.__setattr__")))
    (kc_NoStatement : PySem.W.keepIn K (.ref C_NoStatement) = true)
    (mi_NoStatement : PySem.W.findIn K (.ref C_NoStatement) "__init__" = some (some (.ref f_NoStatement___init__)))
    (sc8_NoStatement___init__ : PySem.W.typeIn K (.ref f_NoStatement___init__) = some (.type "function"))
    (l_NoStatement___init__ : K.lookup f_NoStatement___init__ = some ⟨oc_NoStatement___init__, od_NoStatement___init__, .func (PySem.W.ksFn "__init__" "NoStatement.__init__" (defArgs st_NoStatement___init__) (defBody st_NoStatement___init__) (defScope st_NoStatement___init__) .none .none dc_NoStatement___init__ pm_NoStatement___init__ an_NoStatement___init__ (.ref cda_NoStatement___init__) ct_NoStatement___init__ cc_NoStatement___init__), sl_NoStatement___init__⟩)
    (c_NoStatement___init__ : PySem.W.codeIn K (.ref cda_NoStatement___init__) "NoStatement.__init__" = true)
    (sc1_NoStatement___init__ : K.lookup cda_NoStatement___init__ = some ⟨ccl_NoStatement___init__, cdd_NoStatement___init__, .fields vs_NoStatement___init__, ccs_NoStatement___init__⟩)
    (sc2_NoStatement___init__ : vs_NoStatement___init__[2]? = some (.str fi_NoStatement___init__ tf_NoStatement___init__))
    (sc3_NoStatement___init__ : ((P.main.file : Str) == fi_NoStatement___init__) = true)
    (sc4_NoStatement___init__ : K.lookup cc_NoStatement___init__ = some ⟨el_NoStatement___init__, eld_NoStatement___init__, .cell (some (.ref C_NoStatement)), esl_NoStatement___init__⟩)
    (xcm_NoStatement : PySem.W.mroIn K C_NoStatement (.ref C_NoStatement) = some true)
    (xve_NoStatement : PySem.W.subIn K (.ref C_NoStatement) (.type "ValueError") = some true)
    (xnx_NoStatement : PySem.W.ks_superIn K C_NoStatement C_NoStatement "__init__" = some (some (.builtin "ValueError.__init__")))
    (xno_NoStatement_value : PySem.W.findIn K (.ref C_NoStatement) "value" = some none)
    (a_NoText : PySem.W.nsIn K mainGlobals "NoText" = some (some (.ref C_NoText)))
    (cd_NoText : PySem.W.clsIn K C_NoText = some kd_NoText)
    (ct_NoText : PySem.W.typeIn K (.ref C_NoText) = some (.type "type"))
    (eC_NoText : PySem.W.subIn K (.ref C_NoText) (.type "BaseException") = some true)
    (xl_NoText : K.lookup C_NoText = some (excClassObj xnm_NoText xqn_NoText C_NoText xN_NoText xbs_NoText [.ref C_PlaceError, .type "ValueError", .type "Exception", .type "BaseException", .type "object"] true xsn_NoText xsub_NoText xab_NoText xcol_NoText xdd_NoText xm0_NoText xm1_NoText xm2_NoText xm3_NoText xm5_NoText "ValueError.__new__"))
    (xsa_NoText : PySem.W.findIn K (.ref C_NoText) "__setattr__" = some (some (.builtin "object.__setattr__")))
    (kc_NoText : PySem.W.keepIn K (.ref C_NoText) = true)
    (mi_NoText : PySem.W.findIn K (.ref C_NoText) "__init__" = some (some (.ref f_NoText___init__)))
    (sc8_NoText___init__ : PySem.W.typeIn K (.ref f_NoText___init__) = some (.type "function"))
    (l_NoText___init__ : K.lookup f_NoText___init__ = some ⟨oc_NoText___init__, od_NoText___init__, .func (PySem.W.ksFn "__init__" "NoText.__init__" (defArgs st_NoText___init__) (defBody st_NoText___init__) (defScope st_NoText___init__) .none .none dc_NoText___init__ pm_NoText___init__ an_NoText___init__ (.ref cda_NoText___init__) ct_NoText___init__ cc_NoText___init__), sl_NoText___init__⟩)
    (c_NoText___init__ : PySem.W.codeIn K (.ref cda_NoText___init__) "NoText.__init__" = true)
    (sc1_NoText___init__ : K.lookup cda_NoText___init__ = some ⟨ccl_NoText___init__, cdd_NoText___init__, .fields vs_NoText___init__, ccs_NoText___init__⟩)
    (sc2_NoText___init__ : vs_NoText___init__[2]? = some (.str fi_NoText___init__ tf_NoText___init__))
    (sc3_NoText___init__ : ((P.main.file : Str) == fi_NoText___init__) = true)
    (sc4_NoText___init__ : K.lookup cc_NoText___init__ = some ⟨el_NoText___init__, eld_NoText___init__, .cell (some (.ref C_NoText)), esl_NoText___init__⟩)
    (xcm_NoText : PySem.W.mroIn K C_NoText (.ref C_NoText) = some true)
    (xve_NoText : PySem.W.subIn K (.ref C_NoText) (.type "ValueError") = some true)
    (xnx_NoText : PySem.W.ks_superIn K C_NoText C_NoText "__init__" = some (some (.builtin "ValueError.__init__")))
    (xno_NoText_value : PySem.W.findIn K (.ref C_NoText) "value" = some none)
    (a_NoNumber : PySem.W.nsIn K mainGlobals "NoNumber" = some (some (.ref C_NoNumber)))
    (cd_NoNumber : PySem.W.clsIn K C_NoNumber = some kd_NoNumber)
    (ct_NoNumber : PySem.W.typeIn K (.ref C_NoNumber) = some (.type "type"))
    (eC_NoNumber : PySem.W.subIn K (.ref C_NoNumber) (.type "BaseException") = some true)
    (xl_NoNumber : K.lookup C_NoNumber = some (excClassObj xnm_NoNumber xqn_NoNumber C_NoNumber xN_NoNumber xbs_NoNumber [.ref C_PlaceError, .type "ValueError", .type "Exception", .type "BaseException", .type "object"] true xsn_NoNumber xsub_NoNumber xab_NoNumber xcol_NoNumber xdd_NoNumber xm0_NoNumber xm1_NoNumber xm2_NoNumber xm3_NoNumber xm5_NoNumber "ValueError.__new__"))
    (xsa_NoNumber : PySem.W.findIn K (.ref C_NoNumber) "__setattr__" = some (some (.builtin "object.__setattr__")))
    (kc_NoNumber : PySem.W.keepIn K (.ref C_NoNumber) = true)
    (mi_NoNumber : PySem.W.findIn K (.ref C_NoNumber) "__init__" = some (some (.ref f_NoNumber___init__)))
    (sc8_NoNumber___init__ : PySem.W.typeIn K (.ref f_NoNumber___init__) = some (.type "function"))
    (l_NoNumber___init__ : K.lookup f_NoNumber___init__ = some ⟨oc_NoNumber___init__, od_NoNumber___init__, .func (PySem.W.ksFn "__init__" "NoNumber.__init__" (defArgs st_NoNumber___init__) (defBody st_NoNumber___init__) (defScope st_NoNumber___init__) .none .none dc_NoNumber___init__ pm_NoNumber___init__ an_NoNumber___init__ (.ref cda_NoNumber___init__) ct_NoNumber___init__ cc_NoNumber___init__), sl_NoNumber___init__⟩)
    (c_NoNumber___init__ : PySem.W.codeIn K (.ref cda_NoNumber___init__) "NoNumber.__init__" = true)
    (sc1_NoNumber___init__ : K.lookup cda_NoNumber___init__ = some ⟨ccl_NoNumber___init__, cdd_NoNumber___init__, .fields vs_NoNumber___init__, ccs_NoNumber___init__⟩)
    (sc2_NoNumber___init__ : vs_NoNumber___init__[2]? = some (.str fi_NoNumber___init__ tf_NoNumber___init__))
    (sc3_NoNumber___init__ : ((P.main.file : Str) == fi_NoNumber___init__) = true)
    (sc4_NoNumber___init__ : K.lookup cc_NoNumber___init__ = some ⟨el_NoNumber___init__, eld_NoNumber___init__, .cell (some (.ref C_NoNumber)), esl_NoNumber___init__⟩)
    (xcm_NoNumber : PySem.W.mroIn K C_NoNumber (.ref C_NoNumber) = some true)
    (xve_NoNumber : PySem.W.subIn K (.ref C_NoNumber) (.type "ValueError") = some true)
    (xnx_NoNumber : PySem.W.ks_superIn K C_NoNumber C_NoNumber "__init__" = some (some (.builtin "ValueError.__init__")))
    (xno_NoNumber_value : PySem.W.findIn K (.ref C_NoNumber) "value" = some none)
    (a_NoInputs : PySem.W.nsIn K mainGlobals "NoInputs" = some (some (.ref C_NoInputs)))
    (cd_NoInputs : PySem.W.clsIn K C_NoInputs = some kd_NoInputs)
    (ct_NoInputs : PySem.W.typeIn K (.ref C_NoInputs) = some (.type "type"))
    (eC_NoInputs : PySem.W.subIn K (.ref C_NoInputs) (.type "BaseException") = some true)
    (xl_NoInputs : K.lookup C_NoInputs = some (excClassObj xnm_NoInputs xqn_NoInputs C_NoInputs xN_NoInputs xbs_NoInputs [.ref C_PlaceError, .type "ValueError", .type "Exception", .type "BaseException", .type "object"] true xsn_NoInputs xsub_NoInputs xab_NoInputs xcol_NoInputs xdd_NoInputs xm0_NoInputs xm1_NoInputs xm2_NoInputs xm3_NoInputs xm5_NoInputs "ValueError.__new__"))
    (xsa_NoInputs : PySem.W.findIn K (.ref C_NoInputs) "__setattr__" = some (some (.builtin "object.__setattr__")))
    (kc_NoInputs : PySem.W.keepIn K (.ref C_NoInputs) = true)
    (mi_NoInputs : PySem.W.findIn K (.ref C_NoInputs) "__init__" = some (some (.ref f_NoInputs___init__)))
    (sc8_NoInputs___init__ : PySem.W.typeIn K (.ref f_NoInputs___init__) = some (.type "function"))
    (l_NoInputs___init__ : K.lookup f_NoInputs___init__ = some ⟨oc_NoInputs___init__, od_NoInputs___init__, .func (PySem.W.ksFn "__init__" "NoInputs.__init__" (defArgs st_NoInputs___init__) (defBody st_NoInputs___init__) (defScope st_NoInputs___init__) .none .none dc_NoInputs___init__ pm_NoInputs___init__ an_NoInputs___init__ (.ref cda_NoInputs___init__) ct_NoInputs___init__ cc_NoInputs___init__), sl_NoInputs___init__⟩)
    (c_NoInputs___init__ : PySem.W.codeIn K (.ref cda_NoInputs___init__) "NoInputs.__init__" = true)
    (sc1_NoInputs___init__ : K.lookup cda_NoInputs___init__ = some ⟨ccl_NoInputs___init__, cdd_NoInputs___init__, .fields vs_NoInputs___init__, ccs_NoInputs___init__⟩)
    (sc2_NoInputs___init__ : vs_NoInputs___init__[2]? = some (.str fi_NoInputs___init__ tf_NoInputs___init__))
    (sc3_NoInputs___init__ : ((P.main.file : Str) == fi_NoInputs___init__) = true)
    (sc4_NoInputs___init__ : K.lookup cc_NoInputs___init__ = some ⟨el_NoInputs___init__, eld_NoInputs___init__, .cell (some (.ref C_NoInputs)), esl_NoInputs___init__⟩)
    (xcm_NoInputs : PySem.W.mroIn K C_NoInputs (.ref C_NoInputs) = some true)
    (xve_NoInputs : PySem.W.subIn K (.ref C_NoInputs) (.type "ValueError") = some true)
    (xnx_NoInputs : PySem.W.ks_superIn K C_NoInputs C_NoInputs "__init__" = some (some (.builtin "ValueError.__init__")))
    (xno_NoInputs_value : PySem.W.findIn K (.ref C_NoInputs) "value" = some none)
    (a_NoExpression : PySem.W.nsIn K mainGlobals "NoExpression" = some (some (.ref C_NoExpression)))
    (cd_NoExpression : PySem.W.clsIn K C_NoExpression = some kd_NoExpression)
    (ct_NoExpression : PySem.W.typeIn K (.ref C_NoExpression) = some (.type "type"))
    (eC_NoExpression : PySem.W.subIn K (.ref C_NoExpression) (.type "BaseException") = some true)
    (xl_NoExpression : K.lookup C_NoExpression = some (excClassObj xnm_NoExpression xqn_NoExpression C_NoExpression xN_NoExpression xbs_NoExpression [.ref C_PlaceError, .type "ValueError", .type "Exception", .type "BaseException", .type "object"] true xsn_NoExpression xsub_NoExpression xab_NoExpression xcol_NoExpression xdd_NoExpression xm0_NoExpression xm1_NoExpression xm2_NoExpression xm3_NoExpression xm5_NoExpression "ValueError.__new__"))
    (xsa_NoExpression : PySem.W.findIn K (.ref C_NoExpression) "__setattr__" = some (some (.builtin "object.__setattr__")))
    (kc_NoExpression : PySem.W.keepIn K (.ref C_NoExpression) = true)
    (mi_NoExpression : PySem.W.findIn K (.ref C_NoExpression) "__init__" = some (some (.ref f_NoExpression___init__)))
    (sc8_NoExpression___init__ : PySem.W.typeIn K (.ref f_NoExpression___init__) = some (.type "function"))
    (l_NoExpression___init__ : K.lookup f_NoExpression___init__ = some ⟨oc_NoExpression___init__, od_NoExpression___init__, .func (PySem.W.ksFn "__init__" "NoExpression.__init__" (defArgs st_NoExpression___init__) (defBody st_NoExpression___init__) (defScope st_NoExpression___init__) .none .none dc_NoExpression___init__ pm_NoExpression___init__ an_NoExpression___init__ (.ref cda_NoExpression___init__) ct_NoExpression___init__ cc_NoExpression___init__), sl_NoExpression___init__⟩)
    (c_NoExpression___init__ : PySem.W.codeIn K (.ref cda_NoExpression___init__) "NoExpression.__init__" = true)
    (sc1_NoExpression___init__ : K.lookup cda_NoExpression___init__ = some ⟨ccl_NoExpression___init__, cdd_NoExpression___init__, .fields vs_NoExpression___init__, ccs_NoExpression___init__⟩)
    (sc2_NoExpression___init__ : vs_NoExpression___init__[2]? = some (.str fi_NoExpression___init__ tf_NoExpression___init__))
    (sc3_NoExpression___init__ : ((P.main.file : Str) == fi_NoExpression___init__) = true)
    (sc4_NoExpression___init__ : K.lookup cc_NoExpression___init__ = some ⟨el_NoExpression___init__, eld_NoExpression___init__, .cell (some (.ref C_NoExpression)), esl_NoExpression___init__⟩)
    (xcm_NoExpression : PySem.W.mroIn K C_NoExpression (.ref C_NoExpression) = some true)
    (xve_NoExpression : PySem.W.subIn K (.ref C_NoExpression) (.type "ValueError") = some true)
    (xnx_NoExpression : PySem.W.ks_superIn K C_NoExpression C_NoExpression "__init__" = some (some (.builtin "ValueError.__init__")))
    (xno_NoExpression_value : PySem.W.findIn K (.ref C_NoExpression) "value" = some none)
    (a_NoPoint : PySem.W.nsIn K mainGlobals "NoPoint" = some (some (.ref C_NoPoint)))
    (cd_NoPoint : PySem.W.clsIn K C_NoPoint = some kd_NoPoint)
    (ct_NoPoint : PySem.W.typeIn K (.ref C_NoPoint) = some (.type "type"))
    (eC_NoPoint : PySem.W.subIn K (.ref C_NoPoint) (.type "BaseException") = some true)
    (xl_NoPoint : K.lookup C_NoPoint = some (excClassObj xnm_NoPoint xqn_NoPoint C_NoPoint xN_NoPoint xbs_NoPoint [.ref C_PlaceError, .type "ValueError", .type "Exception", .type "BaseException", .type "object"] true xsn_NoPoint xsub_NoPoint xab_NoPoint xcol_NoPoint xdd_NoPoint xm0_NoPoint xm1_NoPoint xm2_NoPoint xm3_NoPoint xm5_NoPoint "ValueError.__new__"))
    (xsa_NoPoint : PySem.W.findIn K (.ref C_NoPoint) "__setattr__" = some (some (.builtin "object.__setattr__")))
    (kc_NoPoint : PySem.W.keepIn K (.ref C_NoPoint) = true)
    (mi_NoPoint : PySem.W.findIn K (.ref C_NoPoint) "__init__" = some (some (.ref f_NoPoint___init__)))
    (sc8_NoPoint___init__ : PySem.W.typeIn K (.ref f_NoPoint___init__) = some (.type "function"))
    (l_NoPoint___init__ : K.lookup f_NoPoint___init__ = some ⟨oc_NoPoint___init__, od_NoPoint___init__, .func (PySem.W.ksFn "__init__" "NoPoint.__init__" (defArgs st_NoPoint___init__) (defBody st_NoPoint___init__) (defScope st_NoPoint___init__) .none .none dc_NoPoint___init__ pm_NoPoint___init__ an_NoPoint___init__ (.ref cda_NoPoint___init__) ct_NoPoint___init__ cc_NoPoint___init__), sl_NoPoint___init__⟩)
    (c_NoPoint___init__ : PySem.W.codeIn K (.ref cda_NoPoint___init__) "NoPoint.__init__" = true)
    (sc1_NoPoint___init__ : K.lookup cda_NoPoint___init__ = some ⟨ccl_NoPoint___init__, cdd_NoPoint___init__, .fields vs_NoPoint___init__, ccs_NoPoint___init__⟩)
    (sc2_NoPoint___init__ : vs_NoPoint___init__[2]? = some (.str fi_NoPoint___init__ tf_NoPoint___init__))
    (sc3_NoPoint___init__ : ((P.main.file : Str) == fi_NoPoint___init__) = true)
    (sc4_NoPoint___init__ : K.lookup cc_NoPoint___init__ = some ⟨el_NoPoint___init__, eld_NoPoint___init__, .cell (some (.ref C_NoPoint)), esl_NoPoint___init__⟩)
    (xcm_NoPoint : PySem.W.mroIn K C_NoPoint (.ref C_NoPoint) = some true)
    (xve_NoPoint : PySem.W.subIn K (.ref C_NoPoint) (.type "ValueError") = some true)
    (xnx_NoPoint : PySem.W.ks_superIn K C_NoPoint C_NoPoint "__init__" = some (some (.builtin "ValueError.__init__")))
    (xno_NoPoint_value : PySem.W.findIn K (.ref C_NoPoint) "value" = some none)
    (a_NoPlacement : PySem.W.nsIn K mainGlobals "NoPlacement" = some (some (.ref C_NoPlacement)))
    (cd_NoPlacement : PySem.W.clsIn K C_NoPlacement = some kd_NoPlacement)
    (ct_NoPlacement : PySem.W.typeIn K (.ref C_NoPlacement) = some (.type "type"))
    (eC_NoPlacement : PySem.W.subIn K (.ref C_NoPlacement) (.type "BaseException") = some true)
    (xl_NoPlacement : K.lookup C_NoPlacement = some (excClassObj xnm_NoPlacement xqn_NoPlacement C_NoPlacement xN_NoPlacement xbs_NoPlacement [.ref C_PlaceError, .type "ValueError", .type "Exception", .type "BaseException", .type "object"] true xsn_NoPlacement xsub_NoPlacement xab_NoPlacement xcol_NoPlacement xdd_NoPlacement xm0_NoPlacement xm1_NoPlacement xm2_NoPlacement xm3_NoPlacement xm5_NoPlacement "ValueError.__new__"))
    (xsa_NoPlacement : PySem.W.findIn K (.ref C_NoPlacement) "__setattr__" = some (some (.builtin "object.__setattr__")))
    (kc_NoPlacement : PySem.W.keepIn K (.ref C_NoPlacement) = true)
    (mi_NoPlacement : PySem.W.findIn K (.ref C_NoPlacement) "__init__" = some (some (.ref f_NoPlacement___init__)))
    (sc8_NoPlacement___init__ : PySem.W.typeIn K (.ref f_NoPlacement___init__) = some (.type "function"))
    (l_NoPlacement___init__ : K.lookup f_NoPlacement___init__ = some ⟨oc_NoPlacement___init__, od_NoPlacement___init__, .func (PySem.W.ksFn "__init__" "NoPlacement.__init__" (defArgs st_NoPlacement___init__) (defBody st_NoPlacement___init__) (defScope st_NoPlacement___init__) .none .none dc_NoPlacement___init__ pm_NoPlacement___init__ an_NoPlacement___init__ (.ref cda_NoPlacement___init__) ct_NoPlacement___init__ cc_NoPlacement___init__), sl_NoPlacement___init__⟩)
    (c_NoPlacement___init__ : PySem.W.codeIn K (.ref cda_NoPlacement___init__) "NoPlacement.__init__" = true)
    (sc1_NoPlacement___init__ : K.lookup cda_NoPlacement___init__ = some ⟨ccl_NoPlacement___init__, cdd_NoPlacement___init__, .fields vs_NoPlacement___init__, ccs_NoPlacement___init__⟩)
    (sc2_NoPlacement___init__ : vs_NoPlacement___init__[2]? = some (.str fi_NoPlacement___init__ tf_NoPlacement___init__))
    (sc3_NoPlacement___init__ : ((P.main.file : Str) == fi_NoPlacement___init__) = true)
    (sc4_NoPlacement___init__ : K.lookup cc_NoPlacement___init__ = some ⟨el_NoPlacement___init__, eld_NoPlacement___init__, .cell (some (.ref C_NoPlacement)), esl_NoPlacement___init__⟩)
    (xcm_NoPlacement : PySem.W.mroIn K C_NoPlacement (.ref C_NoPlacement) = some true)
    (xve_NoPlacement : PySem.W.subIn K (.ref C_NoPlacement) (.type "ValueError") = some true)
    (xnx_NoPlacement : PySem.W.ks_superIn K C_NoPlacement C_NoPlacement "__init__" = some (some (.builtin "ValueError.__init__")))
    (xno_NoPlacement_value : PySem.W.findIn K (.ref C_NoPlacement) "value" = some none)
    (a_NoPath : PySem.W.nsIn K mainGlobals "NoPath" = some (some (.ref C_NoPath)))
    (cd_NoPath : PySem.W.clsIn K C_NoPath = some kd_NoPath)
    (ct_NoPath : PySem.W.typeIn K (.ref C_NoPath) = some (.type "type"))
    (eC_NoPath : PySem.W.subIn K (.ref C_NoPath) (.type "BaseException") = some true)
    (xl_NoPath : K.lookup C_NoPath = some (excClassObj xnm_NoPath xqn_NoPath C_NoPath xN_NoPath xbs_NoPath [.ref C_PlaceError, .type "ValueError", .type "Exception", .type "BaseException", .type "object"] true xsn_NoPath xsub_NoPath xab_NoPath xcol_NoPath xdd_NoPath xm0_NoPath xm1_NoPath xm2_NoPath xm3_NoPath xm5_NoPath "ValueError.__new__"))
    (xsa_NoPath : PySem.W.findIn K (.ref C_NoPath) "__setattr__" = some (some (.builtin "object.__setattr__")))
    (kc_NoPath : PySem.W.keepIn K (.ref C_NoPath) = true)
    (mi_NoPath : PySem.W.findIn K (.ref C_NoPath) "__init__" = some (some (.ref f_NoPath___init__)))
    (sc8_NoPath___init__ : PySem.W.typeIn K (.ref f_NoPath___init__) = some (.type "function"))
    (l_NoPath___init__ : K.lookup f_NoPath___init__ = some ⟨oc_NoPath___init__, od_NoPath___init__, .func (PySem.W.ksFn "__init__" "NoPath.__init__" (defArgs st_NoPath___init__) (defBody st_NoPath___init__) (defScope st_NoPath___init__) .none .none dc_NoPath___init__ pm_NoPath___init__ an_NoPath___init__ (.ref cda_NoPath___init__) ct_NoPath___init__ cc_NoPath___init__), sl_NoPath___init__⟩)
    (c_NoPath___init__ : PySem.W.codeIn K (.ref cda_NoPath___init__) "NoPath.__init__" = true)
    (sc1_NoPath___init__ : K.lookup cda_NoPath___init__ = some ⟨ccl_NoPath___init__, cdd_NoPath___init__, .fields vs_NoPath___init__, ccs_NoPath___init__⟩)
    (sc2_NoPath___init__ : vs_NoPath___init__[2]? = some (.str fi_NoPath___init__ tf_NoPath___init__))
    (sc3_NoPath___init__ : ((P.main.file : Str) == fi_NoPath___init__) = true)
    (sc4_NoPath___init__ : K.lookup cc_NoPath___init__ = some ⟨el_NoPath___init__, eld_NoPath___init__, .cell (some (.ref C_NoPath)), esl_NoPath___init__⟩)
    (xcm_NoPath : PySem.W.mroIn K C_NoPath (.ref C_NoPath) = some true)
    (xve_NoPath : PySem.W.subIn K (.ref C_NoPath) (.type "ValueError") = some true)
    (xnx_NoPath : PySem.W.ks_superIn K C_NoPath C_NoPath "__init__" = some (some (.builtin "ValueError.__init__")))
    (xno_NoPath_value : PySem.W.findIn K (.ref C_NoPath) "value" = some none)
    (a_NotClosed : PySem.W.nsIn K mainGlobals "NotClosed" = some (some (.ref C_NotClosed)))
    (cd_NotClosed : PySem.W.clsIn K C_NotClosed = some kd_NotClosed)
    (ct_NotClosed : PySem.W.typeIn K (.ref C_NotClosed) = some (.type "type"))
    (eC_NotClosed : PySem.W.subIn K (.ref C_NotClosed) (.type "BaseException") = some true)
    (xl_NotClosed : K.lookup C_NotClosed = some (excClassObj xnm_NotClosed xqn_NotClosed C_NotClosed xN_NotClosed xbs_NotClosed [.ref C_PlaceError, .type "ValueError", .type "Exception", .type "BaseException", .type "object"] true xsn_NotClosed xsub_NotClosed xab_NotClosed xcol_NotClosed xdd_NotClosed xm0_NotClosed xm1_NotClosed xm2_NotClosed xm3_NotClosed xm5_NotClosed "ValueError.__new__"))
    (xsa_NotClosed : PySem.W.findIn K (.ref C_NotClosed) "__setattr__" = some (some (.builtin "object.__setattr__")))
    (kc_NotClosed : PySem.W.keepIn K (.ref C_NotClosed) = true)
    (mi_NotClosed : PySem.W.findIn K (.ref C_NotClosed) "__init__" = some (some (.ref f_NotClosed___init__)))
    (sc8_NotClosed___init__ : PySem.W.typeIn K (.ref f_NotClosed___init__) = some (.type "function"))
    (l_NotClosed___init__ : K.lookup f_NotClosed___init__ = some ⟨oc_NotClosed___init__, od_NotClosed___init__, .func (PySem.W.ksFn "__init__" "NotClosed.__init__" (defArgs st_NotClosed___init__) (defBody st_NotClosed___init__) (defScope st_NotClosed___init__) .none .none dc_NotClosed___init__ pm_NotClosed___init__ an_NotClosed___init__ (.ref cda_NotClosed___init__) ct_NotClosed___init__ cc_NotClosed___init__), sl_NotClosed___init__⟩)
    (c_NotClosed___init__ : PySem.W.codeIn K (.ref cda_NotClosed___init__) "NotClosed.__init__" = true)
    (sc1_NotClosed___init__ : K.lookup cda_NotClosed___init__ = some ⟨ccl_NotClosed___init__, cdd_NotClosed___init__, .fields vs_NotClosed___init__, ccs_NotClosed___init__⟩)
    (sc2_NotClosed___init__ : vs_NotClosed___init__[2]? = some (.str fi_NotClosed___init__ tf_NotClosed___init__))
    (sc3_NotClosed___init__ : ((P.main.file : Str) == fi_NotClosed___init__) = true)
    (sc4_NotClosed___init__ : K.lookup cc_NotClosed___init__ = some ⟨el_NotClosed___init__, eld_NotClosed___init__, .cell (some (.ref C_NotClosed)), esl_NotClosed___init__⟩)
    (xcm_NotClosed : PySem.W.mroIn K C_NotClosed (.ref C_NotClosed) = some true)
    (xve_NotClosed : PySem.W.subIn K (.ref C_NotClosed) (.type "ValueError") = some true)
    (xnx_NotClosed : PySem.W.ks_superIn K C_NotClosed C_NotClosed "__init__" = some (some (.builtin "ValueError.__init__")))
    (xno_NotClosed_value : PySem.W.findIn K (.ref C_NotClosed) "value" = some none)
    (a__law_first_ones : PySem.W.nsIn K mainGlobals "_law_first_ones" = some (some (.ref f__law_first_ones)))
    (l__law_first_ones : K.lookup f__law_first_ones = some ⟨oc__law_first_ones, od__law_first_ones, .func (PySem.W.fnOf "_law_first_ones" "_law_first_ones" (defArgs st__law_first_ones) (defBody st__law_first_ones) (defScope st__law_first_ones) .none kV__law_first_ones dc__law_first_ones pm__law_first_ones an__law_first_ones cd__law_first_ones ct__law_first_ones), sl__law_first_ones⟩)
    (c__law_first_ones : PySem.W.codeIn K cd__law_first_ones "_law_first_ones" = true)
    (k__law_first_ones : PySem.W.keepIn K (.ref f__law_first_ones) = true)
    (a_NoPrice : PySem.W.nsIn K mainGlobals "NoPrice" = some (some (.ref C_NoPrice)))
    (cd_NoPrice : PySem.W.clsIn K C_NoPrice = some kd_NoPrice)
    (ct_NoPrice : PySem.W.typeIn K (.ref C_NoPrice) = some (.type "type"))
    (eC_NoPrice : PySem.W.subIn K (.ref C_NoPrice) (.type "BaseException") = some true)
    (xl_NoPrice : K.lookup C_NoPrice = some (excClassObj xnm_NoPrice xqn_NoPrice C_NoPrice xN_NoPrice xbs_NoPrice [.ref C_PlaceError, .type "ValueError", .type "Exception", .type "BaseException", .type "object"] true xsn_NoPrice xsub_NoPrice xab_NoPrice xcol_NoPrice xdd_NoPrice xm0_NoPrice xm1_NoPrice xm2_NoPrice xm3_NoPrice xm5_NoPrice "ValueError.__new__"))
    (xsa_NoPrice : PySem.W.findIn K (.ref C_NoPrice) "__setattr__" = some (some (.builtin "object.__setattr__")))
    (kc_NoPrice : PySem.W.keepIn K (.ref C_NoPrice) = true)
    (mi_NoPrice : PySem.W.findIn K (.ref C_NoPrice) "__init__" = some (some (.ref f_NoPrice___init__)))
    (sc8_NoPrice___init__ : PySem.W.typeIn K (.ref f_NoPrice___init__) = some (.type "function"))
    (l_NoPrice___init__ : K.lookup f_NoPrice___init__ = some ⟨oc_NoPrice___init__, od_NoPrice___init__, .func (PySem.W.ksFn "__init__" "NoPrice.__init__" (defArgs st_NoPrice___init__) (defBody st_NoPrice___init__) (defScope st_NoPrice___init__) .none .none dc_NoPrice___init__ pm_NoPrice___init__ an_NoPrice___init__ (.ref cda_NoPrice___init__) ct_NoPrice___init__ cc_NoPrice___init__), sl_NoPrice___init__⟩)
    (c_NoPrice___init__ : PySem.W.codeIn K (.ref cda_NoPrice___init__) "NoPrice.__init__" = true)
    (sc1_NoPrice___init__ : K.lookup cda_NoPrice___init__ = some ⟨ccl_NoPrice___init__, cdd_NoPrice___init__, .fields vs_NoPrice___init__, ccs_NoPrice___init__⟩)
    (sc2_NoPrice___init__ : vs_NoPrice___init__[2]? = some (.str fi_NoPrice___init__ tf_NoPrice___init__))
    (sc3_NoPrice___init__ : ((P.main.file : Str) == fi_NoPrice___init__) = true)
    (sc4_NoPrice___init__ : K.lookup cc_NoPrice___init__ = some ⟨el_NoPrice___init__, eld_NoPrice___init__, .cell (some (.ref C_NoPrice)), esl_NoPrice___init__⟩)
    (xcm_NoPrice : PySem.W.mroIn K C_NoPrice (.ref C_NoPrice) = some true)
    (xve_NoPrice : PySem.W.subIn K (.ref C_NoPrice) (.type "ValueError") = some true)
    (xnx_NoPrice : PySem.W.ks_superIn K C_NoPrice C_NoPrice "__init__" = some (some (.builtin "ValueError.__init__")))
    (xno_NoPrice_value : PySem.W.findIn K (.ref C_NoPrice) "value" = some none)
    (a_NoCounts : PySem.W.nsIn K mainGlobals "NoCounts" = some (some (.ref C_NoCounts)))
    (cd_NoCounts : PySem.W.clsIn K C_NoCounts = some kd_NoCounts)
    (ct_NoCounts : PySem.W.typeIn K (.ref C_NoCounts) = some (.type "type"))
    (eC_NoCounts : PySem.W.subIn K (.ref C_NoCounts) (.type "BaseException") = some true)
    (xl_NoCounts : K.lookup C_NoCounts = some (excClassObj xnm_NoCounts xqn_NoCounts C_NoCounts xN_NoCounts xbs_NoCounts [.ref C_PlaceError, .type "ValueError", .type "Exception", .type "BaseException", .type "object"] true xsn_NoCounts xsub_NoCounts xab_NoCounts xcol_NoCounts xdd_NoCounts xm0_NoCounts xm1_NoCounts xm2_NoCounts xm3_NoCounts xm5_NoCounts "ValueError.__new__"))
    (xsa_NoCounts : PySem.W.findIn K (.ref C_NoCounts) "__setattr__" = some (some (.builtin "object.__setattr__")))
    (kc_NoCounts : PySem.W.keepIn K (.ref C_NoCounts) = true)
    (mi_NoCounts : PySem.W.findIn K (.ref C_NoCounts) "__init__" = some (some (.ref f_NoCounts___init__)))
    (sc8_NoCounts___init__ : PySem.W.typeIn K (.ref f_NoCounts___init__) = some (.type "function"))
    (l_NoCounts___init__ : K.lookup f_NoCounts___init__ = some ⟨oc_NoCounts___init__, od_NoCounts___init__, .func (PySem.W.ksFn "__init__" "NoCounts.__init__" (defArgs st_NoCounts___init__) (defBody st_NoCounts___init__) (defScope st_NoCounts___init__) .none .none dc_NoCounts___init__ pm_NoCounts___init__ an_NoCounts___init__ (.ref cda_NoCounts___init__) ct_NoCounts___init__ cc_NoCounts___init__), sl_NoCounts___init__⟩)
    (c_NoCounts___init__ : PySem.W.codeIn K (.ref cda_NoCounts___init__) "NoCounts.__init__" = true)
    (sc1_NoCounts___init__ : K.lookup cda_NoCounts___init__ = some ⟨ccl_NoCounts___init__, cdd_NoCounts___init__, .fields vs_NoCounts___init__, ccs_NoCounts___init__⟩)
    (sc2_NoCounts___init__ : vs_NoCounts___init__[2]? = some (.str fi_NoCounts___init__ tf_NoCounts___init__))
    (sc3_NoCounts___init__ : ((P.main.file : Str) == fi_NoCounts___init__) = true)
    (sc4_NoCounts___init__ : K.lookup cc_NoCounts___init__ = some ⟨el_NoCounts___init__, eld_NoCounts___init__, .cell (some (.ref C_NoCounts)), esl_NoCounts___init__⟩)
    (xcm_NoCounts : PySem.W.mroIn K C_NoCounts (.ref C_NoCounts) = some true)
    (xve_NoCounts : PySem.W.subIn K (.ref C_NoCounts) (.type "ValueError") = some true)
    (xnx_NoCounts : PySem.W.ks_superIn K C_NoCounts C_NoCounts "__init__" = some (some (.builtin "ValueError.__init__")))
    (xno_NoCounts_value : PySem.W.findIn K (.ref C_NoCounts) "value" = some none)
    (a_NoPairs : PySem.W.nsIn K mainGlobals "NoPairs" = some (some (.ref C_NoPairs)))
    (cd_NoPairs : PySem.W.clsIn K C_NoPairs = some kd_NoPairs)
    (ct_NoPairs : PySem.W.typeIn K (.ref C_NoPairs) = some (.type "type"))
    (eC_NoPairs : PySem.W.subIn K (.ref C_NoPairs) (.type "BaseException") = some true)
    (xl_NoPairs : K.lookup C_NoPairs = some (excClassObj xnm_NoPairs xqn_NoPairs C_NoPairs xN_NoPairs xbs_NoPairs [.ref C_PlaceError, .type "ValueError", .type "Exception", .type "BaseException", .type "object"] true xsn_NoPairs xsub_NoPairs xab_NoPairs xcol_NoPairs xdd_NoPairs xm0_NoPairs xm1_NoPairs xm2_NoPairs xm3_NoPairs xm5_NoPairs "ValueError.__new__"))
    (xsa_NoPairs : PySem.W.findIn K (.ref C_NoPairs) "__setattr__" = some (some (.builtin "object.__setattr__")))
    (kc_NoPairs : PySem.W.keepIn K (.ref C_NoPairs) = true)
    (mi_NoPairs : PySem.W.findIn K (.ref C_NoPairs) "__init__" = some (some (.ref f_NoPairs___init__)))
    (sc8_NoPairs___init__ : PySem.W.typeIn K (.ref f_NoPairs___init__) = some (.type "function"))
    (l_NoPairs___init__ : K.lookup f_NoPairs___init__ = some ⟨oc_NoPairs___init__, od_NoPairs___init__, .func (PySem.W.ksFn "__init__" "NoPairs.__init__" (defArgs st_NoPairs___init__) (defBody st_NoPairs___init__) (defScope st_NoPairs___init__) .none .none dc_NoPairs___init__ pm_NoPairs___init__ an_NoPairs___init__ (.ref cda_NoPairs___init__) ct_NoPairs___init__ cc_NoPairs___init__), sl_NoPairs___init__⟩)
    (c_NoPairs___init__ : PySem.W.codeIn K (.ref cda_NoPairs___init__) "NoPairs.__init__" = true)
    (sc1_NoPairs___init__ : K.lookup cda_NoPairs___init__ = some ⟨ccl_NoPairs___init__, cdd_NoPairs___init__, .fields vs_NoPairs___init__, ccs_NoPairs___init__⟩)
    (sc2_NoPairs___init__ : vs_NoPairs___init__[2]? = some (.str fi_NoPairs___init__ tf_NoPairs___init__))
    (sc3_NoPairs___init__ : ((P.main.file : Str) == fi_NoPairs___init__) = true)
    (sc4_NoPairs___init__ : K.lookup cc_NoPairs___init__ = some ⟨el_NoPairs___init__, eld_NoPairs___init__, .cell (some (.ref C_NoPairs)), esl_NoPairs___init__⟩)
    (xcm_NoPairs : PySem.W.mroIn K C_NoPairs (.ref C_NoPairs) = some true)
    (xve_NoPairs : PySem.W.subIn K (.ref C_NoPairs) (.type "ValueError") = some true)
    (xnx_NoPairs : PySem.W.ks_superIn K C_NoPairs C_NoPairs "__init__" = some (some (.builtin "ValueError.__init__")))
    (xno_NoPairs_value : PySem.W.findIn K (.ref C_NoPairs) "value" = some none)
    (a_NoProgram : PySem.W.nsIn K mainGlobals "NoProgram" = some (some (.ref C_NoProgram)))
    (cd_NoProgram : PySem.W.clsIn K C_NoProgram = some kd_NoProgram)
    (ct_NoProgram : PySem.W.typeIn K (.ref C_NoProgram) = some (.type "type"))
    (eC_NoProgram : PySem.W.subIn K (.ref C_NoProgram) (.type "BaseException") = some true)
    (xl_NoProgram : K.lookup C_NoProgram = some (excClassObj xnm_NoProgram xqn_NoProgram C_NoProgram xN_NoProgram xbs_NoProgram [.ref C_PlaceError, .type "ValueError", .type "Exception", .type "BaseException", .type "object"] true xsn_NoProgram xsub_NoProgram xab_NoProgram xcol_NoProgram xdd_NoProgram xm0_NoProgram xm1_NoProgram xm2_NoProgram xm3_NoProgram xm5_NoProgram "ValueError.__new__"))
    (xsa_NoProgram : PySem.W.findIn K (.ref C_NoProgram) "__setattr__" = some (some (.builtin "object.__setattr__")))
    (kc_NoProgram : PySem.W.keepIn K (.ref C_NoProgram) = true)
    (mi_NoProgram : PySem.W.findIn K (.ref C_NoProgram) "__init__" = some (some (.ref f_NoProgram___init__)))
    (sc8_NoProgram___init__ : PySem.W.typeIn K (.ref f_NoProgram___init__) = some (.type "function"))
    (l_NoProgram___init__ : K.lookup f_NoProgram___init__ = some ⟨oc_NoProgram___init__, od_NoProgram___init__, .func (PySem.W.ksFn "__init__" "NoProgram.__init__" (defArgs st_NoProgram___init__) (defBody st_NoProgram___init__) (defScope st_NoProgram___init__) .none .none dc_NoProgram___init__ pm_NoProgram___init__ an_NoProgram___init__ (.ref cda_NoProgram___init__) ct_NoProgram___init__ cc_NoProgram___init__), sl_NoProgram___init__⟩)
    (c_NoProgram___init__ : PySem.W.codeIn K (.ref cda_NoProgram___init__) "NoProgram.__init__" = true)
    (sc1_NoProgram___init__ : K.lookup cda_NoProgram___init__ = some ⟨ccl_NoProgram___init__, cdd_NoProgram___init__, .fields vs_NoProgram___init__, ccs_NoProgram___init__⟩)
    (sc2_NoProgram___init__ : vs_NoProgram___init__[2]? = some (.str fi_NoProgram___init__ tf_NoProgram___init__))
    (sc3_NoProgram___init__ : ((P.main.file : Str) == fi_NoProgram___init__) = true)
    (sc4_NoProgram___init__ : K.lookup cc_NoProgram___init__ = some ⟨el_NoProgram___init__, eld_NoProgram___init__, .cell (some (.ref C_NoProgram)), esl_NoProgram___init__⟩)
    (xcm_NoProgram : PySem.W.mroIn K C_NoProgram (.ref C_NoProgram) = some true)
    (xve_NoProgram : PySem.W.subIn K (.ref C_NoProgram) (.type "ValueError") = some true)
    (xnx_NoProgram : PySem.W.ks_superIn K C_NoProgram C_NoProgram "__init__" = some (some (.builtin "ValueError.__init__")))
    (xno_NoProgram_node : PySem.W.findIn K (.ref C_NoProgram) "node" = some none)
    (a_Idle : PySem.W.nsIn K mainGlobals "Idle" = some (some (.ref C_Idle)))
    (cd_Idle : PySem.W.clsIn K C_Idle = some kd_Idle)
    (ct_Idle : PySem.W.typeIn K (.ref C_Idle) = some (.type "type"))
    (eC_Idle : PySem.W.subIn K (.ref C_Idle) (.type "BaseException") = some true)
    (xl_Idle : K.lookup C_Idle = some (excClassObj xnm_Idle xqn_Idle C_Idle xN_Idle xbs_Idle [.ref C_PlaceError, .type "ValueError", .type "Exception", .type "BaseException", .type "object"] true xsn_Idle xsub_Idle xab_Idle xcol_Idle xdd_Idle xm0_Idle xm1_Idle xm2_Idle xm3_Idle xm5_Idle "ValueError.__new__"))
    (xsa_Idle : PySem.W.findIn K (.ref C_Idle) "__setattr__" = some (some (.builtin "object.__setattr__")))
    (kc_Idle : PySem.W.keepIn K (.ref C_Idle) = true)
    (mi_Idle : PySem.W.findIn K (.ref C_Idle) "__init__" = some (some (.ref f_Idle___init__)))
    (sc8_Idle___init__ : PySem.W.typeIn K (.ref f_Idle___init__) = some (.type "function"))
    (l_Idle___init__ : K.lookup f_Idle___init__ = some ⟨oc_Idle___init__, od_Idle___init__, .func (PySem.W.ksFn "__init__" "Idle.__init__" (defArgs st_Idle___init__) (defBody st_Idle___init__) (defScope st_Idle___init__) .none .none dc_Idle___init__ pm_Idle___init__ an_Idle___init__ (.ref cda_Idle___init__) ct_Idle___init__ cc_Idle___init__), sl_Idle___init__⟩)
    (c_Idle___init__ : PySem.W.codeIn K (.ref cda_Idle___init__) "Idle.__init__" = true)
    (sc1_Idle___init__ : K.lookup cda_Idle___init__ = some ⟨ccl_Idle___init__, cdd_Idle___init__, .fields vs_Idle___init__, ccs_Idle___init__⟩)
    (sc2_Idle___init__ : vs_Idle___init__[2]? = some (.str fi_Idle___init__ tf_Idle___init__))
    (sc3_Idle___init__ : ((P.main.file : Str) == fi_Idle___init__) = true)
    (sc4_Idle___init__ : K.lookup cc_Idle___init__ = some ⟨el_Idle___init__, eld_Idle___init__, .cell (some (.ref C_Idle)), esl_Idle___init__⟩)
    (xcm_Idle : PySem.W.mroIn K C_Idle (.ref C_Idle) = some true)
    (xve_Idle : PySem.W.subIn K (.ref C_Idle) (.type "ValueError") = some true)
    (xnx_Idle : PySem.W.ks_superIn K C_Idle C_Idle "__init__" = some (some (.builtin "ValueError.__init__")))
    (xno_Idle_node : PySem.W.findIn K (.ref C_Idle) "node" = some none)
    (a_NoNode : PySem.W.nsIn K mainGlobals "NoNode" = some (some (.ref C_NoNode)))
    (cd_NoNode : PySem.W.clsIn K C_NoNode = some kd_NoNode)
    (ct_NoNode : PySem.W.typeIn K (.ref C_NoNode) = some (.type "type"))
    (eC_NoNode : PySem.W.subIn K (.ref C_NoNode) (.type "BaseException") = some true)
    (xl_NoNode : K.lookup C_NoNode = some (excClassObj xnm_NoNode xqn_NoNode C_NoNode xN_NoNode xbs_NoNode [.ref C_PlaceError, .type "ValueError", .type "Exception", .type "BaseException", .type "object"] true xsn_NoNode xsub_NoNode xab_NoNode xcol_NoNode xdd_NoNode xm0_NoNode xm1_NoNode xm2_NoNode xm3_NoNode xm5_NoNode "ValueError.__new__"))
    (xsa_NoNode : PySem.W.findIn K (.ref C_NoNode) "__setattr__" = some (some (.builtin "object.__setattr__")))
    (kc_NoNode : PySem.W.keepIn K (.ref C_NoNode) = true)
    (mi_NoNode : PySem.W.findIn K (.ref C_NoNode) "__init__" = some (some (.ref f_NoNode___init__)))
    (sc8_NoNode___init__ : PySem.W.typeIn K (.ref f_NoNode___init__) = some (.type "function"))
    (l_NoNode___init__ : K.lookup f_NoNode___init__ = some ⟨oc_NoNode___init__, od_NoNode___init__, .func (PySem.W.ksFn "__init__" "NoNode.__init__" (defArgs st_NoNode___init__) (defBody st_NoNode___init__) (defScope st_NoNode___init__) .none .none dc_NoNode___init__ pm_NoNode___init__ an_NoNode___init__ (.ref cda_NoNode___init__) ct_NoNode___init__ cc_NoNode___init__), sl_NoNode___init__⟩)
    (c_NoNode___init__ : PySem.W.codeIn K (.ref cda_NoNode___init__) "NoNode.__init__" = true)
    (sc1_NoNode___init__ : K.lookup cda_NoNode___init__ = some ⟨ccl_NoNode___init__, cdd_NoNode___init__, .fields vs_NoNode___init__, ccs_NoNode___init__⟩)
    (sc2_NoNode___init__ : vs_NoNode___init__[2]? = some (.str fi_NoNode___init__ tf_NoNode___init__))
    (sc3_NoNode___init__ : ((P.main.file : Str) == fi_NoNode___init__) = true)
    (sc4_NoNode___init__ : K.lookup cc_NoNode___init__ = some ⟨el_NoNode___init__, eld_NoNode___init__, .cell (some (.ref C_NoNode)), esl_NoNode___init__⟩)
    (xcm_NoNode : PySem.W.mroIn K C_NoNode (.ref C_NoNode) = some true)
    (xve_NoNode : PySem.W.subIn K (.ref C_NoNode) (.type "ValueError") = some true)
    (xnx_NoNode : PySem.W.ks_superIn K C_NoNode C_NoNode "__init__" = some (some (.builtin "ValueError.__init__")))
    (xno_NoNode_node : PySem.W.findIn K (.ref C_NoNode) "node" = some none)
    (a_NoEdge : PySem.W.nsIn K mainGlobals "NoEdge" = some (some (.ref C_NoEdge)))
    (cd_NoEdge : PySem.W.clsIn K C_NoEdge = some kd_NoEdge)
    (ct_NoEdge : PySem.W.typeIn K (.ref C_NoEdge) = some (.type "type"))
    (eC_NoEdge : PySem.W.subIn K (.ref C_NoEdge) (.type "BaseException") = some true)
    (xl_NoEdge : K.lookup C_NoEdge = some (excClassObj xnm_NoEdge xqn_NoEdge C_NoEdge xN_NoEdge xbs_NoEdge [.ref C_PlaceError, .type "ValueError", .type "Exception", .type "BaseException", .type "object"] true xsn_NoEdge xsub_NoEdge xab_NoEdge xcol_NoEdge xdd_NoEdge xm0_NoEdge xm1_NoEdge xm2_NoEdge xm3_NoEdge xm5_NoEdge "ValueError.__new__"))
    (xsa_NoEdge : PySem.W.findIn K (.ref C_NoEdge) "__setattr__" = some (some (.builtin "object.__setattr__")))
    (kc_NoEdge : PySem.W.keepIn K (.ref C_NoEdge) = true)
    (mi_NoEdge : PySem.W.findIn K (.ref C_NoEdge) "__init__" = some (some (.ref f_NoEdge___init__)))
    (sc8_NoEdge___init__ : PySem.W.typeIn K (.ref f_NoEdge___init__) = some (.type "function"))
    (l_NoEdge___init__ : K.lookup f_NoEdge___init__ = some ⟨oc_NoEdge___init__, od_NoEdge___init__, .func (PySem.W.ksFn "__init__" "NoEdge.__init__" (defArgs st_NoEdge___init__) (defBody st_NoEdge___init__) (defScope st_NoEdge___init__) .none .none dc_NoEdge___init__ pm_NoEdge___init__ an_NoEdge___init__ (.ref cda_NoEdge___init__) ct_NoEdge___init__ cc_NoEdge___init__), sl_NoEdge___init__⟩)
    (c_NoEdge___init__ : PySem.W.codeIn K (.ref cda_NoEdge___init__) "NoEdge.__init__" = true)
    (sc1_NoEdge___init__ : K.lookup cda_NoEdge___init__ = some ⟨ccl_NoEdge___init__, cdd_NoEdge___init__, .fields vs_NoEdge___init__, ccs_NoEdge___init__⟩)
    (sc2_NoEdge___init__ : vs_NoEdge___init__[2]? = some (.str fi_NoEdge___init__ tf_NoEdge___init__))
    (sc3_NoEdge___init__ : ((P.main.file : Str) == fi_NoEdge___init__) = true)
    (sc4_NoEdge___init__ : K.lookup cc_NoEdge___init__ = some ⟨el_NoEdge___init__, eld_NoEdge___init__, .cell (some (.ref C_NoEdge)), esl_NoEdge___init__⟩)
    (xcm_NoEdge : PySem.W.mroIn K C_NoEdge (.ref C_NoEdge) = some true)
    (xve_NoEdge : PySem.W.subIn K (.ref C_NoEdge) (.type "ValueError") = some true)
    (xnx_NoEdge : PySem.W.ks_superIn K C_NoEdge C_NoEdge "__init__" = some (some (.builtin "ValueError.__init__")))
    (xno_NoEdge_edge : PySem.W.findIn K (.ref C_NoEdge) "edge" = some none)
    (a_NoPlace : PySem.W.nsIn K mainGlobals "NoPlace" = some (some (.ref C_NoPlace)))
    (cd_NoPlace : PySem.W.clsIn K C_NoPlace = some kd_NoPlace)
    (ct_NoPlace : PySem.W.typeIn K (.ref C_NoPlace) = some (.type "type"))
    (eC_NoPlace : PySem.W.subIn K (.ref C_NoPlace) (.type "BaseException") = some true)
    (xl_NoPlace : K.lookup C_NoPlace = some (excClassObj xnm_NoPlace xqn_NoPlace C_NoPlace xN_NoPlace xbs_NoPlace [.ref C_PlaceError, .type "ValueError", .type "Exception", .type "BaseException", .type "object"] true xsn_NoPlace xsub_NoPlace xab_NoPlace xcol_NoPlace xdd_NoPlace xm0_NoPlace xm1_NoPlace xm2_NoPlace xm3_NoPlace xm5_NoPlace "ValueError.__new__"))
    (xsa_NoPlace : PySem.W.findIn K (.ref C_NoPlace) "__setattr__" = some (some (.builtin "object.__setattr__")))
    (kc_NoPlace : PySem.W.keepIn K (.ref C_NoPlace) = true)
    (mi_NoPlace : PySem.W.findIn K (.ref C_NoPlace) "__init__" = some (some (.ref f_NoPlace___init__)))
    (sc8_NoPlace___init__ : PySem.W.typeIn K (.ref f_NoPlace___init__) = some (.type "function"))
    (l_NoPlace___init__ : K.lookup f_NoPlace___init__ = some ⟨oc_NoPlace___init__, od_NoPlace___init__, .func (PySem.W.ksFn "__init__" "NoPlace.__init__" (defArgs st_NoPlace___init__) (defBody st_NoPlace___init__) (defScope st_NoPlace___init__) .none .none dc_NoPlace___init__ pm_NoPlace___init__ an_NoPlace___init__ (.ref cda_NoPlace___init__) ct_NoPlace___init__ cc_NoPlace___init__), sl_NoPlace___init__⟩)
    (c_NoPlace___init__ : PySem.W.codeIn K (.ref cda_NoPlace___init__) "NoPlace.__init__" = true)
    (sc1_NoPlace___init__ : K.lookup cda_NoPlace___init__ = some ⟨ccl_NoPlace___init__, cdd_NoPlace___init__, .fields vs_NoPlace___init__, ccs_NoPlace___init__⟩)
    (sc2_NoPlace___init__ : vs_NoPlace___init__[2]? = some (.str fi_NoPlace___init__ tf_NoPlace___init__))
    (sc3_NoPlace___init__ : ((P.main.file : Str) == fi_NoPlace___init__) = true)
    (sc4_NoPlace___init__ : K.lookup cc_NoPlace___init__ = some ⟨el_NoPlace___init__, eld_NoPlace___init__, .cell (some (.ref C_NoPlace)), esl_NoPlace___init__⟩)
    (xcm_NoPlace : PySem.W.mroIn K C_NoPlace (.ref C_NoPlace) = some true)
    (xve_NoPlace : PySem.W.subIn K (.ref C_NoPlace) (.type "ValueError") = some true)
    (xnx_NoPlace : PySem.W.ks_superIn K C_NoPlace C_NoPlace "__init__" = some (some (.builtin "ValueError.__init__")))
    (xno_NoPlace_place : PySem.W.findIn K (.ref C_NoPlace) "place" = some none)
    (a_NoStep : PySem.W.nsIn K mainGlobals "NoStep" = some (some (.ref C_NoStep)))
    (cd_NoStep : PySem.W.clsIn K C_NoStep = some kd_NoStep)
    (ct_NoStep : PySem.W.typeIn K (.ref C_NoStep) = some (.type "type"))
    (eC_NoStep : PySem.W.subIn K (.ref C_NoStep) (.type "BaseException") = some true)
    (xl_NoStep : K.lookup C_NoStep = some (excClassObj xnm_NoStep xqn_NoStep C_NoStep xN_NoStep xbs_NoStep [.ref C_PlaceError, .type "ValueError", .type "Exception", .type "BaseException", .type "object"] true xsn_NoStep xsub_NoStep xab_NoStep xcol_NoStep xdd_NoStep xm0_NoStep xm1_NoStep xm2_NoStep xm3_NoStep xm5_NoStep "ValueError.__new__"))
    (xsa_NoStep : PySem.W.findIn K (.ref C_NoStep) "__setattr__" = some (some (.builtin "object.__setattr__")))
    (kc_NoStep : PySem.W.keepIn K (.ref C_NoStep) = true)
    (mi_NoStep : PySem.W.findIn K (.ref C_NoStep) "__init__" = some (some (.ref f_NoStep___init__)))
    (sc8_NoStep___init__ : PySem.W.typeIn K (.ref f_NoStep___init__) = some (.type "function"))
    (l_NoStep___init__ : K.lookup f_NoStep___init__ = some ⟨oc_NoStep___init__, od_NoStep___init__, .func (PySem.W.ksFn "__init__" "NoStep.__init__" (defArgs st_NoStep___init__) (defBody st_NoStep___init__) (defScope st_NoStep___init__) .none .none dc_NoStep___init__ pm_NoStep___init__ an_NoStep___init__ (.ref cda_NoStep___init__) ct_NoStep___init__ cc_NoStep___init__), sl_NoStep___init__⟩)
    (c_NoStep___init__ : PySem.W.codeIn K (.ref cda_NoStep___init__) "NoStep.__init__" = true)
    (sc1_NoStep___init__ : K.lookup cda_NoStep___init__ = some ⟨ccl_NoStep___init__, cdd_NoStep___init__, .fields vs_NoStep___init__, ccs_NoStep___init__⟩)
    (sc2_NoStep___init__ : vs_NoStep___init__[2]? = some (.str fi_NoStep___init__ tf_NoStep___init__))
    (sc3_NoStep___init__ : ((P.main.file : Str) == fi_NoStep___init__) = true)
    (sc4_NoStep___init__ : K.lookup cc_NoStep___init__ = some ⟨el_NoStep___init__, eld_NoStep___init__, .cell (some (.ref C_NoStep)), esl_NoStep___init__⟩)
    (xcm_NoStep : PySem.W.mroIn K C_NoStep (.ref C_NoStep) = some true)
    (xve_NoStep : PySem.W.subIn K (.ref C_NoStep) (.type "ValueError") = some true)
    (xnx_NoStep : PySem.W.ks_superIn K C_NoStep C_NoStep "__init__" = some (some (.builtin "ValueError.__init__")))
    (xno_NoStep_place : PySem.W.findIn K (.ref C_NoStep) "place" = some none)
    (a_NoEdit : PySem.W.nsIn K mainGlobals "NoEdit" = some (some (.ref C_NoEdit)))
    (cd_NoEdit : PySem.W.clsIn K C_NoEdit = some kd_NoEdit)
    (ct_NoEdit : PySem.W.typeIn K (.ref C_NoEdit) = some (.type "type"))
    (eC_NoEdit : PySem.W.subIn K (.ref C_NoEdit) (.type "BaseException") = some true)
    (xl_NoEdit : K.lookup C_NoEdit = some (excClassObj xnm_NoEdit xqn_NoEdit C_NoEdit xN_NoEdit xbs_NoEdit [.ref C_PlaceError, .type "ValueError", .type "Exception", .type "BaseException", .type "object"] true xsn_NoEdit xsub_NoEdit xab_NoEdit xcol_NoEdit xdd_NoEdit xm0_NoEdit xm1_NoEdit xm2_NoEdit xm3_NoEdit xm5_NoEdit "ValueError.__new__"))
    (xsa_NoEdit : PySem.W.findIn K (.ref C_NoEdit) "__setattr__" = some (some (.builtin "object.__setattr__")))
    (kc_NoEdit : PySem.W.keepIn K (.ref C_NoEdit) = true)
    (mi_NoEdit : PySem.W.findIn K (.ref C_NoEdit) "__init__" = some (some (.ref f_NoEdit___init__)))
    (sc8_NoEdit___init__ : PySem.W.typeIn K (.ref f_NoEdit___init__) = some (.type "function"))
    (l_NoEdit___init__ : K.lookup f_NoEdit___init__ = some ⟨oc_NoEdit___init__, od_NoEdit___init__, .func (PySem.W.ksFn "__init__" "NoEdit.__init__" (defArgs st_NoEdit___init__) (defBody st_NoEdit___init__) (defScope st_NoEdit___init__) .none .none dc_NoEdit___init__ pm_NoEdit___init__ an_NoEdit___init__ (.ref cda_NoEdit___init__) ct_NoEdit___init__ cc_NoEdit___init__), sl_NoEdit___init__⟩)
    (c_NoEdit___init__ : PySem.W.codeIn K (.ref cda_NoEdit___init__) "NoEdit.__init__" = true)
    (sc1_NoEdit___init__ : K.lookup cda_NoEdit___init__ = some ⟨ccl_NoEdit___init__, cdd_NoEdit___init__, .fields vs_NoEdit___init__, ccs_NoEdit___init__⟩)
    (sc2_NoEdit___init__ : vs_NoEdit___init__[2]? = some (.str fi_NoEdit___init__ tf_NoEdit___init__))
    (sc3_NoEdit___init__ : ((P.main.file : Str) == fi_NoEdit___init__) = true)
    (sc4_NoEdit___init__ : K.lookup cc_NoEdit___init__ = some ⟨el_NoEdit___init__, eld_NoEdit___init__, .cell (some (.ref C_NoEdit)), esl_NoEdit___init__⟩)
    (xcm_NoEdit : PySem.W.mroIn K C_NoEdit (.ref C_NoEdit) = some true)
    (xve_NoEdit : PySem.W.subIn K (.ref C_NoEdit) (.type "ValueError") = some true)
    (xnx_NoEdit : PySem.W.ks_superIn K C_NoEdit C_NoEdit "__init__" = some (some (.builtin "ValueError.__init__")))
    (xno_NoEdit_name : PySem.W.findIn K (.ref C_NoEdit) "name" = some none)
    (a_Unfit : PySem.W.nsIn K mainGlobals "Unfit" = some (some (.ref C_Unfit)))
    (cd_Unfit : PySem.W.clsIn K C_Unfit = some kd_Unfit)
    (ct_Unfit : PySem.W.typeIn K (.ref C_Unfit) = some (.type "type"))
    (eC_Unfit : PySem.W.subIn K (.ref C_Unfit) (.type "BaseException") = some true)
    (xl_Unfit : K.lookup C_Unfit = some (excClassObj xnm_Unfit xqn_Unfit C_Unfit xN_Unfit xbs_Unfit [.ref C_PlaceError, .type "ValueError", .type "Exception", .type "BaseException", .type "object"] true xsn_Unfit xsub_Unfit xab_Unfit xcol_Unfit xdd_Unfit xm0_Unfit xm1_Unfit xm2_Unfit xm3_Unfit xm5_Unfit "ValueError.__new__"))
    (xsa_Unfit : PySem.W.findIn K (.ref C_Unfit) "__setattr__" = some (some (.builtin "object.__setattr__")))
    (kc_Unfit : PySem.W.keepIn K (.ref C_Unfit) = true)
    (mi_Unfit : PySem.W.findIn K (.ref C_Unfit) "__init__" = some (some (.ref f_Unfit___init__)))
    (sc8_Unfit___init__ : PySem.W.typeIn K (.ref f_Unfit___init__) = some (.type "function"))
    (l_Unfit___init__ : K.lookup f_Unfit___init__ = some ⟨oc_Unfit___init__, od_Unfit___init__, .func (PySem.W.ksFn "__init__" "Unfit.__init__" (defArgs st_Unfit___init__) (defBody st_Unfit___init__) (defScope st_Unfit___init__) .none .none dc_Unfit___init__ pm_Unfit___init__ an_Unfit___init__ (.ref cda_Unfit___init__) ct_Unfit___init__ cc_Unfit___init__), sl_Unfit___init__⟩)
    (c_Unfit___init__ : PySem.W.codeIn K (.ref cda_Unfit___init__) "Unfit.__init__" = true)
    (sc1_Unfit___init__ : K.lookup cda_Unfit___init__ = some ⟨ccl_Unfit___init__, cdd_Unfit___init__, .fields vs_Unfit___init__, ccs_Unfit___init__⟩)
    (sc2_Unfit___init__ : vs_Unfit___init__[2]? = some (.str fi_Unfit___init__ tf_Unfit___init__))
    (sc3_Unfit___init__ : ((P.main.file : Str) == fi_Unfit___init__) = true)
    (sc4_Unfit___init__ : K.lookup cc_Unfit___init__ = some ⟨el_Unfit___init__, eld_Unfit___init__, .cell (some (.ref C_Unfit)), esl_Unfit___init__⟩)
    (xcm_Unfit : PySem.W.mroIn K C_Unfit (.ref C_Unfit) = some true)
    (xve_Unfit : PySem.W.subIn K (.ref C_Unfit) (.type "ValueError") = some true)
    (xnx_Unfit : PySem.W.ks_superIn K C_Unfit C_Unfit "__init__" = some (some (.builtin "ValueError.__init__")))
    (xno_Unfit_told : PySem.W.findIn K (.ref C_Unfit) "told" = some none)
    (a_TooLong : PySem.W.nsIn K mainGlobals "TooLong" = some (some (.ref C_TooLong)))
    (cd_TooLong : PySem.W.clsIn K C_TooLong = some kd_TooLong)
    (ct_TooLong : PySem.W.typeIn K (.ref C_TooLong) = some (.type "type"))
    (eC_TooLong : PySem.W.subIn K (.ref C_TooLong) (.type "BaseException") = some true)
    (xl_TooLong : K.lookup C_TooLong = some (excClassObj xnm_TooLong xqn_TooLong C_TooLong xN_TooLong xbs_TooLong [.ref C_PlaceError, .type "ValueError", .type "Exception", .type "BaseException", .type "object"] true xsn_TooLong xsub_TooLong xab_TooLong xcol_TooLong xdd_TooLong xm0_TooLong xm1_TooLong xm2_TooLong xm3_TooLong xm5_TooLong "ValueError.__new__"))
    (xsa_TooLong : PySem.W.findIn K (.ref C_TooLong) "__setattr__" = some (some (.builtin "object.__setattr__")))
    (kc_TooLong : PySem.W.keepIn K (.ref C_TooLong) = true)
    (mi_TooLong : PySem.W.findIn K (.ref C_TooLong) "__init__" = some (some (.ref f_TooLong___init__)))
    (sc8_TooLong___init__ : PySem.W.typeIn K (.ref f_TooLong___init__) = some (.type "function"))
    (l_TooLong___init__ : K.lookup f_TooLong___init__ = some ⟨oc_TooLong___init__, od_TooLong___init__, .func (PySem.W.ksFn "__init__" "TooLong.__init__" (defArgs st_TooLong___init__) (defBody st_TooLong___init__) (defScope st_TooLong___init__) .none .none dc_TooLong___init__ pm_TooLong___init__ an_TooLong___init__ (.ref cda_TooLong___init__) ct_TooLong___init__ cc_TooLong___init__), sl_TooLong___init__⟩)
    (c_TooLong___init__ : PySem.W.codeIn K (.ref cda_TooLong___init__) "TooLong.__init__" = true)
    (sc1_TooLong___init__ : K.lookup cda_TooLong___init__ = some ⟨ccl_TooLong___init__, cdd_TooLong___init__, .fields vs_TooLong___init__, ccs_TooLong___init__⟩)
    (sc2_TooLong___init__ : vs_TooLong___init__[2]? = some (.str fi_TooLong___init__ tf_TooLong___init__))
    (sc3_TooLong___init__ : ((P.main.file : Str) == fi_TooLong___init__) = true)
    (sc4_TooLong___init__ : K.lookup cc_TooLong___init__ = some ⟨el_TooLong___init__, eld_TooLong___init__, .cell (some (.ref C_TooLong)), esl_TooLong___init__⟩)
    (xcm_TooLong : PySem.W.mroIn K C_TooLong (.ref C_TooLong) = some true)
    (xve_TooLong : PySem.W.subIn K (.ref C_TooLong) (.type "ValueError") = some true)
    (xnx_TooLong : PySem.W.ks_superIn K C_TooLong C_TooLong "__init__" = some (some (.builtin "ValueError.__init__")))
    (xno_TooLong_nodes : PySem.W.findIn K (.ref C_TooLong) "nodes" = some none)
    (a__law_other_ones : PySem.W.nsIn K mainGlobals "_law_other_ones" = some (some (.ref f__law_other_ones)))
    (l__law_other_ones : K.lookup f__law_other_ones = some ⟨oc__law_other_ones, od__law_other_ones, .func (PySem.W.fnOf "_law_other_ones" "_law_other_ones" (defArgs st__law_other_ones) (defBody st__law_other_ones) (defScope st__law_other_ones) .none kV__law_other_ones dc__law_other_ones pm__law_other_ones an__law_other_ones cd__law_other_ones ct__law_other_ones), sl__law_other_ones⟩)
    (c__law_other_ones : PySem.W.codeIn K cd__law_other_ones "_law_other_ones" = true)
    (k__law_other_ones : PySem.W.keepIn K (.ref f__law_other_ones) = true)
    (xga_NotClosed : PySem.W.findIn K (.ref C_NotClosed) "__getattribute__" = some (some (.builtin "BaseException.__getattribute__")))
    (xgt_NotClosed : PySem.W.findIn K (.ref C_NotClosed) "__getattr__" = some none)
    (ia_NotClosed : PySem.W.findIn K (.ref C_NotClosed) "__class__" = some (some (.builtin "object.__class__")))
    (ig : PySem.W.specialIn K (.builtin "object.__class__") "__get__" = some (some (.builtin "getset_descriptor.__get__")))
    (it : PySem.W.takesIn K (.builtin "object.__class__") = some true)
    (im_NotClosed : PySem.W.mroIn K C_NotClosed (.type "object") = some true)
    (hd_NotClosed : PySem.W.hasDictIn K C_NotClosed = true)
    (xga_NoName : PySem.W.findIn K (.ref C_NoName) "__getattribute__" = some (some (.builtin "BaseException.__getattribute__")))
    (xgt_NoName : PySem.W.findIn K (.ref C_NoName) "__getattr__" = some none)
    (ia_NoName : PySem.W.findIn K (.ref C_NoName) "__class__" = some (some (.builtin "object.__class__")))
    (im_NoName : PySem.W.mroIn K C_NoName (.type "object") = some true)
    (hd_NoName : PySem.W.hasDictIn K C_NoName = true)
    (xga_NoValue : PySem.W.findIn K (.ref C_NoValue) "__getattribute__" = some (some (.builtin "BaseException.__getattribute__")))
    (xgt_NoValue : PySem.W.findIn K (.ref C_NoValue) "__getattr__" = some none)
    (ia_NoValue : PySem.W.findIn K (.ref C_NoValue) "__class__" = some (some (.builtin "object.__class__")))
    (im_NoValue : PySem.W.mroIn K C_NoValue (.type "object") = some true)
    (hd_NoValue : PySem.W.hasDictIn K C_NoValue = true)
    (xga_NoOperator : PySem.W.findIn K (.ref C_NoOperator) "__getattribute__" = some (some (.builtin "BaseException.__getattribute__")))
    (xgt_NoOperator : PySem.W.findIn K (.ref C_NoOperator) "__getattr__" = some none)
    (ia_NoOperator : PySem.W.findIn K (.ref C_NoOperator) "__class__" = some (some (.builtin "object.__class__")))
    (im_NoOperator : PySem.W.mroIn K C_NoOperator (.type "object") = some true)
    (hd_NoOperator : PySem.W.hasDictIn K C_NoOperator = true)
    (xga_NoStatement : PySem.W.findIn K (.ref C_NoStatement) "__getattribute__" = some (some (.builtin "BaseException.__getattribute__")))
    (xgt_NoStatement : PySem.W.findIn K (.ref C_NoStatement) "__getattr__" = some none)
    (ia_NoStatement : PySem.W.findIn K (.ref C_NoStatement) "__class__" = some (some (.builtin "object.__class__")))
    (im_NoStatement : PySem.W.mroIn K C_NoStatement (.type "object") = some true)
    (hd_NoStatement : PySem.W.hasDictIn K C_NoStatement = true)
    (xga_NoText : PySem.W.findIn K (.ref C_NoText) "__getattribute__" = some (some (.builtin "BaseException.__getattribute__")))
    (xgt_NoText : PySem.W.findIn K (.ref C_NoText) "__getattr__" = some none)
    (ia_NoText : PySem.W.findIn K (.ref C_NoText) "__class__" = some (some (.builtin "object.__class__")))
    (im_NoText : PySem.W.mroIn K C_NoText (.type "object") = some true)
    (hd_NoText : PySem.W.hasDictIn K C_NoText = true)
    (xga_NoNumber : PySem.W.findIn K (.ref C_NoNumber) "__getattribute__" = some (some (.builtin "BaseException.__getattribute__")))
    (xgt_NoNumber : PySem.W.findIn K (.ref C_NoNumber) "__getattr__" = some none)
    (ia_NoNumber : PySem.W.findIn K (.ref C_NoNumber) "__class__" = some (some (.builtin "object.__class__")))
    (im_NoNumber : PySem.W.mroIn K C_NoNumber (.type "object") = some true)
    (hd_NoNumber : PySem.W.hasDictIn K C_NoNumber = true)
    (xga_NoInputs : PySem.W.findIn K (.ref C_NoInputs) "__getattribute__" = some (some (.builtin "BaseException.__getattribute__")))
    (xgt_NoInputs : PySem.W.findIn K (.ref C_NoInputs) "__getattr__" = some none)
    (ia_NoInputs : PySem.W.findIn K (.ref C_NoInputs) "__class__" = some (some (.builtin "object.__class__")))
    (im_NoInputs : PySem.W.mroIn K C_NoInputs (.type "object") = some true)
    (hd_NoInputs : PySem.W.hasDictIn K C_NoInputs = true)
    (xga_NoExpression : PySem.W.findIn K (.ref C_NoExpression) "__getattribute__" = some (some (.builtin "BaseException.__getattribute__")))
    (xgt_NoExpression : PySem.W.findIn K (.ref C_NoExpression) "__getattr__" = some none)
    (ia_NoExpression : PySem.W.findIn K (.ref C_NoExpression) "__class__" = some (some (.builtin "object.__class__")))
    (im_NoExpression : PySem.W.mroIn K C_NoExpression (.type "object") = some true)
    (hd_NoExpression : PySem.W.hasDictIn K C_NoExpression = true)
    (xga_NoPoint : PySem.W.findIn K (.ref C_NoPoint) "__getattribute__" = some (some (.builtin "BaseException.__getattribute__")))
    (xgt_NoPoint : PySem.W.findIn K (.ref C_NoPoint) "__getattr__" = some none)
    (ia_NoPoint : PySem.W.findIn K (.ref C_NoPoint) "__class__" = some (some (.builtin "object.__class__")))
    (im_NoPoint : PySem.W.mroIn K C_NoPoint (.type "object") = some true)
    (hd_NoPoint : PySem.W.hasDictIn K C_NoPoint = true)
    (xga_NoPlacement : PySem.W.findIn K (.ref C_NoPlacement) "__getattribute__" = some (some (.builtin "BaseException.__getattribute__")))
    (xgt_NoPlacement : PySem.W.findIn K (.ref C_NoPlacement) "__getattr__" = some none)
    (ia_NoPlacement : PySem.W.findIn K (.ref C_NoPlacement) "__class__" = some (some (.builtin "object.__class__")))
    (im_NoPlacement : PySem.W.mroIn K C_NoPlacement (.type "object") = some true)
    (hd_NoPlacement : PySem.W.hasDictIn K C_NoPlacement = true)
    (xga_NoPath : PySem.W.findIn K (.ref C_NoPath) "__getattribute__" = some (some (.builtin "BaseException.__getattribute__")))
    (xgt_NoPath : PySem.W.findIn K (.ref C_NoPath) "__getattr__" = some none)
    (ia_NoPath : PySem.W.findIn K (.ref C_NoPath) "__class__" = some (some (.builtin "object.__class__")))
    (im_NoPath : PySem.W.mroIn K C_NoPath (.type "object") = some true)
    (hd_NoPath : PySem.W.hasDictIn K C_NoPath = true)
    (xga_NoPrice : PySem.W.findIn K (.ref C_NoPrice) "__getattribute__" = some (some (.builtin "BaseException.__getattribute__")))
    (xgt_NoPrice : PySem.W.findIn K (.ref C_NoPrice) "__getattr__" = some none)
    (ia_NoPrice : PySem.W.findIn K (.ref C_NoPrice) "__class__" = some (some (.builtin "object.__class__")))
    (im_NoPrice : PySem.W.mroIn K C_NoPrice (.type "object") = some true)
    (hd_NoPrice : PySem.W.hasDictIn K C_NoPrice = true)
    (xga_NoCounts : PySem.W.findIn K (.ref C_NoCounts) "__getattribute__" = some (some (.builtin "BaseException.__getattribute__")))
    (xgt_NoCounts : PySem.W.findIn K (.ref C_NoCounts) "__getattr__" = some none)
    (ia_NoCounts : PySem.W.findIn K (.ref C_NoCounts) "__class__" = some (some (.builtin "object.__class__")))
    (im_NoCounts : PySem.W.mroIn K C_NoCounts (.type "object") = some true)
    (hd_NoCounts : PySem.W.hasDictIn K C_NoCounts = true)
    (xga_NoPairs : PySem.W.findIn K (.ref C_NoPairs) "__getattribute__" = some (some (.builtin "BaseException.__getattribute__")))
    (xgt_NoPairs : PySem.W.findIn K (.ref C_NoPairs) "__getattr__" = some none)
    (ia_NoPairs : PySem.W.findIn K (.ref C_NoPairs) "__class__" = some (some (.builtin "object.__class__")))
    (im_NoPairs : PySem.W.mroIn K C_NoPairs (.type "object") = some true)
    (hd_NoPairs : PySem.W.hasDictIn K C_NoPairs = true)
    (xga_NoProgram : PySem.W.findIn K (.ref C_NoProgram) "__getattribute__" = some (some (.builtin "BaseException.__getattribute__")))
    (xgt_NoProgram : PySem.W.findIn K (.ref C_NoProgram) "__getattr__" = some none)
    (ia_NoProgram : PySem.W.findIn K (.ref C_NoProgram) "__class__" = some (some (.builtin "object.__class__")))
    (im_NoProgram : PySem.W.mroIn K C_NoProgram (.type "object") = some true)
    (hd_NoProgram : PySem.W.hasDictIn K C_NoProgram = true)
    (xga_Idle : PySem.W.findIn K (.ref C_Idle) "__getattribute__" = some (some (.builtin "BaseException.__getattribute__")))
    (xgt_Idle : PySem.W.findIn K (.ref C_Idle) "__getattr__" = some none)
    (ia_Idle : PySem.W.findIn K (.ref C_Idle) "__class__" = some (some (.builtin "object.__class__")))
    (im_Idle : PySem.W.mroIn K C_Idle (.type "object") = some true)
    (hd_Idle : PySem.W.hasDictIn K C_Idle = true)
    (xga_NoNode : PySem.W.findIn K (.ref C_NoNode) "__getattribute__" = some (some (.builtin "BaseException.__getattribute__")))
    (xgt_NoNode : PySem.W.findIn K (.ref C_NoNode) "__getattr__" = some none)
    (ia_NoNode : PySem.W.findIn K (.ref C_NoNode) "__class__" = some (some (.builtin "object.__class__")))
    (im_NoNode : PySem.W.mroIn K C_NoNode (.type "object") = some true)
    (hd_NoNode : PySem.W.hasDictIn K C_NoNode = true)
    (xga_NoEdge : PySem.W.findIn K (.ref C_NoEdge) "__getattribute__" = some (some (.builtin "BaseException.__getattribute__")))
    (xgt_NoEdge : PySem.W.findIn K (.ref C_NoEdge) "__getattr__" = some none)
    (ia_NoEdge : PySem.W.findIn K (.ref C_NoEdge) "__class__" = some (some (.builtin "object.__class__")))
    (im_NoEdge : PySem.W.mroIn K C_NoEdge (.type "object") = some true)
    (hd_NoEdge : PySem.W.hasDictIn K C_NoEdge = true)
    (xga_NoPlace : PySem.W.findIn K (.ref C_NoPlace) "__getattribute__" = some (some (.builtin "BaseException.__getattribute__")))
    (xgt_NoPlace : PySem.W.findIn K (.ref C_NoPlace) "__getattr__" = some none)
    (ia_NoPlace : PySem.W.findIn K (.ref C_NoPlace) "__class__" = some (some (.builtin "object.__class__")))
    (im_NoPlace : PySem.W.mroIn K C_NoPlace (.type "object") = some true)
    (hd_NoPlace : PySem.W.hasDictIn K C_NoPlace = true)
    (xga_NoStep : PySem.W.findIn K (.ref C_NoStep) "__getattribute__" = some (some (.builtin "BaseException.__getattribute__")))
    (xgt_NoStep : PySem.W.findIn K (.ref C_NoStep) "__getattr__" = some none)
    (ia_NoStep : PySem.W.findIn K (.ref C_NoStep) "__class__" = some (some (.builtin "object.__class__")))
    (im_NoStep : PySem.W.mroIn K C_NoStep (.type "object") = some true)
    (hd_NoStep : PySem.W.hasDictIn K C_NoStep = true)
    (xga_NoEdit : PySem.W.findIn K (.ref C_NoEdit) "__getattribute__" = some (some (.builtin "BaseException.__getattribute__")))
    (xgt_NoEdit : PySem.W.findIn K (.ref C_NoEdit) "__getattr__" = some none)
    (ia_NoEdit : PySem.W.findIn K (.ref C_NoEdit) "__class__" = some (some (.builtin "object.__class__")))
    (im_NoEdit : PySem.W.mroIn K C_NoEdit (.type "object") = some true)
    (hd_NoEdit : PySem.W.hasDictIn K C_NoEdit = true)
    (xga_Unfit : PySem.W.findIn K (.ref C_Unfit) "__getattribute__" = some (some (.builtin "BaseException.__getattribute__")))
    (xgt_Unfit : PySem.W.findIn K (.ref C_Unfit) "__getattr__" = some none)
    (ia_Unfit : PySem.W.findIn K (.ref C_Unfit) "__class__" = some (some (.builtin "object.__class__")))
    (im_Unfit : PySem.W.mroIn K C_Unfit (.type "object") = some true)
    (hd_Unfit : PySem.W.hasDictIn K C_Unfit = true)
    (xga_TooLong : PySem.W.findIn K (.ref C_TooLong) "__getattribute__" = some (some (.builtin "BaseException.__getattribute__")))
    (xgt_TooLong : PySem.W.findIn K (.ref C_TooLong) "__getattr__" = some none)
    (ia_TooLong : PySem.W.findIn K (.ref C_TooLong) "__class__" = some (some (.builtin "object.__class__")))
    (im_TooLong : PySem.W.mroIn K C_TooLong (.type "object") = some true)
    (hd_TooLong : PySem.W.hasDictIn K C_TooLong = true)
    (a__law_value_of : PySem.W.nsIn K mainGlobals "_law_value_of" = some (some (.ref f__law_value_of)))
    (l__law_value_of : K.lookup f__law_value_of = some ⟨oc__law_value_of, od__law_value_of, .func (PySem.W.fnOf "_law_value_of" "_law_value_of" (defArgs st__law_value_of) (defBody st__law_value_of) (defScope st__law_value_of) .none kV__law_value_of dc__law_value_of pm__law_value_of an__law_value_of cd__law_value_of ct__law_value_of), sl__law_value_of⟩)
    (c__law_value_of : PySem.W.codeIn K cd__law_value_of "_law_value_of" = true)
    (k__law_value_of : PySem.W.keepIn K (.ref f__law_value_of) = true)
    (cd_PlaceError : PySem.W.clsIn K C_PlaceError = some kd_PlaceError)
    (ct_PlaceError : PySem.W.typeIn K (.ref C_PlaceError) = some (.type "type"))
    (eC_PlaceError : PySem.W.subIn K (.ref C_PlaceError) (.type "BaseException") = some true)
    (a_NothingToUndo : PySem.W.nsIn K mainGlobals "NothingToUndo" = some (some (.ref C_NothingToUndo)))
    (cd_NothingToUndo : PySem.W.clsIn K C_NothingToUndo = some kd_NothingToUndo)
    (ct_NothingToUndo : PySem.W.typeIn K (.ref C_NothingToUndo) = some (.type "type"))
    (eC_NothingToUndo : PySem.W.subIn K (.ref C_NothingToUndo) (.type "BaseException") = some true)
    (xl_NothingToUndo : K.lookup C_NothingToUndo = some (excClassObj xnm_NothingToUndo xqn_NothingToUndo C_NothingToUndo xN_NothingToUndo xbs_NothingToUndo [.ref C_PlaceError, .type "ValueError", .type "Exception", .type "BaseException", .type "object"] true xsn_NothingToUndo xsub_NothingToUndo xab_NothingToUndo xcol_NothingToUndo xdd_NothingToUndo xm0_NothingToUndo xm1_NothingToUndo xm2_NothingToUndo xm3_NothingToUndo xm5_NothingToUndo "ValueError.__new__"))
    (xsa_NothingToUndo : PySem.W.findIn K (.ref C_NothingToUndo) "__setattr__" = some (some (.builtin "object.__setattr__")))
    (kc_NothingToUndo : PySem.W.keepIn K (.ref C_NothingToUndo) = true)
    (mi_NothingToUndo : PySem.W.findIn K (.ref C_NothingToUndo) "__init__" = some (some (.ref f_NothingToUndo___init__)))
    (sc8_NothingToUndo___init__ : PySem.W.typeIn K (.ref f_NothingToUndo___init__) = some (.type "function"))
    (l_NothingToUndo___init__ : K.lookup f_NothingToUndo___init__ = some ⟨oc_NothingToUndo___init__, od_NothingToUndo___init__, .func (PySem.W.ksFn "__init__" "NothingToUndo.__init__" (defArgs st_NothingToUndo___init__) (defBody st_NothingToUndo___init__) (defScope st_NothingToUndo___init__) .none .none dc_NothingToUndo___init__ pm_NothingToUndo___init__ an_NothingToUndo___init__ (.ref cda_NothingToUndo___init__) ct_NothingToUndo___init__ cc_NothingToUndo___init__), sl_NothingToUndo___init__⟩)
    (c_NothingToUndo___init__ : PySem.W.codeIn K (.ref cda_NothingToUndo___init__) "NothingToUndo.__init__" = true)
    (sc1_NothingToUndo___init__ : K.lookup cda_NothingToUndo___init__ = some ⟨ccl_NothingToUndo___init__, cdd_NothingToUndo___init__, .fields vs_NothingToUndo___init__, ccs_NothingToUndo___init__⟩)
    (sc2_NothingToUndo___init__ : vs_NothingToUndo___init__[2]? = some (.str fi_NothingToUndo___init__ tf_NothingToUndo___init__))
    (sc3_NothingToUndo___init__ : ((P.main.file : Str) == fi_NothingToUndo___init__) = true)
    (sc4_NothingToUndo___init__ : K.lookup cc_NothingToUndo___init__ = some ⟨el_NothingToUndo___init__, eld_NothingToUndo___init__, .cell (some (.ref C_NothingToUndo)), esl_NothingToUndo___init__⟩)
    (xcm_NothingToUndo : PySem.W.mroIn K C_NothingToUndo (.ref C_NothingToUndo) = some true)
    (xve_NothingToUndo : PySem.W.subIn K (.ref C_NothingToUndo) (.type "ValueError") = some true)
    (xnx_NothingToUndo : PySem.W.ks_superIn K C_NothingToUndo C_NothingToUndo "__init__" = some (some (.builtin "ValueError.__init__")))
    (xga_NothingToUndo : PySem.W.findIn K (.ref C_NothingToUndo) "__getattribute__" = some (some (.builtin "BaseException.__getattribute__")))
    (xgt_NothingToUndo : PySem.W.findIn K (.ref C_NothingToUndo) "__getattr__" = some none)
    (ia_NothingToUndo : PySem.W.findIn K (.ref C_NothingToUndo) "__class__" = some (some (.builtin "object.__class__")))
    (im_NothingToUndo : PySem.W.mroIn K C_NothingToUndo (.type "object") = some true)
    (hd_NothingToUndo : PySem.W.hasDictIn K C_NothingToUndo = true)
    (fnod : [C_NotClosed, C_NoName, C_NoValue, C_NoOperator, C_NoStatement, C_NoText, C_NoNumber, C_NoInputs, C_NoExpression, C_NoPoint, C_NoPlacement, C_NoPath, C_TooLong, C_NoPrice, C_NoCounts, C_NoPairs, C_NoProgram, C_Idle, C_NoNode, C_NoEdge, C_NoPlace, C_NoStep, C_NoEdit, C_Unfit, C_NothingToUndo].Nodup)
    (fnpe : C_PlaceError ∉ [C_NotClosed, C_NoName, C_NoValue, C_NoOperator, C_NoStatement, C_NoText, C_NoNumber, C_NoInputs, C_NoExpression, C_NoPoint, C_NoPlacement, C_NoPath, C_TooLong, C_NoPrice, C_NoCounts, C_NoPairs, C_NoProgram, C_Idle, C_NoNode, C_NoEdge, C_NoPlace, C_NoStep, C_NoEdit, C_Unfit, C_NothingToUndo])
    (z_isinstance : PySem.W.nsIn K mainGlobals "isinstance" = some none)
    (z_list : PySem.W.nsIn K mainGlobals "list" = some none)
    (z_repr : PySem.W.nsIn K mainGlobals "repr" = some none)
    (a__law_alike : PySem.W.nsIn K mainGlobals "_law_alike" = some (some (.ref f__law_alike)))
    (l__law_alike : K.lookup f__law_alike = some ⟨oc__law_alike, od__law_alike, .func (PySem.W.fnOf "_law_alike" "_law_alike" (defArgs st__law_alike) (defBody st__law_alike) (defScope st__law_alike) .none kV__law_alike dc__law_alike pm__law_alike an__law_alike cd__law_alike ct__law_alike), sl__law_alike⟩)
    (c__law_alike : PySem.W.codeIn K cd__law_alike "_law_alike" = true)
    (k__law_alike : PySem.W.keepIn K (.ref f__law_alike) = true)
    (z_str : PySem.W.nsIn K mainGlobals "str" = some none)
    (xst_NotClosed : PySem.W.findIn K (.ref C_NotClosed) "__str__" = some (some (.builtin "BaseException.__str__")))
    (xst_NoName : PySem.W.findIn K (.ref C_NoName) "__str__" = some (some (.builtin "BaseException.__str__")))
    (xst_NoValue : PySem.W.findIn K (.ref C_NoValue) "__str__" = some (some (.builtin "BaseException.__str__")))
    (xst_NoOperator : PySem.W.findIn K (.ref C_NoOperator) "__str__" = some (some (.builtin "BaseException.__str__")))
    (xst_NoStatement : PySem.W.findIn K (.ref C_NoStatement) "__str__" = some (some (.builtin "BaseException.__str__")))
    (xst_NoText : PySem.W.findIn K (.ref C_NoText) "__str__" = some (some (.builtin "BaseException.__str__")))
    (xst_NoNumber : PySem.W.findIn K (.ref C_NoNumber) "__str__" = some (some (.builtin "BaseException.__str__")))
    (xst_NoInputs : PySem.W.findIn K (.ref C_NoInputs) "__str__" = some (some (.builtin "BaseException.__str__")))
    (xst_NoExpression : PySem.W.findIn K (.ref C_NoExpression) "__str__" = some (some (.builtin "BaseException.__str__")))
    (xst_NoPoint : PySem.W.findIn K (.ref C_NoPoint) "__str__" = some (some (.builtin "BaseException.__str__")))
    (xst_NoPlacement : PySem.W.findIn K (.ref C_NoPlacement) "__str__" = some (some (.builtin "BaseException.__str__")))
    (xst_NoPath : PySem.W.findIn K (.ref C_NoPath) "__str__" = some (some (.builtin "BaseException.__str__")))
    (xst_TooLong : PySem.W.findIn K (.ref C_TooLong) "__str__" = some (some (.builtin "BaseException.__str__")))
    (xst_NoPrice : PySem.W.findIn K (.ref C_NoPrice) "__str__" = some (some (.builtin "BaseException.__str__")))
    (xst_NoCounts : PySem.W.findIn K (.ref C_NoCounts) "__str__" = some (some (.builtin "BaseException.__str__")))
    (xst_NoPairs : PySem.W.findIn K (.ref C_NoPairs) "__str__" = some (some (.builtin "BaseException.__str__")))
    (xst_NoProgram : PySem.W.findIn K (.ref C_NoProgram) "__str__" = some (some (.builtin "BaseException.__str__")))
    (xst_Idle : PySem.W.findIn K (.ref C_Idle) "__str__" = some (some (.builtin "BaseException.__str__")))
    (xst_NoNode : PySem.W.findIn K (.ref C_NoNode) "__str__" = some (some (.builtin "BaseException.__str__")))
    (xst_NoEdge : PySem.W.findIn K (.ref C_NoEdge) "__str__" = some (some (.builtin "BaseException.__str__")))
    (xst_NoPlace : PySem.W.findIn K (.ref C_NoPlace) "__str__" = some (some (.builtin "BaseException.__str__")))
    (xst_NoStep : PySem.W.findIn K (.ref C_NoStep) "__str__" = some (some (.builtin "BaseException.__str__")))
    (xst_NoEdit : PySem.W.findIn K (.ref C_NoEdit) "__str__" = some (some (.builtin "BaseException.__str__")))
    (xst_Unfit : PySem.W.findIn K (.ref C_Unfit) "__str__" = some (some (.builtin "BaseException.__str__")))
    (a__law_kept : PySem.W.nsIn K mainGlobals "_law_kept" = some (some (.ref f__law_kept)))
    (l__law_kept : K.lookup f__law_kept = some ⟨oc__law_kept, od__law_kept, .func (PySem.W.fnOf "_law_kept" "_law_kept" (defArgs st__law_kept) (defBody st__law_kept) (defScope st__law_kept) .none kV__law_kept dc__law_kept pm__law_kept an__law_kept cd__law_kept ct__law_kept), sl__law_kept⟩)
    (c__law_kept : PySem.W.codeIn K cd__law_kept "_law_kept" = true)
    (k__law_kept : PySem.W.keepIn K (.ref f__law_kept) = true)
    (a__law_mixed : PySem.W.nsIn K mainGlobals "_law_mixed" = some (some (.ref f__law_mixed)))
    (l__law_mixed : K.lookup f__law_mixed = some ⟨oc__law_mixed, od__law_mixed, .func (PySem.W.fnOf "_law_mixed" "_law_mixed" (defArgs st__law_mixed) (defBody st__law_mixed) (defScope st__law_mixed) .none kV__law_mixed dc__law_mixed pm__law_mixed an__law_mixed cd__law_mixed ct__law_mixed), sl__law_mixed⟩)
    (c__law_mixed : PySem.W.codeIn K cd__law_mixed "_law_mixed" = true)
    (k__law_mixed : PySem.W.keepIn K (.ref f__law_mixed) = true)
    (a__law_take : PySem.W.nsIn K mainGlobals "_law_take" = some (some (.ref f__law_take)))
    (l__law_take : K.lookup f__law_take = some ⟨oc__law_take, od__law_take, .func (PySem.W.fnOf "_law_take" "_law_take" (defArgs st__law_take) (defBody st__law_take) (defScope st__law_take) .none kV__law_take dc__law_take pm__law_take an__law_take cd__law_take ct__law_take), sl__law_take⟩)
    (c__law_take : PySem.W.codeIn K cd__law_take "_law_take" = true)
    (k__law_take : PySem.W.keepIn K (.ref f__law_take) = true)
    (a__law_odd : PySem.W.nsIn K mainGlobals "_law_odd" = some (some (.ref f__law_odd)))
    (l__law_odd : K.lookup f__law_odd = some ⟨oc__law_odd, od__law_odd, .func (PySem.W.fnOf "_law_odd" "_law_odd" (defArgs st__law_odd) (defBody st__law_odd) (defScope st__law_odd) .none kV__law_odd dc__law_odd pm__law_odd an__law_odd cd__law_odd ct__law_odd), sl__law_odd⟩)
    (c__law_odd : PySem.W.codeIn K cd__law_odd "_law_odd" = true)
    (k__law_odd : PySem.W.keepIn K (.ref f__law_odd) = true)
    (z_ValueError : PySem.W.nsIn K mainGlobals "ValueError" = some none)
    (z_enumerate : PySem.W.nsIn K mainGlobals "enumerate" = some none)
    (a__law_kinds : PySem.W.nsIn K mainGlobals "_law_kinds" = some (some (.ref f__law_kinds)))
    (l__law_kinds : K.lookup f__law_kinds = some ⟨oc__law_kinds, od__law_kinds, .func (PySem.W.fnOf "_law_kinds" "_law_kinds" (defArgs st__law_kinds) (defBody st__law_kinds) (defScope st__law_kinds) .none kV__law_kinds dc__law_kinds pm__law_kinds an__law_kinds cd__law_kinds ct__law_kinds), sl__law_kinds⟩)
    (c__law_kinds : PySem.W.codeIn K cd__law_kinds "_law_kinds" = true)
    (k__law_kinds : PySem.W.keepIn K (.ref f__law_kinds) = true)
    (a__law_great_kept : PySem.W.nsIn K mainGlobals "_law_great_kept" = some (some (.ref f__law_great_kept)))
    (l__law_great_kept : K.lookup f__law_great_kept = some ⟨oc__law_great_kept, od__law_great_kept, .func (PySem.W.fnOf "_law_great_kept" "_law_great_kept" (defArgs st__law_great_kept) (defBody st__law_great_kept) (defScope st__law_great_kept) .none kV__law_great_kept dc__law_great_kept pm__law_great_kept an__law_great_kept cd__law_great_kept ct__law_great_kept), sl__law_great_kept⟩)
    (c__law_great_kept : PySem.W.codeIn K cd__law_great_kept "_law_great_kept" = true)
    (k__law_great_kept : PySem.W.keepIn K (.ref f__law_great_kept) = true)
    (a_law : PySem.W.nsIn K mainGlobals "law" = some (some (.ref f_law)))
    (l_law : K.lookup f_law = some ⟨oc_law, od_law, .func (PySem.W.fnOf "law" "law" (defArgs st_law) (defBody st_law) (defScope st_law) .none kV_law dc_law pm_law an_law cd_law ct_law), sl_law⟩)
    (c_law : PySem.W.codeIn K cd_law "law" = true)
    (k_law : PySem.W.keepIn K (.ref f_law) = true) :
    ∃ (fd : FuncData) (cl : String → Addr), (∀ (s : Shared) (v : Value), BindsTo s fd ⟨[v], []⟩ [("_law_script", v)]) ∧ ∀ base : Heap, Sys base → K.In base → base.Ns mainGlobals mg → FnG P w K mg base 5 fa fd ["_law_script"] (spOf (⟨K, cl⟩ : G) d_law 1) := by
  have e := hfa.symm.trans (PySem.W.mg_of X Gn a_law)
  cases e
  let cl : String → Addr := fun c => if c = "NoName" then C_NoName else if c = "PlaceError" then C_PlaceError else if c = "NoValue" then C_NoValue else if c = "NoOperator" then C_NoOperator else if c = "NoStatement" then C_NoStatement else if c = "NoText" then C_NoText else if c = "NoNumber" then C_NoNumber else if c = "NoInputs" then C_NoInputs else if c = "NoExpression" then C_NoExpression else if c = "NoPoint" then C_NoPoint else if c = "NoPlacement" then C_NoPlacement else if c = "NoPath" then C_NoPath else if c = "NotClosed" then C_NotClosed else if c = "NoPrice" then C_NoPrice else if c = "NoCounts" then C_NoCounts else if c = "NoPairs" then C_NoPairs else if c = "NoProgram" then C_NoProgram else if c = "Idle" then C_Idle else if c = "NoNode" then C_NoNode else if c = "NoEdge" then C_NoEdge else if c = "NoPlace" then C_NoPlace else if c = "NoStep" then C_NoStep else if c = "NoEdit" then C_NoEdit else if c = "Unfit" then C_Unfit else if c = "TooLong" then C_TooLong else if c = "NothingToUndo" then C_NothingToUndo else 0
  refine ⟨PySem.W.fnOf "law" "law" (defArgs st_law) (defBody st_law) (defScope st_law) .none kV_law dc_law pm_law an_law cd_law ct_law, cl, fun s v => .of_eq rfl, fun base hS _ _ => ?_⟩
  have T : Txt P K mg cl base := {
    sys := hS.ne
    none_range := PySem.W.mg_none_of X Gn z_range
    none_len := PySem.W.mg_none_of X Gn z_len
    none_int := PySem.W.mg_none_of X Gn z_int
    none_abs := PySem.W.mg_none_of X Gn z_abs
    fun__law_pile := .mk' (PySem.W.mg_of X Gn a__law_pile) l__law_pile c__law_pile k__law_pile (fun _ _ _ _ _ _ us hl => match us, hl with | [_, _], _ => rfl)
    m_NoName := PySem.W.mg_of X Gn a_NoName
    m_PlaceError := PySem.W.mg_of X Gn a_PlaceError
    none_super := PySem.W.mg_none_of X Gn z_super
    exc_NoName := ⟨f_NoName___init__, ⟨⟨⟨xnm_NoName, xqn_NoName, xN_NoName, xbs_NoName, _, xsn_NoName, xsub_NoName, xab_NoName, xcol_NoName, xdd_NoName, xm0_NoName, xm1_NoName, xm2_NoName, xm3_NoName, xm5_NoName, xl_NoName, rfl⟩, xsa_NoName, eC_NoName, ct_NoName, kc_NoName⟩, mi_NoName, sc8_NoName___init__⟩, ⟨cda_NoName___init__, cc_NoName___init__, dc_NoName___init__, pm_NoName___init__, ct_NoName___init__, oc_NoName___init__, an_NoName___init__, od_NoName___init__, sl_NoName___init__, l_NoName___init__, c_NoName___init__, ⟨⟨ccl_NoName___init__, cdd_NoName___init__, vs_NoName___init__, ccs_NoName___init__, fi_NoName___init__, tf_NoName___init__, sc1_NoName___init__, sc2_NoName___init__, sc3_NoName___init__⟩, ⟨el_NoName___init__, eld_NoName___init__, esl_NoName___init__, sc4_NoName___init__⟩, ⟨_, cd_NoName⟩, PySem.W.mg_none_of X Gn z_super, zst, ztop, xcm_NoName, xve_NoName, xnx_NoName⟩⟩⟩
    xno_NoName_value := xno_NoName_value
    m_NoValue := PySem.W.mg_of X Gn a_NoValue
    exc_NoValue := ⟨f_NoValue___init__, ⟨⟨⟨xnm_NoValue, xqn_NoValue, xN_NoValue, xbs_NoValue, _, xsn_NoValue, xsub_NoValue, xab_NoValue, xcol_NoValue, xdd_NoValue, xm0_NoValue, xm1_NoValue, xm2_NoValue, xm3_NoValue, xm5_NoValue, xl_NoValue, rfl⟩, xsa_NoValue, eC_NoValue, ct_NoValue, kc_NoValue⟩, mi_NoValue, sc8_NoValue___init__⟩, ⟨cda_NoValue___init__, cc_NoValue___init__, dc_NoValue___init__, pm_NoValue___init__, ct_NoValue___init__, oc_NoValue___init__, an_NoValue___init__, od_NoValue___init__, sl_NoValue___init__, l_NoValue___init__, c_NoValue___init__, ⟨⟨ccl_NoValue___init__, cdd_NoValue___init__, vs_NoValue___init__, ccs_NoValue___init__, fi_NoValue___init__, tf_NoValue___init__, sc1_NoValue___init__, sc2_NoValue___init__, sc3_NoValue___init__⟩, ⟨el_NoValue___init__, eld_NoValue___init__, esl_NoValue___init__, sc4_NoValue___init__⟩, ⟨_, cd_NoValue⟩, PySem.W.mg_none_of X Gn z_super, zst, ztop, xcm_NoValue, xve_NoValue, xnx_NoValue⟩⟩⟩
    xno_NoValue_value := xno_NoValue_value
    m_NoOperator := PySem.W.mg_of X Gn a_NoOperator
    exc_NoOperator := ⟨f_NoOperator___init__, ⟨⟨⟨xnm_NoOperator, xqn_NoOperator, xN_NoOperator, xbs_NoOperator, _, xsn_NoOperator, xsub_NoOperator, xab_NoOperator, xcol_NoOperator, xdd_NoOperator, xm0_NoOperator, xm1_NoOperator, xm2_NoOperator, xm3_NoOperator, xm5_NoOperator, xl_NoOperator, rfl⟩, xsa_NoOperator, eC_NoOperator, ct_NoOperator, kc_NoOperator⟩, mi_NoOperator, sc8_NoOperator___init__⟩, ⟨cda_NoOperator___init__, cc_NoOperator___init__, dc_NoOperator___init__, pm_NoOperator___init__, ct_NoOperator___init__, oc_NoOperator___init__, an_NoOperator___init__, od_NoOperator___init__, sl_NoOperator___init__, l_NoOperator___init__, c_NoOperator___init__, ⟨⟨ccl_NoOperator___init__, cdd_NoOperator___init__, vs_NoOperator___init__, ccs_NoOperator___init__, fi_NoOperator___init__, tf_NoOperator___init__, sc1_NoOperator___init__, sc2_NoOperator___init__, sc3_NoOperator___init__⟩, ⟨el_NoOperator___init__, eld_NoOperator___init__, esl_NoOperator___init__, sc4_NoOperator___init__⟩, ⟨_, cd_NoOperator⟩, PySem.W.mg_none_of X Gn z_super, zst, ztop, xcm_NoOperator, xve_NoOperator, xnx_NoOperator⟩⟩⟩
    xno_NoOperator_value := xno_NoOperator_value
    m_NoStatement := PySem.W.mg_of X Gn a_NoStatement
    exc_NoStatement := ⟨f_NoStatement___init__, ⟨⟨⟨xnm_NoStatement, xqn_NoStatement, xN_NoStatement, xbs_NoStatement, _, xsn_NoStatement, xsub_NoStatement, xab_NoStatement, xcol_NoStatement, xdd_NoStatement, xm0_NoStatement, xm1_NoStatement, xm2_NoStatement, xm3_NoStatement, xm5_NoStatement, xl_NoStatement, rfl⟩, xsa_NoStatement, eC_NoStatement, ct_NoStatement, kc_NoStatement⟩, mi_NoStatement, sc8_NoStatement___init__⟩, ⟨cda_NoStatement___init__, cc_NoStatement___init__, dc_NoStatement___init__, pm_NoStatement___init__, ct_NoStatement___init__, oc_NoStatement___init__, an_NoStatement___init__, od_NoStatement___init__, sl_NoStatement___init__, l_NoStatement___init__, c_NoStatement___init__, ⟨⟨ccl_NoStatement___init__, cdd_NoStatement___init__, vs_NoStatement___init__, ccs_NoStatement___init__, fi_NoStatement___init__, tf_NoStatement___init__, sc1_NoStatement___init__, sc2_NoStatement___init__, sc3_NoStatement___init__⟩, ⟨el_NoStatement___init__, eld_NoStatement___init__, esl_NoStatement___init__, sc4_NoStatement___init__⟩, ⟨_, cd_NoStatement⟩, PySem.W.mg_none_of X Gn z_super, zst, ztop, xcm_NoStatement, xve_NoStatement, xnx_NoStatement⟩⟩⟩
    xno_NoStatement_value := xno_NoStatement_value
    m_NoText := PySem.W.mg_of X Gn a_NoText
    exc_NoText := ⟨f_NoText___init__, ⟨⟨⟨xnm_NoText, xqn_NoText, xN_NoText, xbs_NoText, _, xsn_NoText, xsub_NoText, xab_NoText, xcol_NoText, xdd_NoText, xm0_NoText, xm1_NoText, xm2_NoText, xm3_NoText, xm5_NoText, xl_NoText, rfl⟩, xsa_NoText, eC_NoText, ct_NoText, kc_NoText⟩, mi_NoText, sc8_NoText___init__⟩, ⟨cda_NoText___init__, cc_NoText___init__, dc_NoText___init__, pm_NoText___init__, ct_NoText___init__, oc_NoText___init__, an_NoText___init__, od_NoText___init__, sl_NoText___init__, l_NoText___init__, c_NoText___init__, ⟨⟨ccl_NoText___init__, cdd_NoText___init__, vs_NoText___init__, ccs_NoText___init__, fi_NoText___init__, tf_NoText___init__, sc1_NoText___init__, sc2_NoText___init__, sc3_NoText___init__⟩, ⟨el_NoText___init__, eld_NoText___init__, esl_NoText___init__, sc4_NoText___init__⟩, ⟨_, cd_NoText⟩, PySem.W.mg_none_of X Gn z_super, zst, ztop, xcm_NoText, xve_NoText, xnx_NoText⟩⟩⟩
    xno_NoText_value := xno_NoText_value
    m_NoNumber := PySem.W.mg_of X Gn a_NoNumber
    exc_NoNumber := ⟨f_NoNumber___init__, ⟨⟨⟨xnm_NoNumber, xqn_NoNumber, xN_NoNumber, xbs_NoNumber, _, xsn_NoNumber, xsub_NoNumber, xab_NoNumber, xcol_NoNumber, xdd_NoNumber, xm0_NoNumber, xm1_NoNumber, xm2_NoNumber, xm3_NoNumber, xm5_NoNumber, xl_NoNumber, rfl⟩, xsa_NoNumber, eC_NoNumber, ct_NoNumber, kc_NoNumber⟩, mi_NoNumber, sc8_NoNumber___init__⟩, ⟨cda_NoNumber___init__, cc_NoNumber___init__, dc_NoNumber___init__, pm_NoNumber___init__, ct_NoNumber___init__, oc_NoNumber___init__, an_NoNumber___init__, od_NoNumber___init__, sl_NoNumber___init__, l_NoNumber___init__, c_NoNumber___init__, ⟨⟨ccl_NoNumber___init__, cdd_NoNumber___init__, vs_NoNumber___init__, ccs_NoNumber___init__, fi_NoNumber___init__, tf_NoNumber___init__, sc1_NoNumber___init__, sc2_NoNumber___init__, sc3_NoNumber___init__⟩, ⟨el_NoNumber___init__, eld_NoNumber___init__, esl_NoNumber___init__, sc4_NoNumber___init__⟩, ⟨_, cd_NoNumber⟩, PySem.W.mg_none_of X Gn z_super, zst, ztop, xcm_NoNumber, xve_NoNumber, xnx_NoNumber⟩⟩⟩
    xno_NoNumber_value := xno_NoNumber_value
    m_NoInputs := PySem.W.mg_of X Gn a_NoInputs
    exc_NoInputs := ⟨f_NoInputs___init__, ⟨⟨⟨xnm_NoInputs, xqn_NoInputs, xN_NoInputs, xbs_NoInputs, _, xsn_NoInputs, xsub_NoInputs, xab_NoInputs, xcol_NoInputs, xdd_NoInputs, xm0_NoInputs, xm1_NoInputs, xm2_NoInputs, xm3_NoInputs, xm5_NoInputs, xl_NoInputs, rfl⟩, xsa_NoInputs, eC_NoInputs, ct_NoInputs, kc_NoInputs⟩, mi_NoInputs, sc8_NoInputs___init__⟩, ⟨cda_NoInputs___init__, cc_NoInputs___init__, dc_NoInputs___init__, pm_NoInputs___init__, ct_NoInputs___init__, oc_NoInputs___init__, an_NoInputs___init__, od_NoInputs___init__, sl_NoInputs___init__, l_NoInputs___init__, c_NoInputs___init__, ⟨⟨ccl_NoInputs___init__, cdd_NoInputs___init__, vs_NoInputs___init__, ccs_NoInputs___init__, fi_NoInputs___init__, tf_NoInputs___init__, sc1_NoInputs___init__, sc2_NoInputs___init__, sc3_NoInputs___init__⟩, ⟨el_NoInputs___init__, eld_NoInputs___init__, esl_NoInputs___init__, sc4_NoInputs___init__⟩, ⟨_, cd_NoInputs⟩, PySem.W.mg_none_of X Gn z_super, zst, ztop, xcm_NoInputs, xve_NoInputs, xnx_NoInputs⟩⟩⟩
    xno_NoInputs_value := xno_NoInputs_value
    m_NoExpression := PySem.W.mg_of X Gn a_NoExpression
    exc_NoExpression := ⟨f_NoExpression___init__, ⟨⟨⟨xnm_NoExpression, xqn_NoExpression, xN_NoExpression, xbs_NoExpression, _, xsn_NoExpression, xsub_NoExpression, xab_NoExpression, xcol_NoExpression, xdd_NoExpression, xm0_NoExpression, xm1_NoExpression, xm2_NoExpression, xm3_NoExpression, xm5_NoExpression, xl_NoExpression, rfl⟩, xsa_NoExpression, eC_NoExpression, ct_NoExpression, kc_NoExpression⟩, mi_NoExpression, sc8_NoExpression___init__⟩, ⟨cda_NoExpression___init__, cc_NoExpression___init__, dc_NoExpression___init__, pm_NoExpression___init__, ct_NoExpression___init__, oc_NoExpression___init__, an_NoExpression___init__, od_NoExpression___init__, sl_NoExpression___init__, l_NoExpression___init__, c_NoExpression___init__, ⟨⟨ccl_NoExpression___init__, cdd_NoExpression___init__, vs_NoExpression___init__, ccs_NoExpression___init__, fi_NoExpression___init__, tf_NoExpression___init__, sc1_NoExpression___init__, sc2_NoExpression___init__, sc3_NoExpression___init__⟩, ⟨el_NoExpression___init__, eld_NoExpression___init__, esl_NoExpression___init__, sc4_NoExpression___init__⟩, ⟨_, cd_NoExpression⟩, PySem.W.mg_none_of X Gn z_super, zst, ztop, xcm_NoExpression, xve_NoExpression, xnx_NoExpression⟩⟩⟩
    xno_NoExpression_value := xno_NoExpression_value
    m_NoPoint := PySem.W.mg_of X Gn a_NoPoint
    exc_NoPoint := ⟨f_NoPoint___init__, ⟨⟨⟨xnm_NoPoint, xqn_NoPoint, xN_NoPoint, xbs_NoPoint, _, xsn_NoPoint, xsub_NoPoint, xab_NoPoint, xcol_NoPoint, xdd_NoPoint, xm0_NoPoint, xm1_NoPoint, xm2_NoPoint, xm3_NoPoint, xm5_NoPoint, xl_NoPoint, rfl⟩, xsa_NoPoint, eC_NoPoint, ct_NoPoint, kc_NoPoint⟩, mi_NoPoint, sc8_NoPoint___init__⟩, ⟨cda_NoPoint___init__, cc_NoPoint___init__, dc_NoPoint___init__, pm_NoPoint___init__, ct_NoPoint___init__, oc_NoPoint___init__, an_NoPoint___init__, od_NoPoint___init__, sl_NoPoint___init__, l_NoPoint___init__, c_NoPoint___init__, ⟨⟨ccl_NoPoint___init__, cdd_NoPoint___init__, vs_NoPoint___init__, ccs_NoPoint___init__, fi_NoPoint___init__, tf_NoPoint___init__, sc1_NoPoint___init__, sc2_NoPoint___init__, sc3_NoPoint___init__⟩, ⟨el_NoPoint___init__, eld_NoPoint___init__, esl_NoPoint___init__, sc4_NoPoint___init__⟩, ⟨_, cd_NoPoint⟩, PySem.W.mg_none_of X Gn z_super, zst, ztop, xcm_NoPoint, xve_NoPoint, xnx_NoPoint⟩⟩⟩
    xno_NoPoint_value := xno_NoPoint_value
    m_NoPlacement := PySem.W.mg_of X Gn a_NoPlacement
    exc_NoPlacement := ⟨f_NoPlacement___init__, ⟨⟨⟨xnm_NoPlacement, xqn_NoPlacement, xN_NoPlacement, xbs_NoPlacement, _, xsn_NoPlacement, xsub_NoPlacement, xab_NoPlacement, xcol_NoPlacement, xdd_NoPlacement, xm0_NoPlacement, xm1_NoPlacement, xm2_NoPlacement, xm3_NoPlacement, xm5_NoPlacement, xl_NoPlacement, rfl⟩, xsa_NoPlacement, eC_NoPlacement, ct_NoPlacement, kc_NoPlacement⟩, mi_NoPlacement, sc8_NoPlacement___init__⟩, ⟨cda_NoPlacement___init__, cc_NoPlacement___init__, dc_NoPlacement___init__, pm_NoPlacement___init__, ct_NoPlacement___init__, oc_NoPlacement___init__, an_NoPlacement___init__, od_NoPlacement___init__, sl_NoPlacement___init__, l_NoPlacement___init__, c_NoPlacement___init__, ⟨⟨ccl_NoPlacement___init__, cdd_NoPlacement___init__, vs_NoPlacement___init__, ccs_NoPlacement___init__, fi_NoPlacement___init__, tf_NoPlacement___init__, sc1_NoPlacement___init__, sc2_NoPlacement___init__, sc3_NoPlacement___init__⟩, ⟨el_NoPlacement___init__, eld_NoPlacement___init__, esl_NoPlacement___init__, sc4_NoPlacement___init__⟩, ⟨_, cd_NoPlacement⟩, PySem.W.mg_none_of X Gn z_super, zst, ztop, xcm_NoPlacement, xve_NoPlacement, xnx_NoPlacement⟩⟩⟩
    xno_NoPlacement_value := xno_NoPlacement_value
    m_NoPath := PySem.W.mg_of X Gn a_NoPath
    exc_NoPath := ⟨f_NoPath___init__, ⟨⟨⟨xnm_NoPath, xqn_NoPath, xN_NoPath, xbs_NoPath, _, xsn_NoPath, xsub_NoPath, xab_NoPath, xcol_NoPath, xdd_NoPath, xm0_NoPath, xm1_NoPath, xm2_NoPath, xm3_NoPath, xm5_NoPath, xl_NoPath, rfl⟩, xsa_NoPath, eC_NoPath, ct_NoPath, kc_NoPath⟩, mi_NoPath, sc8_NoPath___init__⟩, ⟨cda_NoPath___init__, cc_NoPath___init__, dc_NoPath___init__, pm_NoPath___init__, ct_NoPath___init__, oc_NoPath___init__, an_NoPath___init__, od_NoPath___init__, sl_NoPath___init__, l_NoPath___init__, c_NoPath___init__, ⟨⟨ccl_NoPath___init__, cdd_NoPath___init__, vs_NoPath___init__, ccs_NoPath___init__, fi_NoPath___init__, tf_NoPath___init__, sc1_NoPath___init__, sc2_NoPath___init__, sc3_NoPath___init__⟩, ⟨el_NoPath___init__, eld_NoPath___init__, esl_NoPath___init__, sc4_NoPath___init__⟩, ⟨_, cd_NoPath⟩, PySem.W.mg_none_of X Gn z_super, zst, ztop, xcm_NoPath, xve_NoPath, xnx_NoPath⟩⟩⟩
    xno_NoPath_value := xno_NoPath_value
    m_NotClosed := PySem.W.mg_of X Gn a_NotClosed
    exc_NotClosed := ⟨f_NotClosed___init__, ⟨⟨⟨xnm_NotClosed, xqn_NotClosed, xN_NotClosed, xbs_NotClosed, _, xsn_NotClosed, xsub_NotClosed, xab_NotClosed, xcol_NotClosed, xdd_NotClosed, xm0_NotClosed, xm1_NotClosed, xm2_NotClosed, xm3_NotClosed, xm5_NotClosed, xl_NotClosed, rfl⟩, xsa_NotClosed, eC_NotClosed, ct_NotClosed, kc_NotClosed⟩, mi_NotClosed, sc8_NotClosed___init__⟩, ⟨cda_NotClosed___init__, cc_NotClosed___init__, dc_NotClosed___init__, pm_NotClosed___init__, ct_NotClosed___init__, oc_NotClosed___init__, an_NotClosed___init__, od_NotClosed___init__, sl_NotClosed___init__, l_NotClosed___init__, c_NotClosed___init__, ⟨⟨ccl_NotClosed___init__, cdd_NotClosed___init__, vs_NotClosed___init__, ccs_NotClosed___init__, fi_NotClosed___init__, tf_NotClosed___init__, sc1_NotClosed___init__, sc2_NotClosed___init__, sc3_NotClosed___init__⟩, ⟨el_NotClosed___init__, eld_NotClosed___init__, esl_NotClosed___init__, sc4_NotClosed___init__⟩, ⟨_, cd_NotClosed⟩, PySem.W.mg_none_of X Gn z_super, zst, ztop, xcm_NotClosed, xve_NotClosed, xnx_NotClosed⟩⟩⟩
    xno_NotClosed_value := xno_NotClosed_value
    fun__law_first_ones := .mk' (PySem.W.mg_of X Gn a__law_first_ones) l__law_first_ones c__law_first_ones k__law_first_ones (fun _ _ _ _ _ _ us hl => match us, hl with | [_, _], _ => rfl)
    m_NoPrice := PySem.W.mg_of X Gn a_NoPrice
    exc_NoPrice := ⟨f_NoPrice___init__, ⟨⟨⟨xnm_NoPrice, xqn_NoPrice, xN_NoPrice, xbs_NoPrice, _, xsn_NoPrice, xsub_NoPrice, xab_NoPrice, xcol_NoPrice, xdd_NoPrice, xm0_NoPrice, xm1_NoPrice, xm2_NoPrice, xm3_NoPrice, xm5_NoPrice, xl_NoPrice, rfl⟩, xsa_NoPrice, eC_NoPrice, ct_NoPrice, kc_NoPrice⟩, mi_NoPrice, sc8_NoPrice___init__⟩, ⟨cda_NoPrice___init__, cc_NoPrice___init__, dc_NoPrice___init__, pm_NoPrice___init__, ct_NoPrice___init__, oc_NoPrice___init__, an_NoPrice___init__, od_NoPrice___init__, sl_NoPrice___init__, l_NoPrice___init__, c_NoPrice___init__, ⟨⟨ccl_NoPrice___init__, cdd_NoPrice___init__, vs_NoPrice___init__, ccs_NoPrice___init__, fi_NoPrice___init__, tf_NoPrice___init__, sc1_NoPrice___init__, sc2_NoPrice___init__, sc3_NoPrice___init__⟩, ⟨el_NoPrice___init__, eld_NoPrice___init__, esl_NoPrice___init__, sc4_NoPrice___init__⟩, ⟨_, cd_NoPrice⟩, PySem.W.mg_none_of X Gn z_super, zst, ztop, xcm_NoPrice, xve_NoPrice, xnx_NoPrice⟩⟩⟩
    xno_NoPrice_value := xno_NoPrice_value
    m_NoCounts := PySem.W.mg_of X Gn a_NoCounts
    exc_NoCounts := ⟨f_NoCounts___init__, ⟨⟨⟨xnm_NoCounts, xqn_NoCounts, xN_NoCounts, xbs_NoCounts, _, xsn_NoCounts, xsub_NoCounts, xab_NoCounts, xcol_NoCounts, xdd_NoCounts, xm0_NoCounts, xm1_NoCounts, xm2_NoCounts, xm3_NoCounts, xm5_NoCounts, xl_NoCounts, rfl⟩, xsa_NoCounts, eC_NoCounts, ct_NoCounts, kc_NoCounts⟩, mi_NoCounts, sc8_NoCounts___init__⟩, ⟨cda_NoCounts___init__, cc_NoCounts___init__, dc_NoCounts___init__, pm_NoCounts___init__, ct_NoCounts___init__, oc_NoCounts___init__, an_NoCounts___init__, od_NoCounts___init__, sl_NoCounts___init__, l_NoCounts___init__, c_NoCounts___init__, ⟨⟨ccl_NoCounts___init__, cdd_NoCounts___init__, vs_NoCounts___init__, ccs_NoCounts___init__, fi_NoCounts___init__, tf_NoCounts___init__, sc1_NoCounts___init__, sc2_NoCounts___init__, sc3_NoCounts___init__⟩, ⟨el_NoCounts___init__, eld_NoCounts___init__, esl_NoCounts___init__, sc4_NoCounts___init__⟩, ⟨_, cd_NoCounts⟩, PySem.W.mg_none_of X Gn z_super, zst, ztop, xcm_NoCounts, xve_NoCounts, xnx_NoCounts⟩⟩⟩
    xno_NoCounts_value := xno_NoCounts_value
    m_NoPairs := PySem.W.mg_of X Gn a_NoPairs
    exc_NoPairs := ⟨f_NoPairs___init__, ⟨⟨⟨xnm_NoPairs, xqn_NoPairs, xN_NoPairs, xbs_NoPairs, _, xsn_NoPairs, xsub_NoPairs, xab_NoPairs, xcol_NoPairs, xdd_NoPairs, xm0_NoPairs, xm1_NoPairs, xm2_NoPairs, xm3_NoPairs, xm5_NoPairs, xl_NoPairs, rfl⟩, xsa_NoPairs, eC_NoPairs, ct_NoPairs, kc_NoPairs⟩, mi_NoPairs, sc8_NoPairs___init__⟩, ⟨cda_NoPairs___init__, cc_NoPairs___init__, dc_NoPairs___init__, pm_NoPairs___init__, ct_NoPairs___init__, oc_NoPairs___init__, an_NoPairs___init__, od_NoPairs___init__, sl_NoPairs___init__, l_NoPairs___init__, c_NoPairs___init__, ⟨⟨ccl_NoPairs___init__, cdd_NoPairs___init__, vs_NoPairs___init__, ccs_NoPairs___init__, fi_NoPairs___init__, tf_NoPairs___init__, sc1_NoPairs___init__, sc2_NoPairs___init__, sc3_NoPairs___init__⟩, ⟨el_NoPairs___init__, eld_NoPairs___init__, esl_NoPairs___init__, sc4_NoPairs___init__⟩, ⟨_, cd_NoPairs⟩, PySem.W.mg_none_of X Gn z_super, zst, ztop, xcm_NoPairs, xve_NoPairs, xnx_NoPairs⟩⟩⟩
    xno_NoPairs_value := xno_NoPairs_value
    m_NoProgram := PySem.W.mg_of X Gn a_NoProgram
    exc_NoProgram := ⟨f_NoProgram___init__, ⟨⟨⟨xnm_NoProgram, xqn_NoProgram, xN_NoProgram, xbs_NoProgram, _, xsn_NoProgram, xsub_NoProgram, xab_NoProgram, xcol_NoProgram, xdd_NoProgram, xm0_NoProgram, xm1_NoProgram, xm2_NoProgram, xm3_NoProgram, xm5_NoProgram, xl_NoProgram, rfl⟩, xsa_NoProgram, eC_NoProgram, ct_NoProgram, kc_NoProgram⟩, mi_NoProgram, sc8_NoProgram___init__⟩, ⟨cda_NoProgram___init__, cc_NoProgram___init__, dc_NoProgram___init__, pm_NoProgram___init__, ct_NoProgram___init__, oc_NoProgram___init__, an_NoProgram___init__, od_NoProgram___init__, sl_NoProgram___init__, l_NoProgram___init__, c_NoProgram___init__, ⟨⟨ccl_NoProgram___init__, cdd_NoProgram___init__, vs_NoProgram___init__, ccs_NoProgram___init__, fi_NoProgram___init__, tf_NoProgram___init__, sc1_NoProgram___init__, sc2_NoProgram___init__, sc3_NoProgram___init__⟩, ⟨el_NoProgram___init__, eld_NoProgram___init__, esl_NoProgram___init__, sc4_NoProgram___init__⟩, ⟨_, cd_NoProgram⟩, PySem.W.mg_none_of X Gn z_super, zst, ztop, xcm_NoProgram, xve_NoProgram, xnx_NoProgram⟩⟩⟩
    xno_NoProgram_node := xno_NoProgram_node
    m_Idle := PySem.W.mg_of X Gn a_Idle
    exc_Idle := ⟨f_Idle___init__, ⟨⟨⟨xnm_Idle, xqn_Idle, xN_Idle, xbs_Idle, _, xsn_Idle, xsub_Idle, xab_Idle, xcol_Idle, xdd_Idle, xm0_Idle, xm1_Idle, xm2_Idle, xm3_Idle, xm5_Idle, xl_Idle, rfl⟩, xsa_Idle, eC_Idle, ct_Idle, kc_Idle⟩, mi_Idle, sc8_Idle___init__⟩, ⟨cda_Idle___init__, cc_Idle___init__, dc_Idle___init__, pm_Idle___init__, ct_Idle___init__, oc_Idle___init__, an_Idle___init__, od_Idle___init__, sl_Idle___init__, l_Idle___init__, c_Idle___init__, ⟨⟨ccl_Idle___init__, cdd_Idle___init__, vs_Idle___init__, ccs_Idle___init__, fi_Idle___init__, tf_Idle___init__, sc1_Idle___init__, sc2_Idle___init__, sc3_Idle___init__⟩, ⟨el_Idle___init__, eld_Idle___init__, esl_Idle___init__, sc4_Idle___init__⟩, ⟨_, cd_Idle⟩, PySem.W.mg_none_of X Gn z_super, zst, ztop, xcm_Idle, xve_Idle, xnx_Idle⟩⟩⟩
    xno_Idle_node := xno_Idle_node
    m_NoNode := PySem.W.mg_of X Gn a_NoNode
    exc_NoNode := ⟨f_NoNode___init__, ⟨⟨⟨xnm_NoNode, xqn_NoNode, xN_NoNode, xbs_NoNode, _, xsn_NoNode, xsub_NoNode, xab_NoNode, xcol_NoNode, xdd_NoNode, xm0_NoNode, xm1_NoNode, xm2_NoNode, xm3_NoNode, xm5_NoNode, xl_NoNode, rfl⟩, xsa_NoNode, eC_NoNode, ct_NoNode, kc_NoNode⟩, mi_NoNode, sc8_NoNode___init__⟩, ⟨cda_NoNode___init__, cc_NoNode___init__, dc_NoNode___init__, pm_NoNode___init__, ct_NoNode___init__, oc_NoNode___init__, an_NoNode___init__, od_NoNode___init__, sl_NoNode___init__, l_NoNode___init__, c_NoNode___init__, ⟨⟨ccl_NoNode___init__, cdd_NoNode___init__, vs_NoNode___init__, ccs_NoNode___init__, fi_NoNode___init__, tf_NoNode___init__, sc1_NoNode___init__, sc2_NoNode___init__, sc3_NoNode___init__⟩, ⟨el_NoNode___init__, eld_NoNode___init__, esl_NoNode___init__, sc4_NoNode___init__⟩, ⟨_, cd_NoNode⟩, PySem.W.mg_none_of X Gn z_super, zst, ztop, xcm_NoNode, xve_NoNode, xnx_NoNode⟩⟩⟩
    xno_NoNode_node := xno_NoNode_node
    m_NoEdge := PySem.W.mg_of X Gn a_NoEdge
    exc_NoEdge := ⟨f_NoEdge___init__, ⟨⟨⟨xnm_NoEdge, xqn_NoEdge, xN_NoEdge, xbs_NoEdge, _, xsn_NoEdge, xsub_NoEdge, xab_NoEdge, xcol_NoEdge, xdd_NoEdge, xm0_NoEdge, xm1_NoEdge, xm2_NoEdge, xm3_NoEdge, xm5_NoEdge, xl_NoEdge, rfl⟩, xsa_NoEdge, eC_NoEdge, ct_NoEdge, kc_NoEdge⟩, mi_NoEdge, sc8_NoEdge___init__⟩, ⟨cda_NoEdge___init__, cc_NoEdge___init__, dc_NoEdge___init__, pm_NoEdge___init__, ct_NoEdge___init__, oc_NoEdge___init__, an_NoEdge___init__, od_NoEdge___init__, sl_NoEdge___init__, l_NoEdge___init__, c_NoEdge___init__, ⟨⟨ccl_NoEdge___init__, cdd_NoEdge___init__, vs_NoEdge___init__, ccs_NoEdge___init__, fi_NoEdge___init__, tf_NoEdge___init__, sc1_NoEdge___init__, sc2_NoEdge___init__, sc3_NoEdge___init__⟩, ⟨el_NoEdge___init__, eld_NoEdge___init__, esl_NoEdge___init__, sc4_NoEdge___init__⟩, ⟨_, cd_NoEdge⟩, PySem.W.mg_none_of X Gn z_super, zst, ztop, xcm_NoEdge, xve_NoEdge, xnx_NoEdge⟩⟩⟩
    xno_NoEdge_edge := xno_NoEdge_edge
    m_NoPlace := PySem.W.mg_of X Gn a_NoPlace
    exc_NoPlace := ⟨f_NoPlace___init__, ⟨⟨⟨xnm_NoPlace, xqn_NoPlace, xN_NoPlace, xbs_NoPlace, _, xsn_NoPlace, xsub_NoPlace, xab_NoPlace, xcol_NoPlace, xdd_NoPlace, xm0_NoPlace, xm1_NoPlace, xm2_NoPlace, xm3_NoPlace, xm5_NoPlace, xl_NoPlace, rfl⟩, xsa_NoPlace, eC_NoPlace, ct_NoPlace, kc_NoPlace⟩, mi_NoPlace, sc8_NoPlace___init__⟩, ⟨cda_NoPlace___init__, cc_NoPlace___init__, dc_NoPlace___init__, pm_NoPlace___init__, ct_NoPlace___init__, oc_NoPlace___init__, an_NoPlace___init__, od_NoPlace___init__, sl_NoPlace___init__, l_NoPlace___init__, c_NoPlace___init__, ⟨⟨ccl_NoPlace___init__, cdd_NoPlace___init__, vs_NoPlace___init__, ccs_NoPlace___init__, fi_NoPlace___init__, tf_NoPlace___init__, sc1_NoPlace___init__, sc2_NoPlace___init__, sc3_NoPlace___init__⟩, ⟨el_NoPlace___init__, eld_NoPlace___init__, esl_NoPlace___init__, sc4_NoPlace___init__⟩, ⟨_, cd_NoPlace⟩, PySem.W.mg_none_of X Gn z_super, zst, ztop, xcm_NoPlace, xve_NoPlace, xnx_NoPlace⟩⟩⟩
    xno_NoPlace_place := xno_NoPlace_place
    m_NoStep := PySem.W.mg_of X Gn a_NoStep
    exc_NoStep := ⟨f_NoStep___init__, ⟨⟨⟨xnm_NoStep, xqn_NoStep, xN_NoStep, xbs_NoStep, _, xsn_NoStep, xsub_NoStep, xab_NoStep, xcol_NoStep, xdd_NoStep, xm0_NoStep, xm1_NoStep, xm2_NoStep, xm3_NoStep, xm5_NoStep, xl_NoStep, rfl⟩, xsa_NoStep, eC_NoStep, ct_NoStep, kc_NoStep⟩, mi_NoStep, sc8_NoStep___init__⟩, ⟨cda_NoStep___init__, cc_NoStep___init__, dc_NoStep___init__, pm_NoStep___init__, ct_NoStep___init__, oc_NoStep___init__, an_NoStep___init__, od_NoStep___init__, sl_NoStep___init__, l_NoStep___init__, c_NoStep___init__, ⟨⟨ccl_NoStep___init__, cdd_NoStep___init__, vs_NoStep___init__, ccs_NoStep___init__, fi_NoStep___init__, tf_NoStep___init__, sc1_NoStep___init__, sc2_NoStep___init__, sc3_NoStep___init__⟩, ⟨el_NoStep___init__, eld_NoStep___init__, esl_NoStep___init__, sc4_NoStep___init__⟩, ⟨_, cd_NoStep⟩, PySem.W.mg_none_of X Gn z_super, zst, ztop, xcm_NoStep, xve_NoStep, xnx_NoStep⟩⟩⟩
    xno_NoStep_place := xno_NoStep_place
    m_NoEdit := PySem.W.mg_of X Gn a_NoEdit
    exc_NoEdit := ⟨f_NoEdit___init__, ⟨⟨⟨xnm_NoEdit, xqn_NoEdit, xN_NoEdit, xbs_NoEdit, _, xsn_NoEdit, xsub_NoEdit, xab_NoEdit, xcol_NoEdit, xdd_NoEdit, xm0_NoEdit, xm1_NoEdit, xm2_NoEdit, xm3_NoEdit, xm5_NoEdit, xl_NoEdit, rfl⟩, xsa_NoEdit, eC_NoEdit, ct_NoEdit, kc_NoEdit⟩, mi_NoEdit, sc8_NoEdit___init__⟩, ⟨cda_NoEdit___init__, cc_NoEdit___init__, dc_NoEdit___init__, pm_NoEdit___init__, ct_NoEdit___init__, oc_NoEdit___init__, an_NoEdit___init__, od_NoEdit___init__, sl_NoEdit___init__, l_NoEdit___init__, c_NoEdit___init__, ⟨⟨ccl_NoEdit___init__, cdd_NoEdit___init__, vs_NoEdit___init__, ccs_NoEdit___init__, fi_NoEdit___init__, tf_NoEdit___init__, sc1_NoEdit___init__, sc2_NoEdit___init__, sc3_NoEdit___init__⟩, ⟨el_NoEdit___init__, eld_NoEdit___init__, esl_NoEdit___init__, sc4_NoEdit___init__⟩, ⟨_, cd_NoEdit⟩, PySem.W.mg_none_of X Gn z_super, zst, ztop, xcm_NoEdit, xve_NoEdit, xnx_NoEdit⟩⟩⟩
    xno_NoEdit_name := xno_NoEdit_name
    m_Unfit := PySem.W.mg_of X Gn a_Unfit
    exc_Unfit := ⟨f_Unfit___init__, ⟨⟨⟨xnm_Unfit, xqn_Unfit, xN_Unfit, xbs_Unfit, _, xsn_Unfit, xsub_Unfit, xab_Unfit, xcol_Unfit, xdd_Unfit, xm0_Unfit, xm1_Unfit, xm2_Unfit, xm3_Unfit, xm5_Unfit, xl_Unfit, rfl⟩, xsa_Unfit, eC_Unfit, ct_Unfit, kc_Unfit⟩, mi_Unfit, sc8_Unfit___init__⟩, ⟨cda_Unfit___init__, cc_Unfit___init__, dc_Unfit___init__, pm_Unfit___init__, ct_Unfit___init__, oc_Unfit___init__, an_Unfit___init__, od_Unfit___init__, sl_Unfit___init__, l_Unfit___init__, c_Unfit___init__, ⟨⟨ccl_Unfit___init__, cdd_Unfit___init__, vs_Unfit___init__, ccs_Unfit___init__, fi_Unfit___init__, tf_Unfit___init__, sc1_Unfit___init__, sc2_Unfit___init__, sc3_Unfit___init__⟩, ⟨el_Unfit___init__, eld_Unfit___init__, esl_Unfit___init__, sc4_Unfit___init__⟩, ⟨_, cd_Unfit⟩, PySem.W.mg_none_of X Gn z_super, zst, ztop, xcm_Unfit, xve_Unfit, xnx_Unfit⟩⟩⟩
    xno_Unfit_told := xno_Unfit_told
    m_TooLong := PySem.W.mg_of X Gn a_TooLong
    exc_TooLong := ⟨f_TooLong___init__, ⟨⟨⟨xnm_TooLong, xqn_TooLong, xN_TooLong, xbs_TooLong, _, xsn_TooLong, xsub_TooLong, xab_TooLong, xcol_TooLong, xdd_TooLong, xm0_TooLong, xm1_TooLong, xm2_TooLong, xm3_TooLong, xm5_TooLong, xl_TooLong, rfl⟩, xsa_TooLong, eC_TooLong, ct_TooLong, kc_TooLong⟩, mi_TooLong, sc8_TooLong___init__⟩, ⟨cda_TooLong___init__, cc_TooLong___init__, dc_TooLong___init__, pm_TooLong___init__, ct_TooLong___init__, oc_TooLong___init__, an_TooLong___init__, od_TooLong___init__, sl_TooLong___init__, l_TooLong___init__, c_TooLong___init__, ⟨⟨ccl_TooLong___init__, cdd_TooLong___init__, vs_TooLong___init__, ccs_TooLong___init__, fi_TooLong___init__, tf_TooLong___init__, sc1_TooLong___init__, sc2_TooLong___init__, sc3_TooLong___init__⟩, ⟨el_TooLong___init__, eld_TooLong___init__, esl_TooLong___init__, sc4_TooLong___init__⟩, ⟨_, cd_TooLong⟩, PySem.W.mg_none_of X Gn z_super, zst, ztop, xcm_TooLong, xve_TooLong, xnx_TooLong⟩⟩⟩
    xno_TooLong_nodes := xno_TooLong_nodes
    fun__law_other_ones := .mk' (PySem.W.mg_of X Gn a__law_other_ones) l__law_other_ones c__law_other_ones k__law_other_ones (fun _ _ _ _ _ _ us hl => match us, hl with | [_, _], _ => rfl)
    xis_NotClosed := ⟨some_is cd_NotClosed, xga_NotClosed, xgt_NotClosed, eC_NotClosed, ia_NotClosed, ig, it, im_NotClosed, hd_NotClosed⟩
    xfc_NotClosed := ⟨xga_NotClosed, xgt_NotClosed, eC_NotClosed, hd_NotClosed⟩
    xis_NoName := ⟨some_is cd_NoName, xga_NoName, xgt_NoName, eC_NoName, ia_NoName, ig, it, im_NoName, hd_NoName⟩
    xfc_NoName := ⟨xga_NoName, xgt_NoName, eC_NoName, hd_NoName⟩
    xis_NoValue := ⟨some_is cd_NoValue, xga_NoValue, xgt_NoValue, eC_NoValue, ia_NoValue, ig, it, im_NoValue, hd_NoValue⟩
    xfc_NoValue := ⟨xga_NoValue, xgt_NoValue, eC_NoValue, hd_NoValue⟩
    xis_NoOperator := ⟨some_is cd_NoOperator, xga_NoOperator, xgt_NoOperator, eC_NoOperator, ia_NoOperator, ig, it, im_NoOperator, hd_NoOperator⟩
    xfc_NoOperator := ⟨xga_NoOperator, xgt_NoOperator, eC_NoOperator, hd_NoOperator⟩
    xis_NoStatement := ⟨some_is cd_NoStatement, xga_NoStatement, xgt_NoStatement, eC_NoStatement, ia_NoStatement, ig, it, im_NoStatement, hd_NoStatement⟩
    xfc_NoStatement := ⟨xga_NoStatement, xgt_NoStatement, eC_NoStatement, hd_NoStatement⟩
    xis_NoText := ⟨some_is cd_NoText, xga_NoText, xgt_NoText, eC_NoText, ia_NoText, ig, it, im_NoText, hd_NoText⟩
    xfc_NoText := ⟨xga_NoText, xgt_NoText, eC_NoText, hd_NoText⟩
    xis_NoNumber := ⟨some_is cd_NoNumber, xga_NoNumber, xgt_NoNumber, eC_NoNumber, ia_NoNumber, ig, it, im_NoNumber, hd_NoNumber⟩
    xfc_NoNumber := ⟨xga_NoNumber, xgt_NoNumber, eC_NoNumber, hd_NoNumber⟩
    xis_NoInputs := ⟨some_is cd_NoInputs, xga_NoInputs, xgt_NoInputs, eC_NoInputs, ia_NoInputs, ig, it, im_NoInputs, hd_NoInputs⟩
    xfc_NoInputs := ⟨xga_NoInputs, xgt_NoInputs, eC_NoInputs, hd_NoInputs⟩
    xis_NoExpression := ⟨some_is cd_NoExpression, xga_NoExpression, xgt_NoExpression, eC_NoExpression, ia_NoExpression, ig, it, im_NoExpression, hd_NoExpression⟩
    xfc_NoExpression := ⟨xga_NoExpression, xgt_NoExpression, eC_NoExpression, hd_NoExpression⟩
    xis_NoPoint := ⟨some_is cd_NoPoint, xga_NoPoint, xgt_NoPoint, eC_NoPoint, ia_NoPoint, ig, it, im_NoPoint, hd_NoPoint⟩
    xfc_NoPoint := ⟨xga_NoPoint, xgt_NoPoint, eC_NoPoint, hd_NoPoint⟩
    xis_NoPlacement := ⟨some_is cd_NoPlacement, xga_NoPlacement, xgt_NoPlacement, eC_NoPlacement, ia_NoPlacement, ig, it, im_NoPlacement, hd_NoPlacement⟩
    xfc_NoPlacement := ⟨xga_NoPlacement, xgt_NoPlacement, eC_NoPlacement, hd_NoPlacement⟩
    xis_NoPath := ⟨some_is cd_NoPath, xga_NoPath, xgt_NoPath, eC_NoPath, ia_NoPath, ig, it, im_NoPath, hd_NoPath⟩
    xfc_NoPath := ⟨xga_NoPath, xgt_NoPath, eC_NoPath, hd_NoPath⟩
    xis_NoPrice := ⟨some_is cd_NoPrice, xga_NoPrice, xgt_NoPrice, eC_NoPrice, ia_NoPrice, ig, it, im_NoPrice, hd_NoPrice⟩
    xfc_NoPrice := ⟨xga_NoPrice, xgt_NoPrice, eC_NoPrice, hd_NoPrice⟩
    xis_NoCounts := ⟨some_is cd_NoCounts, xga_NoCounts, xgt_NoCounts, eC_NoCounts, ia_NoCounts, ig, it, im_NoCounts, hd_NoCounts⟩
    xfc_NoCounts := ⟨xga_NoCounts, xgt_NoCounts, eC_NoCounts, hd_NoCounts⟩
    xis_NoPairs := ⟨some_is cd_NoPairs, xga_NoPairs, xgt_NoPairs, eC_NoPairs, ia_NoPairs, ig, it, im_NoPairs, hd_NoPairs⟩
    xfc_NoPairs := ⟨xga_NoPairs, xgt_NoPairs, eC_NoPairs, hd_NoPairs⟩
    xis_NoProgram := ⟨some_is cd_NoProgram, xga_NoProgram, xgt_NoProgram, eC_NoProgram, ia_NoProgram, ig, it, im_NoProgram, hd_NoProgram⟩
    xfc_NoProgram := ⟨xga_NoProgram, xgt_NoProgram, eC_NoProgram, hd_NoProgram⟩
    xis_Idle := ⟨some_is cd_Idle, xga_Idle, xgt_Idle, eC_Idle, ia_Idle, ig, it, im_Idle, hd_Idle⟩
    xfc_Idle := ⟨xga_Idle, xgt_Idle, eC_Idle, hd_Idle⟩
    xis_NoNode := ⟨some_is cd_NoNode, xga_NoNode, xgt_NoNode, eC_NoNode, ia_NoNode, ig, it, im_NoNode, hd_NoNode⟩
    xfc_NoNode := ⟨xga_NoNode, xgt_NoNode, eC_NoNode, hd_NoNode⟩
    xis_NoEdge := ⟨some_is cd_NoEdge, xga_NoEdge, xgt_NoEdge, eC_NoEdge, ia_NoEdge, ig, it, im_NoEdge, hd_NoEdge⟩
    xfc_NoEdge := ⟨xga_NoEdge, xgt_NoEdge, eC_NoEdge, hd_NoEdge⟩
    xis_NoPlace := ⟨some_is cd_NoPlace, xga_NoPlace, xgt_NoPlace, eC_NoPlace, ia_NoPlace, ig, it, im_NoPlace, hd_NoPlace⟩
    xfc_NoPlace := ⟨xga_NoPlace, xgt_NoPlace, eC_NoPlace, hd_NoPlace⟩
    xis_NoStep := ⟨some_is cd_NoStep, xga_NoStep, xgt_NoStep, eC_NoStep, ia_NoStep, ig, it, im_NoStep, hd_NoStep⟩
    xfc_NoStep := ⟨xga_NoStep, xgt_NoStep, eC_NoStep, hd_NoStep⟩
    xis_NoEdit := ⟨some_is cd_NoEdit, xga_NoEdit, xgt_NoEdit, eC_NoEdit, ia_NoEdit, ig, it, im_NoEdit, hd_NoEdit⟩
    xfc_NoEdit := ⟨xga_NoEdit, xgt_NoEdit, eC_NoEdit, hd_NoEdit⟩
    xis_Unfit := ⟨some_is cd_Unfit, xga_Unfit, xgt_Unfit, eC_Unfit, ia_Unfit, ig, it, im_Unfit, hd_Unfit⟩
    xfc_Unfit := ⟨xga_Unfit, xgt_Unfit, eC_Unfit, hd_Unfit⟩
    xis_TooLong := ⟨some_is cd_TooLong, xga_TooLong, xgt_TooLong, eC_TooLong, ia_TooLong, ig, it, im_TooLong, hd_TooLong⟩
    xfc_TooLong := ⟨xga_TooLong, xgt_TooLong, eC_TooLong, hd_TooLong⟩
    fun__law_value_of := .mk' (PySem.W.mg_of X Gn a__law_value_of) l__law_value_of c__law_value_of k__law_value_of (fun _ _ _ _ _ _ us hl => match us, hl with | [_, _], _ => rfl)
    fam_NotClosed := fam_cls xl_NotClosed ct_NotClosed
    fam_NoName := fam_cls xl_NoName ct_NoName
    fam_NoValue := fam_cls xl_NoValue ct_NoValue
    fam_NoOperator := fam_cls xl_NoOperator ct_NoOperator
    fam_NoStatement := fam_cls xl_NoStatement ct_NoStatement
    fam_NoText := fam_cls xl_NoText ct_NoText
    fam_NoNumber := fam_cls xl_NoNumber ct_NoNumber
    fam_NoInputs := fam_cls xl_NoInputs ct_NoInputs
    fam_NoExpression := fam_cls xl_NoExpression ct_NoExpression
    fam_NoPoint := fam_cls xl_NoPoint ct_NoPoint
    fam_NoPlacement := fam_cls xl_NoPlacement ct_NoPlacement
    fam_NoPath := fam_cls xl_NoPath ct_NoPath
    fam_TooLong := fam_cls xl_TooLong ct_TooLong
    fam_NoPrice := fam_cls xl_NoPrice ct_NoPrice
    fam_NoCounts := fam_cls xl_NoCounts ct_NoCounts
    fam_NoPairs := fam_cls xl_NoPairs ct_NoPairs
    fam_NoProgram := fam_cls xl_NoProgram ct_NoProgram
    fam_Idle := fam_cls xl_Idle ct_Idle
    fam_NoNode := fam_cls xl_NoNode ct_NoNode
    fam_NoEdge := fam_cls xl_NoEdge ct_NoEdge
    fam_NoPlace := fam_cls xl_NoPlace ct_NoPlace
    fam_NoStep := fam_cls xl_NoStep ct_NoStep
    fam_NoEdit := fam_cls xl_NoEdit ct_NoEdit
    fam_Unfit := fam_cls xl_Unfit ct_Unfit
    m_NothingToUndo := PySem.W.mg_of X Gn a_NothingToUndo
    exc_NothingToUndo := ⟨f_NothingToUndo___init__, ⟨⟨⟨xnm_NothingToUndo, xqn_NothingToUndo, xN_NothingToUndo, xbs_NothingToUndo, _, xsn_NothingToUndo, xsub_NothingToUndo, xab_NothingToUndo, xcol_NothingToUndo, xdd_NothingToUndo, xm0_NothingToUndo, xm1_NothingToUndo, xm2_NothingToUndo, xm3_NothingToUndo, xm5_NothingToUndo, xl_NothingToUndo, rfl⟩, xsa_NothingToUndo, eC_NothingToUndo, ct_NothingToUndo, kc_NothingToUndo⟩, mi_NothingToUndo, sc8_NothingToUndo___init__⟩, ⟨cda_NothingToUndo___init__, cc_NothingToUndo___init__, dc_NothingToUndo___init__, pm_NothingToUndo___init__, ct_NothingToUndo___init__, oc_NothingToUndo___init__, an_NothingToUndo___init__, od_NothingToUndo___init__, sl_NothingToUndo___init__, l_NothingToUndo___init__, c_NothingToUndo___init__, ⟨⟨ccl_NothingToUndo___init__, cdd_NothingToUndo___init__, vs_NothingToUndo___init__, ccs_NothingToUndo___init__, fi_NothingToUndo___init__, tf_NothingToUndo___init__, sc1_NothingToUndo___init__, sc2_NothingToUndo___init__, sc3_NothingToUndo___init__⟩, ⟨el_NothingToUndo___init__, eld_NothingToUndo___init__, esl_NothingToUndo___init__, sc4_NothingToUndo___init__⟩, ⟨_, cd_NothingToUndo⟩, PySem.W.mg_none_of X Gn z_super, zst, ztop, xcm_NothingToUndo, xve_NothingToUndo, xnx_NothingToUndo⟩⟩⟩
    xis_NothingToUndo := ⟨some_is cd_NothingToUndo, xga_NothingToUndo, xgt_NothingToUndo, eC_NothingToUndo, ia_NothingToUndo, ig, it, im_NothingToUndo, hd_NothingToUndo⟩
    xfc_NothingToUndo := ⟨xga_NothingToUndo, xgt_NothingToUndo, eC_NothingToUndo, hd_NothingToUndo⟩
    fam_NothingToUndo := fam_cls xl_NothingToUndo ct_NothingToUndo
    fnod := fnod
    fnpe := fnpe
    fpe := ⟨⟨_, cd_PlaceError⟩, ct_PlaceError⟩
    none_isinstance := PySem.W.mg_none_of X Gn z_isinstance
    none_list := PySem.W.mg_none_of X Gn z_list
    none_repr := PySem.W.mg_none_of X Gn z_repr
    fun__law_alike := .mk' (PySem.W.mg_of X Gn a__law_alike) l__law_alike c__law_alike k__law_alike (fun _ _ _ _ _ _ us hl => match us, hl with | [_, _], _ => rfl)
    none_str := PySem.W.mg_none_of X Gn z_str
    strk_NotClosed := ⟨xst_NotClosed, eC_NotClosed⟩
    strk_NoName := ⟨xst_NoName, eC_NoName⟩
    strk_NoValue := ⟨xst_NoValue, eC_NoValue⟩
    strk_NoOperator := ⟨xst_NoOperator, eC_NoOperator⟩
    strk_NoStatement := ⟨xst_NoStatement, eC_NoStatement⟩
    strk_NoText := ⟨xst_NoText, eC_NoText⟩
    strk_NoNumber := ⟨xst_NoNumber, eC_NoNumber⟩
    strk_NoInputs := ⟨xst_NoInputs, eC_NoInputs⟩
    strk_NoExpression := ⟨xst_NoExpression, eC_NoExpression⟩
    strk_NoPoint := ⟨xst_NoPoint, eC_NoPoint⟩
    strk_NoPlacement := ⟨xst_NoPlacement, eC_NoPlacement⟩
    strk_NoPath := ⟨xst_NoPath, eC_NoPath⟩
    strk_TooLong := ⟨xst_TooLong, eC_TooLong⟩
    strk_NoPrice := ⟨xst_NoPrice, eC_NoPrice⟩
    strk_NoCounts := ⟨xst_NoCounts, eC_NoCounts⟩
    strk_NoPairs := ⟨xst_NoPairs, eC_NoPairs⟩
    strk_NoProgram := ⟨xst_NoProgram, eC_NoProgram⟩
    strk_Idle := ⟨xst_Idle, eC_Idle⟩
    strk_NoNode := ⟨xst_NoNode, eC_NoNode⟩
    strk_NoEdge := ⟨xst_NoEdge, eC_NoEdge⟩
    strk_NoPlace := ⟨xst_NoPlace, eC_NoPlace⟩
    strk_NoStep := ⟨xst_NoStep, eC_NoStep⟩
    strk_NoEdit := ⟨xst_NoEdit, eC_NoEdit⟩
    strk_Unfit := ⟨xst_Unfit, eC_Unfit⟩
    fun__law_kept := .mk' (PySem.W.mg_of X Gn a__law_kept) l__law_kept c__law_kept k__law_kept (fun _ _ _ _ _ _ us hl => match us, hl with | [_, _], _ => rfl)
    fun__law_mixed := .mk' (PySem.W.mg_of X Gn a__law_mixed) l__law_mixed c__law_mixed k__law_mixed (fun _ _ _ _ _ _ us hl => match us, hl with | [_, _], _ => rfl)
    fun__law_take := .mk' (PySem.W.mg_of X Gn a__law_take) l__law_take c__law_take k__law_take (fun _ _ _ _ _ _ us hl => match us, hl with | [_, _], _ => rfl)
    fun__law_odd := .mk' (PySem.W.mg_of X Gn a__law_odd) l__law_odd c__law_odd k__law_odd (fun _ _ _ _ _ _ us hl => match us, hl with | [_], _ => rfl)
    none_ValueError := PySem.W.mg_none_of X Gn z_ValueError
    none_enumerate := PySem.W.mg_none_of X Gn z_enumerate
    fun__law_kinds := .mk' (PySem.W.mg_of X Gn a__law_kinds) l__law_kinds c__law_kinds k__law_kinds (fun _ _ _ _ _ _ us hl => match us, hl with | [_], _ => rfl)
    fun__law_great_kept := .mk' (PySem.W.mg_of X Gn a__law_great_kept) l__law_great_kept c__law_great_kept k__law_great_kept (fun _ _ _ _ _ _ us hl => match us, hl with | [_], _ => rfl)
    fun_law := .mk' (PySem.W.mg_of X Gn a_law) l_law c_law k_law (fun _ _ _ _ _ _ us hl => match us, hl with | [_], _ => rfl) }
  exact run_law T (fun_mk (st := st_law) l_law c_law k_law)
end K90

namespace K90
open PySem Sh
/-- the pile: digits left, a cell, a counter, a truth -/
def pileO (d c k : Int) (b : Bool) : O := .lst [.int d, .int c, .int k, .bl b]
theorem mod_abs {i j : Int} (h : 0 < j) : (i % j).natAbs < j.natAbs := by
  have h1 := Int.emod_nonneg i (by omega : j ≠ 0)
  have h2 := Int.emod_lt_of_pos i h
  omega
theorem mul_lt {i j : Int} {a b n : Nat} (h1 : i.natAbs < 2 ^ a) (h2 : j.natAbs < 2 ^ b) (h3 : a + b ≤ n) : (i * j).natAbs < 2 ^ n := by
  rw [Int.natAbs_mul]
  refine Nat.lt_of_lt_of_le (Nat.mul_lt_mul'' h1 h2) ?_
  rw [← Nat.pow_add]
  exact Nat.pow_le_pow_right (by decide) h3
theorem up {i : Int} {n : Nat} (h : i.natAbs < 2 ^ n) (hn : n ≤ 400) : i.natAbs < 2 ^ 400 := Nat.lt_of_lt_of_le h (Nat.pow_le_pow_right (by decide) hn)
theorem m31 (i j : Int) (h : j = 2147483647 ∨ j = 2147483629 ∨ j = 2147483587) : (i % j).natAbs < 2 ^ 31 := by
  have := mod_abs (i := i) (j := j) (by omega)
  have e31 : (2 : Nat) ^ 31 = 2147483648 := by decide
  omega
theorem mixed_ok (c k : Int) (m : Mem) (hk : k.natAbs < 2 ^ 60) : ∃ r : Int, d__law_mixed [.int c, .int k] m = .ok (.int r) m := by
  unfold d__law_mixed b__law_mixed
  have h1 := fun m => wMul_ok (m := m) (up (m31 c 2147483647 (.inl rfl)) (by decide)) (show (48271 : Int).natAbs < 2 ^ 400 by decide)
  have h2 := fun m => wMul_ok (m := m) (up hk (by decide)) (show (69621 : Int).natAbs < 2 ^ 400 by decide)
  have h3 := fun y m => wMul_ok (m := m) (up (m31 y 2147483647 (.inl rfl)) (by decide)) (up (m31 y 2147483647 (.inl rfl)) (by decide))
  have h4 := fun z m => wMul_ok (m := m) (up (m31 z 2147483629 (.inr (.inl rfl))) (by decide)) (up (m31 z 2147483629 (.inr (.inl rfl))) (by decide))
  simp only [List.length_cons, List.length_nil, Nat.reduceAdd, Nat.reduceEqDiff, if_true, List.map_cons, List.map_nil, Nat.reduceSub, List.replicate, List.cons_append, List.nil_append, R.bind_ok, R.bind_exc, R.bind_bad, R.nox_ok, RS.of_ok, RS.of_exc, List.getElem?_cons_zero, List.getElem?_cons_succ, List.set_cons_zero, List.set_cons_succ, Bool.not_true, Bool.not_false, Bool.false_eq_true, if_false, isNon, gSet, Int.reduceLT, Int.reduceLE, Int.reduceNeg, and_self, Nat.reduceLeDiff, Nat.reduceMul, decide_true, decide_false, Int.reduceEq, eq_self, reduceCtorEq, seq_nx, seq_rt, seq_bad, of_rt, of_nx, trd_rt, trd_nx, r_defn, r_seq, r_try, r_nil, r_expr, r_ret, r_if, r_set, r_asg, r_put, r_attr, r_var, r_c, r_bin, r_un, r_fn, r_fnL, r_call, r_make, made_ok, made_exc, r_eattr, r_ixL, r_new, r_tup, r_disp, r_few, r_eif, r_eand, r_eor, r_enot, r_acons, r_anil, r_astar, r_astarL, r_val, r_tru, r_not, r_and, r_or, r_chain, r_inL, r_m1, r_joinL, r_sl, r_pno, r_pat, v_add, v_sub, v_mod, v_div, v_neg, v_lt, v_le, v_gt, v_ge, v_isN, v_notN, v_intI, v_intB, v_abs, v_strS, v_len, v_ixT, v_ixF, v_eqI, v_neI, v_eqS, v_neS, r_lcomp, r_pval, r_pseq, r_plist, r_planT, r_planS, r_tryO, r_tryA, seq_exc, of_exc, tryO_rt, tryO_nx, tryA_rt, tryA_nx, r_raise, r_raise1, r_xattr, r_slS, r_join, r_dget, r_dict0, r_dput, r_mkx, r_app, h1, h2, h3, h4]
  exact ⟨_, rfl⟩
theorem p50 (m : Mem) : wPow (.int 10) (.int 50) m = .ok (.int (10 ^ 50)) m := wPow_ok (by decide) (by decide) (by decide)
theorem p18 (m : Mem) : wPow (.int 10) (.int 18) m = .ok (.int (10 ^ 18)) m := wPow_ok (by decide) (by decide) (by decide)
theorem p100 (m : Mem) : wMul (.int (10 ^ 50)) (.int (10 ^ 50)) m = .ok (.int (10 ^ 50 * 10 ^ 50)) m := wMul_ok (by decide) (by decide)
theorem p150 (m : Mem) : wMul (.int (10 ^ 50 * 10 ^ 50)) (.int (10 ^ 50)) m = .ok (.int (10 ^ 50 * 10 ^ 50 * 10 ^ 50)) m := wMul_ok (by decide) (by decide)
theorem at_ints {ns : List Int} {k : Int} {m : Mem} (h0 : 0 ≤ k) (h : k < (ns.length : Int)) : ∃ c, atW (ns.map W.int) k m = .ok (.int c) m := by
  have hk : k.toNat < ns.length := by omega
  have q := v_at (m := m) (atI_nat (ws := ns.map W.int) (k := k.toNat) (v := .int ns[k.toNat]) (by simp [hk]))
  have e : ((k.toNat : Nat) : Int) = k := by omega
  rw [e] at q
  exact ⟨_, q⟩
theorem at_b2 (i j : Int) (q : Bool) (m : Mem) : atW [.int i, .int j] (b2 q) m = .ok (.int (if q = true then j else i)) m := by
  cases q
  · exact v_at (atI_nat (k := 0) rfl)
  · exact v_at (atI_nat (k := 1) rfl)
theorem pos150 : (0 : Int) < 10 ^ 50 * 10 ^ 50 * 10 ^ 50 := by decide
theorem pile_ok (ns : List Int) (k : Int) (m : Mem) (h0 : 0 ≤ k) (hk : k < 1000000) : ∃ d c : Int, ∃ b : Bool, d__law_pile [.frz (ns.map .int), .int k] m = .ok (.ref m.length) (m ++ [pileO d c (97 * k) b]) := by
  unfold d__law_pile b__law_pile
  have hk30 : k.natAbs < 2 ^ 30 := by
    have : (2 : Nat) ^ 30 = 1073741824 := by decide
    omega
  have h97 : ∀ m, wMul (.int 97) (.int k) m = .ok (.int (97 * k)) m := fun m => wMul_ok (by decide) (up hk30 (by decide))
  by_cases hlt : k < (ns.length : Int)
  · obtain ⟨c, hc⟩ := at_ints (m := m) h0 hlt
    simp only [List.length_cons, List.length_nil, Nat.reduceAdd, Nat.reduceEqDiff, if_true, List.map_cons, List.map_nil, Nat.reduceSub, List.replicate, List.cons_append, List.nil_append, R.bind_ok, R.bind_exc, R.bind_bad, R.nox_ok, RS.of_ok, RS.of_exc, List.getElem?_cons_zero, List.getElem?_cons_succ, List.set_cons_zero, List.set_cons_succ, Bool.not_true, Bool.not_false, Bool.false_eq_true, if_false, isNon, gSet, Int.reduceLT, Int.reduceLE, Int.reduceNeg, and_self, Nat.reduceLeDiff, Nat.reduceMul, decide_true, decide_false, Int.reduceEq, eq_self, reduceCtorEq, seq_nx, seq_rt, seq_bad, of_rt, of_nx, trd_rt, trd_nx, r_defn, r_seq, r_try, r_nil, r_expr, r_ret, r_if, r_set, r_asg, r_put, r_attr, r_var, r_c, r_bin, r_un, r_fn, r_fnL, r_call, r_make, made_ok, made_exc, r_eattr, r_ixL, r_new, r_tup, r_disp, r_few, r_eif, r_eand, r_eor, r_enot, r_acons, r_anil, r_astar, r_astarL, r_val, r_tru, r_not, r_and, r_or, r_chain, r_inL, r_m1, r_joinL, r_sl, r_pno, r_pat, v_add, v_sub, v_mod, v_div, v_neg, v_lt, v_le, v_gt, v_ge, v_isN, v_notN, v_intI, v_intB, v_abs, v_strS, v_len, v_ixT, v_ixF, v_eqI, v_neI, v_eqS, v_neS, r_lcomp, r_pval, r_pseq, r_plist, r_planT, r_planS, r_tryO, r_tryA, seq_exc, of_exc, tryO_rt, tryO_nx, tryA_rt, tryA_nx, r_raise, r_raise1, r_xattr, r_slS, r_join, r_dget, r_dict0, r_dput, r_mkx, r_app, lenW, List.length_map, hlt, decide_true, hc, p50, p100, p150, p18, pos150, h97, at_b2]
    exact ⟨_, _, _, rfl⟩
  · simp only [List.length_cons, List.length_nil, Nat.reduceAdd, Nat.reduceEqDiff, if_true, List.map_cons, List.map_nil, Nat.reduceSub, List.replicate, List.cons_append, List.nil_append, R.bind_ok, R.bind_exc, R.bind_bad, R.nox_ok, RS.of_ok, RS.of_exc, List.getElem?_cons_zero, List.getElem?_cons_succ, List.set_cons_zero, List.set_cons_succ, Bool.not_true, Bool.not_false, Bool.false_eq_true, if_false, isNon, gSet, Int.reduceLT, Int.reduceLE, Int.reduceNeg, and_self, Nat.reduceLeDiff, Nat.reduceMul, decide_true, decide_false, Int.reduceEq, eq_self, reduceCtorEq, seq_nx, seq_rt, seq_bad, of_rt, of_nx, trd_rt, trd_nx, r_defn, r_seq, r_try, r_nil, r_expr, r_ret, r_if, r_set, r_asg, r_put, r_attr, r_var, r_c, r_bin, r_un, r_fn, r_fnL, r_call, r_make, made_ok, made_exc, r_eattr, r_ixL, r_new, r_tup, r_disp, r_few, r_eif, r_eand, r_eor, r_enot, r_acons, r_anil, r_astar, r_astarL, r_val, r_tru, r_not, r_and, r_or, r_chain, r_inL, r_m1, r_joinL, r_sl, r_pno, r_pat, v_add, v_sub, v_mod, v_div, v_neg, v_lt, v_le, v_gt, v_ge, v_isN, v_notN, v_intI, v_intB, v_abs, v_strS, v_len, v_ixT, v_ixF, v_eqI, v_neI, v_eqS, v_neS, r_lcomp, r_pval, r_pseq, r_plist, r_planT, r_planS, r_tryO, r_tryA, seq_exc, of_exc, tryO_rt, tryO_nx, tryA_rt, tryA_nx, r_raise, r_raise1, r_xattr, r_slS, r_join, r_dget, r_dict0, r_dput, r_mkx, r_app, lenW, List.length_map, hlt, decide_false, p50, p100, p150, p18, pos150, h97, at_b2]
    exact ⟨_, _, _, rfl⟩
/-- memory grows; of the old only the pile at p is written -/
structure Keep (p : Nat) (m m' : Mem) : Prop where
  le : m.length ≤ m'.length
  at_ : ∀ i o, i ≠ p → m[i]? = some o → m'[i]? = some o
  pile : ∃ d c k b, m'[p]? = some (pileO d c k b) ∧ 0 ≤ k ∧ k < 2 ^ 50
def PileAt (p : Nat) (m : Mem) (n : Int) : Prop := ∃ d c k b, m[p]? = some (pileO d c k b) ∧ 0 ≤ k ∧ k ≤ n
theorem take_ok (p : Nat) (m : Mem) (n z : Int) (h : PileAt p m z) (hz : z < 2 ^ 50) (h0 : 0 < n) (h1 : n < 1073741824) : ∃ (r : Int) (o : O), d__law_take [.ref p, .int n] m = .ok (.int r) (m.set p o) ∧ 0 ≤ r ∧ r < n ∧ PileAt p (m.set p o) (z + 1) := by
  obtain ⟨d, c, k, b, hm, hk0, hk⟩ := h
  have hp := (List.getElem?_eq_some_iff.mp hm).1
  unfold d__law_take b__law_take
  have i0 : wIx (.ref p) (.int 0) m = .ok (.int d) m := (v_ixR hm).trans (v_at (atI_nat (k := 0) rfl))
  have i2 : wIx (.ref p) (.int 2) m = .ok (.int k) m := (v_ixR hm).trans (v_at (atI_nat (k := 2) rfl))
  have hset : ∀ (j : Nat) (w : W), j < 4 → putAt m (.ref p) (.int (j : Int)) w = some (m.set p (.lst ([W.int d, .int c, .int k, .bl b].set j w))) := fun j w hj => by
    have e : L2.ixN 4 (j : Int) = some j := by
      unfold L2.ixN
      rw [if_pos (by omega), if_pos (by omega)]
      simp
    show (match m[p]? with | some (.lst ws) => (match L2.ixN ws.length (j : Int) with | some j => some (m.set p (.lst (ws.set j w))) | none => none) | _ => none) = _
    rw [hm]
    show (match L2.ixN 4 (j : Int) with | some j => some (m.set p (.lst ([W.int d, .int c, .int k, .bl b].set j w))) | none => none) = _
    rw [e]
  have s0 := hset 0 (.int (d / n)) (by decide)
  have s2 := hset 2 (.int (k + 1)) (by decide)
  by_cases hin : inW (.int d) [.int 0, .int (-1)] = true
  · have g1 : wIx (.ref p) (.int 1) (m.set p (.lst [.int d, .int c, .int (k + 1), .bl b])) = .ok (.int c) (m.set p (.lst [.int d, .int c, .int (k + 1), .bl b])) := (v_ixR (List.getElem?_set_self hp)).trans (v_at (atI_nat (k := 1) rfl))
    have g2 : wIx (.ref p) (.int 2) (m.set p (.lst [.int d, .int c, .int (k + 1), .bl b])) = .ok (.int (k + 1)) (m.set p (.lst [.int d, .int c, .int (k + 1), .bl b])) := (v_ixR (List.getElem?_set_self hp)).trans (v_at (atI_nat (k := 2) rfl))
    have e50 : (2 : Int) ^ 50 = 1125899906842624 := by decide
    have e60 : (2 : Nat) ^ 60 = 1152921504606846976 := by decide
    obtain ⟨y, hy⟩ := mixed_ok c (k + 1) (m.set p (.lst [.int d, .int c, .int (k + 1), .bl b])) (by omega)
    refine ⟨y % n, .lst [.int d, .int c, .int (k + 1), .bl b], ?_, Int.emod_nonneg _ (by omega), Int.emod_lt_of_pos _ h0, d, c, k + 1, b, List.getElem?_set_self hp, by omega, by omega⟩
    simp only [List.length_cons, List.length_nil, Nat.reduceAdd, Nat.reduceEqDiff, if_true, List.map_cons, List.map_nil, Nat.reduceSub, List.replicate, List.cons_append, List.nil_append, R.bind_ok, R.bind_exc, R.bind_bad, R.nox_ok, RS.of_ok, RS.of_exc, List.getElem?_cons_zero, List.getElem?_cons_succ, List.set_cons_zero, List.set_cons_succ, Bool.not_true, Bool.not_false, Bool.false_eq_true, if_false, isNon, gSet, Int.reduceLT, Int.reduceLE, Int.reduceNeg, and_self, Nat.reduceLeDiff, Nat.reduceMul, decide_true, decide_false, Int.reduceEq, eq_self, reduceCtorEq, seq_nx, seq_rt, seq_bad, of_rt, of_nx, trd_rt, trd_nx, r_defn, r_seq, r_try, r_nil, r_expr, r_ret, r_if, r_set, r_asg, r_put, r_attr, r_var, r_c, r_bin, r_un, r_fn, r_fnL, r_call, r_make, made_ok, made_exc, r_eattr, r_ixL, r_new, r_tup, r_disp, r_few, r_eif, r_eand, r_eor, r_enot, r_acons, r_anil, r_astar, r_astarL, r_val, r_tru, r_not, r_and, r_or, r_chain, r_inL, r_m1, r_joinL, r_sl, r_pno, r_pat, v_add, v_sub, v_mod, v_div, v_neg, v_lt, v_le, v_gt, v_ge, v_isN, v_notN, v_intI, v_intB, v_abs, v_strS, v_len, v_ixT, v_ixF, v_eqI, v_neI, v_eqS, v_neS, r_lcomp, r_pval, r_pseq, r_plist, r_planT, r_planS, r_tryO, r_tryA, seq_exc, of_exc, tryO_rt, tryO_nx, tryA_rt, tryA_nx, r_raise, r_raise1, r_xattr, r_slS, r_join, r_dget, r_dict0, r_dput, r_mkx, r_app, i0, i2, inD, flatW, List.all_cons, List.all_nil, Bool.and_self, hin]
    have s2' : putAt m (.ref p) (.int 2) (.int (k + 1)) = some (m.set p (.lst [.int d, .int c, .int (k + 1), .bl b])) := s2
    simp only [s2', List.length_cons, List.length_nil, Nat.reduceAdd, Nat.reduceEqDiff, if_true, List.map_cons, List.map_nil, Nat.reduceSub, List.replicate, List.cons_append, List.nil_append, R.bind_ok, R.bind_exc, R.bind_bad, R.nox_ok, RS.of_ok, RS.of_exc, List.getElem?_cons_zero, List.getElem?_cons_succ, List.set_cons_zero, List.set_cons_succ, Bool.not_true, Bool.not_false, Bool.false_eq_true, if_false, isNon, gSet, Int.reduceLT, Int.reduceLE, Int.reduceNeg, and_self, Nat.reduceLeDiff, Nat.reduceMul, decide_true, decide_false, Int.reduceEq, eq_self, reduceCtorEq, seq_nx, seq_rt, seq_bad, of_rt, of_nx, trd_rt, trd_nx, r_defn, r_seq, r_try, r_nil, r_expr, r_ret, r_if, r_set, r_asg, r_put, r_attr, r_var, r_c, r_bin, r_un, r_fn, r_fnL, r_call, r_make, made_ok, made_exc, r_eattr, r_ixL, r_new, r_tup, r_disp, r_few, r_eif, r_eand, r_eor, r_enot, r_acons, r_anil, r_astar, r_astarL, r_val, r_tru, r_not, r_and, r_or, r_chain, r_inL, r_m1, r_joinL, r_sl, r_pno, r_pat, v_add, v_sub, v_mod, v_div, v_neg, v_lt, v_le, v_gt, v_ge, v_isN, v_notN, v_intI, v_intB, v_abs, v_strS, v_len, v_ixT, v_ixF, v_eqI, v_neI, v_eqS, v_neS, r_lcomp, r_pval, r_pseq, r_plist, r_planT, r_planS, r_tryO, r_tryA, seq_exc, of_exc, tryO_rt, tryO_nx, tryA_rt, tryA_nx, r_raise, r_raise1, r_xattr, r_slS, r_join, r_dget, r_dict0, r_dput, r_mkx, r_app, g1, g2, hy, h0]
  · refine ⟨d % n, .lst [.int (d / n), .int c, .int k, .bl b], ?_, Int.emod_nonneg _ (by omega), Int.emod_lt_of_pos _ h0, d / n, c, k, b, List.getElem?_set_self hp, by omega, by omega⟩
    have s0' : putAt m (.ref p) (.int 0) (.int (d / n)) = some (m.set p (.lst [.int (d / n), .int c, .int k, .bl b])) := s0
    simp only [List.length_cons, List.length_nil, Nat.reduceAdd, Nat.reduceEqDiff, if_true, List.map_cons, List.map_nil, Nat.reduceSub, List.replicate, List.cons_append, List.nil_append, R.bind_ok, R.bind_exc, R.bind_bad, R.nox_ok, RS.of_ok, RS.of_exc, List.getElem?_cons_zero, List.getElem?_cons_succ, List.set_cons_zero, List.set_cons_succ, Bool.not_true, Bool.not_false, Bool.false_eq_true, if_false, isNon, gSet, Int.reduceLT, Int.reduceLE, Int.reduceNeg, and_self, Nat.reduceLeDiff, Nat.reduceMul, decide_true, decide_false, Int.reduceEq, eq_self, reduceCtorEq, seq_nx, seq_rt, seq_bad, of_rt, of_nx, trd_rt, trd_nx, r_defn, r_seq, r_try, r_nil, r_expr, r_ret, r_if, r_set, r_asg, r_put, r_attr, r_var, r_c, r_bin, r_un, r_fn, r_fnL, r_call, r_make, made_ok, made_exc, r_eattr, r_ixL, r_new, r_tup, r_disp, r_few, r_eif, r_eand, r_eor, r_enot, r_acons, r_anil, r_astar, r_astarL, r_val, r_tru, r_not, r_and, r_or, r_chain, r_inL, r_m1, r_joinL, r_sl, r_pno, r_pat, v_add, v_sub, v_mod, v_div, v_neg, v_lt, v_le, v_gt, v_ge, v_isN, v_notN, v_intI, v_intB, v_abs, v_strS, v_len, v_ixT, v_ixF, v_eqI, v_neI, v_eqS, v_neS, r_lcomp, r_pval, r_pseq, r_plist, r_planT, r_planS, r_tryO, r_tryA, seq_exc, of_exc, tryO_rt, tryO_nx, tryA_rt, tryA_nx, r_raise, r_raise1, r_xattr, r_slS, r_join, r_dget, r_dict0, r_dput, r_mkx, r_app, i0, i2, inD, flatW, List.all_cons, List.all_nil, Bool.and_self, hin, h0, h1, s0']
end K90

namespace K90
open PySem Sh
theorem at_mem {ws : List W} {r : Int} {m : Mem} (h0 : 0 ≤ r) (h : r < (ws.length : Int)) : ∃ w, w ∈ ws ∧ atW ws r m = .ok w m := by
  have hk : r.toNat < ws.length := by omega
  have q := v_at (m := m) (atI_nat (ws := ws) (k := r.toNat) (v := ws[r.toNat]) (by simp [hk]))
  have e : ((r.toNat : Nat) : Int) = r := by omega
  rw [e] at q
  exact ⟨_, List.getElem_mem hk, q⟩
/-- memory grows; of the old only the pile at p may be written -/
structure Grow (p : Nat) (m m' : Mem) : Prop where
  le : m.length ≤ m'.length
  at_ : ∀ i, i ≠ p → i < m.length → m'[i]? = m[i]?
theorem Grow.refl {p : Nat} {m : Mem} : Grow p m m := ⟨Nat.le_refl _, fun _ _ _ => rfl⟩
theorem Grow.trans {p : Nat} {m m1 m2 : Mem} (a : Grow p m m1) (b : Grow p m1 m2) : Grow p m m2 := ⟨Nat.le_trans a.le b.le, fun i h1 h2 => (b.at_ i h1 (Nat.lt_of_lt_of_le h2 a.le)).trans (a.at_ i h1 h2)⟩
theorem Grow.app {p : Nat} {m l : Mem} : Grow p m (m ++ l) := ⟨by simp, fun i _ h => List.getElem?_append_left h⟩
theorem Grow.set {p : Nat} {m : Mem} {o : O} : Grow p m (m.set p o) := ⟨by simp, fun i h _ => List.getElem?_set_ne (Ne.symm h)⟩
theorem Grow.get {p i : Nat} {m m' : Mem} {o : O} (g : Grow p m m') (hi : i ≠ p) (h : m[i]? = some o) : m'[i]? = some o := (g.at_ i hi (List.getElem?_eq_some_iff.mp h).1).trans h
theorem PileAt.app {p : Nat} {m l : Mem} {z : Int} (h : PileAt p m z) : PileAt p (m ++ l) z := by
  obtain ⟨d, c, k, b, h1, h2⟩ := h
  exact ⟨d, c, k, b, by rw [List.getElem?_append_left (List.getElem?_eq_some_iff.mp h1).1]; exact h1, h2⟩
theorem PileAt.lt {p : Nat} {m : Mem} {z : Int} (h : PileAt p m z) : p < m.length := by
  obtain ⟨d, c, k, b, h1, h2⟩ := h
  exact (List.getElem?_eq_some_iff.mp h1).1
theorem take_g (p : Nat) (m : Mem) (n z : Int) (h : PileAt p m z) (hz : z < 1000000) (h0 : 0 < n) (h1 : n < 1073741824) : ∃ (r : Int) (m' : Mem), d__law_take [.ref p, .int n] m = .ok (.int r) m' ∧ 0 ≤ r ∧ r < n ∧ PileAt p m' (z + 1) ∧ Grow p m m' ∧ m'.length = m.length := by
  obtain ⟨r, o, h2, h3, h4, h5⟩ := take_ok p m n z h (by omega) h0 h1
  exact ⟨r, _, h2, h3, h4, h5, .set, by simp⟩
def Ext (m m' : Mem) : Prop := ∃ l : Mem, m' = m ++ l
theorem Ext.refl (m : Mem) : Ext m m := ⟨[], by simp⟩
theorem Ext.add {m m' : Mem} (h : Ext m m') (l : Mem) : Ext m (m' ++ l) := by
  obtain ⟨k, rfl⟩ := h
  exact ⟨k ++ l, by simp⟩
theorem Ext.app (m l : Mem) : Ext m (m ++ l) := ⟨l, rfl⟩
theorem Ext.trans {m m' m'' : Mem} (h : Ext m m') (h' : Ext m' m'') : Ext m m'' := by
  obtain ⟨k, rfl⟩ := h'
  exact h.add k
theorem Ext.get {m m' : Mem} (h : Ext m m') {i : Nat} {o : O} (g : m[i]? = some o) : m'[i]? = some o := by
  obtain ⟨k, rfl⟩ := h
  rw [List.getElem?_append_left (List.getElem?_eq_some_iff.mp g).1]
  exact g
/-! ### isinstance of plain things -/
def Good (l : List Nat) : Prop := l.length ≤ 1000 ∧ ∀ c ∈ l, c < 128
end K90

namespace K90
open PySem Sh
theorem dec_nat (n : Nat) : dec (n : Int) = TL.numL n := TL.tl_num n
theorem dec_neg (n : Nat) : dec (-((n + 1 : Nat) : Int)) = 45 :: TL.numL (n + 1) := by
  unfold dec TL.numL
  show (Str.ofString (toString (Int.negSucc n))).cps.toList = _
  have e : toString (Int.negSucc n) = "-" ++ Nat.repr (n + 1) := rfl
  rw [e, PyProof.Rows.signs_ofString, String.toList_append, List.map_append, Nat.toList_repr]
  rfl
theorem dec_len {i : Int} (h : -999999 ≤ i ∧ i ≤ 999999) : (dec i).length ≤ 8 := by
  rcases Int.lt_or_le i 0 with hn | hp
  · obtain ⟨n, rfl⟩ : ∃ n : Nat, i = -((n + 1 : Nat) : Int) := ⟨(-i - 1).toNat, by omega⟩
    rw [dec_neg]
    have := TL.numL_len (n := n + 1) (k := 6) (by decide) (by omega)
    simp only [List.length_cons]; omega
  · obtain ⟨n, rfl⟩ : ∃ n : Nat, i = (n : Int) := ⟨i.toNat, by omega⟩
    rw [dec_nat]
    have := TL.numL_len (n := n) (k := 6) (by decide) (by omega)
    omega
/-! ### repr of lists of small things -/
theorem app_len (a b : Str) : (a ++ b).length = a.length + b.length := by
  show (a.cps ++ b.cps).size = _
  rw [Array.size_append]; rfl
theorem from_le : ∀ (ts : List Str) (k : Nat) (acc : Str) (B : Nat), (∀ t ∈ ts, t.length ≤ B) → (PySem.textFrom k acc ts).length ≤ acc.length + ts.length * (B + 2)
  | [], k, acc, B, h => by show acc.length ≤ _; omega
  | t :: ts, k, acc, B, h => by
    have ih := from_le ts (k + 1) (acc ++ (if k > 0 then ", " else "" : String) ++ t) B fun x hx => h x (List.mem_cons_of_mem _ hx)
    have ht := h t List.mem_cons_self
    have e : (acc ++ (if k > 0 then ", " else "" : String) ++ t).length = acc.length + (if k > 0 then 2 else 0) + t.length := by
      rw [app_len, app_len]
      split <;> rfl
    show (PySem.textFrom (k + 1) _ ts).length ≤ _
    rw [e] at ih
    have hk : (if k > 0 then 2 else 0 : Nat) ≤ 2 := by split <;> omega
    simp only [List.length_cons, Nat.add_mul, Nat.one_mul]
    omega
structure Small (d : PyData) : Prop where
  show_ : d.showable = true
  dep : d.depth ≤ 5
  len : d.shown.length ≤ 11000
theorem small_all : ∀ {ds : List PyData}, (∀ d ∈ ds, Small d) → PyData.showableAll ds = true ∧ PyData.depthAll ds ≤ 5 ∧ (∀ t ∈ PyData.shownAll ds, t.length ≤ 11000) ∧ (PyData.shownAll ds).length = ds.length
  | [], _ => ⟨rfl, by simp [PyData.depthAll], fun _ h => (by cases h), rfl⟩
  | d :: ds, h => by
    obtain ⟨h1, h2, h3, h4⟩ := small_all fun x hx => h x (List.mem_cons_of_mem _ hx)
    have hd := h d List.mem_cons_self
    have d1 := hd.show_
    have d2 := hd.dep
    refine ⟨by simp [PyData.showableAll, d1, h1], by simp [PyData.depthAll]; omega, fun t ht => ?_, by simp [PyData.shownAll, h4]⟩
    simp only [PyData.shownAll, List.mem_cons] at ht
    rcases ht with rfl | ht
    · exact hd.len
    · exact h3 t ht
theorem repr_small0 {n : Nat} {ws : List W} {ds : List PyData} {m : Mem} (h : m[n]? = some (.lst ws)) (hd : datsX m 29 ws = some ds) (hs : ∀ d ∈ ds, Small d) (hl : ds.length ≤ 20) : bRepr [.ref n] m = .ok (.str (PyData.list ds).shown.cps.toList) m := by
  have e : datX m 30 (.ref n) = some (.list ds) := by simp only [datX, h, hd, Option.map_some]
  show (match datX m 30 (.ref n) with | some d => reprD d m | none => .bad) = _
  rw [e]
  show reprD (.list ds) m = _
  obtain ⟨h1, h2, h3, h4⟩ := small_all hs
  unfold reprD
  rw [if_pos]
  refine ⟨by simpa [PyData.showable] using h1, by simp [PyData.depth]; omega, ?_⟩
  show (PySem.textFrom 0 "[" (PyData.shownAll ds) ++ "]" : Str).length ≤ _
  have h5 := from_le (PyData.shownAll ds) 0 "[" 11000 h3
  have h6 : (Str.ofString "[").length = 1 := rfl
  have h7 : (Str.ofString "]").length = 1 := rfl
  rw [app_len]
  have h8 : ("[" : Str).length = 1 := rfl
  have h9 : ("]" : Str).length = 1 := rfl
  rw [h4] at h5
  have : ds.length * (11000 + 2) ≤ 20 * (11000 + 2) := Nat.mul_le_mul_right _ hl
  omega
theorem small_str {l : List Nat} (h : Good l) : Small (.str (Sh.S l)) := by
  refine ⟨rfl, by simp [PyData.depth], ?_⟩
  have h2 := PySem.StrLaws.reprText_len (Sh.S l) (fun c hc => by
    have := h.2 c (by simpa using hc)
    exact Nat.lt_of_lt_of_le this (by decide))
  have e : (Sh.S l).length = l.length := S_len l
  show (PySem.reprText (Sh.S l)).length ≤ _
  have := h.1
  omega
theorem small_int {i : Int} (h : -1000000 ≤ i ∧ i ≤ 1000000) : Small (.int i) := by
  have e20 : (2:Nat) ^ 20 = 1048576 := by decide
  have h1 : i.natAbs < 2 ^ 20 := by omega
  have h2 : i.natAbs.log2 < 1920 := Nat.lt_of_lt_of_le (PySem.Flt.log2_lt_of (by decide) h1) (by decide)
  refine ⟨by simp [PyData.showable, h2], by simp [PyData.depth], ?_⟩
  have h3 : (dec i).length ≤ 8 := by
    by_cases e1 : i = 1000000
    · subst e1; decide
    · by_cases e2 : i = -1000000
      · subst e2; decide
      · exact dec_len (by omega)
  show (Str.ofString (toString i)).length ≤ _
  have : (Str.ofString (toString i)).length = (dec i).length := by unfold dec; simp [Str.length]
  omega
theorem small_none : Small .none := ⟨rfl, by simp [PyData.depth], by decide⟩
theorem small_bool (b : Bool) : Small (.bool b) := ⟨rfl, by simp [PyData.depth], by cases b <;> decide⟩
theorem lenR {n : Nat} {ws : List W} {m : Mem} (h : m[n]? = some (.lst ws)) : bLen [.ref n] m = .ok (.int (ws.length : Int)) m := by
  have e : lenW (.ref n) m = some ws.length := by unfold lenW; simp only [h]
  show (match lenW (.ref n) m with | some n => R.ok (W.int (n : Int)) m | none => .bad) = _
  rw [e]
def mark : List Nat := [109, 97, 114, 107]
/-! ### things of the main part -/
inductive Thing (m : Mem) : W → Prop
  | str {l : List Nat} : Good l → Thing m (.str l)
  | int {i : Int} : -1000000 ≤ i → i ≤ 1000000 → Thing m (.int i)
  | non : Thing m .non
  | bl (b : Bool) : Thing m (.bl b)
  | tup {ws : List W} {x : PyData} : (∀ M : Mem, datX M 29 (.tup ws) = some x ∧ datX M 30 (.tup ws) = some x) → Small x → Thing m (.tup ws)
  | l0 {o : Nat} : m[o]? = some (.lst []) → Thing m (.ref o)
  | l1 {o : Nat} : m[o]? = some (.lst [.str [97]]) → Thing m (.ref o)
  | d0 {o : Nat} : m[o]? = some (.dK []) → Thing m (.ref o)
theorem Thing.ext {m m' : Mem} {w : W} (h : Thing m w) (E : Ext m m') : Thing m' w := by
  cases h with
  | str g => exact .str g
  | int a b => exact .int a b
  | non => exact .non
  | bl b => exact .bl b
  | tup a b => exact .tup a b
  | l0 h => exact .l0 (E.get h)
  | l1 h => exact .l1 (E.get h)
  | d0 h => exact .d0 (E.get h)
abbrev cA : List Nat := [97]
theorem goodA : Good cA := ⟨by decide, by decide⟩
theorem small_l0 : Small (.list []) := ⟨by decide, by decide, by decide +kernel⟩
theorem small_l1 : Small (.list [.str (Sh.S cA)]) := ⟨by decide, by decide, by decide +kernel⟩
theorem small_l2 : Small (.list [.str (Sh.S cA), .str (Sh.S mark)]) := ⟨by decide, by decide, by decide +kernel⟩
theorem small_l3 : Small (.list [.str (Sh.S mark)]) := ⟨by decide, by decide, by decide +kernel⟩
theorem small_d0 : Small (.dict []) := ⟨by decide, by decide, by decide +kernel⟩
theorem small_d1 : Small (.dict [(.str (Sh.S mark), .int 0)]) := ⟨by decide, by decide, by decide +kernel⟩
theorem small_two {wd : List Nat} (hw : Good wd) {x : PyData} (h : Small x) : ∀ d ∈ ([.str (Sh.S wd), x] : List PyData), Small d := by
  intro d hd
  simp only [List.mem_cons, List.not_mem_nil, or_false] at hd
  rcases hd with rfl | rfl
  · exact small_str hw
  · exact h
theorem dats_two {wd : List Nat} {w : W} {x : PyData} {M : Mem} (h : datX M 29 w = some x) : datsX M 29 [.str wd, w] = some [.str (Sh.S wd), x] := by
  have : datX M 29 (.str wd) = some (.str (Sh.S wd)) := by simp [datX]
  simp only [datsX, this, h]
theorem last_get {m : Mem} {o : O} : (m ++ [o])[m.length]? = some o := by simp
theorem Thing.grow {p : Nat} {m m' : Mem} {w : W} (h : Thing m w) (hp : w ≠ .ref p) (g : Grow p m m') : Thing m' w := by
  cases h with
  | str g => exact .str g
  | int a b => exact .int a b
  | non => exact .non
  | bl b => exact .bl b
  | tup a b => exact .tup a b
  | l0 h => exact .l0 (g.get (fun e => hp (by rw [e])) h)
  | l1 h => exact .l1 (g.get (fun e => hp (by rw [e])) h)
  | d0 h => exact .d0 (g.get (fun e => hp (by rw [e])) h)
def odds (n : Nat) : List W := [.non, .bl true, .int 0, .str [65], .str [], .tup [], .ref n, .ref (n + 1), .str [97, 49], .str [97, 98, 99, 100, 101, 102, 103, 104, 105], .int (-1), .tup [.str [97]], .ref (n + 2), .tup [.int 1, .int 2], .str [97, 32, 98], .str [49]]
def odds2 : List W := [.str [32, 97], .str [97, 95], .str [97, 10], .bl false, .str [97, 123], .str [96, 97], .str [97, 126]]
theorem gd (l : List Nat) (h : (decide (l.length ≤ 1000) && l.all (· < 128)) = true) : Good l := by
  simp only [Bool.and_eq_true, decide_eq_true_eq, List.all_eq_true] at h
  exact ⟨h.1, fun c hc => by simpa using h.2 c hc⟩
theorem small_t0 : Small (.tuple []) := ⟨by decide, by decide, by decide +kernel⟩
theorem small_t1 : Small (.tuple [.str (Sh.S cA)]) := ⟨by decide, by decide, by decide +kernel⟩
theorem small_t2 : Small (.tuple [.int 1, .int 2]) := ⟨by decide +kernel, by decide, by decide +kernel⟩
theorem small_t3 : Small (.tuple [.str (Sh.S [97]), .str (Sh.S [97, 100, 100]), .str (Sh.S [98])]) := ⟨by decide, by decide, by decide +kernel⟩
theorem odd_thing {m : Mem} {n : Nat} (h0 : m[n]? = some (.lst [])) (h1 : m[n + 1]? = some (.dK [])) (h2 : m[n + 2]? = some (.lst [.str cA])) : ∀ w ∈ odds n ++ odds2, Thing m w ∧ ∀ q, w = .ref q → n ≤ q := by
  intro w hw
  simp only [odds, odds2, List.cons_append, List.nil_append, List.mem_cons, List.not_mem_nil, or_false] at hw
  rcases hw with rfl | rfl | rfl | rfl | rfl | rfl | rfl | rfl | rfl | rfl | rfl | rfl | rfl | rfl | rfl | rfl | rfl | rfl | rfl | rfl | rfl | rfl | rfl
  · exact ⟨.non, fun q e => by cases e⟩
  · exact ⟨.bl _, fun q e => by cases e⟩
  · exact ⟨.int (by decide) (by decide), fun q e => by cases e⟩
  · exact ⟨.str (gd _ rfl), fun q e => by cases e⟩
  · exact ⟨.str (gd _ rfl), fun q e => by cases e⟩
  · exact ⟨.tup (x := .tuple []) (fun M => ⟨by simp [datX, datsX], by simp [datX, datsX]⟩) small_t0, fun q e => by cases e⟩
  · exact ⟨.l0 h0, fun q e => by cases e; omega⟩
  · exact ⟨.d0 h1, fun q e => by cases e; omega⟩
  · exact ⟨.str (gd _ rfl), fun q e => by cases e⟩
  · exact ⟨.str (gd _ rfl), fun q e => by cases e⟩
  · exact ⟨.int (by decide) (by decide), fun q e => by cases e⟩
  · exact ⟨.tup (x := .tuple [.str (Sh.S cA)]) (fun M => ⟨by simp [datX, datsX], by simp [datX, datsX]⟩) small_t1, fun q e => by cases e⟩
  · exact ⟨.l1 h2, fun q e => by cases e; omega⟩
  · exact ⟨.tup (x := .tuple [.int 1, .int 2]) (fun M => ⟨by simp [datX, datsX], by simp [datX, datsX]⟩) small_t2, fun q e => by cases e⟩
  · exact ⟨.str (gd _ rfl), fun q e => by cases e⟩
  · exact ⟨.str (gd _ rfl), fun q e => by cases e⟩
  · exact ⟨.str (gd _ rfl), fun q e => by cases e⟩
  · exact ⟨.str (gd _ rfl), fun q e => by cases e⟩
  · exact ⟨.str (gd _ rfl), fun q e => by cases e⟩
  · exact ⟨.bl _, fun q e => by cases e⟩
  · exact ⟨.str (gd _ rfl), fun q e => by cases e⟩
  · exact ⟨.str (gd _ rfl), fun q e => by cases e⟩
  · exact ⟨.str (gd _ rfl), fun q e => by cases e⟩
theorem odd_ok (p : Nat) (m : Mem) (z : Int) (h : PileAt p m z) (hz : z < 900000) : ∃ (w : W) (m' : Mem), d__law_odd [.ref p] m = .ok w m' ∧ Thing m' w ∧ (∀ q, w = .ref q → m.length ≤ q) ∧ PileAt p m' (z + 1) ∧ Grow p m m' := by
  unfold d__law_odd b__law_odd
  let M1 := ((m ++ [O.lst []]) ++ [O.dK []]) ++ [O.lst [.str cA]]
  let M2 := M1 ++ [O.lst (odds m.length)]
  let M3 := M2 ++ [O.lst odds2]
  let M4 := M3 ++ [O.lst (odds m.length ++ odds2)]
  have g2 : M2[M1.length]? = some (.lst (odds m.length)) := last_get
  have g3 : M3[M2.length]? = some (.lst odds2) := last_get
  have a1 : wAdd (.ref M1.length) (.ref M2.length) M3 = .ok (.ref M3.length) M4 := wAdd_lst ((Ext.app M2 _).get g2) g3 (by simp [odds, odds2])
  have E4 : Ext m M4 := (((((Ext.app m _).add _).add _).add _).add _).add _
  obtain ⟨r, m', h1, h2, h3, h4, h5, h6⟩ := take_g p M4 23 z (by obtain ⟨l, e⟩ := E4; rw [e]; exact h.app) (by omega) (by decide) (by decide)
  have hlt := h.lt
  have g4 : M4[M3.length]? = some (.lst (odds m.length ++ odds2)) := last_get
  have hne : M3.length ≠ p := by simp [M3, M2, M1]; omega
  have g4' := h5.get hne g4
  have r0 : M4[m.length]? = some (.lst []) := by simp [M4, M3, M2, M1]
  have r1 : M4[m.length + 1]? = some (.dK []) := by simp [M4, M3, M2, M1]
  have r2 : M4[m.length + 2]? = some (.lst [.str cA]) := by simp [M4, M3, M2, M1]
  obtain ⟨w, hw, e⟩ := at_mem (ws := odds m.length ++ odds2) (m := m') h2 (by simpa [odds, odds2] using h3)
  have e2 := (v_ixR (i := r) g4').trans e
  obtain ⟨t1, t2⟩ := odd_thing (h5.get (by omega) r0) (h5.get (by omega) r1) (h5.get (by omega) r2) w hw
  refine ⟨w, m', ?_, t1, t2, h4, (by obtain ⟨l, e⟩ := E4; rw [e] at h5; exact Grow.app.trans h5)⟩
  have e0 : ∀ σ, eNew (lDisp (aCons (eC .non) (aCons (eC (.bl true)) (aCons (eC (.int 0)) (aCons (eC (.str [65])) (aCons (eC (.str [])) (aCons (eTup (aNil)) (aCons (eNew (lDisp (aNil))) (aCons (eDict0) (aCons (eC (.str [97, 49])) (aCons (eC (.str [97, 98, 99, 100, 101, 102, 103, 104, 105])) (aCons (eUn wNeg (eC (.int 1))) (aCons (eTup (aCons (eC (.str [97])) (aNil))) (aCons (eNew (lDisp (aCons (eC (.str [97])) (aNil)))) (aCons (eTup (aCons (eC (.int 1)) (aCons (eC (.int 2)) (aNil)))) (aCons (eC (.str [97, 32, 98])) (aCons (eC (.str [49])) (aNil)))))))))))))))))) σ m = .ok (.ref M1.length) M2 := fun σ => by
    simp only [List.length_cons, List.length_nil, Nat.reduceAdd, Nat.reduceEqDiff, if_true, List.map_cons, List.map_nil, Nat.reduceSub, List.replicate, List.cons_append, List.nil_append, R.bind_ok, R.bind_exc, R.bind_bad, R.nox_ok, RS.of_ok, RS.of_exc, List.getElem?_cons_zero, List.getElem?_cons_succ, List.set_cons_zero, List.set_cons_succ, Bool.not_true, Bool.not_false, Bool.false_eq_true, if_false, isNon, gSet, Int.reduceLT, Int.reduceLE, Int.reduceNeg, and_self, Nat.reduceLeDiff, Nat.reduceMul, decide_true, decide_false, Int.reduceEq, eq_self, reduceCtorEq, seq_nx, seq_rt, seq_bad, of_rt, of_nx, trd_rt, trd_nx, r_defn, r_seq, r_try, r_nil, r_expr, r_ret, r_if, r_set, r_asg, r_put, r_attr, r_var, r_c, r_bin, r_un, r_fn, r_fnL, r_call, r_make, made_ok, made_exc, r_eattr, r_ixL, r_new, r_tup, r_disp, r_few, r_eif, r_eand, r_eor, r_enot, r_acons, r_anil, r_astar, r_astarL, r_val, r_tru, r_not, r_and, r_or, r_chain, r_inL, r_m1, r_joinL, r_sl, r_pno, r_pat, v_add, v_sub, v_mod, v_div, v_neg, v_lt, v_le, v_gt, v_ge, v_isN, v_notN, v_intI, v_intB, v_abs, v_strS, v_ixT, v_ixF, v_eqI, v_neI, v_eqS, v_neS, r_lcomp, r_pval, r_pseq, r_plist, r_planT, r_planS, r_tryO, r_tryA, seq_exc, of_exc, tryO_rt, tryO_nx, tryA_rt, tryA_nx, r_raise, r_raise1, r_xattr, r_slS, r_join, r_dget, r_dict0, r_dput, r_mkx, r_app, List.length_append, Nat.zero_le]
    have hl : M1.length = m.length + 1 + 1 + 1 := by simp [M1]
    rw [hl]
    rfl
  simp only [r_defn, List.length_cons, List.length_nil, Nat.reduceAdd, if_true, List.map_cons, List.map_nil, Nat.reduceSub, List.replicate, List.cons_append, List.nil_append]
  rw [r_seq, r_set, e0, RS.of_ok]
  have e1 : ∀ σ, eNew (lDisp (aCons (eC (.str [32, 97])) (aCons (eC (.str [97, 95])) (aCons (eC (.str [97, 10])) (aCons (eC (.bl false)) (aCons (eC (.str [97, 123])) (aCons (eC (.str [96, 97])) (aCons (eC (.str [97, 126])) (aNil))))))))) σ M2 = .ok (.ref M2.length) M3 := fun σ => by
    simp only [List.length_cons, List.length_nil, Nat.reduceAdd, Nat.reduceEqDiff, if_true, List.map_cons, List.map_nil, Nat.reduceSub, List.replicate, List.cons_append, List.nil_append, R.bind_ok, R.bind_exc, R.bind_bad, R.nox_ok, RS.of_ok, RS.of_exc, List.getElem?_cons_zero, List.getElem?_cons_succ, List.set_cons_zero, List.set_cons_succ, Bool.not_true, Bool.not_false, Bool.false_eq_true, if_false, isNon, gSet, Int.reduceLT, Int.reduceLE, Int.reduceNeg, and_self, Nat.reduceLeDiff, Nat.reduceMul, decide_true, decide_false, Int.reduceEq, eq_self, reduceCtorEq, seq_nx, seq_rt, seq_bad, of_rt, of_nx, trd_rt, trd_nx, r_defn, r_seq, r_try, r_nil, r_expr, r_ret, r_if, r_set, r_asg, r_put, r_attr, r_var, r_c, r_bin, r_un, r_fn, r_fnL, r_call, r_make, made_ok, made_exc, r_eattr, r_ixL, r_new, r_tup, r_disp, r_few, r_eif, r_eand, r_eor, r_enot, r_acons, r_anil, r_astar, r_astarL, r_val, r_tru, r_not, r_and, r_or, r_chain, r_inL, r_m1, r_joinL, r_sl, r_pno, r_pat, v_add, v_sub, v_mod, v_div, v_neg, v_lt, v_le, v_gt, v_ge, v_isN, v_notN, v_intI, v_intB, v_abs, v_strS, v_ixT, v_ixF, v_eqI, v_neI, v_eqS, v_neS, r_lcomp, r_pval, r_pseq, r_plist, r_planT, r_planS, r_tryO, r_tryA, seq_exc, of_exc, tryO_rt, tryO_nx, tryA_rt, tryA_nx, r_raise, r_raise1, r_xattr, r_slS, r_join, r_dget, r_dict0, r_dput, r_mkx, r_app]
    rfl
  simp only [seq_nx, r_ret, r_bin, r_var, List.set_cons_zero, List.set_cons_succ, List.getElem?_cons_zero, List.getElem?_cons_succ, R.bind_ok]
  rw [e1]
  simp only [R.bind_ok]
  rw [a1]
  simp only [List.length_cons, List.length_nil, Nat.reduceAdd, Nat.reduceEqDiff, if_true, List.map_cons, List.map_nil, Nat.reduceSub, List.replicate, List.cons_append, List.nil_append, R.bind_ok, R.bind_exc, R.bind_bad, R.nox_ok, RS.of_ok, RS.of_exc, List.getElem?_cons_zero, List.getElem?_cons_succ, List.set_cons_zero, List.set_cons_succ, Bool.not_true, Bool.not_false, Bool.false_eq_true, if_false, isNon, gSet, Int.reduceLT, Int.reduceLE, Int.reduceNeg, and_self, Nat.reduceLeDiff, Nat.reduceMul, decide_true, decide_false, Int.reduceEq, eq_self, reduceCtorEq, seq_nx, seq_rt, seq_bad, of_rt, of_nx, trd_rt, trd_nx, r_defn, r_seq, r_try, r_nil, r_expr, r_ret, r_if, r_set, r_asg, r_put, r_attr, r_var, r_c, r_bin, r_un, r_fn, r_fnL, r_call, r_make, made_ok, made_exc, r_eattr, r_ixL, r_new, r_tup, r_disp, r_few, r_eif, r_eand, r_eor, r_enot, r_acons, r_anil, r_astar, r_astarL, r_val, r_tru, r_not, r_and, r_or, r_chain, r_inL, r_m1, r_joinL, r_sl, r_pno, r_pat, v_add, v_sub, v_mod, v_div, v_neg, v_lt, v_le, v_gt, v_ge, v_isN, v_notN, v_intI, v_intB, v_abs, v_strS, v_ixT, v_ixF, v_eqI, v_neI, v_eqS, v_neS, r_lcomp, r_pval, r_pseq, r_plist, r_planT, r_planS, r_tryO, r_tryA, seq_exc, of_exc, tryO_rt, tryO_nx, tryA_rt, tryA_nx, r_raise, r_raise1, r_xattr, r_slS, r_join, r_dget, r_dict0, r_dput, r_mkx, r_app, h1, e2]
end K90

namespace K90
open PySem Sh
/-! ### the errors -/
structure Er where
  c : String
  f : List Nat
  msg : List Nat
def ers : List Er := [⟨"NoName", [118, 97, 108, 117, 101], [110, 111, 116, 32, 97, 32, 110, 97, 109, 101]⟩, ⟨"NoValue", [118, 97, 108, 117, 101], [110, 111, 116, 32, 97, 32, 118, 97, 108, 117, 101]⟩, ⟨"NoOperator", [118, 97, 108, 117, 101], [110, 111, 116, 32, 97, 110, 32, 111, 112, 101, 114, 97, 116, 111, 114]⟩, ⟨"NoStatement", [118, 97, 108, 117, 101], [110, 111, 116, 32, 97, 32, 115, 116, 97, 116, 101, 109, 101, 110, 116]⟩, ⟨"NoText", [118, 97, 108, 117, 101], [110, 111, 116, 104, 105, 110, 103, 32, 104, 97, 115, 32, 116, 104, 105, 115, 32, 116, 101, 120, 116]⟩, ⟨"NoNumber", [118, 97, 108, 117, 101], [110, 111, 116, 32, 115, 117, 99, 104, 32, 97, 32, 110, 117, 109, 98, 101, 114]⟩, ⟨"NoInputs", [118, 97, 108, 117, 101], [110, 111, 116, 32, 105, 110, 112, 117, 116, 115]⟩, ⟨"NoExpression", [118, 97, 108, 117, 101], [110, 111, 116, 32, 97, 110, 32, 101, 120, 112, 114, 101, 115, 115, 105, 111, 110]⟩, ⟨"NoPoint", [118, 97, 108, 117, 101], [110, 111, 116, 32, 97, 32, 112, 111, 105, 110, 116]⟩, ⟨"NoPlacement", [118, 97, 108, 117, 101], [110, 111, 116, 32, 97, 32, 112, 108, 97, 99, 101, 109, 101, 110, 116, 32, 116, 104, 97, 116, 32, 102, 105, 116, 115]⟩, ⟨"NoPath", [118, 97, 108, 117, 101], [110, 111, 116, 32, 97, 32, 112, 97, 116, 104]⟩, ⟨"NotClosed", [118, 97, 108, 117, 101], [110, 111, 116, 32, 97, 32, 99, 108, 111, 115, 101, 100, 32, 115, 101, 116]⟩, ⟨"NoPrice", [118, 97, 108, 117, 101], [110, 111, 116, 32, 97, 32, 112, 114, 105, 99, 101]⟩, ⟨"NoCounts", [118, 97, 108, 117, 101], [110, 111, 116, 32, 99, 111, 117, 110, 116, 115]⟩, ⟨"NoPairs", [118, 97, 108, 117, 101], [110, 111, 116, 32, 115, 117, 99, 104, 32, 112, 97, 105, 114, 115]⟩, ⟨"NoProgram", [110, 111, 100, 101], [110, 111, 116, 32, 97, 32, 112, 114, 111, 103, 114, 97, 109]⟩, ⟨"Idle", [110, 111, 100, 101], [97, 32, 110, 111, 100, 101, 32, 111, 110, 32, 110, 111, 32, 99, 111, 109, 112, 108, 101, 116, 101, 32, 112, 97, 116, 104]⟩, ⟨"NoNode", [110, 111, 100, 101], [110, 111, 116, 32, 97, 32, 110, 111, 100, 101]⟩, ⟨"NoEdge", [101, 100, 103, 101], [110, 111, 116, 32, 97, 110, 32, 101, 100, 103, 101]⟩, ⟨"NoPlace", [112, 108, 97, 99, 101], [110, 111, 32, 115, 117, 99, 104, 32, 115, 117, 99, 99, 101, 115, 115, 111, 114]⟩, ⟨"NoStep", [112, 108, 97, 99, 101], [110, 111, 116, 32, 97, 32, 115, 116, 101, 112]⟩, ⟨"NoEdit", [110, 97, 109, 101], [110, 111, 116, 32, 97, 110, 32, 101, 100, 105, 116]⟩, ⟨"Unfit", [116, 111, 108, 100], [116, 104, 101, 32, 112, 108, 97, 99, 101, 109, 101, 110, 116, 32, 105, 115, 32, 110, 111, 116, 32, 102, 105, 116]⟩, ⟨"TooLong", [110, 111, 100, 101, 115], [116, 111, 111, 32, 109, 97, 110, 121, 32, 110, 111, 100, 101, 115]⟩]
def er (i : Nat) : Er := ers.getD i ⟨"", [], []⟩
def X (i : Nat) (w : W) : O := .exh (er i).c [((er i).f, w)] (er i).msg
theorem r_mkxT {c : String} {f msg : List Nat} {a : DL} {σ : Sh.Loc} {m : Mem} : eMakeXT c f msg a σ m = (a σ m).bind (makeXT c f msg) := rfl
theorem v_mkxT {c : String} {f msg : List Nat} {w : W} {m : Mem} : makeXT c f msg [w] m = .ok (.ref m.length) (m ++ [.exh c [(f, w)] msg]) := rfl
/-- both errors of one kind -/
def two (i : Nat) (w : W) (m : Mem) : Mem := ((m ++ [X i w]) ++ [X i w]) ++ [O.lst [.ref m.length, .ref (m ++ [X i w]).length]]
theorem two_ext (i : Nat) (w : W) (m : Mem) : Ext m (two i w m) := ((Ext.app m _).add _).add _
theorem two_len (i : Nat) (w : W) (m : Mem) : (two i w m).length = m.length + 3 := by simp [two]
theorem two_0 (i : Nat) (w : W) (m : Mem) : (two i w m)[m.length]? = some (X i w) := (((Ext.app (m ++ [X i w]) _).add _)).get last_get
theorem two_1 (i : Nat) (w : W) (m : Mem) : (two i w m)[m.length + 1]? = some (X i w) := by simp [two]
theorem two_2 (i : Nat) (w : W) (m : Mem) : (two i w m)[m.length + 2]? = some (.lst [.ref m.length, .ref (m.length + 1)]) := by simp [two]
theorem two_r (i : Nat) (w : W) (m : Mem) : (R.ok (W.ref ((m ++ [X i w]) ++ [X i w]).length) (two i w m) : R W) = .ok (.ref (m.length + 2)) (two i w m) := by simp
theorem mk_0 (w : W) (m : Mem) : d__law_first_ones [.int 0, w] m = .ok (.ref (m.length + 2)) (two 0 w m) := by
  rw [← two_r]
  unfold d__law_first_ones b__law_first_ones
  simp only [List.length_cons, List.length_nil, Nat.reduceAdd, Nat.reduceEqDiff, if_true, List.map_cons, List.map_nil, Nat.reduceSub, List.replicate, List.cons_append, List.nil_append, R.bind_ok, R.bind_exc, R.bind_bad, R.nox_ok, RS.of_ok, RS.of_exc, List.getElem?_cons_zero, List.getElem?_cons_succ, List.set_cons_zero, List.set_cons_succ, Bool.not_true, Bool.not_false, Bool.false_eq_true, if_false, isNon, gSet, Int.reduceLT, Int.reduceLE, Int.reduceNeg, and_self, Nat.reduceLeDiff, Nat.reduceMul, decide_true, decide_false, Int.reduceEq, eq_self, reduceCtorEq, seq_nx, seq_rt, seq_bad, of_rt, of_nx, trd_rt, trd_nx, r_defn, r_seq, r_try, r_nil, r_expr, r_ret, r_if, r_set, r_asg, r_put, r_attr, r_var, r_c, r_bin, r_un, r_fn, r_fnL, r_call, r_make, made_ok, made_exc, r_eattr, r_ixL, r_new, r_tup, r_disp, r_few, r_eif, r_eand, r_eor, r_enot, r_acons, r_anil, r_astar, r_astarL, r_val, r_tru, r_not, r_and, r_or, r_chain, r_inL, r_m1, r_joinL, r_sl, r_pno, r_pat, v_add, v_sub, v_mod, v_div, v_neg, v_lt, v_le, v_gt, v_ge, v_isN, v_notN, v_intI, v_intB, v_abs, v_strS, v_len, v_ixT, v_ixF, v_eqI, v_neI, v_eqS, v_neS, r_lcomp, r_pval, r_pseq, r_plist, r_planT, r_planS, r_tryO, r_tryA, seq_exc, of_exc, tryO_rt, tryO_nx, tryA_rt, tryA_nx, r_raise, r_raise1, r_xattr, r_slS, r_join, r_dget, r_dict0, r_dput, r_mkx, r_app, r_mkxT, v_mkxT]
  rfl
theorem mk_1 (w : W) (m : Mem) : d__law_first_ones [.int 1, w] m = .ok (.ref (m.length + 2)) (two 1 w m) := by
  rw [← two_r]
  unfold d__law_first_ones b__law_first_ones
  simp only [List.length_cons, List.length_nil, Nat.reduceAdd, Nat.reduceEqDiff, if_true, List.map_cons, List.map_nil, Nat.reduceSub, List.replicate, List.cons_append, List.nil_append, R.bind_ok, R.bind_exc, R.bind_bad, R.nox_ok, RS.of_ok, RS.of_exc, List.getElem?_cons_zero, List.getElem?_cons_succ, List.set_cons_zero, List.set_cons_succ, Bool.not_true, Bool.not_false, Bool.false_eq_true, if_false, isNon, gSet, Int.reduceLT, Int.reduceLE, Int.reduceNeg, and_self, Nat.reduceLeDiff, Nat.reduceMul, decide_true, decide_false, Int.reduceEq, eq_self, reduceCtorEq, seq_nx, seq_rt, seq_bad, of_rt, of_nx, trd_rt, trd_nx, r_defn, r_seq, r_try, r_nil, r_expr, r_ret, r_if, r_set, r_asg, r_put, r_attr, r_var, r_c, r_bin, r_un, r_fn, r_fnL, r_call, r_make, made_ok, made_exc, r_eattr, r_ixL, r_new, r_tup, r_disp, r_few, r_eif, r_eand, r_eor, r_enot, r_acons, r_anil, r_astar, r_astarL, r_val, r_tru, r_not, r_and, r_or, r_chain, r_inL, r_m1, r_joinL, r_sl, r_pno, r_pat, v_add, v_sub, v_mod, v_div, v_neg, v_lt, v_le, v_gt, v_ge, v_isN, v_notN, v_intI, v_intB, v_abs, v_strS, v_len, v_ixT, v_ixF, v_eqI, v_neI, v_eqS, v_neS, r_lcomp, r_pval, r_pseq, r_plist, r_planT, r_planS, r_tryO, r_tryA, seq_exc, of_exc, tryO_rt, tryO_nx, tryA_rt, tryA_nx, r_raise, r_raise1, r_xattr, r_slS, r_join, r_dget, r_dict0, r_dput, r_mkx, r_app, r_mkxT, v_mkxT]
  rfl
theorem mk_2 (w : W) (m : Mem) : d__law_first_ones [.int 2, w] m = .ok (.ref (m.length + 2)) (two 2 w m) := by
  rw [← two_r]
  unfold d__law_first_ones b__law_first_ones
  simp only [List.length_cons, List.length_nil, Nat.reduceAdd, Nat.reduceEqDiff, if_true, List.map_cons, List.map_nil, Nat.reduceSub, List.replicate, List.cons_append, List.nil_append, R.bind_ok, R.bind_exc, R.bind_bad, R.nox_ok, RS.of_ok, RS.of_exc, List.getElem?_cons_zero, List.getElem?_cons_succ, List.set_cons_zero, List.set_cons_succ, Bool.not_true, Bool.not_false, Bool.false_eq_true, if_false, isNon, gSet, Int.reduceLT, Int.reduceLE, Int.reduceNeg, and_self, Nat.reduceLeDiff, Nat.reduceMul, decide_true, decide_false, Int.reduceEq, eq_self, reduceCtorEq, seq_nx, seq_rt, seq_bad, of_rt, of_nx, trd_rt, trd_nx, r_defn, r_seq, r_try, r_nil, r_expr, r_ret, r_if, r_set, r_asg, r_put, r_attr, r_var, r_c, r_bin, r_un, r_fn, r_fnL, r_call, r_make, made_ok, made_exc, r_eattr, r_ixL, r_new, r_tup, r_disp, r_few, r_eif, r_eand, r_eor, r_enot, r_acons, r_anil, r_astar, r_astarL, r_val, r_tru, r_not, r_and, r_or, r_chain, r_inL, r_m1, r_joinL, r_sl, r_pno, r_pat, v_add, v_sub, v_mod, v_div, v_neg, v_lt, v_le, v_gt, v_ge, v_isN, v_notN, v_intI, v_intB, v_abs, v_strS, v_len, v_ixT, v_ixF, v_eqI, v_neI, v_eqS, v_neS, r_lcomp, r_pval, r_pseq, r_plist, r_planT, r_planS, r_tryO, r_tryA, seq_exc, of_exc, tryO_rt, tryO_nx, tryA_rt, tryA_nx, r_raise, r_raise1, r_xattr, r_slS, r_join, r_dget, r_dict0, r_dput, r_mkx, r_app, r_mkxT, v_mkxT]
  rfl
theorem mk_3 (w : W) (m : Mem) : d__law_first_ones [.int 3, w] m = .ok (.ref (m.length + 2)) (two 3 w m) := by
  rw [← two_r]
  unfold d__law_first_ones b__law_first_ones
  simp only [List.length_cons, List.length_nil, Nat.reduceAdd, Nat.reduceEqDiff, if_true, List.map_cons, List.map_nil, Nat.reduceSub, List.replicate, List.cons_append, List.nil_append, R.bind_ok, R.bind_exc, R.bind_bad, R.nox_ok, RS.of_ok, RS.of_exc, List.getElem?_cons_zero, List.getElem?_cons_succ, List.set_cons_zero, List.set_cons_succ, Bool.not_true, Bool.not_false, Bool.false_eq_true, if_false, isNon, gSet, Int.reduceLT, Int.reduceLE, Int.reduceNeg, and_self, Nat.reduceLeDiff, Nat.reduceMul, decide_true, decide_false, Int.reduceEq, eq_self, reduceCtorEq, seq_nx, seq_rt, seq_bad, of_rt, of_nx, trd_rt, trd_nx, r_defn, r_seq, r_try, r_nil, r_expr, r_ret, r_if, r_set, r_asg, r_put, r_attr, r_var, r_c, r_bin, r_un, r_fn, r_fnL, r_call, r_make, made_ok, made_exc, r_eattr, r_ixL, r_new, r_tup, r_disp, r_few, r_eif, r_eand, r_eor, r_enot, r_acons, r_anil, r_astar, r_astarL, r_val, r_tru, r_not, r_and, r_or, r_chain, r_inL, r_m1, r_joinL, r_sl, r_pno, r_pat, v_add, v_sub, v_mod, v_div, v_neg, v_lt, v_le, v_gt, v_ge, v_isN, v_notN, v_intI, v_intB, v_abs, v_strS, v_len, v_ixT, v_ixF, v_eqI, v_neI, v_eqS, v_neS, r_lcomp, r_pval, r_pseq, r_plist, r_planT, r_planS, r_tryO, r_tryA, seq_exc, of_exc, tryO_rt, tryO_nx, tryA_rt, tryA_nx, r_raise, r_raise1, r_xattr, r_slS, r_join, r_dget, r_dict0, r_dput, r_mkx, r_app, r_mkxT, v_mkxT]
  rfl
theorem mk_4 (w : W) (m : Mem) : d__law_first_ones [.int 4, w] m = .ok (.ref (m.length + 2)) (two 4 w m) := by
  rw [← two_r]
  unfold d__law_first_ones b__law_first_ones
  simp only [List.length_cons, List.length_nil, Nat.reduceAdd, Nat.reduceEqDiff, if_true, List.map_cons, List.map_nil, Nat.reduceSub, List.replicate, List.cons_append, List.nil_append, R.bind_ok, R.bind_exc, R.bind_bad, R.nox_ok, RS.of_ok, RS.of_exc, List.getElem?_cons_zero, List.getElem?_cons_succ, List.set_cons_zero, List.set_cons_succ, Bool.not_true, Bool.not_false, Bool.false_eq_true, if_false, isNon, gSet, Int.reduceLT, Int.reduceLE, Int.reduceNeg, and_self, Nat.reduceLeDiff, Nat.reduceMul, decide_true, decide_false, Int.reduceEq, eq_self, reduceCtorEq, seq_nx, seq_rt, seq_bad, of_rt, of_nx, trd_rt, trd_nx, r_defn, r_seq, r_try, r_nil, r_expr, r_ret, r_if, r_set, r_asg, r_put, r_attr, r_var, r_c, r_bin, r_un, r_fn, r_fnL, r_call, r_make, made_ok, made_exc, r_eattr, r_ixL, r_new, r_tup, r_disp, r_few, r_eif, r_eand, r_eor, r_enot, r_acons, r_anil, r_astar, r_astarL, r_val, r_tru, r_not, r_and, r_or, r_chain, r_inL, r_m1, r_joinL, r_sl, r_pno, r_pat, v_add, v_sub, v_mod, v_div, v_neg, v_lt, v_le, v_gt, v_ge, v_isN, v_notN, v_intI, v_intB, v_abs, v_strS, v_len, v_ixT, v_ixF, v_eqI, v_neI, v_eqS, v_neS, r_lcomp, r_pval, r_pseq, r_plist, r_planT, r_planS, r_tryO, r_tryA, seq_exc, of_exc, tryO_rt, tryO_nx, tryA_rt, tryA_nx, r_raise, r_raise1, r_xattr, r_slS, r_join, r_dget, r_dict0, r_dput, r_mkx, r_app, r_mkxT, v_mkxT]
  rfl
theorem mk_5 (w : W) (m : Mem) : d__law_first_ones [.int 5, w] m = .ok (.ref (m.length + 2)) (two 5 w m) := by
  rw [← two_r]
  unfold d__law_first_ones b__law_first_ones
  simp only [List.length_cons, List.length_nil, Nat.reduceAdd, Nat.reduceEqDiff, if_true, List.map_cons, List.map_nil, Nat.reduceSub, List.replicate, List.cons_append, List.nil_append, R.bind_ok, R.bind_exc, R.bind_bad, R.nox_ok, RS.of_ok, RS.of_exc, List.getElem?_cons_zero, List.getElem?_cons_succ, List.set_cons_zero, List.set_cons_succ, Bool.not_true, Bool.not_false, Bool.false_eq_true, if_false, isNon, gSet, Int.reduceLT, Int.reduceLE, Int.reduceNeg, and_self, Nat.reduceLeDiff, Nat.reduceMul, decide_true, decide_false, Int.reduceEq, eq_self, reduceCtorEq, seq_nx, seq_rt, seq_bad, of_rt, of_nx, trd_rt, trd_nx, r_defn, r_seq, r_try, r_nil, r_expr, r_ret, r_if, r_set, r_asg, r_put, r_attr, r_var, r_c, r_bin, r_un, r_fn, r_fnL, r_call, r_make, made_ok, made_exc, r_eattr, r_ixL, r_new, r_tup, r_disp, r_few, r_eif, r_eand, r_eor, r_enot, r_acons, r_anil, r_astar, r_astarL, r_val, r_tru, r_not, r_and, r_or, r_chain, r_inL, r_m1, r_joinL, r_sl, r_pno, r_pat, v_add, v_sub, v_mod, v_div, v_neg, v_lt, v_le, v_gt, v_ge, v_isN, v_notN, v_intI, v_intB, v_abs, v_strS, v_len, v_ixT, v_ixF, v_eqI, v_neI, v_eqS, v_neS, r_lcomp, r_pval, r_pseq, r_plist, r_planT, r_planS, r_tryO, r_tryA, seq_exc, of_exc, tryO_rt, tryO_nx, tryA_rt, tryA_nx, r_raise, r_raise1, r_xattr, r_slS, r_join, r_dget, r_dict0, r_dput, r_mkx, r_app, r_mkxT, v_mkxT]
  rfl
theorem mk_6 (w : W) (m : Mem) : d__law_first_ones [.int 6, w] m = .ok (.ref (m.length + 2)) (two 6 w m) := by
  rw [← two_r]
  unfold d__law_first_ones b__law_first_ones
  simp only [List.length_cons, List.length_nil, Nat.reduceAdd, Nat.reduceEqDiff, if_true, List.map_cons, List.map_nil, Nat.reduceSub, List.replicate, List.cons_append, List.nil_append, R.bind_ok, R.bind_exc, R.bind_bad, R.nox_ok, RS.of_ok, RS.of_exc, List.getElem?_cons_zero, List.getElem?_cons_succ, List.set_cons_zero, List.set_cons_succ, Bool.not_true, Bool.not_false, Bool.false_eq_true, if_false, isNon, gSet, Int.reduceLT, Int.reduceLE, Int.reduceNeg, and_self, Nat.reduceLeDiff, Nat.reduceMul, decide_true, decide_false, Int.reduceEq, eq_self, reduceCtorEq, seq_nx, seq_rt, seq_bad, of_rt, of_nx, trd_rt, trd_nx, r_defn, r_seq, r_try, r_nil, r_expr, r_ret, r_if, r_set, r_asg, r_put, r_attr, r_var, r_c, r_bin, r_un, r_fn, r_fnL, r_call, r_make, made_ok, made_exc, r_eattr, r_ixL, r_new, r_tup, r_disp, r_few, r_eif, r_eand, r_eor, r_enot, r_acons, r_anil, r_astar, r_astarL, r_val, r_tru, r_not, r_and, r_or, r_chain, r_inL, r_m1, r_joinL, r_sl, r_pno, r_pat, v_add, v_sub, v_mod, v_div, v_neg, v_lt, v_le, v_gt, v_ge, v_isN, v_notN, v_intI, v_intB, v_abs, v_strS, v_len, v_ixT, v_ixF, v_eqI, v_neI, v_eqS, v_neS, r_lcomp, r_pval, r_pseq, r_plist, r_planT, r_planS, r_tryO, r_tryA, seq_exc, of_exc, tryO_rt, tryO_nx, tryA_rt, tryA_nx, r_raise, r_raise1, r_xattr, r_slS, r_join, r_dget, r_dict0, r_dput, r_mkx, r_app, r_mkxT, v_mkxT]
  rfl
theorem mk_7 (w : W) (m : Mem) : d__law_first_ones [.int 7, w] m = .ok (.ref (m.length + 2)) (two 7 w m) := by
  rw [← two_r]
  unfold d__law_first_ones b__law_first_ones
  simp only [List.length_cons, List.length_nil, Nat.reduceAdd, Nat.reduceEqDiff, if_true, List.map_cons, List.map_nil, Nat.reduceSub, List.replicate, List.cons_append, List.nil_append, R.bind_ok, R.bind_exc, R.bind_bad, R.nox_ok, RS.of_ok, RS.of_exc, List.getElem?_cons_zero, List.getElem?_cons_succ, List.set_cons_zero, List.set_cons_succ, Bool.not_true, Bool.not_false, Bool.false_eq_true, if_false, isNon, gSet, Int.reduceLT, Int.reduceLE, Int.reduceNeg, and_self, Nat.reduceLeDiff, Nat.reduceMul, decide_true, decide_false, Int.reduceEq, eq_self, reduceCtorEq, seq_nx, seq_rt, seq_bad, of_rt, of_nx, trd_rt, trd_nx, r_defn, r_seq, r_try, r_nil, r_expr, r_ret, r_if, r_set, r_asg, r_put, r_attr, r_var, r_c, r_bin, r_un, r_fn, r_fnL, r_call, r_make, made_ok, made_exc, r_eattr, r_ixL, r_new, r_tup, r_disp, r_few, r_eif, r_eand, r_eor, r_enot, r_acons, r_anil, r_astar, r_astarL, r_val, r_tru, r_not, r_and, r_or, r_chain, r_inL, r_m1, r_joinL, r_sl, r_pno, r_pat, v_add, v_sub, v_mod, v_div, v_neg, v_lt, v_le, v_gt, v_ge, v_isN, v_notN, v_intI, v_intB, v_abs, v_strS, v_len, v_ixT, v_ixF, v_eqI, v_neI, v_eqS, v_neS, r_lcomp, r_pval, r_pseq, r_plist, r_planT, r_planS, r_tryO, r_tryA, seq_exc, of_exc, tryO_rt, tryO_nx, tryA_rt, tryA_nx, r_raise, r_raise1, r_xattr, r_slS, r_join, r_dget, r_dict0, r_dput, r_mkx, r_app, r_mkxT, v_mkxT]
  rfl
theorem mk_8 (w : W) (m : Mem) : d__law_first_ones [.int 8, w] m = .ok (.ref (m.length + 2)) (two 8 w m) := by
  rw [← two_r]
  unfold d__law_first_ones b__law_first_ones
  simp only [List.length_cons, List.length_nil, Nat.reduceAdd, Nat.reduceEqDiff, if_true, List.map_cons, List.map_nil, Nat.reduceSub, List.replicate, List.cons_append, List.nil_append, R.bind_ok, R.bind_exc, R.bind_bad, R.nox_ok, RS.of_ok, RS.of_exc, List.getElem?_cons_zero, List.getElem?_cons_succ, List.set_cons_zero, List.set_cons_succ, Bool.not_true, Bool.not_false, Bool.false_eq_true, if_false, isNon, gSet, Int.reduceLT, Int.reduceLE, Int.reduceNeg, and_self, Nat.reduceLeDiff, Nat.reduceMul, decide_true, decide_false, Int.reduceEq, eq_self, reduceCtorEq, seq_nx, seq_rt, seq_bad, of_rt, of_nx, trd_rt, trd_nx, r_defn, r_seq, r_try, r_nil, r_expr, r_ret, r_if, r_set, r_asg, r_put, r_attr, r_var, r_c, r_bin, r_un, r_fn, r_fnL, r_call, r_make, made_ok, made_exc, r_eattr, r_ixL, r_new, r_tup, r_disp, r_few, r_eif, r_eand, r_eor, r_enot, r_acons, r_anil, r_astar, r_astarL, r_val, r_tru, r_not, r_and, r_or, r_chain, r_inL, r_m1, r_joinL, r_sl, r_pno, r_pat, v_add, v_sub, v_mod, v_div, v_neg, v_lt, v_le, v_gt, v_ge, v_isN, v_notN, v_intI, v_intB, v_abs, v_strS, v_len, v_ixT, v_ixF, v_eqI, v_neI, v_eqS, v_neS, r_lcomp, r_pval, r_pseq, r_plist, r_planT, r_planS, r_tryO, r_tryA, seq_exc, of_exc, tryO_rt, tryO_nx, tryA_rt, tryA_nx, r_raise, r_raise1, r_xattr, r_slS, r_join, r_dget, r_dict0, r_dput, r_mkx, r_app, r_mkxT, v_mkxT]
  rfl
theorem mk_9 (w : W) (m : Mem) : d__law_first_ones [.int 9, w] m = .ok (.ref (m.length + 2)) (two 9 w m) := by
  rw [← two_r]
  unfold d__law_first_ones b__law_first_ones
  simp only [List.length_cons, List.length_nil, Nat.reduceAdd, Nat.reduceEqDiff, if_true, List.map_cons, List.map_nil, Nat.reduceSub, List.replicate, List.cons_append, List.nil_append, R.bind_ok, R.bind_exc, R.bind_bad, R.nox_ok, RS.of_ok, RS.of_exc, List.getElem?_cons_zero, List.getElem?_cons_succ, List.set_cons_zero, List.set_cons_succ, Bool.not_true, Bool.not_false, Bool.false_eq_true, if_false, isNon, gSet, Int.reduceLT, Int.reduceLE, Int.reduceNeg, and_self, Nat.reduceLeDiff, Nat.reduceMul, decide_true, decide_false, Int.reduceEq, eq_self, reduceCtorEq, seq_nx, seq_rt, seq_bad, of_rt, of_nx, trd_rt, trd_nx, r_defn, r_seq, r_try, r_nil, r_expr, r_ret, r_if, r_set, r_asg, r_put, r_attr, r_var, r_c, r_bin, r_un, r_fn, r_fnL, r_call, r_make, made_ok, made_exc, r_eattr, r_ixL, r_new, r_tup, r_disp, r_few, r_eif, r_eand, r_eor, r_enot, r_acons, r_anil, r_astar, r_astarL, r_val, r_tru, r_not, r_and, r_or, r_chain, r_inL, r_m1, r_joinL, r_sl, r_pno, r_pat, v_add, v_sub, v_mod, v_div, v_neg, v_lt, v_le, v_gt, v_ge, v_isN, v_notN, v_intI, v_intB, v_abs, v_strS, v_len, v_ixT, v_ixF, v_eqI, v_neI, v_eqS, v_neS, r_lcomp, r_pval, r_pseq, r_plist, r_planT, r_planS, r_tryO, r_tryA, seq_exc, of_exc, tryO_rt, tryO_nx, tryA_rt, tryA_nx, r_raise, r_raise1, r_xattr, r_slS, r_join, r_dget, r_dict0, r_dput, r_mkx, r_app, r_mkxT, v_mkxT]
  rfl
theorem mk_10 (w : W) (m : Mem) : d__law_first_ones [.int 10, w] m = .ok (.ref (m.length + 2)) (two 10 w m) := by
  rw [← two_r]
  unfold d__law_first_ones b__law_first_ones
  simp only [List.length_cons, List.length_nil, Nat.reduceAdd, Nat.reduceEqDiff, if_true, List.map_cons, List.map_nil, Nat.reduceSub, List.replicate, List.cons_append, List.nil_append, R.bind_ok, R.bind_exc, R.bind_bad, R.nox_ok, RS.of_ok, RS.of_exc, List.getElem?_cons_zero, List.getElem?_cons_succ, List.set_cons_zero, List.set_cons_succ, Bool.not_true, Bool.not_false, Bool.false_eq_true, if_false, isNon, gSet, Int.reduceLT, Int.reduceLE, Int.reduceNeg, and_self, Nat.reduceLeDiff, Nat.reduceMul, decide_true, decide_false, Int.reduceEq, eq_self, reduceCtorEq, seq_nx, seq_rt, seq_bad, of_rt, of_nx, trd_rt, trd_nx, r_defn, r_seq, r_try, r_nil, r_expr, r_ret, r_if, r_set, r_asg, r_put, r_attr, r_var, r_c, r_bin, r_un, r_fn, r_fnL, r_call, r_make, made_ok, made_exc, r_eattr, r_ixL, r_new, r_tup, r_disp, r_few, r_eif, r_eand, r_eor, r_enot, r_acons, r_anil, r_astar, r_astarL, r_val, r_tru, r_not, r_and, r_or, r_chain, r_inL, r_m1, r_joinL, r_sl, r_pno, r_pat, v_add, v_sub, v_mod, v_div, v_neg, v_lt, v_le, v_gt, v_ge, v_isN, v_notN, v_intI, v_intB, v_abs, v_strS, v_len, v_ixT, v_ixF, v_eqI, v_neI, v_eqS, v_neS, r_lcomp, r_pval, r_pseq, r_plist, r_planT, r_planS, r_tryO, r_tryA, seq_exc, of_exc, tryO_rt, tryO_nx, tryA_rt, tryA_nx, r_raise, r_raise1, r_xattr, r_slS, r_join, r_dget, r_dict0, r_dput, r_mkx, r_app, r_mkxT, v_mkxT]
  rfl
theorem mk_11 (w : W) (m : Mem) : d__law_first_ones [.int 11, w] m = .ok (.ref (m.length + 2)) (two 11 w m) := by
  rw [← two_r]
  unfold d__law_first_ones b__law_first_ones
  simp only [List.length_cons, List.length_nil, Nat.reduceAdd, Nat.reduceEqDiff, if_true, List.map_cons, List.map_nil, Nat.reduceSub, List.replicate, List.cons_append, List.nil_append, R.bind_ok, R.bind_exc, R.bind_bad, R.nox_ok, RS.of_ok, RS.of_exc, List.getElem?_cons_zero, List.getElem?_cons_succ, List.set_cons_zero, List.set_cons_succ, Bool.not_true, Bool.not_false, Bool.false_eq_true, if_false, isNon, gSet, Int.reduceLT, Int.reduceLE, Int.reduceNeg, and_self, Nat.reduceLeDiff, Nat.reduceMul, decide_true, decide_false, Int.reduceEq, eq_self, reduceCtorEq, seq_nx, seq_rt, seq_bad, of_rt, of_nx, trd_rt, trd_nx, r_defn, r_seq, r_try, r_nil, r_expr, r_ret, r_if, r_set, r_asg, r_put, r_attr, r_var, r_c, r_bin, r_un, r_fn, r_fnL, r_call, r_make, made_ok, made_exc, r_eattr, r_ixL, r_new, r_tup, r_disp, r_few, r_eif, r_eand, r_eor, r_enot, r_acons, r_anil, r_astar, r_astarL, r_val, r_tru, r_not, r_and, r_or, r_chain, r_inL, r_m1, r_joinL, r_sl, r_pno, r_pat, v_add, v_sub, v_mod, v_div, v_neg, v_lt, v_le, v_gt, v_ge, v_isN, v_notN, v_intI, v_intB, v_abs, v_strS, v_len, v_ixT, v_ixF, v_eqI, v_neI, v_eqS, v_neS, r_lcomp, r_pval, r_pseq, r_plist, r_planT, r_planS, r_tryO, r_tryA, seq_exc, of_exc, tryO_rt, tryO_nx, tryA_rt, tryA_nx, r_raise, r_raise1, r_xattr, r_slS, r_join, r_dget, r_dict0, r_dput, r_mkx, r_app, r_mkxT, v_mkxT]
  rfl
theorem mk_12 (w : W) (m : Mem) : d__law_other_ones [.int 12, w] m = .ok (.ref (m.length + 2)) (two 12 w m) := by
  rw [← two_r]
  unfold d__law_other_ones b__law_other_ones
  simp only [List.length_cons, List.length_nil, Nat.reduceAdd, Nat.reduceEqDiff, if_true, List.map_cons, List.map_nil, Nat.reduceSub, List.replicate, List.cons_append, List.nil_append, R.bind_ok, R.bind_exc, R.bind_bad, R.nox_ok, RS.of_ok, RS.of_exc, List.getElem?_cons_zero, List.getElem?_cons_succ, List.set_cons_zero, List.set_cons_succ, Bool.not_true, Bool.not_false, Bool.false_eq_true, if_false, isNon, gSet, Int.reduceLT, Int.reduceLE, Int.reduceNeg, and_self, Nat.reduceLeDiff, Nat.reduceMul, decide_true, decide_false, Int.reduceEq, eq_self, reduceCtorEq, seq_nx, seq_rt, seq_bad, of_rt, of_nx, trd_rt, trd_nx, r_defn, r_seq, r_try, r_nil, r_expr, r_ret, r_if, r_set, r_asg, r_put, r_attr, r_var, r_c, r_bin, r_un, r_fn, r_fnL, r_call, r_make, made_ok, made_exc, r_eattr, r_ixL, r_new, r_tup, r_disp, r_few, r_eif, r_eand, r_eor, r_enot, r_acons, r_anil, r_astar, r_astarL, r_val, r_tru, r_not, r_and, r_or, r_chain, r_inL, r_m1, r_joinL, r_sl, r_pno, r_pat, v_add, v_sub, v_mod, v_div, v_neg, v_lt, v_le, v_gt, v_ge, v_isN, v_notN, v_intI, v_intB, v_abs, v_strS, v_len, v_ixT, v_ixF, v_eqI, v_neI, v_eqS, v_neS, r_lcomp, r_pval, r_pseq, r_plist, r_planT, r_planS, r_tryO, r_tryA, seq_exc, of_exc, tryO_rt, tryO_nx, tryA_rt, tryA_nx, r_raise, r_raise1, r_xattr, r_slS, r_join, r_dget, r_dict0, r_dput, r_mkx, r_app, r_mkxT, v_mkxT]
  rfl
theorem mk_13 (w : W) (m : Mem) : d__law_other_ones [.int 13, w] m = .ok (.ref (m.length + 2)) (two 13 w m) := by
  rw [← two_r]
  unfold d__law_other_ones b__law_other_ones
  simp only [List.length_cons, List.length_nil, Nat.reduceAdd, Nat.reduceEqDiff, if_true, List.map_cons, List.map_nil, Nat.reduceSub, List.replicate, List.cons_append, List.nil_append, R.bind_ok, R.bind_exc, R.bind_bad, R.nox_ok, RS.of_ok, RS.of_exc, List.getElem?_cons_zero, List.getElem?_cons_succ, List.set_cons_zero, List.set_cons_succ, Bool.not_true, Bool.not_false, Bool.false_eq_true, if_false, isNon, gSet, Int.reduceLT, Int.reduceLE, Int.reduceNeg, and_self, Nat.reduceLeDiff, Nat.reduceMul, decide_true, decide_false, Int.reduceEq, eq_self, reduceCtorEq, seq_nx, seq_rt, seq_bad, of_rt, of_nx, trd_rt, trd_nx, r_defn, r_seq, r_try, r_nil, r_expr, r_ret, r_if, r_set, r_asg, r_put, r_attr, r_var, r_c, r_bin, r_un, r_fn, r_fnL, r_call, r_make, made_ok, made_exc, r_eattr, r_ixL, r_new, r_tup, r_disp, r_few, r_eif, r_eand, r_eor, r_enot, r_acons, r_anil, r_astar, r_astarL, r_val, r_tru, r_not, r_and, r_or, r_chain, r_inL, r_m1, r_joinL, r_sl, r_pno, r_pat, v_add, v_sub, v_mod, v_div, v_neg, v_lt, v_le, v_gt, v_ge, v_isN, v_notN, v_intI, v_intB, v_abs, v_strS, v_len, v_ixT, v_ixF, v_eqI, v_neI, v_eqS, v_neS, r_lcomp, r_pval, r_pseq, r_plist, r_planT, r_planS, r_tryO, r_tryA, seq_exc, of_exc, tryO_rt, tryO_nx, tryA_rt, tryA_nx, r_raise, r_raise1, r_xattr, r_slS, r_join, r_dget, r_dict0, r_dput, r_mkx, r_app, r_mkxT, v_mkxT]
  rfl
theorem mk_14 (w : W) (m : Mem) : d__law_other_ones [.int 14, w] m = .ok (.ref (m.length + 2)) (two 14 w m) := by
  rw [← two_r]
  unfold d__law_other_ones b__law_other_ones
  simp only [List.length_cons, List.length_nil, Nat.reduceAdd, Nat.reduceEqDiff, if_true, List.map_cons, List.map_nil, Nat.reduceSub, List.replicate, List.cons_append, List.nil_append, R.bind_ok, R.bind_exc, R.bind_bad, R.nox_ok, RS.of_ok, RS.of_exc, List.getElem?_cons_zero, List.getElem?_cons_succ, List.set_cons_zero, List.set_cons_succ, Bool.not_true, Bool.not_false, Bool.false_eq_true, if_false, isNon, gSet, Int.reduceLT, Int.reduceLE, Int.reduceNeg, and_self, Nat.reduceLeDiff, Nat.reduceMul, decide_true, decide_false, Int.reduceEq, eq_self, reduceCtorEq, seq_nx, seq_rt, seq_bad, of_rt, of_nx, trd_rt, trd_nx, r_defn, r_seq, r_try, r_nil, r_expr, r_ret, r_if, r_set, r_asg, r_put, r_attr, r_var, r_c, r_bin, r_un, r_fn, r_fnL, r_call, r_make, made_ok, made_exc, r_eattr, r_ixL, r_new, r_tup, r_disp, r_few, r_eif, r_eand, r_eor, r_enot, r_acons, r_anil, r_astar, r_astarL, r_val, r_tru, r_not, r_and, r_or, r_chain, r_inL, r_m1, r_joinL, r_sl, r_pno, r_pat, v_add, v_sub, v_mod, v_div, v_neg, v_lt, v_le, v_gt, v_ge, v_isN, v_notN, v_intI, v_intB, v_abs, v_strS, v_len, v_ixT, v_ixF, v_eqI, v_neI, v_eqS, v_neS, r_lcomp, r_pval, r_pseq, r_plist, r_planT, r_planS, r_tryO, r_tryA, seq_exc, of_exc, tryO_rt, tryO_nx, tryA_rt, tryA_nx, r_raise, r_raise1, r_xattr, r_slS, r_join, r_dget, r_dict0, r_dput, r_mkx, r_app, r_mkxT, v_mkxT]
  rfl
theorem mk_15 (w : W) (m : Mem) : d__law_other_ones [.int 15, w] m = .ok (.ref (m.length + 2)) (two 15 w m) := by
  rw [← two_r]
  unfold d__law_other_ones b__law_other_ones
  simp only [List.length_cons, List.length_nil, Nat.reduceAdd, Nat.reduceEqDiff, if_true, List.map_cons, List.map_nil, Nat.reduceSub, List.replicate, List.cons_append, List.nil_append, R.bind_ok, R.bind_exc, R.bind_bad, R.nox_ok, RS.of_ok, RS.of_exc, List.getElem?_cons_zero, List.getElem?_cons_succ, List.set_cons_zero, List.set_cons_succ, Bool.not_true, Bool.not_false, Bool.false_eq_true, if_false, isNon, gSet, Int.reduceLT, Int.reduceLE, Int.reduceNeg, and_self, Nat.reduceLeDiff, Nat.reduceMul, decide_true, decide_false, Int.reduceEq, eq_self, reduceCtorEq, seq_nx, seq_rt, seq_bad, of_rt, of_nx, trd_rt, trd_nx, r_defn, r_seq, r_try, r_nil, r_expr, r_ret, r_if, r_set, r_asg, r_put, r_attr, r_var, r_c, r_bin, r_un, r_fn, r_fnL, r_call, r_make, made_ok, made_exc, r_eattr, r_ixL, r_new, r_tup, r_disp, r_few, r_eif, r_eand, r_eor, r_enot, r_acons, r_anil, r_astar, r_astarL, r_val, r_tru, r_not, r_and, r_or, r_chain, r_inL, r_m1, r_joinL, r_sl, r_pno, r_pat, v_add, v_sub, v_mod, v_div, v_neg, v_lt, v_le, v_gt, v_ge, v_isN, v_notN, v_intI, v_intB, v_abs, v_strS, v_len, v_ixT, v_ixF, v_eqI, v_neI, v_eqS, v_neS, r_lcomp, r_pval, r_pseq, r_plist, r_planT, r_planS, r_tryO, r_tryA, seq_exc, of_exc, tryO_rt, tryO_nx, tryA_rt, tryA_nx, r_raise, r_raise1, r_xattr, r_slS, r_join, r_dget, r_dict0, r_dput, r_mkx, r_app, r_mkxT, v_mkxT]
  rfl
theorem mk_16 (w : W) (m : Mem) : d__law_other_ones [.int 16, w] m = .ok (.ref (m.length + 2)) (two 16 w m) := by
  rw [← two_r]
  unfold d__law_other_ones b__law_other_ones
  simp only [List.length_cons, List.length_nil, Nat.reduceAdd, Nat.reduceEqDiff, if_true, List.map_cons, List.map_nil, Nat.reduceSub, List.replicate, List.cons_append, List.nil_append, R.bind_ok, R.bind_exc, R.bind_bad, R.nox_ok, RS.of_ok, RS.of_exc, List.getElem?_cons_zero, List.getElem?_cons_succ, List.set_cons_zero, List.set_cons_succ, Bool.not_true, Bool.not_false, Bool.false_eq_true, if_false, isNon, gSet, Int.reduceLT, Int.reduceLE, Int.reduceNeg, and_self, Nat.reduceLeDiff, Nat.reduceMul, decide_true, decide_false, Int.reduceEq, eq_self, reduceCtorEq, seq_nx, seq_rt, seq_bad, of_rt, of_nx, trd_rt, trd_nx, r_defn, r_seq, r_try, r_nil, r_expr, r_ret, r_if, r_set, r_asg, r_put, r_attr, r_var, r_c, r_bin, r_un, r_fn, r_fnL, r_call, r_make, made_ok, made_exc, r_eattr, r_ixL, r_new, r_tup, r_disp, r_few, r_eif, r_eand, r_eor, r_enot, r_acons, r_anil, r_astar, r_astarL, r_val, r_tru, r_not, r_and, r_or, r_chain, r_inL, r_m1, r_joinL, r_sl, r_pno, r_pat, v_add, v_sub, v_mod, v_div, v_neg, v_lt, v_le, v_gt, v_ge, v_isN, v_notN, v_intI, v_intB, v_abs, v_strS, v_len, v_ixT, v_ixF, v_eqI, v_neI, v_eqS, v_neS, r_lcomp, r_pval, r_pseq, r_plist, r_planT, r_planS, r_tryO, r_tryA, seq_exc, of_exc, tryO_rt, tryO_nx, tryA_rt, tryA_nx, r_raise, r_raise1, r_xattr, r_slS, r_join, r_dget, r_dict0, r_dput, r_mkx, r_app, r_mkxT, v_mkxT]
  rfl
theorem mk_17 (w : W) (m : Mem) : d__law_other_ones [.int 17, w] m = .ok (.ref (m.length + 2)) (two 17 w m) := by
  rw [← two_r]
  unfold d__law_other_ones b__law_other_ones
  simp only [List.length_cons, List.length_nil, Nat.reduceAdd, Nat.reduceEqDiff, if_true, List.map_cons, List.map_nil, Nat.reduceSub, List.replicate, List.cons_append, List.nil_append, R.bind_ok, R.bind_exc, R.bind_bad, R.nox_ok, RS.of_ok, RS.of_exc, List.getElem?_cons_zero, List.getElem?_cons_succ, List.set_cons_zero, List.set_cons_succ, Bool.not_true, Bool.not_false, Bool.false_eq_true, if_false, isNon, gSet, Int.reduceLT, Int.reduceLE, Int.reduceNeg, and_self, Nat.reduceLeDiff, Nat.reduceMul, decide_true, decide_false, Int.reduceEq, eq_self, reduceCtorEq, seq_nx, seq_rt, seq_bad, of_rt, of_nx, trd_rt, trd_nx, r_defn, r_seq, r_try, r_nil, r_expr, r_ret, r_if, r_set, r_asg, r_put, r_attr, r_var, r_c, r_bin, r_un, r_fn, r_fnL, r_call, r_make, made_ok, made_exc, r_eattr, r_ixL, r_new, r_tup, r_disp, r_few, r_eif, r_eand, r_eor, r_enot, r_acons, r_anil, r_astar, r_astarL, r_val, r_tru, r_not, r_and, r_or, r_chain, r_inL, r_m1, r_joinL, r_sl, r_pno, r_pat, v_add, v_sub, v_mod, v_div, v_neg, v_lt, v_le, v_gt, v_ge, v_isN, v_notN, v_intI, v_intB, v_abs, v_strS, v_len, v_ixT, v_ixF, v_eqI, v_neI, v_eqS, v_neS, r_lcomp, r_pval, r_pseq, r_plist, r_planT, r_planS, r_tryO, r_tryA, seq_exc, of_exc, tryO_rt, tryO_nx, tryA_rt, tryA_nx, r_raise, r_raise1, r_xattr, r_slS, r_join, r_dget, r_dict0, r_dput, r_mkx, r_app, r_mkxT, v_mkxT]
  rfl
theorem mk_18 (w : W) (m : Mem) : d__law_other_ones [.int 18, w] m = .ok (.ref (m.length + 2)) (two 18 w m) := by
  rw [← two_r]
  unfold d__law_other_ones b__law_other_ones
  simp only [List.length_cons, List.length_nil, Nat.reduceAdd, Nat.reduceEqDiff, if_true, List.map_cons, List.map_nil, Nat.reduceSub, List.replicate, List.cons_append, List.nil_append, R.bind_ok, R.bind_exc, R.bind_bad, R.nox_ok, RS.of_ok, RS.of_exc, List.getElem?_cons_zero, List.getElem?_cons_succ, List.set_cons_zero, List.set_cons_succ, Bool.not_true, Bool.not_false, Bool.false_eq_true, if_false, isNon, gSet, Int.reduceLT, Int.reduceLE, Int.reduceNeg, and_self, Nat.reduceLeDiff, Nat.reduceMul, decide_true, decide_false, Int.reduceEq, eq_self, reduceCtorEq, seq_nx, seq_rt, seq_bad, of_rt, of_nx, trd_rt, trd_nx, r_defn, r_seq, r_try, r_nil, r_expr, r_ret, r_if, r_set, r_asg, r_put, r_attr, r_var, r_c, r_bin, r_un, r_fn, r_fnL, r_call, r_make, made_ok, made_exc, r_eattr, r_ixL, r_new, r_tup, r_disp, r_few, r_eif, r_eand, r_eor, r_enot, r_acons, r_anil, r_astar, r_astarL, r_val, r_tru, r_not, r_and, r_or, r_chain, r_inL, r_m1, r_joinL, r_sl, r_pno, r_pat, v_add, v_sub, v_mod, v_div, v_neg, v_lt, v_le, v_gt, v_ge, v_isN, v_notN, v_intI, v_intB, v_abs, v_strS, v_len, v_ixT, v_ixF, v_eqI, v_neI, v_eqS, v_neS, r_lcomp, r_pval, r_pseq, r_plist, r_planT, r_planS, r_tryO, r_tryA, seq_exc, of_exc, tryO_rt, tryO_nx, tryA_rt, tryA_nx, r_raise, r_raise1, r_xattr, r_slS, r_join, r_dget, r_dict0, r_dput, r_mkx, r_app, r_mkxT, v_mkxT]
  rfl
theorem mk_19 (w : W) (m : Mem) : d__law_other_ones [.int 19, w] m = .ok (.ref (m.length + 2)) (two 19 w m) := by
  rw [← two_r]
  unfold d__law_other_ones b__law_other_ones
  simp only [List.length_cons, List.length_nil, Nat.reduceAdd, Nat.reduceEqDiff, if_true, List.map_cons, List.map_nil, Nat.reduceSub, List.replicate, List.cons_append, List.nil_append, R.bind_ok, R.bind_exc, R.bind_bad, R.nox_ok, RS.of_ok, RS.of_exc, List.getElem?_cons_zero, List.getElem?_cons_succ, List.set_cons_zero, List.set_cons_succ, Bool.not_true, Bool.not_false, Bool.false_eq_true, if_false, isNon, gSet, Int.reduceLT, Int.reduceLE, Int.reduceNeg, and_self, Nat.reduceLeDiff, Nat.reduceMul, decide_true, decide_false, Int.reduceEq, eq_self, reduceCtorEq, seq_nx, seq_rt, seq_bad, of_rt, of_nx, trd_rt, trd_nx, r_defn, r_seq, r_try, r_nil, r_expr, r_ret, r_if, r_set, r_asg, r_put, r_attr, r_var, r_c, r_bin, r_un, r_fn, r_fnL, r_call, r_make, made_ok, made_exc, r_eattr, r_ixL, r_new, r_tup, r_disp, r_few, r_eif, r_eand, r_eor, r_enot, r_acons, r_anil, r_astar, r_astarL, r_val, r_tru, r_not, r_and, r_or, r_chain, r_inL, r_m1, r_joinL, r_sl, r_pno, r_pat, v_add, v_sub, v_mod, v_div, v_neg, v_lt, v_le, v_gt, v_ge, v_isN, v_notN, v_intI, v_intB, v_abs, v_strS, v_len, v_ixT, v_ixF, v_eqI, v_neI, v_eqS, v_neS, r_lcomp, r_pval, r_pseq, r_plist, r_planT, r_planS, r_tryO, r_tryA, seq_exc, of_exc, tryO_rt, tryO_nx, tryA_rt, tryA_nx, r_raise, r_raise1, r_xattr, r_slS, r_join, r_dget, r_dict0, r_dput, r_mkx, r_app, r_mkxT, v_mkxT]
  rfl
theorem mk_20 (w : W) (m : Mem) : d__law_other_ones [.int 20, w] m = .ok (.ref (m.length + 2)) (two 20 w m) := by
  rw [← two_r]
  unfold d__law_other_ones b__law_other_ones
  simp only [List.length_cons, List.length_nil, Nat.reduceAdd, Nat.reduceEqDiff, if_true, List.map_cons, List.map_nil, Nat.reduceSub, List.replicate, List.cons_append, List.nil_append, R.bind_ok, R.bind_exc, R.bind_bad, R.nox_ok, RS.of_ok, RS.of_exc, List.getElem?_cons_zero, List.getElem?_cons_succ, List.set_cons_zero, List.set_cons_succ, Bool.not_true, Bool.not_false, Bool.false_eq_true, if_false, isNon, gSet, Int.reduceLT, Int.reduceLE, Int.reduceNeg, and_self, Nat.reduceLeDiff, Nat.reduceMul, decide_true, decide_false, Int.reduceEq, eq_self, reduceCtorEq, seq_nx, seq_rt, seq_bad, of_rt, of_nx, trd_rt, trd_nx, r_defn, r_seq, r_try, r_nil, r_expr, r_ret, r_if, r_set, r_asg, r_put, r_attr, r_var, r_c, r_bin, r_un, r_fn, r_fnL, r_call, r_make, made_ok, made_exc, r_eattr, r_ixL, r_new, r_tup, r_disp, r_few, r_eif, r_eand, r_eor, r_enot, r_acons, r_anil, r_astar, r_astarL, r_val, r_tru, r_not, r_and, r_or, r_chain, r_inL, r_m1, r_joinL, r_sl, r_pno, r_pat, v_add, v_sub, v_mod, v_div, v_neg, v_lt, v_le, v_gt, v_ge, v_isN, v_notN, v_intI, v_intB, v_abs, v_strS, v_len, v_ixT, v_ixF, v_eqI, v_neI, v_eqS, v_neS, r_lcomp, r_pval, r_pseq, r_plist, r_planT, r_planS, r_tryO, r_tryA, seq_exc, of_exc, tryO_rt, tryO_nx, tryA_rt, tryA_nx, r_raise, r_raise1, r_xattr, r_slS, r_join, r_dget, r_dict0, r_dput, r_mkx, r_app, r_mkxT, v_mkxT]
  rfl
theorem mk_21 (w : W) (m : Mem) : d__law_other_ones [.int 21, w] m = .ok (.ref (m.length + 2)) (two 21 w m) := by
  rw [← two_r]
  unfold d__law_other_ones b__law_other_ones
  simp only [List.length_cons, List.length_nil, Nat.reduceAdd, Nat.reduceEqDiff, if_true, List.map_cons, List.map_nil, Nat.reduceSub, List.replicate, List.cons_append, List.nil_append, R.bind_ok, R.bind_exc, R.bind_bad, R.nox_ok, RS.of_ok, RS.of_exc, List.getElem?_cons_zero, List.getElem?_cons_succ, List.set_cons_zero, List.set_cons_succ, Bool.not_true, Bool.not_false, Bool.false_eq_true, if_false, isNon, gSet, Int.reduceLT, Int.reduceLE, Int.reduceNeg, and_self, Nat.reduceLeDiff, Nat.reduceMul, decide_true, decide_false, Int.reduceEq, eq_self, reduceCtorEq, seq_nx, seq_rt, seq_bad, of_rt, of_nx, trd_rt, trd_nx, r_defn, r_seq, r_try, r_nil, r_expr, r_ret, r_if, r_set, r_asg, r_put, r_attr, r_var, r_c, r_bin, r_un, r_fn, r_fnL, r_call, r_make, made_ok, made_exc, r_eattr, r_ixL, r_new, r_tup, r_disp, r_few, r_eif, r_eand, r_eor, r_enot, r_acons, r_anil, r_astar, r_astarL, r_val, r_tru, r_not, r_and, r_or, r_chain, r_inL, r_m1, r_joinL, r_sl, r_pno, r_pat, v_add, v_sub, v_mod, v_div, v_neg, v_lt, v_le, v_gt, v_ge, v_isN, v_notN, v_intI, v_intB, v_abs, v_strS, v_len, v_ixT, v_ixF, v_eqI, v_neI, v_eqS, v_neS, r_lcomp, r_pval, r_pseq, r_plist, r_planT, r_planS, r_tryO, r_tryA, seq_exc, of_exc, tryO_rt, tryO_nx, tryA_rt, tryA_nx, r_raise, r_raise1, r_xattr, r_slS, r_join, r_dget, r_dict0, r_dput, r_mkx, r_app, r_mkxT, v_mkxT]
  rfl
theorem mk_22 (w : W) (m : Mem) : d__law_other_ones [.int 22, w] m = .ok (.ref (m.length + 2)) (two 22 w m) := by
  rw [← two_r]
  unfold d__law_other_ones b__law_other_ones
  simp only [List.length_cons, List.length_nil, Nat.reduceAdd, Nat.reduceEqDiff, if_true, List.map_cons, List.map_nil, Nat.reduceSub, List.replicate, List.cons_append, List.nil_append, R.bind_ok, R.bind_exc, R.bind_bad, R.nox_ok, RS.of_ok, RS.of_exc, List.getElem?_cons_zero, List.getElem?_cons_succ, List.set_cons_zero, List.set_cons_succ, Bool.not_true, Bool.not_false, Bool.false_eq_true, if_false, isNon, gSet, Int.reduceLT, Int.reduceLE, Int.reduceNeg, and_self, Nat.reduceLeDiff, Nat.reduceMul, decide_true, decide_false, Int.reduceEq, eq_self, reduceCtorEq, seq_nx, seq_rt, seq_bad, of_rt, of_nx, trd_rt, trd_nx, r_defn, r_seq, r_try, r_nil, r_expr, r_ret, r_if, r_set, r_asg, r_put, r_attr, r_var, r_c, r_bin, r_un, r_fn, r_fnL, r_call, r_make, made_ok, made_exc, r_eattr, r_ixL, r_new, r_tup, r_disp, r_few, r_eif, r_eand, r_eor, r_enot, r_acons, r_anil, r_astar, r_astarL, r_val, r_tru, r_not, r_and, r_or, r_chain, r_inL, r_m1, r_joinL, r_sl, r_pno, r_pat, v_add, v_sub, v_mod, v_div, v_neg, v_lt, v_le, v_gt, v_ge, v_isN, v_notN, v_intI, v_intB, v_abs, v_strS, v_len, v_ixT, v_ixF, v_eqI, v_neI, v_eqS, v_neS, r_lcomp, r_pval, r_pseq, r_plist, r_planT, r_planS, r_tryO, r_tryA, seq_exc, of_exc, tryO_rt, tryO_nx, tryA_rt, tryA_nx, r_raise, r_raise1, r_xattr, r_slS, r_join, r_dget, r_dict0, r_dput, r_mkx, r_app, r_mkxT, v_mkxT]
  rfl
theorem mk_23 (w : W) (m : Mem) : d__law_other_ones [.int 23, w] m = .ok (.ref (m.length + 2)) (two 23 w m) := by
  rw [← two_r]
  unfold d__law_other_ones b__law_other_ones
  simp only [List.length_cons, List.length_nil, Nat.reduceAdd, Nat.reduceEqDiff, if_true, List.map_cons, List.map_nil, Nat.reduceSub, List.replicate, List.cons_append, List.nil_append, R.bind_ok, R.bind_exc, R.bind_bad, R.nox_ok, RS.of_ok, RS.of_exc, List.getElem?_cons_zero, List.getElem?_cons_succ, List.set_cons_zero, List.set_cons_succ, Bool.not_true, Bool.not_false, Bool.false_eq_true, if_false, isNon, gSet, Int.reduceLT, Int.reduceLE, Int.reduceNeg, and_self, Nat.reduceLeDiff, Nat.reduceMul, decide_true, decide_false, Int.reduceEq, eq_self, reduceCtorEq, seq_nx, seq_rt, seq_bad, of_rt, of_nx, trd_rt, trd_nx, r_defn, r_seq, r_try, r_nil, r_expr, r_ret, r_if, r_set, r_asg, r_put, r_attr, r_var, r_c, r_bin, r_un, r_fn, r_fnL, r_call, r_make, made_ok, made_exc, r_eattr, r_ixL, r_new, r_tup, r_disp, r_few, r_eif, r_eand, r_eor, r_enot, r_acons, r_anil, r_astar, r_astarL, r_val, r_tru, r_not, r_and, r_or, r_chain, r_inL, r_m1, r_joinL, r_sl, r_pno, r_pat, v_add, v_sub, v_mod, v_div, v_neg, v_lt, v_le, v_gt, v_ge, v_isN, v_notN, v_intI, v_intB, v_abs, v_strS, v_len, v_ixT, v_ixF, v_eqI, v_neI, v_eqS, v_neS, r_lcomp, r_pval, r_pseq, r_plist, r_planT, r_planS, r_tryO, r_tryA, seq_exc, of_exc, tryO_rt, tryO_nx, tryA_rt, tryA_nx, r_raise, r_raise1, r_xattr, r_slS, r_join, r_dget, r_dict0, r_dput, r_mkx, r_app, r_mkxT, v_mkxT]
  rfl
theorem first_ok (i : Nat) (hi : i < 12) (w : W) (m : Mem) : d__law_first_ones [.int (i : Int), w] m = .ok (.ref (m.length + 2)) (two i w m) := by
  have hc : i = 0 ∨ i = 1 ∨ i = 2 ∨ i = 3 ∨ i = 4 ∨ i = 5 ∨ i = 6 ∨ i = 7 ∨ i = 8 ∨ i = 9 ∨ i = 10 ∨ i = 11 := by omega
  rcases hc with rfl | rfl | rfl | rfl | rfl | rfl | rfl | rfl | rfl | rfl | rfl | rfl
  · exact mk_0 w m
  · exact mk_1 w m
  · exact mk_2 w m
  · exact mk_3 w m
  · exact mk_4 w m
  · exact mk_5 w m
  · exact mk_6 w m
  · exact mk_7 w m
  · exact mk_8 w m
  · exact mk_9 w m
  · exact mk_10 w m
  · exact mk_11 w m
theorem other_ok (i : Nat) (h0 : 12 ≤ i) (hi : i < 24) (w : W) (m : Mem) : d__law_other_ones [.int (i : Int), w] m = .ok (.ref (m.length + 2)) (two i w m) := by
  have hc : i = 12 ∨ i = 13 ∨ i = 14 ∨ i = 15 ∨ i = 16 ∨ i = 17 ∨ i = 18 ∨ i = 19 ∨ i = 20 ∨ i = 21 ∨ i = 22 ∨ i = 23 := by omega
  rcases hc with rfl | rfl | rfl | rfl | rfl | rfl | rfl | rfl | rfl | rfl | rfl | rfl
  · exact mk_12 w m
  · exact mk_13 w m
  · exact mk_14 w m
  · exact mk_15 w m
  · exact mk_16 w m
  · exact mk_17 w m
  · exact mk_18 w m
  · exact mk_19 w m
  · exact mk_20 w m
  · exact mk_21 w m
  · exact mk_22 w m
  · exact mk_23 w m
theorem xat {f : List Nat} {ok : String → Bool} {a : Nat} {m : Mem} {c : String} {fs : List (List Nat × W)} {msg : List Nat} {w : W} (h : m[a]? = some (.exh c fs msg)) (hk : ok c = true) (hl : fs.lookup f = some w) : xattr f ok (.ref a) m = .ok w m := by
  unfold xattr
  simp only [h, hk, hl, if_true]
theorem val_0 {a : Nat} {w : W} {m : Mem} (h : m[a]? = some (X 0 w)) : d__law_value_of [.int 0, .ref a] m = .ok w m := by
  have h : m[a]? = some (.exh "NoName" [([118, 97, 108, 117, 101], w)] [110, 111, 116, 32, 97, 32, 110, 97, 109, 101]) := h
  have q : xattr [118, 97, 108, 117, 101] okx_value (.ref a) m = .ok w m := xat h rfl rfl
  unfold d__law_value_of b__law_value_of
  simp only [List.length_cons, List.length_nil, Nat.reduceAdd, Nat.reduceEqDiff, if_true, List.map_cons, List.map_nil, Nat.reduceSub, List.replicate, List.cons_append, List.nil_append, R.bind_ok, R.bind_exc, R.bind_bad, R.nox_ok, RS.of_ok, RS.of_exc, List.getElem?_cons_zero, List.getElem?_cons_succ, List.set_cons_zero, List.set_cons_succ, Bool.not_true, Bool.not_false, Bool.false_eq_true, if_false, isNon, gSet, Int.reduceLT, Int.reduceLE, Int.reduceNeg, and_self, Nat.reduceLeDiff, Nat.reduceMul, decide_true, decide_false, Int.reduceEq, eq_self, reduceCtorEq, seq_nx, seq_rt, seq_bad, of_rt, of_nx, trd_rt, trd_nx, r_defn, r_seq, r_try, r_nil, r_expr, r_ret, r_if, r_set, r_asg, r_put, r_attr, r_var, r_c, r_bin, r_un, r_fn, r_fnL, r_call, r_make, made_ok, made_exc, r_eattr, r_ixL, r_new, r_tup, r_disp, r_few, r_eif, r_eand, r_eor, r_enot, r_acons, r_anil, r_astar, r_astarL, r_val, r_tru, r_not, r_and, r_or, r_chain, r_inL, r_m1, r_joinL, r_sl, r_pno, r_pat, v_add, v_sub, v_mod, v_div, v_neg, v_lt, v_le, v_gt, v_ge, v_isN, v_notN, v_intI, v_intB, v_abs, v_strS, v_len, v_ixT, v_ixF, v_eqI, v_neI, v_eqS, v_neS, r_lcomp, r_pval, r_pseq, r_plist, r_planT, r_planS, r_tryO, r_tryA, seq_exc, of_exc, tryO_rt, tryO_nx, tryA_rt, tryA_nx, r_raise, r_raise1, r_xattr, r_slS, r_join, r_dget, r_dict0, r_dput, r_mkx, r_app, q]
theorem val_1 {a : Nat} {w : W} {m : Mem} (h : m[a]? = some (X 1 w)) : d__law_value_of [.int 1, .ref a] m = .ok w m := by
  have h : m[a]? = some (.exh "NoValue" [([118, 97, 108, 117, 101], w)] [110, 111, 116, 32, 97, 32, 118, 97, 108, 117, 101]) := h
  have q : xattr [118, 97, 108, 117, 101] okx_value (.ref a) m = .ok w m := xat h rfl rfl
  unfold d__law_value_of b__law_value_of
  simp only [List.length_cons, List.length_nil, Nat.reduceAdd, Nat.reduceEqDiff, if_true, List.map_cons, List.map_nil, Nat.reduceSub, List.replicate, List.cons_append, List.nil_append, R.bind_ok, R.bind_exc, R.bind_bad, R.nox_ok, RS.of_ok, RS.of_exc, List.getElem?_cons_zero, List.getElem?_cons_succ, List.set_cons_zero, List.set_cons_succ, Bool.not_true, Bool.not_false, Bool.false_eq_true, if_false, isNon, gSet, Int.reduceLT, Int.reduceLE, Int.reduceNeg, and_self, Nat.reduceLeDiff, Nat.reduceMul, decide_true, decide_false, Int.reduceEq, eq_self, reduceCtorEq, seq_nx, seq_rt, seq_bad, of_rt, of_nx, trd_rt, trd_nx, r_defn, r_seq, r_try, r_nil, r_expr, r_ret, r_if, r_set, r_asg, r_put, r_attr, r_var, r_c, r_bin, r_un, r_fn, r_fnL, r_call, r_make, made_ok, made_exc, r_eattr, r_ixL, r_new, r_tup, r_disp, r_few, r_eif, r_eand, r_eor, r_enot, r_acons, r_anil, r_astar, r_astarL, r_val, r_tru, r_not, r_and, r_or, r_chain, r_inL, r_m1, r_joinL, r_sl, r_pno, r_pat, v_add, v_sub, v_mod, v_div, v_neg, v_lt, v_le, v_gt, v_ge, v_isN, v_notN, v_intI, v_intB, v_abs, v_strS, v_len, v_ixT, v_ixF, v_eqI, v_neI, v_eqS, v_neS, r_lcomp, r_pval, r_pseq, r_plist, r_planT, r_planS, r_tryO, r_tryA, seq_exc, of_exc, tryO_rt, tryO_nx, tryA_rt, tryA_nx, r_raise, r_raise1, r_xattr, r_slS, r_join, r_dget, r_dict0, r_dput, r_mkx, r_app, q]
theorem val_2 {a : Nat} {w : W} {m : Mem} (h : m[a]? = some (X 2 w)) : d__law_value_of [.int 2, .ref a] m = .ok w m := by
  have h : m[a]? = some (.exh "NoOperator" [([118, 97, 108, 117, 101], w)] [110, 111, 116, 32, 97, 110, 32, 111, 112, 101, 114, 97, 116, 111, 114]) := h
  have q : xattr [118, 97, 108, 117, 101] okx_value (.ref a) m = .ok w m := xat h rfl rfl
  unfold d__law_value_of b__law_value_of
  simp only [List.length_cons, List.length_nil, Nat.reduceAdd, Nat.reduceEqDiff, if_true, List.map_cons, List.map_nil, Nat.reduceSub, List.replicate, List.cons_append, List.nil_append, R.bind_ok, R.bind_exc, R.bind_bad, R.nox_ok, RS.of_ok, RS.of_exc, List.getElem?_cons_zero, List.getElem?_cons_succ, List.set_cons_zero, List.set_cons_succ, Bool.not_true, Bool.not_false, Bool.false_eq_true, if_false, isNon, gSet, Int.reduceLT, Int.reduceLE, Int.reduceNeg, and_self, Nat.reduceLeDiff, Nat.reduceMul, decide_true, decide_false, Int.reduceEq, eq_self, reduceCtorEq, seq_nx, seq_rt, seq_bad, of_rt, of_nx, trd_rt, trd_nx, r_defn, r_seq, r_try, r_nil, r_expr, r_ret, r_if, r_set, r_asg, r_put, r_attr, r_var, r_c, r_bin, r_un, r_fn, r_fnL, r_call, r_make, made_ok, made_exc, r_eattr, r_ixL, r_new, r_tup, r_disp, r_few, r_eif, r_eand, r_eor, r_enot, r_acons, r_anil, r_astar, r_astarL, r_val, r_tru, r_not, r_and, r_or, r_chain, r_inL, r_m1, r_joinL, r_sl, r_pno, r_pat, v_add, v_sub, v_mod, v_div, v_neg, v_lt, v_le, v_gt, v_ge, v_isN, v_notN, v_intI, v_intB, v_abs, v_strS, v_len, v_ixT, v_ixF, v_eqI, v_neI, v_eqS, v_neS, r_lcomp, r_pval, r_pseq, r_plist, r_planT, r_planS, r_tryO, r_tryA, seq_exc, of_exc, tryO_rt, tryO_nx, tryA_rt, tryA_nx, r_raise, r_raise1, r_xattr, r_slS, r_join, r_dget, r_dict0, r_dput, r_mkx, r_app, q]
theorem val_3 {a : Nat} {w : W} {m : Mem} (h : m[a]? = some (X 3 w)) : d__law_value_of [.int 3, .ref a] m = .ok w m := by
  have h : m[a]? = some (.exh "NoStatement" [([118, 97, 108, 117, 101], w)] [110, 111, 116, 32, 97, 32, 115, 116, 97, 116, 101, 109, 101, 110, 116]) := h
  have q : xattr [118, 97, 108, 117, 101] okx_value (.ref a) m = .ok w m := xat h rfl rfl
  unfold d__law_value_of b__law_value_of
  simp only [List.length_cons, List.length_nil, Nat.reduceAdd, Nat.reduceEqDiff, if_true, List.map_cons, List.map_nil, Nat.reduceSub, List.replicate, List.cons_append, List.nil_append, R.bind_ok, R.bind_exc, R.bind_bad, R.nox_ok, RS.of_ok, RS.of_exc, List.getElem?_cons_zero, List.getElem?_cons_succ, List.set_cons_zero, List.set_cons_succ, Bool.not_true, Bool.not_false, Bool.false_eq_true, if_false, isNon, gSet, Int.reduceLT, Int.reduceLE, Int.reduceNeg, and_self, Nat.reduceLeDiff, Nat.reduceMul, decide_true, decide_false, Int.reduceEq, eq_self, reduceCtorEq, seq_nx, seq_rt, seq_bad, of_rt, of_nx, trd_rt, trd_nx, r_defn, r_seq, r_try, r_nil, r_expr, r_ret, r_if, r_set, r_asg, r_put, r_attr, r_var, r_c, r_bin, r_un, r_fn, r_fnL, r_call, r_make, made_ok, made_exc, r_eattr, r_ixL, r_new, r_tup, r_disp, r_few, r_eif, r_eand, r_eor, r_enot, r_acons, r_anil, r_astar, r_astarL, r_val, r_tru, r_not, r_and, r_or, r_chain, r_inL, r_m1, r_joinL, r_sl, r_pno, r_pat, v_add, v_sub, v_mod, v_div, v_neg, v_lt, v_le, v_gt, v_ge, v_isN, v_notN, v_intI, v_intB, v_abs, v_strS, v_len, v_ixT, v_ixF, v_eqI, v_neI, v_eqS, v_neS, r_lcomp, r_pval, r_pseq, r_plist, r_planT, r_planS, r_tryO, r_tryA, seq_exc, of_exc, tryO_rt, tryO_nx, tryA_rt, tryA_nx, r_raise, r_raise1, r_xattr, r_slS, r_join, r_dget, r_dict0, r_dput, r_mkx, r_app, q]
theorem val_4 {a : Nat} {w : W} {m : Mem} (h : m[a]? = some (X 4 w)) : d__law_value_of [.int 4, .ref a] m = .ok w m := by
  have h : m[a]? = some (.exh "NoText" [([118, 97, 108, 117, 101], w)] [110, 111, 116, 104, 105, 110, 103, 32, 104, 97, 115, 32, 116, 104, 105, 115, 32, 116, 101, 120, 116]) := h
  have q : xattr [118, 97, 108, 117, 101] okx_value (.ref a) m = .ok w m := xat h rfl rfl
  unfold d__law_value_of b__law_value_of
  simp only [List.length_cons, List.length_nil, Nat.reduceAdd, Nat.reduceEqDiff, if_true, List.map_cons, List.map_nil, Nat.reduceSub, List.replicate, List.cons_append, List.nil_append, R.bind_ok, R.bind_exc, R.bind_bad, R.nox_ok, RS.of_ok, RS.of_exc, List.getElem?_cons_zero, List.getElem?_cons_succ, List.set_cons_zero, List.set_cons_succ, Bool.not_true, Bool.not_false, Bool.false_eq_true, if_false, isNon, gSet, Int.reduceLT, Int.reduceLE, Int.reduceNeg, and_self, Nat.reduceLeDiff, Nat.reduceMul, decide_true, decide_false, Int.reduceEq, eq_self, reduceCtorEq, seq_nx, seq_rt, seq_bad, of_rt, of_nx, trd_rt, trd_nx, r_defn, r_seq, r_try, r_nil, r_expr, r_ret, r_if, r_set, r_asg, r_put, r_attr, r_var, r_c, r_bin, r_un, r_fn, r_fnL, r_call, r_make, made_ok, made_exc, r_eattr, r_ixL, r_new, r_tup, r_disp, r_few, r_eif, r_eand, r_eor, r_enot, r_acons, r_anil, r_astar, r_astarL, r_val, r_tru, r_not, r_and, r_or, r_chain, r_inL, r_m1, r_joinL, r_sl, r_pno, r_pat, v_add, v_sub, v_mod, v_div, v_neg, v_lt, v_le, v_gt, v_ge, v_isN, v_notN, v_intI, v_intB, v_abs, v_strS, v_len, v_ixT, v_ixF, v_eqI, v_neI, v_eqS, v_neS, r_lcomp, r_pval, r_pseq, r_plist, r_planT, r_planS, r_tryO, r_tryA, seq_exc, of_exc, tryO_rt, tryO_nx, tryA_rt, tryA_nx, r_raise, r_raise1, r_xattr, r_slS, r_join, r_dget, r_dict0, r_dput, r_mkx, r_app, q]
theorem val_5 {a : Nat} {w : W} {m : Mem} (h : m[a]? = some (X 5 w)) : d__law_value_of [.int 5, .ref a] m = .ok w m := by
  have h : m[a]? = some (.exh "NoNumber" [([118, 97, 108, 117, 101], w)] [110, 111, 116, 32, 115, 117, 99, 104, 32, 97, 32, 110, 117, 109, 98, 101, 114]) := h
  have q : xattr [118, 97, 108, 117, 101] okx_value (.ref a) m = .ok w m := xat h rfl rfl
  unfold d__law_value_of b__law_value_of
  simp only [List.length_cons, List.length_nil, Nat.reduceAdd, Nat.reduceEqDiff, if_true, List.map_cons, List.map_nil, Nat.reduceSub, List.replicate, List.cons_append, List.nil_append, R.bind_ok, R.bind_exc, R.bind_bad, R.nox_ok, RS.of_ok, RS.of_exc, List.getElem?_cons_zero, List.getElem?_cons_succ, List.set_cons_zero, List.set_cons_succ, Bool.not_true, Bool.not_false, Bool.false_eq_true, if_false, isNon, gSet, Int.reduceLT, Int.reduceLE, Int.reduceNeg, and_self, Nat.reduceLeDiff, Nat.reduceMul, decide_true, decide_false, Int.reduceEq, eq_self, reduceCtorEq, seq_nx, seq_rt, seq_bad, of_rt, of_nx, trd_rt, trd_nx, r_defn, r_seq, r_try, r_nil, r_expr, r_ret, r_if, r_set, r_asg, r_put, r_attr, r_var, r_c, r_bin, r_un, r_fn, r_fnL, r_call, r_make, made_ok, made_exc, r_eattr, r_ixL, r_new, r_tup, r_disp, r_few, r_eif, r_eand, r_eor, r_enot, r_acons, r_anil, r_astar, r_astarL, r_val, r_tru, r_not, r_and, r_or, r_chain, r_inL, r_m1, r_joinL, r_sl, r_pno, r_pat, v_add, v_sub, v_mod, v_div, v_neg, v_lt, v_le, v_gt, v_ge, v_isN, v_notN, v_intI, v_intB, v_abs, v_strS, v_len, v_ixT, v_ixF, v_eqI, v_neI, v_eqS, v_neS, r_lcomp, r_pval, r_pseq, r_plist, r_planT, r_planS, r_tryO, r_tryA, seq_exc, of_exc, tryO_rt, tryO_nx, tryA_rt, tryA_nx, r_raise, r_raise1, r_xattr, r_slS, r_join, r_dget, r_dict0, r_dput, r_mkx, r_app, q]
theorem val_6 {a : Nat} {w : W} {m : Mem} (h : m[a]? = some (X 6 w)) : d__law_value_of [.int 6, .ref a] m = .ok w m := by
  have h : m[a]? = some (.exh "NoInputs" [([118, 97, 108, 117, 101], w)] [110, 111, 116, 32, 105, 110, 112, 117, 116, 115]) := h
  have q : xattr [118, 97, 108, 117, 101] okx_value (.ref a) m = .ok w m := xat h rfl rfl
  unfold d__law_value_of b__law_value_of
  simp only [List.length_cons, List.length_nil, Nat.reduceAdd, Nat.reduceEqDiff, if_true, List.map_cons, List.map_nil, Nat.reduceSub, List.replicate, List.cons_append, List.nil_append, R.bind_ok, R.bind_exc, R.bind_bad, R.nox_ok, RS.of_ok, RS.of_exc, List.getElem?_cons_zero, List.getElem?_cons_succ, List.set_cons_zero, List.set_cons_succ, Bool.not_true, Bool.not_false, Bool.false_eq_true, if_false, isNon, gSet, Int.reduceLT, Int.reduceLE, Int.reduceNeg, and_self, Nat.reduceLeDiff, Nat.reduceMul, decide_true, decide_false, Int.reduceEq, eq_self, reduceCtorEq, seq_nx, seq_rt, seq_bad, of_rt, of_nx, trd_rt, trd_nx, r_defn, r_seq, r_try, r_nil, r_expr, r_ret, r_if, r_set, r_asg, r_put, r_attr, r_var, r_c, r_bin, r_un, r_fn, r_fnL, r_call, r_make, made_ok, made_exc, r_eattr, r_ixL, r_new, r_tup, r_disp, r_few, r_eif, r_eand, r_eor, r_enot, r_acons, r_anil, r_astar, r_astarL, r_val, r_tru, r_not, r_and, r_or, r_chain, r_inL, r_m1, r_joinL, r_sl, r_pno, r_pat, v_add, v_sub, v_mod, v_div, v_neg, v_lt, v_le, v_gt, v_ge, v_isN, v_notN, v_intI, v_intB, v_abs, v_strS, v_len, v_ixT, v_ixF, v_eqI, v_neI, v_eqS, v_neS, r_lcomp, r_pval, r_pseq, r_plist, r_planT, r_planS, r_tryO, r_tryA, seq_exc, of_exc, tryO_rt, tryO_nx, tryA_rt, tryA_nx, r_raise, r_raise1, r_xattr, r_slS, r_join, r_dget, r_dict0, r_dput, r_mkx, r_app, q]
theorem val_7 {a : Nat} {w : W} {m : Mem} (h : m[a]? = some (X 7 w)) : d__law_value_of [.int 7, .ref a] m = .ok w m := by
  have h : m[a]? = some (.exh "NoExpression" [([118, 97, 108, 117, 101], w)] [110, 111, 116, 32, 97, 110, 32, 101, 120, 112, 114, 101, 115, 115, 105, 111, 110]) := h
  have q : xattr [118, 97, 108, 117, 101] okx_value (.ref a) m = .ok w m := xat h rfl rfl
  unfold d__law_value_of b__law_value_of
  simp only [List.length_cons, List.length_nil, Nat.reduceAdd, Nat.reduceEqDiff, if_true, List.map_cons, List.map_nil, Nat.reduceSub, List.replicate, List.cons_append, List.nil_append, R.bind_ok, R.bind_exc, R.bind_bad, R.nox_ok, RS.of_ok, RS.of_exc, List.getElem?_cons_zero, List.getElem?_cons_succ, List.set_cons_zero, List.set_cons_succ, Bool.not_true, Bool.not_false, Bool.false_eq_true, if_false, isNon, gSet, Int.reduceLT, Int.reduceLE, Int.reduceNeg, and_self, Nat.reduceLeDiff, Nat.reduceMul, decide_true, decide_false, Int.reduceEq, eq_self, reduceCtorEq, seq_nx, seq_rt, seq_bad, of_rt, of_nx, trd_rt, trd_nx, r_defn, r_seq, r_try, r_nil, r_expr, r_ret, r_if, r_set, r_asg, r_put, r_attr, r_var, r_c, r_bin, r_un, r_fn, r_fnL, r_call, r_make, made_ok, made_exc, r_eattr, r_ixL, r_new, r_tup, r_disp, r_few, r_eif, r_eand, r_eor, r_enot, r_acons, r_anil, r_astar, r_astarL, r_val, r_tru, r_not, r_and, r_or, r_chain, r_inL, r_m1, r_joinL, r_sl, r_pno, r_pat, v_add, v_sub, v_mod, v_div, v_neg, v_lt, v_le, v_gt, v_ge, v_isN, v_notN, v_intI, v_intB, v_abs, v_strS, v_len, v_ixT, v_ixF, v_eqI, v_neI, v_eqS, v_neS, r_lcomp, r_pval, r_pseq, r_plist, r_planT, r_planS, r_tryO, r_tryA, seq_exc, of_exc, tryO_rt, tryO_nx, tryA_rt, tryA_nx, r_raise, r_raise1, r_xattr, r_slS, r_join, r_dget, r_dict0, r_dput, r_mkx, r_app, q]
theorem val_8 {a : Nat} {w : W} {m : Mem} (h : m[a]? = some (X 8 w)) : d__law_value_of [.int 8, .ref a] m = .ok w m := by
  have h : m[a]? = some (.exh "NoPoint" [([118, 97, 108, 117, 101], w)] [110, 111, 116, 32, 97, 32, 112, 111, 105, 110, 116]) := h
  have q : xattr [118, 97, 108, 117, 101] okx_value (.ref a) m = .ok w m := xat h rfl rfl
  unfold d__law_value_of b__law_value_of
  simp only [List.length_cons, List.length_nil, Nat.reduceAdd, Nat.reduceEqDiff, if_true, List.map_cons, List.map_nil, Nat.reduceSub, List.replicate, List.cons_append, List.nil_append, R.bind_ok, R.bind_exc, R.bind_bad, R.nox_ok, RS.of_ok, RS.of_exc, List.getElem?_cons_zero, List.getElem?_cons_succ, List.set_cons_zero, List.set_cons_succ, Bool.not_true, Bool.not_false, Bool.false_eq_true, if_false, isNon, gSet, Int.reduceLT, Int.reduceLE, Int.reduceNeg, and_self, Nat.reduceLeDiff, Nat.reduceMul, decide_true, decide_false, Int.reduceEq, eq_self, reduceCtorEq, seq_nx, seq_rt, seq_bad, of_rt, of_nx, trd_rt, trd_nx, r_defn, r_seq, r_try, r_nil, r_expr, r_ret, r_if, r_set, r_asg, r_put, r_attr, r_var, r_c, r_bin, r_un, r_fn, r_fnL, r_call, r_make, made_ok, made_exc, r_eattr, r_ixL, r_new, r_tup, r_disp, r_few, r_eif, r_eand, r_eor, r_enot, r_acons, r_anil, r_astar, r_astarL, r_val, r_tru, r_not, r_and, r_or, r_chain, r_inL, r_m1, r_joinL, r_sl, r_pno, r_pat, v_add, v_sub, v_mod, v_div, v_neg, v_lt, v_le, v_gt, v_ge, v_isN, v_notN, v_intI, v_intB, v_abs, v_strS, v_len, v_ixT, v_ixF, v_eqI, v_neI, v_eqS, v_neS, r_lcomp, r_pval, r_pseq, r_plist, r_planT, r_planS, r_tryO, r_tryA, seq_exc, of_exc, tryO_rt, tryO_nx, tryA_rt, tryA_nx, r_raise, r_raise1, r_xattr, r_slS, r_join, r_dget, r_dict0, r_dput, r_mkx, r_app, q]
theorem val_9 {a : Nat} {w : W} {m : Mem} (h : m[a]? = some (X 9 w)) : d__law_value_of [.int 9, .ref a] m = .ok w m := by
  have h : m[a]? = some (.exh "NoPlacement" [([118, 97, 108, 117, 101], w)] [110, 111, 116, 32, 97, 32, 112, 108, 97, 99, 101, 109, 101, 110, 116, 32, 116, 104, 97, 116, 32, 102, 105, 116, 115]) := h
  have q : xattr [118, 97, 108, 117, 101] okx_value (.ref a) m = .ok w m := xat h rfl rfl
  unfold d__law_value_of b__law_value_of
  simp only [List.length_cons, List.length_nil, Nat.reduceAdd, Nat.reduceEqDiff, if_true, List.map_cons, List.map_nil, Nat.reduceSub, List.replicate, List.cons_append, List.nil_append, R.bind_ok, R.bind_exc, R.bind_bad, R.nox_ok, RS.of_ok, RS.of_exc, List.getElem?_cons_zero, List.getElem?_cons_succ, List.set_cons_zero, List.set_cons_succ, Bool.not_true, Bool.not_false, Bool.false_eq_true, if_false, isNon, gSet, Int.reduceLT, Int.reduceLE, Int.reduceNeg, and_self, Nat.reduceLeDiff, Nat.reduceMul, decide_true, decide_false, Int.reduceEq, eq_self, reduceCtorEq, seq_nx, seq_rt, seq_bad, of_rt, of_nx, trd_rt, trd_nx, r_defn, r_seq, r_try, r_nil, r_expr, r_ret, r_if, r_set, r_asg, r_put, r_attr, r_var, r_c, r_bin, r_un, r_fn, r_fnL, r_call, r_make, made_ok, made_exc, r_eattr, r_ixL, r_new, r_tup, r_disp, r_few, r_eif, r_eand, r_eor, r_enot, r_acons, r_anil, r_astar, r_astarL, r_val, r_tru, r_not, r_and, r_or, r_chain, r_inL, r_m1, r_joinL, r_sl, r_pno, r_pat, v_add, v_sub, v_mod, v_div, v_neg, v_lt, v_le, v_gt, v_ge, v_isN, v_notN, v_intI, v_intB, v_abs, v_strS, v_len, v_ixT, v_ixF, v_eqI, v_neI, v_eqS, v_neS, r_lcomp, r_pval, r_pseq, r_plist, r_planT, r_planS, r_tryO, r_tryA, seq_exc, of_exc, tryO_rt, tryO_nx, tryA_rt, tryA_nx, r_raise, r_raise1, r_xattr, r_slS, r_join, r_dget, r_dict0, r_dput, r_mkx, r_app, q]
theorem val_10 {a : Nat} {w : W} {m : Mem} (h : m[a]? = some (X 10 w)) : d__law_value_of [.int 10, .ref a] m = .ok w m := by
  have h : m[a]? = some (.exh "NoPath" [([118, 97, 108, 117, 101], w)] [110, 111, 116, 32, 97, 32, 112, 97, 116, 104]) := h
  have q : xattr [118, 97, 108, 117, 101] okx_value (.ref a) m = .ok w m := xat h rfl rfl
  unfold d__law_value_of b__law_value_of
  simp only [List.length_cons, List.length_nil, Nat.reduceAdd, Nat.reduceEqDiff, if_true, List.map_cons, List.map_nil, Nat.reduceSub, List.replicate, List.cons_append, List.nil_append, R.bind_ok, R.bind_exc, R.bind_bad, R.nox_ok, RS.of_ok, RS.of_exc, List.getElem?_cons_zero, List.getElem?_cons_succ, List.set_cons_zero, List.set_cons_succ, Bool.not_true, Bool.not_false, Bool.false_eq_true, if_false, isNon, gSet, Int.reduceLT, Int.reduceLE, Int.reduceNeg, and_self, Nat.reduceLeDiff, Nat.reduceMul, decide_true, decide_false, Int.reduceEq, eq_self, reduceCtorEq, seq_nx, seq_rt, seq_bad, of_rt, of_nx, trd_rt, trd_nx, r_defn, r_seq, r_try, r_nil, r_expr, r_ret, r_if, r_set, r_asg, r_put, r_attr, r_var, r_c, r_bin, r_un, r_fn, r_fnL, r_call, r_make, made_ok, made_exc, r_eattr, r_ixL, r_new, r_tup, r_disp, r_few, r_eif, r_eand, r_eor, r_enot, r_acons, r_anil, r_astar, r_astarL, r_val, r_tru, r_not, r_and, r_or, r_chain, r_inL, r_m1, r_joinL, r_sl, r_pno, r_pat, v_add, v_sub, v_mod, v_div, v_neg, v_lt, v_le, v_gt, v_ge, v_isN, v_notN, v_intI, v_intB, v_abs, v_strS, v_len, v_ixT, v_ixF, v_eqI, v_neI, v_eqS, v_neS, r_lcomp, r_pval, r_pseq, r_plist, r_planT, r_planS, r_tryO, r_tryA, seq_exc, of_exc, tryO_rt, tryO_nx, tryA_rt, tryA_nx, r_raise, r_raise1, r_xattr, r_slS, r_join, r_dget, r_dict0, r_dput, r_mkx, r_app, q]
theorem val_11 {a : Nat} {w : W} {m : Mem} (h : m[a]? = some (X 11 w)) : d__law_value_of [.int 11, .ref a] m = .ok w m := by
  have h : m[a]? = some (.exh "NotClosed" [([118, 97, 108, 117, 101], w)] [110, 111, 116, 32, 97, 32, 99, 108, 111, 115, 101, 100, 32, 115, 101, 116]) := h
  have q : xattr [118, 97, 108, 117, 101] okx_value (.ref a) m = .ok w m := xat h rfl rfl
  unfold d__law_value_of b__law_value_of
  simp only [List.length_cons, List.length_nil, Nat.reduceAdd, Nat.reduceEqDiff, if_true, List.map_cons, List.map_nil, Nat.reduceSub, List.replicate, List.cons_append, List.nil_append, R.bind_ok, R.bind_exc, R.bind_bad, R.nox_ok, RS.of_ok, RS.of_exc, List.getElem?_cons_zero, List.getElem?_cons_succ, List.set_cons_zero, List.set_cons_succ, Bool.not_true, Bool.not_false, Bool.false_eq_true, if_false, isNon, gSet, Int.reduceLT, Int.reduceLE, Int.reduceNeg, and_self, Nat.reduceLeDiff, Nat.reduceMul, decide_true, decide_false, Int.reduceEq, eq_self, reduceCtorEq, seq_nx, seq_rt, seq_bad, of_rt, of_nx, trd_rt, trd_nx, r_defn, r_seq, r_try, r_nil, r_expr, r_ret, r_if, r_set, r_asg, r_put, r_attr, r_var, r_c, r_bin, r_un, r_fn, r_fnL, r_call, r_make, made_ok, made_exc, r_eattr, r_ixL, r_new, r_tup, r_disp, r_few, r_eif, r_eand, r_eor, r_enot, r_acons, r_anil, r_astar, r_astarL, r_val, r_tru, r_not, r_and, r_or, r_chain, r_inL, r_m1, r_joinL, r_sl, r_pno, r_pat, v_add, v_sub, v_mod, v_div, v_neg, v_lt, v_le, v_gt, v_ge, v_isN, v_notN, v_intI, v_intB, v_abs, v_strS, v_len, v_ixT, v_ixF, v_eqI, v_neI, v_eqS, v_neS, r_lcomp, r_pval, r_pseq, r_plist, r_planT, r_planS, r_tryO, r_tryA, seq_exc, of_exc, tryO_rt, tryO_nx, tryA_rt, tryA_nx, r_raise, r_raise1, r_xattr, r_slS, r_join, r_dget, r_dict0, r_dput, r_mkx, r_app, q]
theorem val_12 {a : Nat} {w : W} {m : Mem} (h : m[a]? = some (X 12 w)) : d__law_value_of [.int 12, .ref a] m = .ok w m := by
  have h : m[a]? = some (.exh "NoPrice" [([118, 97, 108, 117, 101], w)] [110, 111, 116, 32, 97, 32, 112, 114, 105, 99, 101]) := h
  have q : xattr [118, 97, 108, 117, 101] okx_value (.ref a) m = .ok w m := xat h rfl rfl
  unfold d__law_value_of b__law_value_of
  simp only [List.length_cons, List.length_nil, Nat.reduceAdd, Nat.reduceEqDiff, if_true, List.map_cons, List.map_nil, Nat.reduceSub, List.replicate, List.cons_append, List.nil_append, R.bind_ok, R.bind_exc, R.bind_bad, R.nox_ok, RS.of_ok, RS.of_exc, List.getElem?_cons_zero, List.getElem?_cons_succ, List.set_cons_zero, List.set_cons_succ, Bool.not_true, Bool.not_false, Bool.false_eq_true, if_false, isNon, gSet, Int.reduceLT, Int.reduceLE, Int.reduceNeg, and_self, Nat.reduceLeDiff, Nat.reduceMul, decide_true, decide_false, Int.reduceEq, eq_self, reduceCtorEq, seq_nx, seq_rt, seq_bad, of_rt, of_nx, trd_rt, trd_nx, r_defn, r_seq, r_try, r_nil, r_expr, r_ret, r_if, r_set, r_asg, r_put, r_attr, r_var, r_c, r_bin, r_un, r_fn, r_fnL, r_call, r_make, made_ok, made_exc, r_eattr, r_ixL, r_new, r_tup, r_disp, r_few, r_eif, r_eand, r_eor, r_enot, r_acons, r_anil, r_astar, r_astarL, r_val, r_tru, r_not, r_and, r_or, r_chain, r_inL, r_m1, r_joinL, r_sl, r_pno, r_pat, v_add, v_sub, v_mod, v_div, v_neg, v_lt, v_le, v_gt, v_ge, v_isN, v_notN, v_intI, v_intB, v_abs, v_strS, v_len, v_ixT, v_ixF, v_eqI, v_neI, v_eqS, v_neS, r_lcomp, r_pval, r_pseq, r_plist, r_planT, r_planS, r_tryO, r_tryA, seq_exc, of_exc, tryO_rt, tryO_nx, tryA_rt, tryA_nx, r_raise, r_raise1, r_xattr, r_slS, r_join, r_dget, r_dict0, r_dput, r_mkx, r_app, q]
theorem val_13 {a : Nat} {w : W} {m : Mem} (h : m[a]? = some (X 13 w)) : d__law_value_of [.int 13, .ref a] m = .ok w m := by
  have h : m[a]? = some (.exh "NoCounts" [([118, 97, 108, 117, 101], w)] [110, 111, 116, 32, 99, 111, 117, 110, 116, 115]) := h
  have q : xattr [118, 97, 108, 117, 101] okx_value (.ref a) m = .ok w m := xat h rfl rfl
  unfold d__law_value_of b__law_value_of
  simp only [List.length_cons, List.length_nil, Nat.reduceAdd, Nat.reduceEqDiff, if_true, List.map_cons, List.map_nil, Nat.reduceSub, List.replicate, List.cons_append, List.nil_append, R.bind_ok, R.bind_exc, R.bind_bad, R.nox_ok, RS.of_ok, RS.of_exc, List.getElem?_cons_zero, List.getElem?_cons_succ, List.set_cons_zero, List.set_cons_succ, Bool.not_true, Bool.not_false, Bool.false_eq_true, if_false, isNon, gSet, Int.reduceLT, Int.reduceLE, Int.reduceNeg, and_self, Nat.reduceLeDiff, Nat.reduceMul, decide_true, decide_false, Int.reduceEq, eq_self, reduceCtorEq, seq_nx, seq_rt, seq_bad, of_rt, of_nx, trd_rt, trd_nx, r_defn, r_seq, r_try, r_nil, r_expr, r_ret, r_if, r_set, r_asg, r_put, r_attr, r_var, r_c, r_bin, r_un, r_fn, r_fnL, r_call, r_make, made_ok, made_exc, r_eattr, r_ixL, r_new, r_tup, r_disp, r_few, r_eif, r_eand, r_eor, r_enot, r_acons, r_anil, r_astar, r_astarL, r_val, r_tru, r_not, r_and, r_or, r_chain, r_inL, r_m1, r_joinL, r_sl, r_pno, r_pat, v_add, v_sub, v_mod, v_div, v_neg, v_lt, v_le, v_gt, v_ge, v_isN, v_notN, v_intI, v_intB, v_abs, v_strS, v_len, v_ixT, v_ixF, v_eqI, v_neI, v_eqS, v_neS, r_lcomp, r_pval, r_pseq, r_plist, r_planT, r_planS, r_tryO, r_tryA, seq_exc, of_exc, tryO_rt, tryO_nx, tryA_rt, tryA_nx, r_raise, r_raise1, r_xattr, r_slS, r_join, r_dget, r_dict0, r_dput, r_mkx, r_app, q]
theorem val_14 {a : Nat} {w : W} {m : Mem} (h : m[a]? = some (X 14 w)) : d__law_value_of [.int 14, .ref a] m = .ok w m := by
  have h : m[a]? = some (.exh "NoPairs" [([118, 97, 108, 117, 101], w)] [110, 111, 116, 32, 115, 117, 99, 104, 32, 112, 97, 105, 114, 115]) := h
  have q : xattr [118, 97, 108, 117, 101] okx_value (.ref a) m = .ok w m := xat h rfl rfl
  unfold d__law_value_of b__law_value_of
  simp only [List.length_cons, List.length_nil, Nat.reduceAdd, Nat.reduceEqDiff, if_true, List.map_cons, List.map_nil, Nat.reduceSub, List.replicate, List.cons_append, List.nil_append, R.bind_ok, R.bind_exc, R.bind_bad, R.nox_ok, RS.of_ok, RS.of_exc, List.getElem?_cons_zero, List.getElem?_cons_succ, List.set_cons_zero, List.set_cons_succ, Bool.not_true, Bool.not_false, Bool.false_eq_true, if_false, isNon, gSet, Int.reduceLT, Int.reduceLE, Int.reduceNeg, and_self, Nat.reduceLeDiff, Nat.reduceMul, decide_true, decide_false, Int.reduceEq, eq_self, reduceCtorEq, seq_nx, seq_rt, seq_bad, of_rt, of_nx, trd_rt, trd_nx, r_defn, r_seq, r_try, r_nil, r_expr, r_ret, r_if, r_set, r_asg, r_put, r_attr, r_var, r_c, r_bin, r_un, r_fn, r_fnL, r_call, r_make, made_ok, made_exc, r_eattr, r_ixL, r_new, r_tup, r_disp, r_few, r_eif, r_eand, r_eor, r_enot, r_acons, r_anil, r_astar, r_astarL, r_val, r_tru, r_not, r_and, r_or, r_chain, r_inL, r_m1, r_joinL, r_sl, r_pno, r_pat, v_add, v_sub, v_mod, v_div, v_neg, v_lt, v_le, v_gt, v_ge, v_isN, v_notN, v_intI, v_intB, v_abs, v_strS, v_len, v_ixT, v_ixF, v_eqI, v_neI, v_eqS, v_neS, r_lcomp, r_pval, r_pseq, r_plist, r_planT, r_planS, r_tryO, r_tryA, seq_exc, of_exc, tryO_rt, tryO_nx, tryA_rt, tryA_nx, r_raise, r_raise1, r_xattr, r_slS, r_join, r_dget, r_dict0, r_dput, r_mkx, r_app, q]
theorem val_15 {a : Nat} {w : W} {m : Mem} (h : m[a]? = some (X 15 w)) : d__law_value_of [.int 15, .ref a] m = .ok w m := by
  have h : m[a]? = some (.exh "NoProgram" [([110, 111, 100, 101], w)] [110, 111, 116, 32, 97, 32, 112, 114, 111, 103, 114, 97, 109]) := h
  have q : xattr [110, 111, 100, 101] okx_node (.ref a) m = .ok w m := xat h rfl rfl
  unfold d__law_value_of b__law_value_of
  simp only [List.length_cons, List.length_nil, Nat.reduceAdd, Nat.reduceEqDiff, if_true, List.map_cons, List.map_nil, Nat.reduceSub, List.replicate, List.cons_append, List.nil_append, R.bind_ok, R.bind_exc, R.bind_bad, R.nox_ok, RS.of_ok, RS.of_exc, List.getElem?_cons_zero, List.getElem?_cons_succ, List.set_cons_zero, List.set_cons_succ, Bool.not_true, Bool.not_false, Bool.false_eq_true, if_false, isNon, gSet, Int.reduceLT, Int.reduceLE, Int.reduceNeg, and_self, Nat.reduceLeDiff, Nat.reduceMul, decide_true, decide_false, Int.reduceEq, eq_self, reduceCtorEq, seq_nx, seq_rt, seq_bad, of_rt, of_nx, trd_rt, trd_nx, r_defn, r_seq, r_try, r_nil, r_expr, r_ret, r_if, r_set, r_asg, r_put, r_attr, r_var, r_c, r_bin, r_un, r_fn, r_fnL, r_call, r_make, made_ok, made_exc, r_eattr, r_ixL, r_new, r_tup, r_disp, r_few, r_eif, r_eand, r_eor, r_enot, r_acons, r_anil, r_astar, r_astarL, r_val, r_tru, r_not, r_and, r_or, r_chain, r_inL, r_m1, r_joinL, r_sl, r_pno, r_pat, v_add, v_sub, v_mod, v_div, v_neg, v_lt, v_le, v_gt, v_ge, v_isN, v_notN, v_intI, v_intB, v_abs, v_strS, v_len, v_ixT, v_ixF, v_eqI, v_neI, v_eqS, v_neS, r_lcomp, r_pval, r_pseq, r_plist, r_planT, r_planS, r_tryO, r_tryA, seq_exc, of_exc, tryO_rt, tryO_nx, tryA_rt, tryA_nx, r_raise, r_raise1, r_xattr, r_slS, r_join, r_dget, r_dict0, r_dput, r_mkx, r_app, q]
theorem val_16 {a : Nat} {w : W} {m : Mem} (h : m[a]? = some (X 16 w)) : d__law_value_of [.int 16, .ref a] m = .ok w m := by
  have h : m[a]? = some (.exh "Idle" [([110, 111, 100, 101], w)] [97, 32, 110, 111, 100, 101, 32, 111, 110, 32, 110, 111, 32, 99, 111, 109, 112, 108, 101, 116, 101, 32, 112, 97, 116, 104]) := h
  have q : xattr [110, 111, 100, 101] okx_node (.ref a) m = .ok w m := xat h rfl rfl
  unfold d__law_value_of b__law_value_of
  simp only [List.length_cons, List.length_nil, Nat.reduceAdd, Nat.reduceEqDiff, if_true, List.map_cons, List.map_nil, Nat.reduceSub, List.replicate, List.cons_append, List.nil_append, R.bind_ok, R.bind_exc, R.bind_bad, R.nox_ok, RS.of_ok, RS.of_exc, List.getElem?_cons_zero, List.getElem?_cons_succ, List.set_cons_zero, List.set_cons_succ, Bool.not_true, Bool.not_false, Bool.false_eq_true, if_false, isNon, gSet, Int.reduceLT, Int.reduceLE, Int.reduceNeg, and_self, Nat.reduceLeDiff, Nat.reduceMul, decide_true, decide_false, Int.reduceEq, eq_self, reduceCtorEq, seq_nx, seq_rt, seq_bad, of_rt, of_nx, trd_rt, trd_nx, r_defn, r_seq, r_try, r_nil, r_expr, r_ret, r_if, r_set, r_asg, r_put, r_attr, r_var, r_c, r_bin, r_un, r_fn, r_fnL, r_call, r_make, made_ok, made_exc, r_eattr, r_ixL, r_new, r_tup, r_disp, r_few, r_eif, r_eand, r_eor, r_enot, r_acons, r_anil, r_astar, r_astarL, r_val, r_tru, r_not, r_and, r_or, r_chain, r_inL, r_m1, r_joinL, r_sl, r_pno, r_pat, v_add, v_sub, v_mod, v_div, v_neg, v_lt, v_le, v_gt, v_ge, v_isN, v_notN, v_intI, v_intB, v_abs, v_strS, v_len, v_ixT, v_ixF, v_eqI, v_neI, v_eqS, v_neS, r_lcomp, r_pval, r_pseq, r_plist, r_planT, r_planS, r_tryO, r_tryA, seq_exc, of_exc, tryO_rt, tryO_nx, tryA_rt, tryA_nx, r_raise, r_raise1, r_xattr, r_slS, r_join, r_dget, r_dict0, r_dput, r_mkx, r_app, q]
theorem val_17 {a : Nat} {w : W} {m : Mem} (h : m[a]? = some (X 17 w)) : d__law_value_of [.int 17, .ref a] m = .ok w m := by
  have h : m[a]? = some (.exh "NoNode" [([110, 111, 100, 101], w)] [110, 111, 116, 32, 97, 32, 110, 111, 100, 101]) := h
  have q : xattr [110, 111, 100, 101] okx_node (.ref a) m = .ok w m := xat h rfl rfl
  unfold d__law_value_of b__law_value_of
  simp only [List.length_cons, List.length_nil, Nat.reduceAdd, Nat.reduceEqDiff, if_true, List.map_cons, List.map_nil, Nat.reduceSub, List.replicate, List.cons_append, List.nil_append, R.bind_ok, R.bind_exc, R.bind_bad, R.nox_ok, RS.of_ok, RS.of_exc, List.getElem?_cons_zero, List.getElem?_cons_succ, List.set_cons_zero, List.set_cons_succ, Bool.not_true, Bool.not_false, Bool.false_eq_true, if_false, isNon, gSet, Int.reduceLT, Int.reduceLE, Int.reduceNeg, and_self, Nat.reduceLeDiff, Nat.reduceMul, decide_true, decide_false, Int.reduceEq, eq_self, reduceCtorEq, seq_nx, seq_rt, seq_bad, of_rt, of_nx, trd_rt, trd_nx, r_defn, r_seq, r_try, r_nil, r_expr, r_ret, r_if, r_set, r_asg, r_put, r_attr, r_var, r_c, r_bin, r_un, r_fn, r_fnL, r_call, r_make, made_ok, made_exc, r_eattr, r_ixL, r_new, r_tup, r_disp, r_few, r_eif, r_eand, r_eor, r_enot, r_acons, r_anil, r_astar, r_astarL, r_val, r_tru, r_not, r_and, r_or, r_chain, r_inL, r_m1, r_joinL, r_sl, r_pno, r_pat, v_add, v_sub, v_mod, v_div, v_neg, v_lt, v_le, v_gt, v_ge, v_isN, v_notN, v_intI, v_intB, v_abs, v_strS, v_len, v_ixT, v_ixF, v_eqI, v_neI, v_eqS, v_neS, r_lcomp, r_pval, r_pseq, r_plist, r_planT, r_planS, r_tryO, r_tryA, seq_exc, of_exc, tryO_rt, tryO_nx, tryA_rt, tryA_nx, r_raise, r_raise1, r_xattr, r_slS, r_join, r_dget, r_dict0, r_dput, r_mkx, r_app, q]
theorem val_18 {a : Nat} {w : W} {m : Mem} (h : m[a]? = some (X 18 w)) : d__law_value_of [.int 18, .ref a] m = .ok w m := by
  have h : m[a]? = some (.exh "NoEdge" [([101, 100, 103, 101], w)] [110, 111, 116, 32, 97, 110, 32, 101, 100, 103, 101]) := h
  have q : xattr [101, 100, 103, 101] okx_edge (.ref a) m = .ok w m := xat h rfl rfl
  unfold d__law_value_of b__law_value_of
  simp only [List.length_cons, List.length_nil, Nat.reduceAdd, Nat.reduceEqDiff, if_true, List.map_cons, List.map_nil, Nat.reduceSub, List.replicate, List.cons_append, List.nil_append, R.bind_ok, R.bind_exc, R.bind_bad, R.nox_ok, RS.of_ok, RS.of_exc, List.getElem?_cons_zero, List.getElem?_cons_succ, List.set_cons_zero, List.set_cons_succ, Bool.not_true, Bool.not_false, Bool.false_eq_true, if_false, isNon, gSet, Int.reduceLT, Int.reduceLE, Int.reduceNeg, and_self, Nat.reduceLeDiff, Nat.reduceMul, decide_true, decide_false, Int.reduceEq, eq_self, reduceCtorEq, seq_nx, seq_rt, seq_bad, of_rt, of_nx, trd_rt, trd_nx, r_defn, r_seq, r_try, r_nil, r_expr, r_ret, r_if, r_set, r_asg, r_put, r_attr, r_var, r_c, r_bin, r_un, r_fn, r_fnL, r_call, r_make, made_ok, made_exc, r_eattr, r_ixL, r_new, r_tup, r_disp, r_few, r_eif, r_eand, r_eor, r_enot, r_acons, r_anil, r_astar, r_astarL, r_val, r_tru, r_not, r_and, r_or, r_chain, r_inL, r_m1, r_joinL, r_sl, r_pno, r_pat, v_add, v_sub, v_mod, v_div, v_neg, v_lt, v_le, v_gt, v_ge, v_isN, v_notN, v_intI, v_intB, v_abs, v_strS, v_len, v_ixT, v_ixF, v_eqI, v_neI, v_eqS, v_neS, r_lcomp, r_pval, r_pseq, r_plist, r_planT, r_planS, r_tryO, r_tryA, seq_exc, of_exc, tryO_rt, tryO_nx, tryA_rt, tryA_nx, r_raise, r_raise1, r_xattr, r_slS, r_join, r_dget, r_dict0, r_dput, r_mkx, r_app, q]
theorem val_19 {a : Nat} {w : W} {m : Mem} (h : m[a]? = some (X 19 w)) : d__law_value_of [.int 19, .ref a] m = .ok w m := by
  have h : m[a]? = some (.exh "NoPlace" [([112, 108, 97, 99, 101], w)] [110, 111, 32, 115, 117, 99, 104, 32, 115, 117, 99, 99, 101, 115, 115, 111, 114]) := h
  have q : xattr [112, 108, 97, 99, 101] okx_place (.ref a) m = .ok w m := xat h rfl rfl
  unfold d__law_value_of b__law_value_of
  simp only [List.length_cons, List.length_nil, Nat.reduceAdd, Nat.reduceEqDiff, if_true, List.map_cons, List.map_nil, Nat.reduceSub, List.replicate, List.cons_append, List.nil_append, R.bind_ok, R.bind_exc, R.bind_bad, R.nox_ok, RS.of_ok, RS.of_exc, List.getElem?_cons_zero, List.getElem?_cons_succ, List.set_cons_zero, List.set_cons_succ, Bool.not_true, Bool.not_false, Bool.false_eq_true, if_false, isNon, gSet, Int.reduceLT, Int.reduceLE, Int.reduceNeg, and_self, Nat.reduceLeDiff, Nat.reduceMul, decide_true, decide_false, Int.reduceEq, eq_self, reduceCtorEq, seq_nx, seq_rt, seq_bad, of_rt, of_nx, trd_rt, trd_nx, r_defn, r_seq, r_try, r_nil, r_expr, r_ret, r_if, r_set, r_asg, r_put, r_attr, r_var, r_c, r_bin, r_un, r_fn, r_fnL, r_call, r_make, made_ok, made_exc, r_eattr, r_ixL, r_new, r_tup, r_disp, r_few, r_eif, r_eand, r_eor, r_enot, r_acons, r_anil, r_astar, r_astarL, r_val, r_tru, r_not, r_and, r_or, r_chain, r_inL, r_m1, r_joinL, r_sl, r_pno, r_pat, v_add, v_sub, v_mod, v_div, v_neg, v_lt, v_le, v_gt, v_ge, v_isN, v_notN, v_intI, v_intB, v_abs, v_strS, v_len, v_ixT, v_ixF, v_eqI, v_neI, v_eqS, v_neS, r_lcomp, r_pval, r_pseq, r_plist, r_planT, r_planS, r_tryO, r_tryA, seq_exc, of_exc, tryO_rt, tryO_nx, tryA_rt, tryA_nx, r_raise, r_raise1, r_xattr, r_slS, r_join, r_dget, r_dict0, r_dput, r_mkx, r_app, q]
theorem val_20 {a : Nat} {w : W} {m : Mem} (h : m[a]? = some (X 20 w)) : d__law_value_of [.int 20, .ref a] m = .ok w m := by
  have h : m[a]? = some (.exh "NoStep" [([112, 108, 97, 99, 101], w)] [110, 111, 116, 32, 97, 32, 115, 116, 101, 112]) := h
  have q : xattr [112, 108, 97, 99, 101] okx_place (.ref a) m = .ok w m := xat h rfl rfl
  unfold d__law_value_of b__law_value_of
  simp only [List.length_cons, List.length_nil, Nat.reduceAdd, Nat.reduceEqDiff, if_true, List.map_cons, List.map_nil, Nat.reduceSub, List.replicate, List.cons_append, List.nil_append, R.bind_ok, R.bind_exc, R.bind_bad, R.nox_ok, RS.of_ok, RS.of_exc, List.getElem?_cons_zero, List.getElem?_cons_succ, List.set_cons_zero, List.set_cons_succ, Bool.not_true, Bool.not_false, Bool.false_eq_true, if_false, isNon, gSet, Int.reduceLT, Int.reduceLE, Int.reduceNeg, and_self, Nat.reduceLeDiff, Nat.reduceMul, decide_true, decide_false, Int.reduceEq, eq_self, reduceCtorEq, seq_nx, seq_rt, seq_bad, of_rt, of_nx, trd_rt, trd_nx, r_defn, r_seq, r_try, r_nil, r_expr, r_ret, r_if, r_set, r_asg, r_put, r_attr, r_var, r_c, r_bin, r_un, r_fn, r_fnL, r_call, r_make, made_ok, made_exc, r_eattr, r_ixL, r_new, r_tup, r_disp, r_few, r_eif, r_eand, r_eor, r_enot, r_acons, r_anil, r_astar, r_astarL, r_val, r_tru, r_not, r_and, r_or, r_chain, r_inL, r_m1, r_joinL, r_sl, r_pno, r_pat, v_add, v_sub, v_mod, v_div, v_neg, v_lt, v_le, v_gt, v_ge, v_isN, v_notN, v_intI, v_intB, v_abs, v_strS, v_len, v_ixT, v_ixF, v_eqI, v_neI, v_eqS, v_neS, r_lcomp, r_pval, r_pseq, r_plist, r_planT, r_planS, r_tryO, r_tryA, seq_exc, of_exc, tryO_rt, tryO_nx, tryA_rt, tryA_nx, r_raise, r_raise1, r_xattr, r_slS, r_join, r_dget, r_dict0, r_dput, r_mkx, r_app, q]
theorem val_21 {a : Nat} {w : W} {m : Mem} (h : m[a]? = some (X 21 w)) : d__law_value_of [.int 21, .ref a] m = .ok w m := by
  have h : m[a]? = some (.exh "NoEdit" [([110, 97, 109, 101], w)] [110, 111, 116, 32, 97, 110, 32, 101, 100, 105, 116]) := h
  have q : xattr [110, 97, 109, 101] okx_name (.ref a) m = .ok w m := xat h rfl rfl
  unfold d__law_value_of b__law_value_of
  simp only [List.length_cons, List.length_nil, Nat.reduceAdd, Nat.reduceEqDiff, if_true, List.map_cons, List.map_nil, Nat.reduceSub, List.replicate, List.cons_append, List.nil_append, R.bind_ok, R.bind_exc, R.bind_bad, R.nox_ok, RS.of_ok, RS.of_exc, List.getElem?_cons_zero, List.getElem?_cons_succ, List.set_cons_zero, List.set_cons_succ, Bool.not_true, Bool.not_false, Bool.false_eq_true, if_false, isNon, gSet, Int.reduceLT, Int.reduceLE, Int.reduceNeg, and_self, Nat.reduceLeDiff, Nat.reduceMul, decide_true, decide_false, Int.reduceEq, eq_self, reduceCtorEq, seq_nx, seq_rt, seq_bad, of_rt, of_nx, trd_rt, trd_nx, r_defn, r_seq, r_try, r_nil, r_expr, r_ret, r_if, r_set, r_asg, r_put, r_attr, r_var, r_c, r_bin, r_un, r_fn, r_fnL, r_call, r_make, made_ok, made_exc, r_eattr, r_ixL, r_new, r_tup, r_disp, r_few, r_eif, r_eand, r_eor, r_enot, r_acons, r_anil, r_astar, r_astarL, r_val, r_tru, r_not, r_and, r_or, r_chain, r_inL, r_m1, r_joinL, r_sl, r_pno, r_pat, v_add, v_sub, v_mod, v_div, v_neg, v_lt, v_le, v_gt, v_ge, v_isN, v_notN, v_intI, v_intB, v_abs, v_strS, v_len, v_ixT, v_ixF, v_eqI, v_neI, v_eqS, v_neS, r_lcomp, r_pval, r_pseq, r_plist, r_planT, r_planS, r_tryO, r_tryA, seq_exc, of_exc, tryO_rt, tryO_nx, tryA_rt, tryA_nx, r_raise, r_raise1, r_xattr, r_slS, r_join, r_dget, r_dict0, r_dput, r_mkx, r_app, q]
theorem val_22 {a : Nat} {w : W} {m : Mem} (h : m[a]? = some (X 22 w)) : d__law_value_of [.int 22, .ref a] m = .ok w m := by
  have h : m[a]? = some (.exh "Unfit" [([116, 111, 108, 100], w)] [116, 104, 101, 32, 112, 108, 97, 99, 101, 109, 101, 110, 116, 32, 105, 115, 32, 110, 111, 116, 32, 102, 105, 116]) := h
  have q : xattr [116, 111, 108, 100] okx_told (.ref a) m = .ok w m := xat h rfl rfl
  unfold d__law_value_of b__law_value_of
  simp only [List.length_cons, List.length_nil, Nat.reduceAdd, Nat.reduceEqDiff, if_true, List.map_cons, List.map_nil, Nat.reduceSub, List.replicate, List.cons_append, List.nil_append, R.bind_ok, R.bind_exc, R.bind_bad, R.nox_ok, RS.of_ok, RS.of_exc, List.getElem?_cons_zero, List.getElem?_cons_succ, List.set_cons_zero, List.set_cons_succ, Bool.not_true, Bool.not_false, Bool.false_eq_true, if_false, isNon, gSet, Int.reduceLT, Int.reduceLE, Int.reduceNeg, and_self, Nat.reduceLeDiff, Nat.reduceMul, decide_true, decide_false, Int.reduceEq, eq_self, reduceCtorEq, seq_nx, seq_rt, seq_bad, of_rt, of_nx, trd_rt, trd_nx, r_defn, r_seq, r_try, r_nil, r_expr, r_ret, r_if, r_set, r_asg, r_put, r_attr, r_var, r_c, r_bin, r_un, r_fn, r_fnL, r_call, r_make, made_ok, made_exc, r_eattr, r_ixL, r_new, r_tup, r_disp, r_few, r_eif, r_eand, r_eor, r_enot, r_acons, r_anil, r_astar, r_astarL, r_val, r_tru, r_not, r_and, r_or, r_chain, r_inL, r_m1, r_joinL, r_sl, r_pno, r_pat, v_add, v_sub, v_mod, v_div, v_neg, v_lt, v_le, v_gt, v_ge, v_isN, v_notN, v_intI, v_intB, v_abs, v_strS, v_len, v_ixT, v_ixF, v_eqI, v_neI, v_eqS, v_neS, r_lcomp, r_pval, r_pseq, r_plist, r_planT, r_planS, r_tryO, r_tryA, seq_exc, of_exc, tryO_rt, tryO_nx, tryA_rt, tryA_nx, r_raise, r_raise1, r_xattr, r_slS, r_join, r_dget, r_dict0, r_dput, r_mkx, r_app, q]
theorem val_23 {a : Nat} {w : W} {m : Mem} (h : m[a]? = some (X 23 w)) : d__law_value_of [.int 23, .ref a] m = .ok w m := by
  have h : m[a]? = some (.exh "TooLong" [([110, 111, 100, 101, 115], w)] [116, 111, 111, 32, 109, 97, 110, 121, 32, 110, 111, 100, 101, 115]) := h
  have q : xattr [110, 111, 100, 101, 115] okx_nodes (.ref a) m = .ok w m := xat h rfl rfl
  unfold d__law_value_of b__law_value_of
  simp only [List.length_cons, List.length_nil, Nat.reduceAdd, Nat.reduceEqDiff, if_true, List.map_cons, List.map_nil, Nat.reduceSub, List.replicate, List.cons_append, List.nil_append, R.bind_ok, R.bind_exc, R.bind_bad, R.nox_ok, RS.of_ok, RS.of_exc, List.getElem?_cons_zero, List.getElem?_cons_succ, List.set_cons_zero, List.set_cons_succ, Bool.not_true, Bool.not_false, Bool.false_eq_true, if_false, isNon, gSet, Int.reduceLT, Int.reduceLE, Int.reduceNeg, and_self, Nat.reduceLeDiff, Nat.reduceMul, decide_true, decide_false, Int.reduceEq, eq_self, reduceCtorEq, seq_nx, seq_rt, seq_bad, of_rt, of_nx, trd_rt, trd_nx, r_defn, r_seq, r_try, r_nil, r_expr, r_ret, r_if, r_set, r_asg, r_put, r_attr, r_var, r_c, r_bin, r_un, r_fn, r_fnL, r_call, r_make, made_ok, made_exc, r_eattr, r_ixL, r_new, r_tup, r_disp, r_few, r_eif, r_eand, r_eor, r_enot, r_acons, r_anil, r_astar, r_astarL, r_val, r_tru, r_not, r_and, r_or, r_chain, r_inL, r_m1, r_joinL, r_sl, r_pno, r_pat, v_add, v_sub, v_mod, v_div, v_neg, v_lt, v_le, v_gt, v_ge, v_isN, v_notN, v_intI, v_intB, v_abs, v_strS, v_len, v_ixT, v_ixF, v_eqI, v_neI, v_eqS, v_neS, r_lcomp, r_pval, r_pseq, r_plist, r_planT, r_planS, r_tryO, r_tryA, seq_exc, of_exc, tryO_rt, tryO_nx, tryA_rt, tryA_nx, r_raise, r_raise1, r_xattr, r_slS, r_join, r_dget, r_dict0, r_dput, r_mkx, r_app, q]
theorem value_ok (i : Nat) (hi : i < 24) {a : Nat} {w : W} {m : Mem} (h : m[a]? = some (X i w)) : d__law_value_of [.int (i : Int), .ref a] m = .ok w m := by
  have hc : i = 0 ∨ i = 1 ∨ i = 2 ∨ i = 3 ∨ i = 4 ∨ i = 5 ∨ i = 6 ∨ i = 7 ∨ i = 8 ∨ i = 9 ∨ i = 10 ∨ i = 11 ∨ i = 12 ∨ i = 13 ∨ i = 14 ∨ i = 15 ∨ i = 16 ∨ i = 17 ∨ i = 18 ∨ i = 19 ∨ i = 20 ∨ i = 21 ∨ i = 22 ∨ i = 23 := by omega
  rcases hc with rfl | rfl | rfl | rfl | rfl | rfl | rfl | rfl | rfl | rfl | rfl | rfl | rfl | rfl | rfl | rfl | rfl | rfl | rfl | rfl | rfl | rfl | rfl | rfl
  · exact val_0 h
  · exact val_1 h
  · exact val_2 h
  · exact val_3 h
  · exact val_4 h
  · exact val_5 h
  · exact val_6 h
  · exact val_7 h
  · exact val_8 h
  · exact val_9 h
  · exact val_10 h
  · exact val_11 h
  · exact val_12 h
  · exact val_13 h
  · exact val_14 h
  · exact val_15 h
  · exact val_16 h
  · exact val_17 h
  · exact val_18 h
  · exact val_19 h
  · exact val_20 h
  · exact val_21 h
  · exact val_22 h
  · exact val_23 h
end K90

namespace K90
open PySem Sh
/-! ### alike, equal lists -/
theorem Grow.ext {p : Nat} {m m' : Mem} (E : Ext m m') : Grow p m m' := by
  obtain ⟨l, rfl⟩ := E
  exact Grow.app
theorem repr_small {n : Nat} {ws : List W} {ds : List PyData} {m : Mem} (h : m[n]? = some (.lst ws)) (hd : datsX m 29 ws = some ds) (hs : ∀ d ∈ ds, Small d) (hl : ds.length ≤ 20) : bReprX [.ref n] m = .ok (.str (PyData.list ds).shown.cps.toList) m := repr_small0 h hd hs hl
theorem alike_small {a b : Nat} {ws vs : List W} {ds : List PyData} {m : Mem} (h1 : m[a]? = some (.lst ws)) (h2 : m[b]? = some (.lst vs)) (hd1 : datsX m 29 ws = some ds) (hd2 : datsX m 29 vs = some ds) (hs : ∀ d ∈ ds, Small d) (hl : ds.length ≤ 20) : d__law_alike [.ref a, .ref b] m = .ok (.bl true) m := by
  unfold d__law_alike b__law_alike
  simp only [List.length_cons, List.length_nil, Nat.reduceAdd, Nat.reduceEqDiff, if_true, List.map_cons, List.map_nil, Nat.reduceSub, List.replicate, List.cons_append, List.nil_append, R.bind_ok, R.bind_exc, R.bind_bad, R.nox_ok, RS.of_ok, RS.of_exc, List.getElem?_cons_zero, List.getElem?_cons_succ, List.set_cons_zero, List.set_cons_succ, Bool.not_true, Bool.not_false, Bool.false_eq_true, if_false, isNon, gSet, Int.reduceLT, Int.reduceLE, Int.reduceNeg, and_self, Nat.reduceLeDiff, Nat.reduceMul, decide_true, decide_false, Int.reduceEq, eq_self, reduceCtorEq, seq_nx, seq_rt, seq_bad, of_rt, of_nx, trd_rt, trd_nx, r_defn, r_seq, r_try, r_nil, r_expr, r_ret, r_if, r_set, r_asg, r_put, r_attr, r_var, r_c, r_bin, r_un, r_fn, r_fnL, r_call, r_make, made_ok, made_exc, r_eattr, r_ixL, r_new, r_tup, r_disp, r_few, r_eif, r_eand, r_eor, r_enot, r_acons, r_anil, r_astar, r_astarL, r_val, r_tru, r_not, r_and, r_or, r_chain, r_inL, r_m1, r_joinL, r_sl, r_pno, r_pat, v_add, v_sub, v_mod, v_div, v_neg, v_lt, v_le, v_gt, v_ge, v_isN, v_notN, v_intI, v_intB, v_abs, v_strS, v_len, v_ixT, v_ixF, v_eqI, v_neI, v_eqS, v_neS, r_lcomp, r_pval, r_pseq, r_plist, r_planT, r_planS, r_tryO, r_tryA, seq_exc, of_exc, tryO_rt, tryO_nx, tryA_rt, tryA_nx, r_raise, r_raise1, r_xattr, r_slS, r_join, r_dget, r_dict0, r_dput, r_mkx, r_app, repr_small h1 hd1 hs hl, repr_small h2 hd2 hs hl]
theorem alike_one {w : W} {l : List Nat} {m : Mem} (h : bReprX [w] m = .ok (.str l) m) : d__law_alike [w, w] m = .ok (.bl true) m := by
  unfold d__law_alike b__law_alike
  simp only [List.length_cons, List.length_nil, Nat.reduceAdd, Nat.reduceEqDiff, if_true, List.map_cons, List.map_nil, Nat.reduceSub, List.replicate, List.cons_append, List.nil_append, R.bind_ok, R.bind_exc, R.bind_bad, R.nox_ok, RS.of_ok, RS.of_exc, List.getElem?_cons_zero, List.getElem?_cons_succ, List.set_cons_zero, List.set_cons_succ, Bool.not_true, Bool.not_false, Bool.false_eq_true, if_false, isNon, gSet, Int.reduceLT, Int.reduceLE, Int.reduceNeg, and_self, Nat.reduceLeDiff, Nat.reduceMul, decide_true, decide_false, Int.reduceEq, eq_self, reduceCtorEq, seq_nx, seq_rt, seq_bad, of_rt, of_nx, trd_rt, trd_nx, r_defn, r_seq, r_try, r_nil, r_expr, r_ret, r_if, r_set, r_asg, r_put, r_attr, r_var, r_c, r_bin, r_un, r_fn, r_fnL, r_call, r_make, made_ok, made_exc, r_eattr, r_ixL, r_new, r_tup, r_disp, r_few, r_eif, r_eand, r_eor, r_enot, r_acons, r_anil, r_astar, r_astarL, r_val, r_tru, r_not, r_and, r_or, r_chain, r_inL, r_m1, r_joinL, r_sl, r_pno, r_pat, v_add, v_sub, v_mod, v_div, v_neg, v_lt, v_le, v_gt, v_ge, v_isN, v_notN, v_intI, v_intB, v_abs, v_strS, v_len, v_ixT, v_ixF, v_eqI, v_neI, v_eqS, v_neS, r_lcomp, r_pval, r_pseq, r_plist, r_planT, r_planS, r_tryO, r_tryA, seq_exc, of_exc, tryO_rt, tryO_nx, tryA_rt, tryA_nx, r_raise, r_raise1, r_xattr, r_slS, r_join, r_dget, r_dict0, r_dput, r_mkx, r_app, h]
inductive Flat : W → Prop | int (i : Int) : Flat (.int i) | bl (b : Bool) : Flat (.bl b)
theorem dats_flat (m : Mem) (d : Nat) : ∀ ws : List W, (∀ w ∈ ws, Flat w) → ∃ ds, dats m d ws = some ds ∧ PyData.canLayAll0 ds = true ∧ PyData.depthAll ds = 0 ∧ PyData.eqvAll ds ds = true
  | [], _ => ⟨[], by simp [dats], rfl, rfl, rfl⟩
  | w :: ws, h => by
    obtain ⟨ds, h1, h3, h4, h5⟩ := dats_flat m d ws fun x hx => h x (List.mem_cons_of_mem _ hx)
    have hw := h w List.mem_cons_self
    have : ∃ x, dat m d w = some x ∧ PyData.canLay0 x = true ∧ PyData.depth x = 0 ∧ PyData.eqv x x = true := by
      cases hw with
      | int i => exact ⟨.int i, by cases d <;> simp [dat], rfl, rfl, by simp [PyData.eqv]⟩
      | bl b => exact ⟨.bool b, by cases d <;> simp [dat], rfl, rfl, by simp [PyData.eqv]⟩
    obtain ⟨x, e1, e2, e3, e4⟩ := this
    exact ⟨x :: ds, by simp [dats, e1, h1], by simp [PyData.canLayAll0, e2, h3], by simp [PyData.depthAll, e3, h4], by simp [PyData.eqvAll, e4, h5]⟩
theorem eqD_same {a b : Nat} {ws : List W} {m : Mem} (hl : ∀ w ∈ ws, Flat w) (h1 : m[a]? = some (.lst ws)) (h2 : m[b]? = some (.lst ws)) : eqD (.ref a) (.ref b) m = .ok true m := by
  obtain ⟨ds, e, e1, e2, e3⟩ := dats_flat m 29 ws hl
  have q1 : dat m 30 (.ref a) = some (.list ds) := by simp only [dat, h1, e, Option.map_some]
  have q2 : dat m 30 (.ref b) = some (.list ds) := by simp only [dat, h2, e, Option.map_some]
  unfold eqD
  simp only [q1, q2]
  have s1 : SeqAt.shaped (.list ds) = true := by
    unfold SeqAt.shaped
    simp [PyData.canLay0, e1, PyData.depth, e2]
  rw [if_pos ⟨s1, s1⟩]
  simp [PyData.eqv, e3]
theorem ne_same {a b : Nat} {ws : List W} {m : Mem} (hl : ∀ w ∈ ws, Flat w) (h1 : m[a]? = some (.lst ws)) (h2 : m[b]? = some (.lst ws)) : wNe0 (.ref a) (.ref b) m = .ok (.bl false) m := by
  show (eqD (.ref a) (.ref b) m).bind _ = _
  rw [eqD_same hl h1 h2]; rfl
theorem eq_same {a b : Nat} {ws : List W} {m : Mem} (hl : ∀ w ∈ ws, Flat w) (h1 : m[a]? = some (.lst ws)) (h2 : m[b]? = some (.lst ws)) : wEq0 (.ref a) (.ref b) m = .ok (.bl true) m := by
  show (eqD (.ref a) (.ref b) m).bind _ = _
  rw [eqD_same hl h1 h2]; rfl
/-! ### kept -/
theorem comp_filter {src : Src} {ws : List W} {m : Mem} {k : Nat} {t : DB} {e : DE} {σ : Sh.Loc} {p : W → Bool} (hl : ws.length ≤ 1000000) (hs : ∀ i, src i m = some ws[i]?) (ht : ∀ w, w ∈ ws → t (σ.set k (some w)) m = .ok (p w) m) (he : ∀ w, w ∈ ws → e (σ.set k (some w)) m = .ok w m) :
    compLoop src (gSet k) t e σ (ws.length + 1) 0 [] m = .ok (ws.filter p) m := by
  have go : ∀ (n i : Nat) (acc : List W), i + n = ws.length → acc.length ≤ i → compLoop src (gSet k) t e σ (n + 1) i acc m = .ok (acc ++ (ws.drop i).filter p) m := by
    intro n
    induction n with
    | zero =>
      intro i acc hi _
      unfold compLoop
      have : ws[i]? = none := by simp; omega
      simp only [hs, this]
      have : ws.drop i = [] := by simp; omega
      simp [this]
    | succ n ih =>
      intro i acc hi ha
      have hlt : i < ws.length := by omega
      have hm := List.getElem_mem hlt
      unfold compLoop
      simp only [hs, List.getElem?_eq_getElem hlt, gSet, R.nox_ok, R.bind_ok, ht _ hm, he _ hm]
      have hd : ws.drop i = ws[i] :: ws.drop (i + 1) := List.drop_eq_getElem_cons hlt
      cases hp : p ws[i] with
      | true =>
        simp only [if_true]
        rw [if_pos (by omega), ih (i + 1) (acc ++ [ws[i]]) (by omega) (by simp; omega), hd, List.filter_cons_of_pos hp]
        simp
      | false =>
        simp only [Bool.false_eq_true, if_false]
        rw [ih (i + 1) acc (by omega) (by omega), hd, List.filter_cons_of_neg (by simp [hp])]
  have := go ws.length 0 [] (by omega) (by simp)
  simpa using this
def keptA : DS := sIf (tVal (eBin wLt (eVar 0) (eC (.int 12)))) (sSet 3 (eCall d__law_first_ones (aCons (eVar 0) (aCons (eVar 1) (aNil))))) (sSet 3 (eCall d__law_other_ones (aCons (eVar 0) (aCons (eVar 1) (aNil)))))
theorem keptA_ok {i : Nat} (hi : i < 24) (w : W) (m : Mem) : keptA [some (.int (i : Int)), some w, none, none, none] m = .nx [some (.int (i : Int)), some w, none, some (.ref (m.length + 2)), none] (two i w m) := by
  unfold keptA
  by_cases h : i < 12
  · have d : decide ((i : Int) < 12) = true := decide_eq_true (by omega)
    simp only [List.length_cons, List.length_nil, Nat.reduceAdd, Nat.reduceEqDiff, if_true, List.map_cons, List.map_nil, Nat.reduceSub, List.replicate, List.cons_append, List.nil_append, R.bind_ok, R.bind_exc, R.bind_bad, R.nox_ok, RS.of_ok, RS.of_exc, List.getElem?_cons_zero, List.getElem?_cons_succ, List.set_cons_zero, List.set_cons_succ, Bool.not_true, Bool.not_false, Bool.false_eq_true, if_false, isNon, gSet, Int.reduceLT, Int.reduceLE, Int.reduceNeg, and_self, Nat.reduceLeDiff, Nat.reduceMul, decide_true, decide_false, Int.reduceEq, eq_self, reduceCtorEq, seq_nx, seq_rt, seq_bad, of_rt, of_nx, trd_rt, trd_nx, r_defn, r_seq, r_try, r_nil, r_expr, r_ret, r_if, r_set, r_asg, r_put, r_attr, r_var, r_c, r_bin, r_un, r_fn, r_fnL, r_call, r_make, made_ok, made_exc, r_eattr, r_ixL, r_new, r_tup, r_disp, r_few, r_eif, r_eand, r_eor, r_enot, r_acons, r_anil, r_astar, r_astarL, r_val, r_tru, r_not, r_and, r_or, r_chain, r_inL, r_m1, r_joinL, r_sl, r_pno, r_pat, v_add, v_sub, v_mod, v_div, v_neg, v_lt, v_le, v_gt, v_ge, v_isN, v_notN, v_intI, v_intB, v_abs, v_strS, v_ixT, v_ixF, v_eqI, v_neI, v_eqS, v_neS, r_lcomp, r_pval, r_pseq, r_plist, r_planT, r_planS, r_tryO, r_tryA, seq_exc, of_exc, tryO_rt, tryO_nx, tryA_rt, tryA_nx, r_raise, r_raise1, r_xattr, r_slS, r_join, r_dget, r_dict0, r_dput, r_mkx, r_app, d, first_ok i h]
  · have d : decide ((i : Int) < 12) = false := decide_eq_false (by omega)
    simp only [List.length_cons, List.length_nil, Nat.reduceAdd, Nat.reduceEqDiff, if_true, List.map_cons, List.map_nil, Nat.reduceSub, List.replicate, List.cons_append, List.nil_append, R.bind_ok, R.bind_exc, R.bind_bad, R.nox_ok, RS.of_ok, RS.of_exc, List.getElem?_cons_zero, List.getElem?_cons_succ, List.set_cons_zero, List.set_cons_succ, Bool.not_true, Bool.not_false, Bool.false_eq_true, if_false, isNon, gSet, Int.reduceLT, Int.reduceLE, Int.reduceNeg, and_self, Nat.reduceLeDiff, Nat.reduceMul, decide_true, decide_false, Int.reduceEq, eq_self, reduceCtorEq, seq_nx, seq_rt, seq_bad, of_rt, of_nx, trd_rt, trd_nx, r_defn, r_seq, r_try, r_nil, r_expr, r_ret, r_if, r_set, r_asg, r_put, r_attr, r_var, r_c, r_bin, r_un, r_fn, r_fnL, r_call, r_make, made_ok, made_exc, r_eattr, r_ixL, r_new, r_tup, r_disp, r_few, r_eif, r_eand, r_eor, r_enot, r_acons, r_anil, r_astar, r_astarL, r_val, r_tru, r_not, r_and, r_or, r_chain, r_inL, r_m1, r_joinL, r_sl, r_pno, r_pat, v_add, v_sub, v_mod, v_div, v_neg, v_lt, v_le, v_gt, v_ge, v_isN, v_notN, v_intI, v_intB, v_abs, v_strS, v_ixT, v_ixF, v_eqI, v_neI, v_eqS, v_neS, r_lcomp, r_pval, r_pseq, r_plist, r_planT, r_planS, r_tryO, r_tryA, seq_exc, of_exc, tryO_rt, tryO_nx, tryA_rt, tryA_nx, r_raise, r_raise1, r_xattr, r_slS, r_join, r_dget, r_dict0, r_dput, r_mkx, r_app, d, other_ok i (by omega) hi]
theorem ok_str_er {i : Nat} (hi : i < 24) : ok_str (er i).c = true := by
  have key : ∀ k : Fin 24, ok_str (er k).c = true := by decide
  exact key ⟨i, hi⟩
theorem str_er {i : Nat} (hi : i < 24) {a : Nat} {w : W} {m : Mem} (h : m[a]? = some (X i w)) : bStrE ok_str [.ref a] m = .ok (.str (er i).msg) m := by
  unfold bStrE
  have h : m[a]? = some (.exh (er i).c [((er i).f, w)] (er i).msg) := h
  simp only [h, ok_str_er hi, if_true]
theorem isi_ss (l : List Nat) (m : Mem) : bIsi isiT [.str l, .ty "str"] m = .ok (.bl true) m := by rfl
def keptD : DE := eAnd (eCall d__law_alike (aCons (eVar 2) (aCons (eNew (lDisp (aCons (eVar 1) (aCons (eVar 1) (aNil))))) (aNil)))) (eBin wEq0 (eNew (lComp (pVal (eVar 3)) (gSet 4) (tNot (tVal (eFn (bIsi isiT) (aCons (eFn (bStrE ok_str) (aCons (eVar 4) (aNil))) (aCons (eC (.ty "str")) (aNil)))))) (eVar 4) [4])) (eNew (lDisp (aNil))))
theorem keptD_ok {i : Nat} (hi : i < 24) {o : Nat} {x : PyData} {m : Mem} (v b a1 a2 : Nat) (h1 : m[v]? = some (.lst [.ref o, .ref o])) (h2 : m[b]? = some (.lst [.ref a1, .ref a2])) (h3 : m[a1]? = some (X i (.ref o))) (h4 : m[a2]? = some (X i (.ref o)))
    (hd : ∀ l : Mem, datX (m ++ l) 29 (.ref o) = some x) (hs : Small x) : ∃ m', keptD [some (.int (i : Int)), some (.ref o), some (.ref v), some (.ref b), none] m = .ok (.bl true) m' ∧ Ext m m' := by
  have E1 : Ext m (m ++ [O.lst [.ref o, .ref o]]) := .app _ _
  have e0 : datX (m ++ [O.lst [.ref o, .ref o]]) 29 (.ref o) = some x := hd _
  have eds : datsX (m ++ [O.lst [.ref o, .ref o]]) 29 [.ref o, .ref o] = some [x, x] := by simp only [datsX, e0]
  have ea := alike_small (E1.get h1) last_get eds eds (fun d hd => by simp at hd; rw [hd]; exact hs) (by simp)
  have hc := comp_filter (src := srcLive b) (ws := [.ref a1, .ref a2]) (m := m ++ [O.lst [.ref o, .ref o]]) (k := 4) (t := tNot (tVal (eFn (bIsi isiT) (aCons (eFn (bStrE ok_str) (aCons (eVar 4) (aNil))) (aCons (eC (.ty "str")) (aNil)))))) (e := eVar 4) (σ := [some (.int (i : Int)), some (.ref o), some (.ref v), some (.ref b), none]) (p := fun _ => false) (by simp) (live_at (E1.get h2)) (fun w hw => by
    have : ∃ a, w = .ref a ∧ (m ++ [O.lst [.ref o, .ref o]])[a]? = some (X i (.ref o)) := by
      simp at hw
      rcases hw with rfl | rfl
      · exact ⟨a1, rfl, E1.get h3⟩
      · exact ⟨a2, rfl, E1.get h4⟩
    obtain ⟨a, rfl, ha⟩ := this
    simp only [List.length_cons, List.length_nil, Nat.reduceAdd, Nat.reduceEqDiff, if_true, List.map_cons, List.map_nil, Nat.reduceSub, List.replicate, List.cons_append, List.nil_append, R.bind_ok, R.bind_exc, R.bind_bad, R.nox_ok, RS.of_ok, RS.of_exc, List.getElem?_cons_zero, List.getElem?_cons_succ, List.set_cons_zero, List.set_cons_succ, Bool.not_true, Bool.not_false, Bool.false_eq_true, if_false, isNon, gSet, Int.reduceLT, Int.reduceLE, Int.reduceNeg, and_self, Nat.reduceLeDiff, Nat.reduceMul, decide_true, decide_false, Int.reduceEq, eq_self, reduceCtorEq, seq_nx, seq_rt, seq_bad, of_rt, of_nx, trd_rt, trd_nx, r_defn, r_seq, r_try, r_nil, r_expr, r_ret, r_if, r_set, r_asg, r_put, r_attr, r_var, r_c, r_bin, r_un, r_fn, r_fnL, r_call, r_make, made_ok, made_exc, r_eattr, r_ixL, r_new, r_tup, r_disp, r_few, r_eif, r_eand, r_eor, r_enot, r_acons, r_anil, r_astar, r_astarL, r_val, r_tru, r_not, r_and, r_or, r_chain, r_inL, r_m1, r_joinL, r_sl, r_pno, r_pat, v_add, v_sub, v_mod, v_div, v_neg, v_lt, v_le, v_gt, v_ge, v_isN, v_notN, v_intI, v_intB, v_abs, v_strS, v_len, v_ixT, v_ixF, v_eqI, v_neI, v_eqS, v_neS, r_lcomp, r_pval, r_pseq, r_plist, r_planT, r_planS, r_tryO, r_tryA, seq_exc, of_exc, tryO_rt, tryO_nx, tryA_rt, tryA_nx, r_raise, r_raise1, r_xattr, r_slS, r_join, r_dget, r_dict0, r_dput, r_mkx, r_app, str_er hi ha, isi_ss]) (fun w hw => by simp only [List.length_cons, List.length_nil, Nat.reduceAdd, Nat.reduceEqDiff, if_true, List.map_cons, List.map_nil, Nat.reduceSub, List.replicate, List.cons_append, List.nil_append, R.bind_ok, R.bind_exc, R.bind_bad, R.nox_ok, RS.of_ok, RS.of_exc, List.getElem?_cons_zero, List.getElem?_cons_succ, List.set_cons_zero, List.set_cons_succ, Bool.not_true, Bool.not_false, Bool.false_eq_true, if_false, isNon, gSet, Int.reduceLT, Int.reduceLE, Int.reduceNeg, and_self, Nat.reduceLeDiff, Nat.reduceMul, decide_true, decide_false, Int.reduceEq, eq_self, reduceCtorEq, seq_nx, seq_rt, seq_bad, of_rt, of_nx, trd_rt, trd_nx, r_defn, r_seq, r_try, r_nil, r_expr, r_ret, r_if, r_set, r_asg, r_put, r_attr, r_var, r_c, r_bin, r_un, r_fn, r_fnL, r_call, r_make, made_ok, made_exc, r_eattr, r_ixL, r_new, r_tup, r_disp, r_few, r_eif, r_eand, r_eor, r_enot, r_acons, r_anil, r_astar, r_astarL, r_val, r_tru, r_not, r_and, r_or, r_chain, r_inL, r_m1, r_joinL, r_sl, r_pno, r_pat, v_add, v_sub, v_mod, v_div, v_neg, v_lt, v_le, v_gt, v_ge, v_isN, v_notN, v_intI, v_intB, v_abs, v_strS, v_len, v_ixT, v_ixF, v_eqI, v_neI, v_eqS, v_neS, r_lcomp, r_pval, r_pseq, r_plist, r_planT, r_planS, r_tryO, r_tryA, seq_exc, of_exc, tryO_rt, tryO_nx, tryA_rt, tryA_nx, r_raise, r_raise1, r_xattr, r_slS, r_join, r_dget, r_dict0, r_dput, r_mkx, r_app])
  have hp := planR (m := m ++ [O.lst [.ref o, .ref o]]) (n := b) (ws := [.ref a1, .ref a2]) (E1.get h2)
  have eq := eq_same (a := (m ++ [O.lst [.ref o, .ref o]]).length) (b := ((m ++ [O.lst [.ref o, .ref o]]) ++ [O.lst []]).length) (ws := []) (m := ((m ++ [O.lst [.ref o, .ref o]]) ++ [O.lst []]) ++ [O.lst []]) (fun w hw => by cases hw) ((Ext.app _ _).get last_get) last_get
  refine ⟨((m ++ [O.lst [.ref o, .ref o]]) ++ [O.lst []]) ++ [O.lst []], ?_, (E1.add _).add _⟩
  unfold keptD
  simp only [List.length_cons, List.length_nil, List.filter_cons, List.filter_nil, Bool.false_eq_true, if_false, Nat.reduceAdd] at hc
  simp only [List.length_cons, List.length_nil, Nat.reduceAdd, Nat.reduceEqDiff, if_true, List.map_cons, List.map_nil, Nat.reduceSub, List.replicate, List.cons_append, List.nil_append, R.bind_ok, R.bind_exc, R.bind_bad, R.nox_ok, RS.of_ok, RS.of_exc, List.getElem?_cons_zero, List.getElem?_cons_succ, List.set_cons_zero, List.set_cons_succ, Bool.not_true, Bool.not_false, Bool.false_eq_true, if_false, isNon, gSet, Int.reduceLT, Int.reduceLE, Int.reduceNeg, and_self, Nat.reduceLeDiff, Nat.reduceMul, decide_true, decide_false, Int.reduceEq, eq_self, reduceCtorEq, seq_nx, seq_rt, seq_bad, of_rt, of_nx, trd_rt, trd_nx, r_defn, r_seq, r_try, r_nil, r_expr, r_ret, r_if, r_set, r_asg, r_put, r_attr, r_var, r_c, r_bin, r_un, r_fn, r_fnL, r_call, r_make, made_ok, made_exc, r_eattr, r_ixL, r_new, r_tup, r_disp, r_few, r_eif, r_eand, r_eor, r_enot, r_acons, r_anil, r_astar, r_astarL, r_val, r_tru, r_not, r_and, r_or, r_chain, r_inL, r_m1, r_joinL, r_sl, r_pno, r_pat, v_add, v_sub, v_mod, v_div, v_neg, v_lt, v_le, v_gt, v_ge, v_isN, v_notN, v_intI, v_intB, v_abs, v_strS, v_ixT, v_ixF, v_eqI, v_neI, v_eqS, v_neS, r_lcomp, r_pval, r_pseq, r_plist, r_planT, r_planS, r_tryO, r_tryA, seq_exc, of_exc, tryO_rt, tryO_nx, tryA_rt, tryA_nx, r_raise, r_raise1, r_xattr, r_slS, r_join, r_dget, r_dict0, r_dput, r_mkx, r_app, ea, hp, wipeW, hc, eq, Nat.zero_le]
end K90

namespace K90
open PySem Sh
theorem small_kl {k : Int} (hk : 0 ≤ k ∧ k < 8) : Small (.list [.int k, .str (Sh.S mark)]) := by
  have hc : k = 0 ∨ k = 1 ∨ k = 2 ∨ k = 3 ∨ k = 4 ∨ k = 5 ∨ k = 6 ∨ k = 7 := by omega
  rcases hc with rfl | rfl | rfl | rfl | rfl | rfl | rfl | rfl
  · exact ⟨by decide +kernel, by decide, by decide +kernel⟩
  · exact ⟨by decide +kernel, by decide, by decide +kernel⟩
  · exact ⟨by decide +kernel, by decide, by decide +kernel⟩
  · exact ⟨by decide +kernel, by decide, by decide +kernel⟩
  · exact ⟨by decide +kernel, by decide, by decide +kernel⟩
  · exact ⟨by decide +kernel, by decide, by decide +kernel⟩
  · exact ⟨by decide +kernel, by decide, by decide +kernel⟩
  · exact ⟨by decide +kernel, by decide, by decide +kernel⟩
theorem small_kd {k : Int} (hk : 0 ≤ k ∧ k < 8) : Small (.dict [(.str (Sh.S [97]), .int k), (.str (Sh.S mark), .int 0)]) := by
  have hc : k = 0 ∨ k = 1 ∨ k = 2 ∨ k = 3 ∨ k = 4 ∨ k = 5 ∨ k = 6 ∨ k = 7 := by omega
  rcases hc with rfl | rfl | rfl | rfl | rfl | rfl | rfl | rfl
  · exact ⟨by decide +kernel, by decide, by decide +kernel⟩
  · exact ⟨by decide +kernel, by decide, by decide +kernel⟩
  · exact ⟨by decide +kernel, by decide, by decide +kernel⟩
  · exact ⟨by decide +kernel, by decide, by decide +kernel⟩
  · exact ⟨by decide +kernel, by decide, by decide +kernel⟩
  · exact ⟨by decide +kernel, by decide, by decide +kernel⟩
  · exact ⟨by decide +kernel, by decide, by decide +kernel⟩
  · exact ⟨by decide +kernel, by decide, by decide +kernel⟩
def keptV : DS := sSet 2 (eNew (lComp (pVal (eVar 3)) (gSet 4) (tYesB) (eCall d__law_value_of (aCons (eVar 0) (aCons (eVar 4) (aNil)))) [4]))
def keptM : DS := sIf (tVal (eFn (bIsi isiT) (aCons (eVar 1) (aCons (eC (.ty "list")) (aNil))))) (sExpr (eApp (eVar 1) (aCons (eC (.str [109, 97, 114, 107])) (aNil)))) (sDPut (eVar 1) (eC (.str [109, 97, 114, 107])) (eC (.int 0)))
theorem kept_eq : d__law_kept = defn 2 5 (sSeq keptA (sSeq keptV (sSeq keptM (sRet keptD)))) := rfl
theorem keptV_ok {i : Nat} (hi : i < 24) (w : W) (m : Mem) : keptV [some (.int (i : Int)), some w, none, some (.ref (m.length + 2)), none] (two i w m) = .nx [some (.int (i : Int)), some w, some (.ref (two i w m).length), some (.ref (m.length + 2)), none] (two i w m ++ [O.lst [w, w]]) := by
  have hc := comp_map (src := srcLive (m.length + 2)) (ws := [.ref m.length, .ref (m.length + 1)]) (m := two i w m) (k := 4) (e := eCall d__law_value_of (aCons (eVar 0) (aCons (eVar 4) aNil))) (σ := [some (.int (i : Int)), some w, none, some (.ref (m.length + 2)), none]) (f := fun _ => w) (by simp) (live_at (two_2 i w m)) (fun v hv => by
    have : ∃ a, v = .ref a ∧ (two i w m)[a]? = some (X i w) := by
      simp at hv
      rcases hv with rfl | rfl
      · exact ⟨_, rfl, two_0 i w m⟩
      · exact ⟨_, rfl, two_1 i w m⟩
    obtain ⟨a, rfl, ha⟩ := this
    simp only [List.length_cons, List.length_nil, Nat.reduceAdd, Nat.reduceEqDiff, if_true, List.map_cons, List.map_nil, Nat.reduceSub, List.replicate, List.cons_append, List.nil_append, R.bind_ok, R.bind_exc, R.bind_bad, R.nox_ok, RS.of_ok, RS.of_exc, List.getElem?_cons_zero, List.getElem?_cons_succ, List.set_cons_zero, List.set_cons_succ, Bool.not_true, Bool.not_false, Bool.false_eq_true, if_false, isNon, gSet, Int.reduceLT, Int.reduceLE, Int.reduceNeg, and_self, Nat.reduceLeDiff, Nat.reduceMul, decide_true, decide_false, Int.reduceEq, eq_self, reduceCtorEq, seq_nx, seq_rt, seq_bad, of_rt, of_nx, trd_rt, trd_nx, r_defn, r_seq, r_try, r_nil, r_expr, r_ret, r_if, r_set, r_asg, r_put, r_attr, r_var, r_c, r_bin, r_un, r_fn, r_fnL, r_call, r_make, made_ok, made_exc, r_eattr, r_ixL, r_new, r_tup, r_disp, r_few, r_eif, r_eand, r_eor, r_enot, r_acons, r_anil, r_astar, r_astarL, r_val, r_tru, r_not, r_and, r_or, r_chain, r_inL, r_m1, r_joinL, r_sl, r_pno, r_pat, v_add, v_sub, v_mod, v_div, v_neg, v_lt, v_le, v_gt, v_ge, v_isN, v_notN, v_intI, v_intB, v_abs, v_strS, v_len, v_ixT, v_ixF, v_eqI, v_neI, v_eqS, v_neS, r_lcomp, r_pval, r_pseq, r_plist, r_planT, r_planS, r_tryO, r_tryA, seq_exc, of_exc, tryO_rt, tryO_nx, tryA_rt, tryA_nx, r_raise, r_raise1, r_xattr, r_slS, r_join, r_dget, r_dict0, r_dput, r_mkx, r_app, value_ok i hi ha])
  have hp := planR (m := two i w m) (n := m.length + 2) (ws := [.ref m.length, .ref (m.length + 1)]) (two_2 i w m)
  simp only [List.length_cons, List.length_nil, List.map_cons, List.map_nil, Nat.reduceAdd] at hc
  unfold keptV
  simp only [List.length_cons, List.length_nil, Nat.reduceAdd, Nat.reduceEqDiff, if_true, List.map_cons, List.map_nil, Nat.reduceSub, List.replicate, List.cons_append, List.nil_append, R.bind_ok, R.bind_exc, R.bind_bad, R.nox_ok, RS.of_ok, RS.of_exc, List.getElem?_cons_zero, List.getElem?_cons_succ, List.set_cons_zero, List.set_cons_succ, Bool.not_true, Bool.not_false, Bool.false_eq_true, if_false, isNon, gSet, Int.reduceLT, Int.reduceLE, Int.reduceNeg, and_self, Nat.reduceLeDiff, Nat.reduceMul, decide_true, decide_false, Int.reduceEq, eq_self, reduceCtorEq, seq_nx, seq_rt, seq_bad, of_rt, of_nx, trd_rt, trd_nx, r_defn, r_seq, r_try, r_nil, r_expr, r_ret, r_if, r_set, r_asg, r_put, r_attr, r_var, r_c, r_bin, r_un, r_fn, r_fnL, r_call, r_make, made_ok, made_exc, r_eattr, r_ixL, r_new, r_tup, r_disp, r_few, r_eif, r_eand, r_eor, r_enot, r_acons, r_anil, r_astar, r_astarL, r_val, r_tru, r_not, r_and, r_or, r_chain, r_inL, r_m1, r_joinL, r_sl, r_pno, r_pat, v_add, v_sub, v_mod, v_div, v_neg, v_lt, v_le, v_gt, v_ge, v_isN, v_notN, v_intI, v_intB, v_abs, v_strS, v_ixT, v_ixF, v_eqI, v_neI, v_eqS, v_neS, r_lcomp, r_pval, r_pseq, r_plist, r_planT, r_planS, r_tryO, r_tryA, seq_exc, of_exc, tryO_rt, tryO_nx, tryA_rt, tryA_nx, r_raise, r_raise1, r_xattr, r_slS, r_join, r_dget, r_dict0, r_dput, r_mkx, r_app, hp, wipeW, hc]
theorem kept_of {i : Nat} (hi : i < 24) {o : Nat} {m : Mem} (ho : o < m.length) {M3 : Mem} {x : PyData} (e : keptM [some (.int (i : Int)), some (.ref o), some (.ref (two i (.ref o) m).length), some (.ref (m.length + 2)), none] (two i (.ref o) m ++ [O.lst [.ref o, .ref o]]) = .nx [some (.int (i : Int)), some (.ref o), some (.ref (two i (.ref o) m).length), some (.ref (m.length + 2)), none] M3)
    (hG : Grow o (two i (.ref o) m ++ [O.lst [.ref o, .ref o]]) M3) (hd : ∀ l : Mem, datX (M3 ++ l) 29 (.ref o) = some x) (hs : Small x) : ∃ m', d__law_kept [.int (i : Int), .ref o] m = .ok (.bl true) m' ∧ Grow o m m' := by
  have E2 : Ext (two i (.ref o) m) (two i (.ref o) m ++ [O.lst [.ref o, .ref o]]) := .app _ _
  have hl := two_len i (.ref o) m
  obtain ⟨m', e5, E5⟩ := keptD_ok hi (two i (.ref o) m).length (m.length + 2) m.length (m.length + 1) (hG.get (by omega) last_get) (hG.get (by omega) (E2.get (two_2 i (.ref o) m))) (hG.get (by omega) (E2.get (two_0 i (.ref o) m))) (hG.get (by omega) (E2.get (two_1 i (.ref o) m))) hd hs
  refine ⟨m', ?_, ((Grow.ext ((two_ext i (.ref o) m).trans E2)).trans hG).trans (.ext E5)⟩
  rw [kept_eq]
  simp only [r_defn, List.length_cons, List.length_nil, Nat.reduceAdd, if_true, List.map_cons, List.map_nil, Nat.reduceSub, List.replicate, List.cons_append, List.nil_append]
  rw [r_seq, keptA_ok hi, seq_nx, r_seq, keptV_ok hi, seq_nx, r_seq, e, seq_nx, r_ret, e5, RS.of_ok, of_rt]
theorem kept_list {i : Nat} (hi : i < 24) {k : Int} (hk : 0 ≤ k ∧ k < 8) {o : Nat} {m : Mem} (ho : m[o]? = some (.lst [.int k])) : ∃ m', d__law_kept [.int (i : Int), .ref o] m = .ok (.bl true) m' ∧ Grow o m m' := by
  have hlt := (List.getElem?_eq_some_iff.mp ho).1
  have E2 : Ext m (two i (.ref o) m ++ [O.lst [.ref o, .ref o]]) := (two_ext i _ m).trans (.app _ _)
  have g := E2.get ho
  have t1 : bIsi isiT [.ref o, .ty "list"] (two i (.ref o) m ++ [O.lst [.ref o, .ref o]]) = .ok (.bl true) (two i (.ref o) m ++ [O.lst [.ref o, .ref o]]) := by
    unfold bIsi isi1 tyc
    simp only [g]
    rfl
  have il : isLst (two i (.ref o) m ++ [O.lst [.ref o, .ref o]]) (.ref o) = true := by
    unfold isLst
    simp only [g]
  have wa : wApp (.ref o) (.str [109, 97, 114, 107]) (two i (.ref o) m ++ [O.lst [.ref o, .ref o]]) = .ok .non ((two i (.ref o) m ++ [O.lst [.ref o, .ref o]]).set o (.lst [.int k, .str mark])) := by
    unfold wApp
    simp only [g]
    exact if_pos (by simp)
  have g3 : ((two i (.ref o) m ++ [O.lst [.ref o, .ref o]]).set o (.lst [.int k, .str mark]))[o]? = some (.lst [.int k, .str mark]) := List.getElem?_set_self (List.getElem?_eq_some_iff.mp g).1
  refine kept_of hi hlt (M3 := (two i (.ref o) m ++ [O.lst [.ref o, .ref o]]).set o (.lst [.int k, .str mark])) (x := .list [.int k, .str (Sh.S mark)]) (by unfold keptM; simp only [List.length_cons, List.length_nil, Nat.reduceAdd, Nat.reduceEqDiff, if_true, List.map_cons, List.map_nil, Nat.reduceSub, List.replicate, List.cons_append, List.nil_append, R.bind_ok, R.bind_exc, R.bind_bad, R.nox_ok, RS.of_ok, RS.of_exc, List.getElem?_cons_zero, List.getElem?_cons_succ, List.set_cons_zero, List.set_cons_succ, Bool.not_true, Bool.not_false, Bool.false_eq_true, if_false, isNon, gSet, Int.reduceLT, Int.reduceLE, Int.reduceNeg, and_self, Nat.reduceLeDiff, Nat.reduceMul, decide_true, decide_false, Int.reduceEq, eq_self, reduceCtorEq, seq_nx, seq_rt, seq_bad, of_rt, of_nx, trd_rt, trd_nx, r_defn, r_seq, r_try, r_nil, r_expr, r_ret, r_if, r_set, r_asg, r_put, r_attr, r_var, r_c, r_bin, r_un, r_fn, r_fnL, r_call, r_make, made_ok, made_exc, r_eattr, r_ixL, r_new, r_tup, r_disp, r_few, r_eif, r_eand, r_eor, r_enot, r_acons, r_anil, r_astar, r_astarL, r_val, r_tru, r_not, r_and, r_or, r_chain, r_inL, r_m1, r_joinL, r_sl, r_pno, r_pat, v_add, v_sub, v_mod, v_div, v_neg, v_lt, v_le, v_gt, v_ge, v_isN, v_notN, v_intI, v_intB, v_abs, v_strS, v_ixT, v_ixF, v_eqI, v_neI, v_eqS, v_neS, r_lcomp, r_pval, r_pseq, r_plist, r_planT, r_planS, r_tryO, r_tryA, seq_exc, of_exc, tryO_rt, tryO_nx, tryA_rt, tryA_nx, r_raise, r_raise1, r_xattr, r_slS, r_join, r_dget, r_dict0, r_dput, r_mkx, r_app, t1, il, wa]) .set (fun l => ?_) (small_kl hk)
  simp [datX, (Ext.app _ l).get g3, datsX]
theorem kept_dict {i : Nat} (hi : i < 24) {k : Int} (hk : 0 ≤ k ∧ k < 8) {o : Nat} {m : Mem} (ho : m[o]? = some (.dK [(.inr (Sh.S [97]), .int k)])) : ∃ m', d__law_kept [.int (i : Int), .ref o] m = .ok (.bl true) m' ∧ Grow o m m' := by
  have hlt := (List.getElem?_eq_some_iff.mp ho).1
  have E2 : Ext m (two i (.ref o) m ++ [O.lst [.ref o, .ref o]]) := (two_ext i _ m).trans (.app _ _)
  have g := E2.get ho
  have t1 : bIsi isiT [.ref o, .ty "list"] (two i (.ref o) m ++ [O.lst [.ref o, .ref o]]) = .ok (.bl false) (two i (.ref o) m ++ [O.lst [.ref o, .ref o]]) := by
    unfold bIsi isi1 tyc
    simp only [g]
    rfl
  have ep : putKW [((.inr (Sh.S [97]) : L2.Key), W.int k)] (.inr (Sh.S [109, 97, 114, 107])) (.int 0) = [(.inr (Sh.S [97]), .int k), (.inr (Sh.S mark), .int 0)] := by
    have hne : decide ((.inr (Sh.S [97]) : L2.Key) = .inr (Sh.S [109, 97, 114, 107])) = false := by decide
    unfold putKW
    simp only [List.any_cons, List.any_nil, hne, Bool.or_self, Bool.false_eq_true, if_false]
    rfl
  have wa : dPutM (.ref o) (.str [109, 97, 114, 107]) (.int 0) (two i (.ref o) m ++ [O.lst [.ref o, .ref o]]) = some ((two i (.ref o) m ++ [O.lst [.ref o, .ref o]]).set o (.dK [(.inr (Sh.S [97]), .int k), (.inr (Sh.S mark), .int 0)])) := by
    unfold dPutM
    simp only [g, keyW, ep]
    rfl
  have g3 : ((two i (.ref o) m ++ [O.lst [.ref o, .ref o]]).set o (.dK [(.inr (Sh.S [97]), .int k), (.inr (Sh.S mark), .int 0)]))[o]? = some (.dK [(.inr (Sh.S [97]), .int k), (.inr (Sh.S mark), .int 0)]) := List.getElem?_set_self (List.getElem?_eq_some_iff.mp g).1
  refine kept_of hi hlt (M3 := (two i (.ref o) m ++ [O.lst [.ref o, .ref o]]).set o (.dK [(.inr (Sh.S [97]), .int k), (.inr (Sh.S mark), .int 0)])) (x := .dict [(.str (Sh.S [97]), .int k), (.str (Sh.S mark), .int 0)]) (by unfold keptM; simp only [List.length_cons, List.length_nil, Nat.reduceAdd, Nat.reduceEqDiff, if_true, List.map_cons, List.map_nil, Nat.reduceSub, List.replicate, List.cons_append, List.nil_append, R.bind_ok, R.bind_exc, R.bind_bad, R.nox_ok, RS.of_ok, RS.of_exc, List.getElem?_cons_zero, List.getElem?_cons_succ, List.set_cons_zero, List.set_cons_succ, Bool.not_true, Bool.not_false, Bool.false_eq_true, if_false, isNon, gSet, Int.reduceLT, Int.reduceLE, Int.reduceNeg, and_self, Nat.reduceLeDiff, Nat.reduceMul, decide_true, decide_false, Int.reduceEq, eq_self, reduceCtorEq, seq_nx, seq_rt, seq_bad, of_rt, of_nx, trd_rt, trd_nx, r_defn, r_seq, r_try, r_nil, r_expr, r_ret, r_if, r_set, r_asg, r_put, r_attr, r_var, r_c, r_bin, r_un, r_fn, r_fnL, r_call, r_make, made_ok, made_exc, r_eattr, r_ixL, r_new, r_tup, r_disp, r_few, r_eif, r_eand, r_eor, r_enot, r_acons, r_anil, r_astar, r_astarL, r_val, r_tru, r_not, r_and, r_or, r_chain, r_inL, r_m1, r_joinL, r_sl, r_pno, r_pat, v_add, v_sub, v_mod, v_div, v_neg, v_lt, v_le, v_gt, v_ge, v_isN, v_notN, v_intI, v_intB, v_abs, v_strS, v_ixT, v_ixF, v_eqI, v_neI, v_eqS, v_neS, r_lcomp, r_pval, r_pseq, r_plist, r_planT, r_planS, r_tryO, r_tryA, seq_exc, of_exc, tryO_rt, tryO_nx, tryA_rt, tryA_nx, r_raise, r_raise1, r_xattr, r_slS, r_join, r_dget, r_dict0, r_dput, r_mkx, r_app, t1, wa]) .set (fun l => ?_) (small_kd hk)
  simp [datX, (Ext.app _ l).get g3, datsX, keyD]
end K90

namespace K90
open PySem Sh
/-! ### kinds -/
def names : List String := ["NoName", "NoValue", "NoOperator", "NoStatement", "NoText", "NoNumber", "NoInputs", "NoExpression", "NoPoint", "NoPlacement", "NoPath", "NotClosed", "NoPrice", "NoCounts", "NoPairs", "NoProgram", "Idle", "NoNode", "NoEdge", "NoPlace", "NoStep", "NoEdit", "Unfit", "TooLong", "NothingToUndo"]
theorem isi_exc {a : Nat} {m : Mem} {c d : String} (hc : tyc (.ref a) m = some (.xc c)) (h1 : c ∈ famL) (h2 : d ∈ famL) : bIsi isiT [.ref a, .cls d] m = .ok (.bl (decide (c = d))) m := by
  have e : isiT (.xc c) (.own d) = some (decide (c = d)) := if_pos ⟨h1, h2⟩
  have e1 : isi1 isiT (.ref a) (.cls d) m = some (decide (c = d)) := by
    unfold isi1
    rw [hc]
    exact e
  show (match isi1 isiT (.ref a) (.cls d) m with | some b => R.ok (W.bl b) m | none => .bad) = _
  rw [e1]
theorem isi_pe {a : Nat} {m : Mem} {c : String} (hc : tyc (.ref a) m = some (.xc c)) (h1 : c ∈ famL) : bIsi isiT [.ref a, .cls "PlaceError"] m = .ok (.bl true) m := by
  have hn : ¬ ("PlaceError" ∈ famL) := by decide
  have e : isiT (.xc c) (.own "PlaceError") = some true := by
    show (if c ∈ famL ∧ "PlaceError" ∈ famL then some (decide (c = "PlaceError")) else if c ∈ famL ∧ "PlaceError" = "PlaceError" then some true else none) = _
    rw [if_neg (fun z => hn z.2), if_pos ⟨h1, rfl⟩]
  have e1 : isi1 isiT (.ref a) (.cls "PlaceError") m = some (true) := by
    unfold isi1
    rw [hc]
    exact e
  show (match isi1 isiT (.ref a) (.cls "PlaceError") m with | some b => R.ok (W.bl b) m | none => .bad) = _
  rw [e1]
theorem isi_ve {a : Nat} {m : Mem} {c : String} (hc : tyc (.ref a) m = some (.xc c)) (h1 : c ∈ famL) : bIsi isiT [.ref a, .ty "ValueError"] m = .ok (.bl true) m := by
  have e : isiT (.xc c) (.bi "ValueError") = some true := if_pos ⟨h1, rfl⟩
  have e1 : isi1 isiT (.ref a) (.ty "ValueError") m = some (true) := by
    unfold isi1
    rw [hc]
    exact e
  show (match isi1 isiT (.ref a) (.ty "ValueError") m with | some b => R.ok (W.bl b) m | none => .bad) = _
  rw [e1]
theorem tyc_ext {a : Nat} {m m' : Mem} {c : String} (E : Ext m m') (h : tyc (.ref a) m = some (.xc c)) : tyc (.ref a) m' = some (.xc c) := by
  unfold tyc at h ⊢
  cases hm : m[a]? with
  | none => simp [hm] at h
  | some o =>
    have g := E.get hm
    simp only [hm] at h
    simp only [g]
    exact h
theorem app_lst {a : Nat} {ws : List W} {y : W} {m : Mem} (h : m[a]? = some (.lst ws)) (hl : ws.length < 1000000) : wApp (.ref a) y m = .ok .non (m.set a (.lst (ws ++ [y]))) := by
  unfold wApp
  simp only [h]
  exact if_pos hl
def isiE (A : String) : DE := eFn (bIsi isiT) (aCons (eVar 0) (aCons (eC (.cls A)) (aNil)))
def tri (A B C : String) : DL := aCons (isiE A) (aCons (isiE B) (aCons (isiE C) (aNil)))
def addB (A B C : String) : DS := sSet 1 (eBin wAdd (eVar 1) (eNew (lDisp (tri A B C))))
def lastK : DS := sRet (eNew (lComp (pEnum (pSeq (eVar 1))) (gSeq [gSet 2, gSet 3]) (tTru (eVar 3)) (eVar 2) [2, 3]))
theorem kinds_eq : d__law_kinds = defn 1 4 (sSeq (sSet 1 (eNew (lDisp (tri "NoName" "NoValue" "NoOperator")))) (sSeq (addB "NoStatement" "NoText" "NoNumber") (sSeq (addB "NoInputs" "NoExpression" "NoPoint") (sSeq (addB "NoPlacement" "NoPath" "NotClosed") (sSeq (addB "NoPrice" "NoCounts" "NoPairs") (sSeq (addB "NoProgram" "Idle" "NoNode") (sSeq (addB "NoEdge" "NoPlace" "NoStep") (sSeq (addB "NoEdit" "Unfit" "TooLong") (sSeq (sExpr (eApp (eVar 1) (aCons (isiE "NothingToUndo") (aNil)))) lastK))))))))) := rfl
theorem tri_ok {a : Nat} {m : Mem} {c A B C : String} (hc : tyc (.ref a) m = some (.xc c)) (h1 : c ∈ famL) (hA : A ∈ famL) (hB : B ∈ famL) (hC : C ∈ famL) (x1 : Option W) : tri A B C [some (.ref a), x1, none, none] m = .ok [.bl (decide (c = A)), .bl (decide (c = B)), .bl (decide (c = C))] m := by
  unfold tri isiE
  simp only [List.length_cons, List.length_nil, Nat.reduceAdd, Nat.reduceEqDiff, if_true, List.map_cons, List.map_nil, Nat.reduceSub, List.replicate, List.cons_append, List.nil_append, R.bind_ok, R.bind_exc, R.bind_bad, R.nox_ok, RS.of_ok, RS.of_exc, List.getElem?_cons_zero, List.getElem?_cons_succ, List.set_cons_zero, List.set_cons_succ, Bool.not_true, Bool.not_false, Bool.false_eq_true, if_false, isNon, gSet, Int.reduceLT, Int.reduceLE, Int.reduceNeg, and_self, Nat.reduceLeDiff, Nat.reduceMul, decide_true, decide_false, Int.reduceEq, eq_self, reduceCtorEq, seq_nx, seq_rt, seq_bad, of_rt, of_nx, trd_rt, trd_nx, r_defn, r_seq, r_try, r_nil, r_expr, r_ret, r_if, r_set, r_asg, r_put, r_attr, r_var, r_c, r_bin, r_un, r_fn, r_fnL, r_call, r_make, made_ok, made_exc, r_eattr, r_ixL, r_new, r_tup, r_disp, r_few, r_eif, r_eand, r_eor, r_enot, r_acons, r_anil, r_astar, r_astarL, r_val, r_tru, r_not, r_and, r_or, r_chain, r_inL, r_m1, r_joinL, r_sl, r_pno, r_pat, v_add, v_sub, v_mod, v_div, v_neg, v_lt, v_le, v_gt, v_ge, v_isN, v_notN, v_intI, v_intB, v_abs, v_strS, v_ixT, v_ixF, v_eqI, v_neI, v_eqS, v_neS, r_lcomp, r_pval, r_pseq, r_plist, r_planT, r_planS, r_tryO, r_tryA, seq_exc, of_exc, tryO_rt, tryO_nx, tryA_rt, tryA_nx, r_raise, r_raise1, r_xattr, r_slS, r_join, r_dget, r_dict0, r_dput, r_mkx, r_app, isi_exc hc h1 hA, isi_exc hc h1 hB, isi_exc hc h1 hC]
theorem addB_ok {a L : Nat} {m : Mem} {c A B C : String} {bs : List Bool} (hL : m[L]? = some (.lst (bs.map W.bl))) (hn : bs.length ≤ 100) (hc : tyc (.ref a) m = some (.xc c)) (h1 : c ∈ famL) (hA : A ∈ famL) (hB : B ∈ famL) (hC : C ∈ famL) :
    ∃ L' m', addB A B C [some (.ref a), some (.ref L), none, none] m = .nx [some (.ref a), some (.ref L'), none, none] m' ∧ Ext m m' ∧ m'[L']? = some (.lst ((bs ++ [decide (c = A), decide (c = B), decide (c = C)]).map W.bl)) ∧ m.length ≤ L' := by
  have E1 : Ext m (m ++ [O.lst [.bl (decide (c = A)), .bl (decide (c = B)), .bl (decide (c = C))]]) := .app _ _
  have ea := wAdd_lst (E1.get hL) last_get (by simp; omega)
  refine ⟨_, _, ?_, E1.add [O.lst (bs.map W.bl ++ [.bl (decide (c = A)), .bl (decide (c = B)), .bl (decide (c = C))])], by rw [List.map_append]; exact last_get, by simp⟩
  unfold addB
  simp only [List.length_cons, List.length_nil, Nat.reduceAdd, Nat.reduceEqDiff, if_true, List.map_cons, List.map_nil, Nat.reduceSub, List.replicate, List.cons_append, List.nil_append, R.bind_ok, R.bind_exc, R.bind_bad, R.nox_ok, RS.of_ok, RS.of_exc, List.getElem?_cons_zero, List.getElem?_cons_succ, List.set_cons_zero, List.set_cons_succ, Bool.not_true, Bool.not_false, Bool.false_eq_true, if_false, isNon, gSet, Int.reduceLT, Int.reduceLE, Int.reduceNeg, and_self, Nat.reduceLeDiff, Nat.reduceMul, decide_true, decide_false, Int.reduceEq, eq_self, reduceCtorEq, seq_nx, seq_rt, seq_bad, of_rt, of_nx, trd_rt, trd_nx, r_defn, r_seq, r_try, r_nil, r_expr, r_ret, r_if, r_set, r_asg, r_put, r_attr, r_var, r_c, r_bin, r_un, r_fn, r_fnL, r_call, r_make, made_ok, made_exc, r_eattr, r_ixL, r_new, r_tup, r_disp, r_few, r_eif, r_eand, r_eor, r_enot, r_acons, r_anil, r_astar, r_astarL, r_val, r_tru, r_not, r_and, r_or, r_chain, r_inL, r_m1, r_joinL, r_sl, r_pno, r_pat, v_add, v_sub, v_mod, v_div, v_neg, v_lt, v_le, v_gt, v_ge, v_isN, v_notN, v_intI, v_intB, v_abs, v_strS, v_ixT, v_ixF, v_eqI, v_neI, v_eqS, v_neS, r_lcomp, r_pval, r_pseq, r_plist, r_planT, r_planS, r_tryO, r_tryA, seq_exc, of_exc, tryO_rt, tryO_nx, tryA_rt, tryA_nx, r_raise, r_raise1, r_xattr, r_slS, r_join, r_dget, r_dict0, r_dput, r_mkx, r_app, tri_ok hc h1 hA hB hC, ea]
/-! the places of the true ones -/
def pick : Nat → List Bool → List Nat
  | _, [] => []
  | i, b :: bs => if b = true then i :: pick (i + 1) bs else pick (i + 1) bs
theorem comp_enum {L : Nat} {bs : List Bool} {m : Mem} (h : m[L]? = some (.lst (bs.map W.bl))) (hn : bs.length ≤ 100) (x0 x1 : Option W) : compLoop (srcEnum (srcLive L)) (gSeq [gSet 2, gSet 3]) (tTru (eVar 3)) (eVar 2) [x0, x1, none, none] (bs.length + 1) 0 [] m = .ok ((pick 0 bs).map fun i : Nat => W.int (i : Int)) m := by
  have go : ∀ (n i : Nat) (acc : List W), i + n = bs.length → acc.length ≤ i → compLoop (srcEnum (srcLive L)) (gSeq [gSet 2, gSet 3]) (tTru (eVar 3)) (eVar 2) [x0, x1, none, none] (n + 1) i acc m = .ok (acc ++ (pick i (bs.drop i)).map fun i : Nat => W.int (i : Int)) m := by
    intro n
    induction n with
    | zero =>
      intro i acc hi _
      have e1 : (bs.map W.bl)[i]? = none := by simp; omega
      have e2 : bs.drop i = [] := by simp; omega
      unfold compLoop
      simp only [srcEnum, live_at h, e1, Option.map_some, Option.map_none, e2, pick]
      simp
    | succ n ih =>
      intro i acc hi ha
      have hlt : i < bs.length := by omega
      have e1 : (bs.map W.bl)[i]? = some (.bl bs[i]) := by simp [hlt]
      have hd : bs.drop i = bs[i] :: bs.drop (i + 1) := List.drop_eq_getElem_cons hlt
      unfold compLoop
      have eg : gSeq [gSet 2, gSet 3] (.tup [.int (i : Int), .bl bs[i]]) [x0, x1, none, none] m = .ok [x0, x1, some (.int (i : Int)), some (.bl bs[i])] m := rfl
      have et : tTru (eVar 3) [x0, x1, some (.int (i : Int)), some (.bl bs[i])] m = .ok bs[i] m := rfl
      have ee : eVar 2 [x0, x1, some (.int (i : Int)), some (.bl bs[i])] m = .ok (.int (i : Int)) m := rfl
      simp only [srcEnum, live_at h, e1, Option.map_some, eg, et, ee, R.nox_ok, R.bind_ok]
      rw [hd]
      cases hb : bs[i] with
      | true =>
        simp only [if_true, pick]
        rw [if_pos (by omega), ih (i + 1) (acc ++ [W.int (i : Int)]) (by omega) (by simp; omega)]
        simp
      | false =>
        simp only [Bool.false_eq_true, if_false, pick]
        rw [ih (i + 1) acc (by omega) (by omega)]
  have := go bs.length 0 [] (by omega) (by simp)
  simpa using this
def kindsB (c : String) : List Bool := names.map fun d => decide (c = d)
theorem kinds_list (c : String) : ([decide (c = "NoName"), decide (c = "NoValue"), decide (c = "NoOperator")] ++ [decide (c = "NoStatement"), decide (c = "NoText"), decide (c = "NoNumber")] ++ [decide (c = "NoInputs"), decide (c = "NoExpression"), decide (c = "NoPoint")] ++ [decide (c = "NoPlacement"), decide (c = "NoPath"), decide (c = "NotClosed")] ++ [decide (c = "NoPrice"), decide (c = "NoCounts"), decide (c = "NoPairs")] ++ [decide (c = "NoProgram"), decide (c = "Idle"), decide (c = "NoNode")] ++ [decide (c = "NoEdge"), decide (c = "NoPlace"), decide (c = "NoStep")] ++ [decide (c = "NoEdit"), decide (c = "Unfit"), decide (c = "TooLong")]).map W.bl ++ [W.bl (decide (c = "NothingToUndo"))] = (kindsB c).map W.bl := by
  simp only [kindsB, names, List.map_cons, List.map_nil, List.cons_append, List.nil_append]
theorem kinds_len (c : String) : (kindsB c).length = 25 := by
  simp only [kindsB, names, List.map_cons, List.map_nil, List.length_cons, List.length_nil]
theorem kinds_pick (w : Nat) (hw : w < 25) : pick 0 (kindsB (names.getD w "")) = [w] := by
  have key : ∀ w : Fin 25, pick 0 (kindsB (names.getD w "")) = [(w : Nat)] := by decide +kernel
  exact key ⟨w, hw⟩
theorem names_fam : ∀ d ∈ names, d ∈ famL := by decide
theorem name_mem {w : Nat} (hw : w < 25) : names.getD w "" ∈ famL := by
  have key : ∀ w : Fin 25, names.getD w "" ∈ famL := by decide
  exact key ⟨w, hw⟩
theorem planLR' {n : Nat} {ws : List W} {m : Mem} (h : m[n]? = some (.lst ws)) : planL (.ref n) m = .ok ⟨ws.length, srcLive n⟩ m := planLR h
theorem lastK_ok {L w : Nat} {bs : List Bool} {m : Mem} (h : m[L]? = some (.lst (bs.map W.bl))) (hn : bs.length ≤ 100) (hp : pick 0 bs = [w]) (x0 : Option W) : lastK [x0, some (.ref L), none, none] m = .rt (.ref m.length) (m ++ [O.lst [.int (w : Int)]]) := by
  have hcmp := comp_enum h hn x0 (some (.ref L))
  rw [hp] at hcmp
  have hpl := planLR h
  rw [List.length_map] at hpl
  unfold lastK
  simp only [r_ret, r_new, r_lcomp, pEnum, r_pseq, r_var, List.getElem?_cons_zero, List.getElem?_cons_succ, R.bind_ok, hpl, enumPlan, wipeW, List.set_cons_zero, List.set_cons_succ, hcmp, List.map_cons, List.map_nil, RS.of_ok]
/-- what stood stays -/
structure Kp (m m' : Mem) : Prop where
  le : m.length ≤ m'.length
  at_ : ∀ i, i < m.length → m'[i]? = m[i]?
theorem Kp.ext {m m' : Mem} (E : Ext m m') : Kp m m' := by
  obtain ⟨l, rfl⟩ := E
  exact ⟨by simp, fun i h => List.getElem?_append_left h⟩
theorem Kp.trans {m m1 m2 : Mem} (a : Kp m m1) (b : Kp m1 m2) : Kp m m2 := ⟨Nat.le_trans a.le b.le, fun i h => (b.at_ i (Nat.lt_of_lt_of_le h a.le)).trans (a.at_ i h)⟩
theorem Kp.get {m m' : Mem} (k : Kp m m') {i : Nat} {o : O} (h : m[i]? = some o) : m'[i]? = some o := (k.at_ i (List.getElem?_eq_some_iff.mp h).1).trans h
theorem kinds_ok {w : Nat} (hw : w < 25) {a : Nat} {m : Mem} (hc : tyc (.ref a) m = some (.xc (names.getD w ""))) : ∃ n m', d__law_kinds [.ref a] m = .ok (.ref n) m' ∧ Kp m m' ∧ m'[n]? = some (.lst [.int (w : Int)]) := by
  have h1 := name_mem hw
  generalize hcn : names.getD w "" = c at hc h1
  have E1 : Ext m (m ++ [O.lst [.bl (decide (c = "NoName")), .bl (decide (c = "NoValue")), .bl (decide (c = "NoOperator"))]]) := .app _ _
  have s1 : sSet 1 (eNew (lDisp (tri "NoName" "NoValue" "NoOperator"))) [some (.ref a), none, none, none] m = .nx [some (.ref a), some (.ref m.length), none, none] (m ++ [O.lst [.bl (decide (c = "NoName")), .bl (decide (c = "NoValue")), .bl (decide (c = "NoOperator"))]]) := by
    simp only [List.length_cons, List.length_nil, Nat.reduceAdd, Nat.reduceEqDiff, if_true, List.map_cons, List.map_nil, Nat.reduceSub, List.replicate, List.cons_append, List.nil_append, R.bind_ok, R.bind_exc, R.bind_bad, R.nox_ok, RS.of_ok, RS.of_exc, List.getElem?_cons_zero, List.getElem?_cons_succ, List.set_cons_zero, List.set_cons_succ, Bool.not_true, Bool.not_false, Bool.false_eq_true, if_false, isNon, gSet, Int.reduceLT, Int.reduceLE, Int.reduceNeg, and_self, Nat.reduceLeDiff, Nat.reduceMul, decide_true, decide_false, Int.reduceEq, eq_self, reduceCtorEq, seq_nx, seq_rt, seq_bad, of_rt, of_nx, trd_rt, trd_nx, r_defn, r_seq, r_try, r_nil, r_expr, r_ret, r_if, r_set, r_asg, r_put, r_attr, r_var, r_c, r_bin, r_un, r_fn, r_fnL, r_call, r_make, made_ok, made_exc, r_eattr, r_ixL, r_new, r_tup, r_disp, r_few, r_eif, r_eand, r_eor, r_enot, r_acons, r_anil, r_astar, r_astarL, r_val, r_tru, r_not, r_and, r_or, r_chain, r_inL, r_m1, r_joinL, r_sl, r_pno, r_pat, v_add, v_sub, v_mod, v_div, v_neg, v_lt, v_le, v_gt, v_ge, v_isN, v_notN, v_intI, v_intB, v_abs, v_strS, v_ixT, v_ixF, v_eqI, v_neI, v_eqS, v_neS, r_lcomp, r_pval, r_pseq, r_plist, r_planT, r_planS, r_tryO, r_tryA, seq_exc, of_exc, tryO_rt, tryO_nx, tryA_rt, tryA_nx, r_raise, r_raise1, r_xattr, r_slS, r_join, r_dget, r_dict0, r_dput, r_mkx, r_app, tri_ok hc h1 (names_fam "NoName" (by decide)) (names_fam "NoValue" (by decide)) (names_fam "NoOperator" (by decide))]
  obtain ⟨L2, m2, s2, E2, g2, L2_le⟩ := addB_ok (bs := [decide (c = "NoName"), decide (c = "NoValue"), decide (c = "NoOperator")]) (L := m.length) (A := "NoStatement") (B := "NoText") (C := "NoNumber") last_get (by simp) (tyc_ext E1 hc) h1 (by decide) (by decide) (by decide)
  have X2 := E1.trans E2
  obtain ⟨L3, m3, s3, E3, g3, L3_le⟩ := addB_ok (A := "NoInputs") (B := "NoExpression") (C := "NoPoint") g2 (by simp) (tyc_ext X2 hc) h1 (by decide) (by decide) (by decide)
  have X3 := X2.trans E3
  obtain ⟨L4, m4, s4, E4, g4, L4_le⟩ := addB_ok (A := "NoPlacement") (B := "NoPath") (C := "NotClosed") g3 (by simp) (tyc_ext X3 hc) h1 (by decide) (by decide) (by decide)
  have X4 := X3.trans E4
  obtain ⟨L5, m5, s5, E5, g5, L5_le⟩ := addB_ok (A := "NoPrice") (B := "NoCounts") (C := "NoPairs") g4 (by simp) (tyc_ext X4 hc) h1 (by decide) (by decide) (by decide)
  have X5 := X4.trans E5
  obtain ⟨L6, m6, s6, E6, g6, L6_le⟩ := addB_ok (A := "NoProgram") (B := "Idle") (C := "NoNode") g5 (by simp) (tyc_ext X5 hc) h1 (by decide) (by decide) (by decide)
  have X6 := X5.trans E6
  obtain ⟨L7, m7, s7, E7, g7, L7_le⟩ := addB_ok (A := "NoEdge") (B := "NoPlace") (C := "NoStep") g6 (by simp) (tyc_ext X6 hc) h1 (by decide) (by decide) (by decide)
  have X7 := X6.trans E7
  obtain ⟨L8, m8, s8, E8, g8, L8_le⟩ := addB_ok (A := "NoEdit") (B := "Unfit") (C := "TooLong") g7 (by simp) (tyc_ext X7 hc) h1 (by decide) (by decide) (by decide)
  have X8 := X7.trans E8
  have i9 := isi_exc (tyc_ext X8 hc) h1 (names_fam "NothingToUndo" (by decide))
  have w9 := app_lst (y := .bl (decide (c = "NothingToUndo"))) g8 (by simp)
  have il : isLst m8 (.ref L8) = true := by
    unfold isLst
    simp only [g8]
  have hL8 : L8 < m8.length := (List.getElem?_eq_some_iff.mp g8).1
  have hge : m.length ≤ L8 := by
    obtain ⟨l, hl⟩ := X7
    have := congrArg List.length hl
    simp at this
    omega
  have hm : ∀ ws : List W, (m8.set L8 (.lst ws))[L8]? = some (.lst ws) := fun ws => List.getElem?_set_self hL8
  have hks := kinds_list c
  rw [hks] at w9
  have K9 : Kp m (m8.set L8 (.lst ((kindsB c).map W.bl))) := ⟨by obtain ⟨l, hl⟩ := X8; rw [hl]; simp, fun i h => by
    rw [List.getElem?_set_ne (by omega)]
    obtain ⟨l, hl⟩ := X8
    rw [hl]
    exact List.getElem?_append_left h⟩
  refine ⟨(m8.set L8 (.lst ((kindsB c).map W.bl))).length, m8.set L8 (.lst ((kindsB c).map W.bl)) ++ [O.lst [.int (w : Int)]], ?_, K9.trans (.ext (.app _ _)), last_get⟩
  have s9 : sExpr (eApp (eVar 1) (aCons (isiE "NothingToUndo") (aNil))) [some (.ref a), some (.ref L8), none, none] m8 = .nx [some (.ref a), some (.ref L8), none, none] (m8.set L8 (.lst ((kindsB c).map W.bl))) := by
    unfold isiE
    simp only [List.length_cons, List.length_nil, Nat.reduceAdd, Nat.reduceEqDiff, if_true, List.map_cons, List.map_nil, Nat.reduceSub, List.replicate, List.cons_append, List.nil_append, R.bind_ok, R.bind_exc, R.bind_bad, R.nox_ok, RS.of_ok, RS.of_exc, List.getElem?_cons_zero, List.getElem?_cons_succ, List.set_cons_zero, List.set_cons_succ, Bool.not_true, Bool.not_false, Bool.false_eq_true, if_false, isNon, gSet, Int.reduceLT, Int.reduceLE, Int.reduceNeg, and_self, Nat.reduceLeDiff, Nat.reduceMul, decide_true, decide_false, Int.reduceEq, eq_self, reduceCtorEq, seq_nx, seq_rt, seq_bad, of_rt, of_nx, trd_rt, trd_nx, r_defn, r_seq, r_try, r_nil, r_expr, r_ret, r_if, r_set, r_asg, r_put, r_attr, r_var, r_c, r_bin, r_un, r_fn, r_fnL, r_call, r_make, made_ok, made_exc, r_eattr, r_ixL, r_new, r_tup, r_disp, r_few, r_eif, r_eand, r_eor, r_enot, r_acons, r_anil, r_astar, r_astarL, r_val, r_tru, r_not, r_and, r_or, r_chain, r_inL, r_m1, r_joinL, r_sl, r_pno, r_pat, v_add, v_sub, v_mod, v_div, v_neg, v_lt, v_le, v_gt, v_ge, v_isN, v_notN, v_intI, v_intB, v_abs, v_strS, v_ixT, v_ixF, v_eqI, v_neI, v_eqS, v_neS, r_lcomp, r_pval, r_pseq, r_plist, r_planT, r_planS, r_tryO, r_tryA, seq_exc, of_exc, tryO_rt, tryO_nx, tryA_rt, tryA_nx, r_raise, r_raise1, r_xattr, r_slS, r_join, r_dget, r_dict0, r_dput, r_mkx, r_app, il, i9, w9]
  have s10 := lastK_ok (m := m8.set L8 (.lst ((kindsB c).map W.bl))) (hm _) (by rw [kinds_len]; decide) (by rw [← hcn]; exact kinds_pick w hw : pick 0 (kindsB c) = [w]) (some (.ref a))
  simp only [List.map_cons, List.map_nil] at s2
  rw [kinds_eq]
  simp only [r_defn, List.length_cons, List.length_nil, Nat.reduceAdd, if_true, List.map_cons, List.map_nil, Nat.reduceSub, List.replicate, List.cons_append, List.nil_append]
  rw [r_seq, s1, seq_nx, r_seq, s2, seq_nx, r_seq, s3, seq_nx, r_seq, s4, seq_nx, r_seq, s5, seq_nx, r_seq, s6, seq_nx, r_seq, s7, seq_nx, r_seq, s8, seq_nx, r_seq, s9, seq_nx, s10, of_rt]
end K90

namespace K90
open PySem Sh
/-! ### great numbers -/
def B1 : Int := 10 ^ 50
theorem B1_pos : 1 ≤ B1 := by unfold B1; decide
theorem B1_big : (10 ^ 50 : Int).natAbs < 2 ^ 167 := by decide
theorem pow_ge (i : Nat) : 1 ≤ B1 ^ i := by
  induction i with
  | zero => simp
  | succ i ih =>
    rw [Int.pow_succ]
    have := B1_pos
    calc (1 : Int) = 1 * 1 := by simp
      _ ≤ B1 ^ i * B1 := Int.mul_le_mul ih this (by decide) (by omega)
theorem pow_abs (i : Nat) : (B1 ^ i).natAbs ≤ 2 ^ (167 * i) := by
  have h : (B1).natAbs ≤ 2 ^ 167 := Nat.le_of_lt B1_big
  rw [Int.natAbs_pow, Nat.pow_mul]
  exact Nat.pow_le_pow_left h i
theorem pow_big {i : Nat} (h : i ≤ 100) : (B1 ^ i).natAbs < big := Nat.lt_of_le_of_lt (pow_abs i) (Nat.pow_lt_pow_right (by decide) (by omega))
def G : Int := B1 ^ 60
def mulB : DS := sSet 1 (eBin wMul (eVar 1) (eBin wPow (eC (.int 10)) (eC (.int 50))))
theorem plan60 (σ : Sh.Loc) (m : Mem) : pRange1 (aCons (eC (.int 60)) (aNil)) σ m = .ok ⟨60, srcRange 0 60⟩ m := rfl
theorem muls_ok (x0 x3 x4 : Option W) (m : Mem) : ∃ x2, sFor (pRange1 (aCons (eC (.int 60)) (aNil))) (gSet 2) mulB [x0, some (.int 1), none, x3, x4] m = .nx [x0, some (.int G), x2, x3, x4] m := by
  unfold sFor
  rw [plan60, RS.of_ok]
  obtain ⟨σ', m', e, x2, rfl, rfl⟩ := forLoop_nx (src := srcRange 0 60) (h := gSet 2) (b := mulB) (N := 60)
    (fun i σ' m' => ∃ x2, σ' = [x0, some (.int (B1 ^ i)), x2, x3, x4] ∧ m' = m)
    (fun i σ m1 hi ⟨y1, hσ, hm⟩ => by
      subst hσ; subst hm
      have em : wMul (.int (B1 ^ i)) (.int (10 ^ 50)) m1 = .ok (.int (B1 ^ (i + 1))) m1 := by
        rw [Int.pow_succ]
        unfold wMul
        exact if_pos ⟨pow_big (by omega), Nat.lt_trans B1_big (Nat.pow_lt_pow_right (by decide) (by decide))⟩
      refine ⟨.int (0 + (i : Int)), [x0, some (.int (B1 ^ i)), some (.int (0 + (i : Int))), x3, x4], m1, [x0, some (.int (B1 ^ (i + 1))), some (.int (0 + (i : Int))), x3, x4], m1, ?_, rfl, ?_, some (.int (0 + (i : Int))), rfl, rfl⟩
      · show some (if i < 60 then _ else _) = _
        rw [if_pos hi]
      · unfold mulB
        simp only [List.length_cons, List.length_nil, Nat.reduceAdd, Nat.reduceEqDiff, if_true, List.map_cons, List.map_nil, Nat.reduceSub, List.replicate, List.cons_append, List.nil_append, R.bind_ok, R.bind_exc, R.bind_bad, R.nox_ok, RS.of_ok, RS.of_exc, List.getElem?_cons_zero, List.getElem?_cons_succ, List.set_cons_zero, List.set_cons_succ, Bool.not_true, Bool.not_false, Bool.false_eq_true, if_false, isNon, gSet, Int.reduceLT, Int.reduceLE, Int.reduceNeg, and_self, Nat.reduceLeDiff, Nat.reduceMul, decide_true, decide_false, Int.reduceEq, eq_self, reduceCtorEq, seq_nx, seq_rt, seq_bad, of_rt, of_nx, trd_rt, trd_nx, r_defn, r_seq, r_try, r_nil, r_expr, r_ret, r_if, r_set, r_asg, r_put, r_attr, r_var, r_c, r_bin, r_un, r_fn, r_fnL, r_call, r_make, made_ok, made_exc, r_eattr, r_ixL, r_new, r_tup, r_disp, r_few, r_eif, r_eand, r_eor, r_enot, r_acons, r_anil, r_astar, r_astarL, r_val, r_tru, r_not, r_and, r_or, r_chain, r_inL, r_m1, r_joinL, r_sl, r_pno, r_pat, v_add, v_sub, v_mod, v_div, v_neg, v_lt, v_le, v_gt, v_ge, v_isN, v_notN, v_intI, v_intB, v_abs, v_strS, v_ixT, v_ixF, v_eqI, v_neI, v_eqS, v_neS, r_lcomp, r_pval, r_pseq, r_plist, r_planT, r_planS, r_tryO, r_tryA, seq_exc, of_exc, tryO_rt, tryO_nx, tryA_rt, tryA_nx, r_raise, r_raise1, r_xattr, r_slS, r_join, r_dget, r_dict0, r_dput, r_mkx, r_app, p50, em])
    (fun σ m' _ => rfl) 60 0 [x0, some (.int 1), none, x3, x4] m (by omega) ⟨none, rfl, rfl⟩
  exact ⟨x2, e⟩
def greatA : DS := sIf (tVal (eBin wLt (eVar 0) (eC (.int 12)))) (sSet 3 (eCall d__law_first_ones (aCons (eVar 0) (aCons (eVar 1) (aNil))))) (sSet 3 (eCall d__law_other_ones (aCons (eVar 0) (aCons (eVar 1) (aNil)))))
def greatD : DE := eBin wEq0 (eNew (lComp (pVal (eVar 3)) (gSet 4) (tYesB) (eBin wEq0 (eCall d__law_value_of (aCons (eVar 0) (aCons (eVar 4) (aNil)))) (eVar 1)) [4])) (eNew (lDisp (aCons (eC (.bl true)) (aCons (eC (.bl true)) (aNil)))))
theorem great_eq : d__law_great_kept = defn 1 5 (sSeq (sSet 1 (eC (.int 1))) (sSeq (sFor (pRange1 (aCons (eC (.int 60)) (aNil))) (gSet 2) mulB) (sSeq greatA (sRet greatD)))) := rfl
theorem greatA_ok {i : Nat} (hi : i < 24) (w : W) (x2 : Option W) (m : Mem) : greatA [some (.int (i : Int)), some w, x2, none, none] m = .nx [some (.int (i : Int)), some w, x2, some (.ref (m.length + 2)), none] (two i w m) := by
  unfold greatA
  by_cases h : i < 12
  · have d : decide ((i : Int) < 12) = true := decide_eq_true (by omega)
    simp only [List.length_cons, List.length_nil, Nat.reduceAdd, Nat.reduceEqDiff, if_true, List.map_cons, List.map_nil, Nat.reduceSub, List.replicate, List.cons_append, List.nil_append, R.bind_ok, R.bind_exc, R.bind_bad, R.nox_ok, RS.of_ok, RS.of_exc, List.getElem?_cons_zero, List.getElem?_cons_succ, List.set_cons_zero, List.set_cons_succ, Bool.not_true, Bool.not_false, Bool.false_eq_true, if_false, isNon, gSet, Int.reduceLT, Int.reduceLE, Int.reduceNeg, and_self, Nat.reduceLeDiff, Nat.reduceMul, decide_true, decide_false, Int.reduceEq, eq_self, reduceCtorEq, seq_nx, seq_rt, seq_bad, of_rt, of_nx, trd_rt, trd_nx, r_defn, r_seq, r_try, r_nil, r_expr, r_ret, r_if, r_set, r_asg, r_put, r_attr, r_var, r_c, r_bin, r_un, r_fn, r_fnL, r_call, r_make, made_ok, made_exc, r_eattr, r_ixL, r_new, r_tup, r_disp, r_few, r_eif, r_eand, r_eor, r_enot, r_acons, r_anil, r_astar, r_astarL, r_val, r_tru, r_not, r_and, r_or, r_chain, r_inL, r_m1, r_joinL, r_sl, r_pno, r_pat, v_add, v_sub, v_mod, v_div, v_neg, v_lt, v_le, v_gt, v_ge, v_isN, v_notN, v_intI, v_intB, v_abs, v_strS, v_ixT, v_ixF, v_eqI, v_neI, v_eqS, v_neS, r_lcomp, r_pval, r_pseq, r_plist, r_planT, r_planS, r_tryO, r_tryA, seq_exc, of_exc, tryO_rt, tryO_nx, tryA_rt, tryA_nx, r_raise, r_raise1, r_xattr, r_slS, r_join, r_dget, r_dict0, r_dput, r_mkx, r_app, d, first_ok i h]
  · have d : decide ((i : Int) < 12) = false := decide_eq_false (by omega)
    simp only [List.length_cons, List.length_nil, Nat.reduceAdd, Nat.reduceEqDiff, if_true, List.map_cons, List.map_nil, Nat.reduceSub, List.replicate, List.cons_append, List.nil_append, R.bind_ok, R.bind_exc, R.bind_bad, R.nox_ok, RS.of_ok, RS.of_exc, List.getElem?_cons_zero, List.getElem?_cons_succ, List.set_cons_zero, List.set_cons_succ, Bool.not_true, Bool.not_false, Bool.false_eq_true, if_false, isNon, gSet, Int.reduceLT, Int.reduceLE, Int.reduceNeg, and_self, Nat.reduceLeDiff, Nat.reduceMul, decide_true, decide_false, Int.reduceEq, eq_self, reduceCtorEq, seq_nx, seq_rt, seq_bad, of_rt, of_nx, trd_rt, trd_nx, r_defn, r_seq, r_try, r_nil, r_expr, r_ret, r_if, r_set, r_asg, r_put, r_attr, r_var, r_c, r_bin, r_un, r_fn, r_fnL, r_call, r_make, made_ok, made_exc, r_eattr, r_ixL, r_new, r_tup, r_disp, r_few, r_eif, r_eand, r_eor, r_enot, r_acons, r_anil, r_astar, r_astarL, r_val, r_tru, r_not, r_and, r_or, r_chain, r_inL, r_m1, r_joinL, r_sl, r_pno, r_pat, v_add, v_sub, v_mod, v_div, v_neg, v_lt, v_le, v_gt, v_ge, v_isN, v_notN, v_intI, v_intB, v_abs, v_strS, v_ixT, v_ixF, v_eqI, v_neI, v_eqS, v_neS, r_lcomp, r_pval, r_pseq, r_plist, r_planT, r_planS, r_tryO, r_tryA, seq_exc, of_exc, tryO_rt, tryO_nx, tryA_rt, tryA_nx, r_raise, r_raise1, r_xattr, r_slS, r_join, r_dget, r_dict0, r_dput, r_mkx, r_app, d, other_ok i (by omega) hi]
theorem greatD_ok {i : Nat} (hi : i < 24) (j : Int) (x2 : Option W) (m : Mem) : ∃ m', greatD [some (.int (i : Int)), some (.int j), x2, some (.ref (m.length + 2)), none] (two i (.int j) m) = .ok (.bl true) m' ∧ Ext (two i (.int j) m) m' := by
  have hc := comp_map (src := srcLive (m.length + 2)) (ws := [.ref m.length, .ref (m.length + 1)]) (m := two i (.int j) m) (k := 4) (e := eBin wEq0 (eCall d__law_value_of (aCons (eVar 0) (aCons (eVar 4) aNil))) (eVar 1)) (σ := [some (.int (i : Int)), some (.int j), x2, some (.ref (m.length + 2)), none]) (f := fun _ => .bl true) (by simp) (live_at (two_2 i (.int j) m)) (fun v hv => by
    have : ∃ a, v = .ref a ∧ (two i (.int j) m)[a]? = some (X i (.int j)) := by
      simp at hv
      rcases hv with rfl | rfl
      · exact ⟨_, rfl, two_0 i _ m⟩
      · exact ⟨_, rfl, two_1 i _ m⟩
    obtain ⟨a, rfl, ha⟩ := this
    simp only [List.length_cons, List.length_nil, Nat.reduceAdd, Nat.reduceEqDiff, if_true, List.map_cons, List.map_nil, Nat.reduceSub, List.replicate, List.cons_append, List.nil_append, R.bind_ok, R.bind_exc, R.bind_bad, R.nox_ok, RS.of_ok, RS.of_exc, List.getElem?_cons_zero, List.getElem?_cons_succ, List.set_cons_zero, List.set_cons_succ, Bool.not_true, Bool.not_false, Bool.false_eq_true, if_false, isNon, gSet, Int.reduceLT, Int.reduceLE, Int.reduceNeg, and_self, Nat.reduceLeDiff, Nat.reduceMul, decide_true, decide_false, Int.reduceEq, eq_self, reduceCtorEq, seq_nx, seq_rt, seq_bad, of_rt, of_nx, trd_rt, trd_nx, r_defn, r_seq, r_try, r_nil, r_expr, r_ret, r_if, r_set, r_asg, r_put, r_attr, r_var, r_c, r_bin, r_un, r_fn, r_fnL, r_call, r_make, made_ok, made_exc, r_eattr, r_ixL, r_new, r_tup, r_disp, r_few, r_eif, r_eand, r_eor, r_enot, r_acons, r_anil, r_astar, r_astarL, r_val, r_tru, r_not, r_and, r_or, r_chain, r_inL, r_m1, r_joinL, r_sl, r_pno, r_pat, v_add, v_sub, v_mod, v_div, v_neg, v_lt, v_le, v_gt, v_ge, v_isN, v_notN, v_intI, v_intB, v_abs, v_strS, v_len, v_ixT, v_ixF, v_eqI, v_neI, v_eqS, v_neS, r_lcomp, r_pval, r_pseq, r_plist, r_planT, r_planS, r_tryO, r_tryA, seq_exc, of_exc, tryO_rt, tryO_nx, tryA_rt, tryA_nx, r_raise, r_raise1, r_xattr, r_slS, r_join, r_dget, r_dict0, r_dput, r_mkx, r_app, value_ok i hi ha])
  have hp := planR (m := two i (.int j) m) (n := m.length + 2) (ws := [.ref m.length, .ref (m.length + 1)]) (two_2 i _ m)
  simp only [List.length_cons, List.length_nil, List.map_cons, List.map_nil, Nat.reduceAdd] at hc
  have eq := eq_same (a := (two i (.int j) m).length) (b := (two i (.int j) m ++ [O.lst [.bl true, .bl true]]).length) (ws := [.bl true, .bl true]) (m := (two i (.int j) m ++ [O.lst [.bl true, .bl true]]) ++ [O.lst [.bl true, .bl true]]) (fun w hw => by
    simp at hw
    subst hw; exact .bl _) ((Ext.app _ _).get last_get) last_get
  refine ⟨(two i (.int j) m ++ [O.lst [.bl true, .bl true]]) ++ [O.lst [.bl true, .bl true]], ?_, (Ext.app _ _).add _⟩
  unfold greatD
  simp only [List.length_cons, List.length_nil, Nat.reduceAdd, Nat.reduceEqDiff, if_true, List.map_cons, List.map_nil, Nat.reduceSub, List.replicate, List.cons_append, List.nil_append, R.bind_ok, R.bind_exc, R.bind_bad, R.nox_ok, RS.of_ok, RS.of_exc, List.getElem?_cons_zero, List.getElem?_cons_succ, List.set_cons_zero, List.set_cons_succ, Bool.not_true, Bool.not_false, Bool.false_eq_true, if_false, isNon, gSet, Int.reduceLT, Int.reduceLE, Int.reduceNeg, and_self, Nat.reduceLeDiff, Nat.reduceMul, decide_true, decide_false, Int.reduceEq, eq_self, reduceCtorEq, seq_nx, seq_rt, seq_bad, of_rt, of_nx, trd_rt, trd_nx, r_defn, r_seq, r_try, r_nil, r_expr, r_ret, r_if, r_set, r_asg, r_put, r_attr, r_var, r_c, r_bin, r_un, r_fn, r_fnL, r_call, r_make, made_ok, made_exc, r_eattr, r_ixL, r_new, r_tup, r_disp, r_few, r_eif, r_eand, r_eor, r_enot, r_acons, r_anil, r_astar, r_astarL, r_val, r_tru, r_not, r_and, r_or, r_chain, r_inL, r_m1, r_joinL, r_sl, r_pno, r_pat, v_add, v_sub, v_mod, v_div, v_neg, v_lt, v_le, v_gt, v_ge, v_isN, v_notN, v_intI, v_intB, v_abs, v_strS, v_ixT, v_ixF, v_eqI, v_neI, v_eqS, v_neS, r_lcomp, r_pval, r_pseq, r_plist, r_planT, r_planS, r_tryO, r_tryA, seq_exc, of_exc, tryO_rt, tryO_nx, tryA_rt, tryA_nx, r_raise, r_raise1, r_xattr, r_slS, r_join, r_dget, r_dict0, r_dput, r_mkx, r_app, hp, wipeW, hc, eq]
theorem great_ok {i : Nat} (hi : i < 24) (m : Mem) : ∃ m', d__law_great_kept [.int (i : Int)] m = .ok (.bl true) m' ∧ Ext m m' := by
  obtain ⟨x2, e1⟩ := muls_ok (some (.int (i : Int))) none none m
  obtain ⟨m', e2, E2⟩ := greatD_ok hi G x2 m
  refine ⟨m', ?_, (two_ext i _ m).trans E2⟩
  rw [great_eq]
  simp only [r_defn, List.length_cons, List.length_nil, Nat.reduceAdd, if_true, List.map_cons, List.map_nil, Nat.reduceSub, List.replicate, List.cons_append, List.nil_append]
  rw [r_seq, r_set, r_c, RS.of_ok, seq_nx, r_seq]
  simp only [List.set_cons_zero, List.set_cons_succ]
  rw [e1, seq_nx, r_seq, greatA_ok hi, seq_nx, r_ret, e2, RS.of_ok, of_rt]
end K90

namespace K90
open PySem Sh
/-! ### what is made and kept -/
structure Ent where
  i : Nat
  b : Nat
  a1 : Nat
  a2 : Nat
  w : W
def Ent.W (e : Ent) : W := .tup [.int (e.i : Int), .ref e.b, e.w]
structure EntAt (m : Mem) (e : Ent) : Prop where
  hi : e.i < 24
  hb : m[e.b]? = some (.lst [.ref e.a1, .ref e.a2])
  h1 : m[e.a1]? = some (X e.i e.w)
  h2 : m[e.a2]? = some (X e.i e.w)
  th : Thing m e.w
def Safe (q : Nat) (e : Ent) : Prop := e.b ≠ q ∧ e.a1 ≠ q ∧ e.a2 ≠ q ∧ e.w ≠ .ref q
theorem EntAt.grow {m m' : Mem} {e : Ent} {q : Nat} (h : EntAt m e) (s : Safe q e) (g : Grow q m m') : EntAt m' e := ⟨h.hi, g.get s.1 h.hb, g.get s.2.1 h.h1, g.get s.2.2.1 h.h2, h.th.grow s.2.2.2 g⟩
theorem Thing.lt {m : Mem} {w : W} (h : Thing m w) {q : Nat} (e : w = .ref q) : q < m.length := by
  subst e
  cases h with
  | l0 h => exact (List.getElem?_eq_some_iff.mp h).1
  | l1 h => exact (List.getElem?_eq_some_iff.mp h).1
  | d0 h => exact (List.getElem?_eq_some_iff.mp h).1
theorem EntAt.fresh {m : Mem} {e : Ent} {q : Nat} (h : EntAt m e) (hq : m.length ≤ q) : Safe q e := by
  have l1 := (List.getElem?_eq_some_iff.mp h.hb).1
  have l2 := (List.getElem?_eq_some_iff.mp h.h1).1
  have l3 := (List.getElem?_eq_some_iff.mp h.h2).1
  exact ⟨by omega, by omega, by omega, fun z => by have := h.th.lt z; omega⟩
theorem Grow.fresh {q : Nat} {m m0 m' : Mem} (E : Ext m0 m) (hq : m0.length ≤ q) (g : Grow q m m') : Kp m0 m' := by
  obtain ⟨l, rfl⟩ := E
  exact ⟨Nat.le_trans (by simp) g.le, fun i h => by rw [g.at_ i (by omega) (by simp; omega), List.getElem?_append_left h]⟩
theorem Thing.kp {m m' : Mem} {w : W} (h : Thing m w) (k : Kp m m') : Thing m' w := by
  cases h with
  | str g => exact .str g
  | int a b => exact .int a b
  | non => exact .non
  | bl b => exact .bl b
  | tup a b => exact .tup a b
  | l0 h => exact .l0 (k.get h)
  | l1 h => exact .l1 (k.get h)
  | d0 h => exact .d0 (k.get h)
theorem EntAt.kp {m m' : Mem} {e : Ent} (h : EntAt m e) (k : Kp m m') : EntAt m' e := ⟨h.hi, k.get h.hb, k.get h.h1, k.get h.h2, h.th.kp k⟩
theorem PileAt.kp {p : Nat} {m m' : Mem} {z : Int} (h : PileAt p m z) (k : Kp m m') : PileAt p m' z := by
  obtain ⟨d, c, j, b, h1, h2⟩ := h
  exact ⟨d, c, j, b, k.get h1, h2⟩
structure Mades (p L : Nat) (es : List Ent) (m : Mem) : Prop where
  at_ : m[L]? = some (.lst (es.map Ent.W))
  ne : L < p
  each : ∀ e ∈ es, EntAt m e ∧ Safe L e ∧ Safe p e
theorem Mades.kp {p L : Nat} {es : List Ent} {m m' : Mem} (h : Mades p L es m) (k : Kp m m') : Mades p L es m' := ⟨k.get h.at_, h.ne, fun e he => ⟨(h.each e he).1.kp k, (h.each e he).2⟩⟩
theorem Mades.pile {p L : Nat} {es : List Ent} {m m' : Mem} (h : Mades p L es m) (g : Grow p m m') : Mades p L es m' := ⟨g.get (by have := h.ne; omega) h.at_, h.ne, fun e he => ⟨(h.each e he).1.grow (h.each e he).2.2 g, (h.each e he).2⟩⟩
def itB : DS := sSeq (sIf (tOr (tNot (tVal (eCall d__law_kept (aCons (eVar 5) (aCons (eNew (lDisp (aCons (eVar 2) (aNil)))) (aNil)))))) (tNot (tVal (eCall d__law_kept (aCons (eVar 5) (aCons (eDict [(eC (.str [97]), eVar 2)]) (aNil))))))) (sRet (eC (.bl false))) (sNil)) (sSeq (sSet 7 (eCall d__law_odd (aCons (eVar 4) (aNil)))) (sIf (tVal (eBin wLt (eVar 5) (eC (.int 12)))) (sExpr (eApp (eVar 1) (aCons (eTup (aCons (eVar 5) (aCons (eCall d__law_first_ones (aCons (eVar 5) (aCons (eVar 7) (aNil)))) (aCons (eVar 7) (aNil))))) (aNil)))) (sExpr (eApp (eVar 1) (aCons (eTup (aCons (eVar 5) (aCons (eCall d__law_other_ones (aCons (eVar 5) (aCons (eVar 7) (aNil)))) (aCons (eVar 7) (aNil))))) (aNil))))))
theorem dict_a (k : Int) (σ : Sh.Loc) (m : Mem) (h : eVar 2 σ m = .ok (.int k) m) : eDict [(eC (.str [97]), eVar 2)] σ m = .ok (.ref m.length) (m ++ [.dK [(.inr (Sh.S [97]), .int k)]]) := by
  unfold eDict dPairs
  simp only [r_c, R.bind_ok, h, dPairs, keysW, keyW]
  rfl
theorem it_ok {p L : Nat} {es : List Ent} {m : Mem} {z : Int} {k : Int} {i : Nat} (hM : Mades p L es m) (hn : es.length < 1000) (hP : PileAt p m z) (hz : z < 800000) (hk : 0 ≤ k ∧ k < 8) (hi : i < 24) (x0 x3 x6 x7 x8 : Option W) :
    ∃ e m' x7', itB [x0, some (.ref L), some (.int k), x3, some (.ref p), some (.int (i : Int)), x6, x7, x8] m = .nx [x0, some (.ref L), some (.int k), x3, some (.ref p), some (.int (i : Int)), x6, x7', x8] m' ∧ Mades p L (es ++ [e]) m' ∧ PileAt p m' (z + 1) := by
  have hLp := hM.ne
  obtain ⟨m2, e2, G2⟩ := kept_list hi hk (o := m.length) (m := m ++ [O.lst [.int k]]) last_get
  have K2 := Grow.fresh (Ext.app m _) (Nat.le_refl _) G2
  obtain ⟨m4, e4, G4⟩ := kept_dict hi hk (o := m2.length) (m := m2 ++ [O.dK [(.inr (Sh.S [97]), .int k)]]) last_get
  have K4 := K2.trans (Grow.fresh (Ext.app m2 _) (Nat.le_refl _) G4)
  obtain ⟨w, m5, e5, t5, r5, P5, G5⟩ := odd_ok p m4 z (hP.kp K4) (by omega)
  have M5 := (hM.kp K4).pile G5
  have hl4 := K4.le
  have hl5 := G5.le
  have hm := two_len i w m5
  have M6 : Mades p L es (two i w m5) := M5.kp (.ext (two_ext i w m5))
  have il : isLst m5 (.ref L) = true := by
    unfold isLst
    simp only [M5.at_]
  have wa := app_lst (y := .tup [.int (i : Int), .ref (m5.length + 2), w]) M6.at_ (by rw [List.length_map]; omega)
  let e : Ent := ⟨i, m5.length + 2, m5.length, m5.length + 1, w⟩
  have hpl := hP.lt
  have hLm : L < (two i w m5).length := (List.getElem?_eq_some_iff.mp M6.at_).1
  have hwr : ∀ q, q < m.length → w ≠ .ref q := fun q hq z => by have := r5 q z; omega
  have GL : Grow L (two i w m5) ((two i w m5).set L (.lst (es.map Ent.W ++ [e.W]))) := .set
  have eA : EntAt (two i w m5) e := ⟨hi, two_2 i w m5, two_0 i w m5, two_1 i w m5, t5.kp (.ext (two_ext i w m5))⟩
  have sL : Safe L e := ⟨by show m5.length + 2 ≠ L; omega, by show m5.length ≠ L; omega, by show m5.length + 1 ≠ L; omega, hwr L (by omega)⟩
  have sp : Safe p e := ⟨by show m5.length + 2 ≠ p; omega, by show m5.length ≠ p; omega, by show m5.length + 1 ≠ p; omega, hwr p hpl⟩
  refine ⟨e, (two i w m5).set L (.lst (es.map Ent.W ++ [e.W])), some w, ?_, ⟨by rw [List.map_append]; exact List.getElem?_set_self hLm, hLp, fun f hf => ?_⟩, ?_⟩
  · have ed : eDict [(eC (.str [97]), eVar 2)] [x0, some (.ref L), some (.int k), x3, some (.ref p), some (.int (i : Int)), x6, x7, x8] m2 = .ok (.ref m2.length) (m2 ++ [.dK [(.inr (Sh.S [97]), .int k)]]) := dict_a k _ _ rfl
    have ew : (W.tup [.int (i : Int), .ref (m5.length + 2), w]) = e.W := rfl
    unfold itB
    by_cases h : i < 12
    · have d : decide ((i : Int) < 12) = true := decide_eq_true (by omega)
      simp only [List.length_cons, List.length_nil, Nat.reduceAdd, Nat.reduceEqDiff, if_true, List.map_cons, List.map_nil, Nat.reduceSub, List.replicate, List.cons_append, List.nil_append, R.bind_ok, R.bind_exc, R.bind_bad, R.nox_ok, RS.of_ok, RS.of_exc, List.getElem?_cons_zero, List.getElem?_cons_succ, List.set_cons_zero, List.set_cons_succ, Bool.not_true, Bool.not_false, Bool.false_eq_true, if_false, isNon, gSet, Int.reduceLT, Int.reduceLE, Int.reduceNeg, and_self, Nat.reduceLeDiff, Nat.reduceMul, decide_true, decide_false, Int.reduceEq, eq_self, reduceCtorEq, seq_nx, seq_rt, seq_bad, of_rt, of_nx, trd_rt, trd_nx, r_defn, r_seq, r_try, r_nil, r_expr, r_ret, r_if, r_set, r_asg, r_put, r_attr, r_var, r_c, r_bin, r_un, r_fn, r_fnL, r_call, r_make, made_ok, made_exc, r_eattr, r_ixL, r_new, r_tup, r_disp, r_few, r_eif, r_eand, r_eor, r_enot, r_acons, r_anil, r_astar, r_astarL, r_val, r_tru, r_not, r_and, r_or, r_chain, r_inL, r_m1, r_joinL, r_sl, r_pno, r_pat, v_add, v_sub, v_mod, v_div, v_neg, v_lt, v_le, v_gt, v_ge, v_isN, v_notN, v_intI, v_intB, v_abs, v_strS, v_ixT, v_ixF, v_eqI, v_neI, v_eqS, v_neS, r_lcomp, r_pval, r_pseq, r_plist, r_planT, r_planS, r_tryO, r_tryA, seq_exc, of_exc, tryO_rt, tryO_nx, tryA_rt, tryA_nx, r_raise, r_raise1, r_xattr, r_slS, r_join, r_dget, r_dict0, r_dput, r_mkx, r_app, e2, ed, e4, e5, d, il, first_ok i h, wa]
      rfl
    · have d : decide ((i : Int) < 12) = false := decide_eq_false (by omega)
      simp only [List.length_cons, List.length_nil, Nat.reduceAdd, Nat.reduceEqDiff, if_true, List.map_cons, List.map_nil, Nat.reduceSub, List.replicate, List.cons_append, List.nil_append, R.bind_ok, R.bind_exc, R.bind_bad, R.nox_ok, RS.of_ok, RS.of_exc, List.getElem?_cons_zero, List.getElem?_cons_succ, List.set_cons_zero, List.set_cons_succ, Bool.not_true, Bool.not_false, Bool.false_eq_true, if_false, isNon, gSet, Int.reduceLT, Int.reduceLE, Int.reduceNeg, and_self, Nat.reduceLeDiff, Nat.reduceMul, decide_true, decide_false, Int.reduceEq, eq_self, reduceCtorEq, seq_nx, seq_rt, seq_bad, of_rt, of_nx, trd_rt, trd_nx, r_defn, r_seq, r_try, r_nil, r_expr, r_ret, r_if, r_set, r_asg, r_put, r_attr, r_var, r_c, r_bin, r_un, r_fn, r_fnL, r_call, r_make, made_ok, made_exc, r_eattr, r_ixL, r_new, r_tup, r_disp, r_few, r_eif, r_eand, r_eor, r_enot, r_acons, r_anil, r_astar, r_astarL, r_val, r_tru, r_not, r_and, r_or, r_chain, r_inL, r_m1, r_joinL, r_sl, r_pno, r_pat, v_add, v_sub, v_mod, v_div, v_neg, v_lt, v_le, v_gt, v_ge, v_isN, v_notN, v_intI, v_intB, v_abs, v_strS, v_ixT, v_ixF, v_eqI, v_neI, v_eqS, v_neS, r_lcomp, r_pval, r_pseq, r_plist, r_planT, r_planS, r_tryO, r_tryA, seq_exc, of_exc, tryO_rt, tryO_nx, tryA_rt, tryA_nx, r_raise, r_raise1, r_xattr, r_slS, r_join, r_dget, r_dict0, r_dput, r_mkx, r_app, e2, ed, e4, e5, d, il, other_ok i (by omega) hi, wa]
      rfl
  · rcases List.mem_append.mp hf with hf | hf
    · obtain ⟨q1, q2, q3⟩ := M6.each f hf
      exact ⟨q1.grow q2 GL, q2, q3⟩
    · rw [List.mem_singleton.mp hf]
      exact ⟨eA.grow sL GL, sL, sp⟩
  · obtain ⟨d', c', j', b', q1, q2, q3⟩ := P5
    exact ⟨d', c', j', b', GL.get (by omega) ((two_ext i w m5).get q1), q2, q3⟩
end K90

namespace K90
open PySem Sh
theorem plan24 (σ : Sh.Loc) (m : Mem) : pRange1 (aCons (eC (.int 24)) (aNil)) σ m = .ok ⟨24, srcRange 0 24⟩ m := rfl
theorem plan8 (σ : Sh.Loc) (m : Mem) : pRange1 (aCons (eC (.int 8)) (aNil)) σ m = .ok ⟨8, srcRange 0 8⟩ m := rfl
def cellB : DS := sSeq (sSet 4 (eCall d__law_pile (aCons (eVar 0) (aCons (eVar 2) (aNil))))) (sFor (pRange1 (aCons (eC (.int 24)) (aNil))) (gSet 5) (sSeq (sIf (tOr (tNot (tVal (eCall d__law_kept (aCons (eVar 5) (aCons (eNew (lDisp (aCons (eVar 2) (aNil)))) (aNil)))))) (tNot (tVal (eCall d__law_kept (aCons (eVar 5) (aCons (eDict [(eC (.str [97]), eVar 2)]) (aNil))))))) (sRet (eC (.bl false))) (sNil)) (sSeq (sSet 7 (eCall d__law_odd (aCons (eVar 4) (aNil)))) (sIf (tVal (eBin wLt (eVar 5) (eC (.int 12)))) (sExpr (eApp (eVar 1) (aCons (eTup (aCons (eVar 5) (aCons (eCall d__law_first_ones (aCons (eVar 5) (aCons (eVar 7) (aNil)))) (aCons (eVar 7) (aNil))))) (aNil)))) (sExpr (eApp (eVar 1) (aCons (eTup (aCons (eVar 5) (aCons (eCall d__law_other_ones (aCons (eVar 5) (aCons (eVar 7) (aNil)))) (aCons (eVar 7) (aNil))))) (aNil))))))))
theorem cell_eq : cellB = sSeq (sSet 4 (eCall d__law_pile (aCons (eVar 0) (aCons (eVar 2) (aNil))))) (sFor (pRange1 (aCons (eC (.int 24)) (aNil))) (gSet 5) itB) := rfl
/-- the list of what is made, between cells -/
structure Made0 (L n : Nat) (m : Mem) : Prop where
  ex : ∃ es : List Ent, m[L]? = some (.lst (es.map Ent.W)) ∧ es.length = n ∧ ∀ e ∈ es, EntAt m e ∧ Safe L e
theorem cell_ok (ns : List Int) (k : Nat) (hk : k < 8) (L : Nat) (m : Mem) (hM : Made0 L (24 * k) m) (x3 x4 x5 x6 x7 x8 : Option W) :
    ∃ x4' x5' x7' m', cellB [some (.frz (ns.map W.int)), some (.ref L), some (.int (0 + (k : Int))), x3, x4, x5, x6, x7, x8] m = .nx [some (.frz (ns.map W.int)), some (.ref L), some (.int (0 + (k : Int))), x3, x4', x5', x6, x7', x8] m' ∧ Made0 L (24 * (k + 1)) m' := by
  obtain ⟨es, h1, h2, h3⟩ := hM.ex
  obtain ⟨d, c, b, e1⟩ := pile_ok ns (0 + (k : Int)) m (by omega) (by omega)
  have hp : PileAt m.length (m ++ [pileO d c (97 * (0 + (k : Int))) b]) 10000 := ⟨d, c, _, b, last_get, by omega, by omega⟩
  have hLm := (List.getElem?_eq_some_iff.mp h1).1
  have M0 : Mades m.length L es (m ++ [pileO d c (97 * (0 + (k : Int))) b]) := ⟨(Ext.app _ _).get h1, hLm, fun e he => ⟨(h3 e he).1.kp (.ext (.app _ _)), (h3 e he).2, (h3 e he).1.fresh (Nat.le_refl _)⟩⟩
  generalize m ++ [pileO d c (97 * (0 + (k : Int))) b] = M1 at e1 hp M0
  obtain ⟨σ', m', e2, es', x5', x7', z', rfl, hM', hl', _⟩ := forLoop_nx (src := srcRange 0 24) (h := gSet 5) (b := itB) (N := 24)
    (fun i σ' m' => ∃ es' x5' x7' z', σ' = [some (.frz (ns.map W.int)), some (.ref L), some (.int (0 + (k : Int))), x3, some (.ref m.length), x5', x6, x7', x8] ∧ Mades m.length L es' m' ∧ es'.length = 24 * k + i ∧ PileAt m.length m' z' ∧ z' ≤ 10000 + i)
    (fun i σ m1 hi ⟨es', y5, y7, z', hσ, hM1, hl1, hP1, hz1⟩ => by
      subst hσ
      obtain ⟨e, m2, y7', q1, q2, q3⟩ := it_ok hM1 (by omega) hP1 (by omega) (k := 0 + (k : Int)) (by omega) hi (some (.frz (ns.map W.int))) x3 x6 y7 x8
      have ei : (0 + (i : Int)) = (i : Int) := by omega
      exact ⟨.int (i : Int), _, _, _, m2, by show some (if i < 24 then some (W.int (0 + (i : Int))) else none) = _; rw [if_pos hi, ei], rfl, q1, es' ++ [e], some (.int (i : Int)), y7', z' + 1, rfl, q2, by simp; omega, q3, by push_cast; omega⟩)
    (fun σ m' _ => rfl) 24 0 [some (.frz (ns.map W.int)), some (.ref L), some (.int (0 + (k : Int))), x3, some (.ref m.length), x5, x6, x7, x8] M1 (by omega) ⟨es, x5, x7, 10000, rfl, M0, h2, hp, by omega⟩
  refine ⟨some (.ref m.length), x5', x7', m', ?_, ⟨es', hM'.at_, by omega, fun e he => ⟨(hM'.each e he).1, (hM'.each e he).2.1⟩⟩⟩
  have s1 : sSet 4 (eCall d__law_pile (aCons (eVar 0) (aCons (eVar 2) (aNil)))) [some (.frz (ns.map W.int)), some (.ref L), some (.int (0 + (k : Int))), x3, x4, x5, x6, x7, x8] m = .nx [some (.frz (ns.map W.int)), some (.ref L), some (.int (0 + (k : Int))), x3, some (.ref m.length), x5, x6, x7, x8] M1 := by
    simp only [List.length_cons, List.length_nil, Nat.reduceAdd, Nat.reduceEqDiff, if_true, List.map_cons, List.map_nil, Nat.reduceSub, List.replicate, List.cons_append, List.nil_append, R.bind_ok, R.bind_exc, R.bind_bad, R.nox_ok, RS.of_ok, RS.of_exc, List.getElem?_cons_zero, List.getElem?_cons_succ, List.set_cons_zero, List.set_cons_succ, Bool.not_true, Bool.not_false, Bool.false_eq_true, if_false, isNon, gSet, Int.reduceLT, Int.reduceLE, Int.reduceNeg, and_self, Nat.reduceLeDiff, Nat.reduceMul, decide_true, decide_false, Int.reduceEq, eq_self, reduceCtorEq, seq_nx, seq_rt, seq_bad, of_rt, of_nx, trd_rt, trd_nx, r_defn, r_seq, r_try, r_nil, r_expr, r_ret, r_if, r_set, r_asg, r_put, r_attr, r_var, r_c, r_bin, r_un, r_fn, r_fnL, r_call, r_make, made_ok, made_exc, r_eattr, r_ixL, r_new, r_tup, r_disp, r_few, r_eif, r_eand, r_eor, r_enot, r_acons, r_anil, r_astar, r_astarL, r_val, r_tru, r_not, r_and, r_or, r_chain, r_inL, r_m1, r_joinL, r_sl, r_pno, r_pat, v_add, v_sub, v_mod, v_div, v_neg, v_lt, v_le, v_gt, v_ge, v_isN, v_notN, v_intI, v_intB, v_abs, v_strS, v_ixT, v_ixF, v_eqI, v_neI, v_eqS, v_neS, r_lcomp, r_pval, r_pseq, r_plist, r_planT, r_planS, r_tryO, r_tryA, seq_exc, of_exc, tryO_rt, tryO_nx, tryA_rt, tryA_nx, r_raise, r_raise1, r_xattr, r_slS, r_join, r_dget, r_dict0, r_dput, r_mkx, r_app, e1]
  rw [cell_eq, r_seq, s1, seq_nx]
  unfold sFor
  rw [plan24, RS.of_ok]
  exact e2
/-! ### the errors looked at -/
theorem er_name {i : Nat} (hi : i < 24) : (er i).c = names.getD i "" := by
  have key : ∀ k : Fin 24, (er k).c = names.getD k "" := by decide
  exact key ⟨i, hi⟩
theorem tyc_X {i a : Nat} {w : W} {m : Mem} (hi : i < 24) (h : m[a]? = some (X i w)) : tyc (.ref a) m = some (.xc (names.getD i "")) := by
  rw [← er_name hi]
  have h : m[a]? = some (.exh (er i).c [((er i).f, w)] (er i).msg) := h
  unfold tyc
  simp only [h]
theorem repr_thing {w : W} {m : Mem} (h : Thing m w) : ∃ l, bReprX [w] m = .ok (.str l) m := by
  have viaD : ∀ {x : PyData} {w : W}, (∀ m : Mem, bReprX [w] m = match datX m 30 w with | some d => reprD d m | none => .bad) → datX m 30 w = some x → Small x → ∃ l, bReprX [w] m = .ok (.str l) m := fun {x w} e0 e1 hs => by
    refine ⟨x.shown.cps.toList, ?_⟩
    rw [e0, e1]
    show reprD x m = _
    unfold reprD
    exact if_pos ⟨hs.show_, by have := hs.dep; omega, by have := hs.len; omega⟩
  cases h with
  | @str l g =>
    have h2 := PySem.StrLaws.reprText_len (Sh.S l) (fun c hc => by
      have := g.2 c (by simpa using hc)
      exact Nat.lt_of_lt_of_le this (by decide))
    have e : (Sh.S l).length = l.length := S_len l
    have := g.1
    exact ⟨_, if_pos (by omega)⟩
  | @int i h1 h2 =>
    have e20 : (2:Nat) ^ 20 = 1048576 := by decide
    have h3 : i.natAbs < 2 ^ 20 := by omega
    exact ⟨_, if_pos (Nat.lt_of_lt_of_le (PySem.Flt.log2_lt_of (by decide) h3) (by decide))⟩
  | non => exact ⟨_, rfl⟩
  | bl b => exact ⟨_, rfl⟩
  | @tup ws x h1 h2 =>
    have h30 : datX m 30 (.tup ws) = some x := (h1 m).2
    exact viaD (fun _ => rfl) h30 h2
  | @l0 o h => exact viaD (x := .list []) (fun _ => rfl) (by simp [datX, h, datsX]) small_l0
  | @l1 o h => exact viaD (x := .list [.str (Sh.S cA)]) (fun _ => rfl) (by simp [datX, h, datsX]) small_l1
  | @d0 o h => exact viaD (x := .dict []) (fun _ => rfl) (by simp [datX, h, datsX]) small_d0
def errB : DS := sSeq (sIf (tOr (tNot (tVal (eFn (bIsi isiT) (aCons (eVar 8) (aCons (eC (.cls "PlaceError")) (aNil)))))) (tOr (tNot (tVal (eFn (bIsi isiT) (aCons (eVar 8) (aCons (eC (.ty "ValueError")) (aNil)))))) (tVal (eBin wNe0 (eCall d__law_kinds (aCons (eVar 8) (aNil))) (eNew (lDisp (aCons (eVar 5) (aNil)))))))) (sRet (eC (.bl false))) (sNil)) (sIf (tNot (tVal (eCall d__law_alike (aCons (eCall d__law_value_of (aCons (eVar 5) (aCons (eVar 8) (aNil)))) (aCons (eVar 7) (aNil)))))) (sRet (eC (.bl false))) (sNil))
theorem err_ok {e : Ent} {m : Mem} (h : EntAt m e) {a : Nat} (ha : a = e.a1 ∨ a = e.a2) (x0 x1 x2 x3 x4 x6 : Option W) : ∃ m', errB [x0, x1, x2, x3, x4, some (.int (e.i : Int)), x6, some e.w, some (.ref a)] m = .nx [x0, x1, x2, x3, x4, some (.int (e.i : Int)), x6, some e.w, some (.ref a)] m' ∧ Kp m m' := by
  have hX : m[a]? = some (X e.i e.w) := by rcases ha with rfl | rfl; exact h.h1; exact h.h2
  have ty := tyc_X h.hi hX
  have h25 : e.i < 25 := by have := h.hi; omega
  have hf := name_mem h25
  have i1 := isi_pe ty hf
  have i2 := isi_ve ty hf
  obtain ⟨n, m1, e1, K1, g1⟩ := kinds_ok h25 ty
  have ne := ne_same (a := n) (b := m1.length) (ws := [.int (e.i : Int)]) (m := m1 ++ [O.lst [.int (e.i : Int)]]) (fun w hw => by
    rw [List.mem_singleton.mp hw]; exact .int _) ((Ext.app _ _).get g1) last_get
  have K2 : Kp m (m1 ++ [O.lst [.int (e.i : Int)]]) := K1.trans (.ext (.app _ _))
  have v := value_ok e.i h.hi (K2.get hX)
  obtain ⟨l, hr⟩ := repr_thing (h.th.kp K2)
  have al := alike_one hr
  refine ⟨_, ?_, K2⟩
  unfold errB
  simp only [List.length_cons, List.length_nil, Nat.reduceAdd, Nat.reduceEqDiff, if_true, List.map_cons, List.map_nil, Nat.reduceSub, List.replicate, List.cons_append, List.nil_append, R.bind_ok, R.bind_exc, R.bind_bad, R.nox_ok, RS.of_ok, RS.of_exc, List.getElem?_cons_zero, List.getElem?_cons_succ, List.set_cons_zero, List.set_cons_succ, Bool.not_true, Bool.not_false, Bool.false_eq_true, if_false, isNon, gSet, Int.reduceLT, Int.reduceLE, Int.reduceNeg, and_self, Nat.reduceLeDiff, Nat.reduceMul, decide_true, decide_false, Int.reduceEq, eq_self, reduceCtorEq, seq_nx, seq_rt, seq_bad, of_rt, of_nx, trd_rt, trd_nx, r_defn, r_seq, r_try, r_nil, r_expr, r_ret, r_if, r_set, r_asg, r_put, r_attr, r_var, r_c, r_bin, r_un, r_fn, r_fnL, r_call, r_make, made_ok, made_exc, r_eattr, r_ixL, r_new, r_tup, r_disp, r_few, r_eif, r_eand, r_eor, r_enot, r_acons, r_anil, r_astar, r_astarL, r_val, r_tru, r_not, r_and, r_or, r_chain, r_inL, r_m1, r_joinL, r_sl, r_pno, r_pat, v_add, v_sub, v_mod, v_div, v_neg, v_lt, v_le, v_gt, v_ge, v_isN, v_notN, v_intI, v_intB, v_abs, v_strS, v_ixT, v_ixF, v_eqI, v_neI, v_eqS, v_neS, r_lcomp, r_pval, r_pseq, r_plist, r_planT, r_planS, r_tryO, r_tryA, seq_exc, of_exc, tryO_rt, tryO_nx, tryA_rt, tryA_nx, r_raise, r_raise1, r_xattr, r_slS, r_join, r_dget, r_dict0, r_dput, r_mkx, r_app, i1, i2, e1, ne, v, al]
def entB : DS := sFor (pVal (eVar 6)) (gSet 8) (sSeq (sIf (tOr (tNot (tVal (eFn (bIsi isiT) (aCons (eVar 8) (aCons (eC (.cls "PlaceError")) (aNil)))))) (tOr (tNot (tVal (eFn (bIsi isiT) (aCons (eVar 8) (aCons (eC (.ty "ValueError")) (aNil)))))) (tVal (eBin wNe0 (eCall d__law_kinds (aCons (eVar 8) (aNil))) (eNew (lDisp (aCons (eVar 5) (aNil)))))))) (sRet (eC (.bl false))) (sNil)) (sIf (tNot (tVal (eCall d__law_alike (aCons (eCall d__law_value_of (aCons (eVar 5) (aCons (eVar 8) (aNil)))) (aCons (eVar 7) (aNil)))))) (sRet (eC (.bl false))) (sNil)))
theorem ent_eq : entB = sFor (pVal (eVar 6)) (gSet 8) errB := rfl
theorem ent_ok {e : Ent} {m : Mem} (h : EntAt m e) (x0 x1 x2 x3 x4 x8 : Option W) : ∃ x8' m', entB [x0, x1, x2, x3, x4, some (.int (e.i : Int)), some (.ref e.b), some e.w, x8] m = .nx [x0, x1, x2, x3, x4, some (.int (e.i : Int)), some (.ref e.b), some e.w, x8'] m' ∧ Kp m m' := by
  have hp : pVal (eVar 6) [x0, x1, x2, x3, x4, some (.int (e.i : Int)), some (.ref e.b), some e.w, x8] m = .ok ⟨2, srcLive e.b⟩ m := planR h.hb
  obtain ⟨σ', m', e2, x8', rfl, hK⟩ := forLoop_nx (src := srcLive e.b) (h := gSet 8) (b := errB) (N := 2)
    (fun i σ' m' => ∃ x8', σ' = [x0, x1, x2, x3, x4, some (.int (e.i : Int)), some (.ref e.b), some e.w, x8'] ∧ Kp m m')
    (fun i σ m1 hi ⟨y8, hσ, hK⟩ => by
      subst hσ
      have hc : i = 0 ∨ i = 1 := by omega
      rcases hc with rfl | rfl
      · obtain ⟨m2, q, K2⟩ := err_ok (h.kp hK) (.inl rfl) x0 x1 x2 x3 x4 (some (.ref e.b))
        exact ⟨.ref e.a1, _, _, _, m2, by rw [live_at (hK.get h.hb)]; rfl, rfl, q, _, rfl, hK.trans K2⟩
      · obtain ⟨m2, q, K2⟩ := err_ok (h.kp hK) (.inr rfl) x0 x1 x2 x3 x4 (some (.ref e.b))
        exact ⟨.ref e.a2, _, _, _, m2, by rw [live_at (hK.get h.hb)]; rfl, rfl, q, _, rfl, hK.trans K2⟩)
    (fun σ m' ⟨_, _, hK⟩ => by rw [live_at (hK.get h.hb)]; rfl) 2 0 [x0, x1, x2, x3, x4, some (.int (e.i : Int)), some (.ref e.b), some e.w, x8] m (by omega) ⟨x8, rfl, ⟨Nat.le_refl _, fun _ _ => rfl⟩⟩
  refine ⟨x8', m', ?_, hK⟩
  rw [ent_eq]
  unfold sFor
  rw [hp, RS.of_ok]
  exact e2
theorem ents_ok {es : List Ent} {L : Nat} {m : Mem} (hL : m[L]? = some (.lst (es.map Ent.W))) (hE : ∀ e ∈ es, EntAt m e) (x0 x2 x3 x4 x5 x6 x7 x8 : Option W) : ∃ x5' x6' x7' x8' m', sFor (pVal (eVar 1)) (gSeq [gSet 5, gSet 6, gSet 7]) entB [x0, some (.ref L), x2, x3, x4, x5, x6, x7, x8] m = .nx [x0, some (.ref L), x2, x3, x4, x5', x6', x7', x8'] m' ∧ Kp m m' := by
  have hp : pVal (eVar 1) [x0, some (.ref L), x2, x3, x4, x5, x6, x7, x8] m = .ok ⟨es.length, srcLive L⟩ m := by
    have := planR hL
    rw [List.length_map] at this
    exact this
  obtain ⟨σ', m', e2, x5', x6', x7', x8', rfl, hK⟩ := forLoop_nx (src := srcLive L) (h := gSeq [gSet 5, gSet 6, gSet 7]) (b := entB) (N := es.length)
    (fun i σ' m' => ∃ x5' x6' x7' x8', σ' = [x0, some (.ref L), x2, x3, x4, x5', x6', x7', x8'] ∧ Kp m m')
    (fun i σ m1 hi ⟨y5, y6, y7, y8, hσ, hK⟩ => by
      subst hσ
      obtain ⟨y8', m2, q, K2⟩ := ent_ok ((hE es[i] (List.getElem_mem hi)).kp hK) x0 (some (.ref L)) x2 x3 x4 y8
      exact ⟨(es[i]).W, _, _, _, m2, by rw [live_at (hK.get hL)]; simp [hi], rfl, q, _, _, _, y8', rfl, hK.trans K2⟩)
    (fun σ m' ⟨_, _, _, _, _, hK⟩ => by rw [live_at (hK.get hL)]; simp) es.length 0 [x0, some (.ref L), x2, x3, x4, x5, x6, x7, x8] m (by omega) ⟨x5, x6, x7, x8, rfl, ⟨Nat.le_refl _, fun _ _ => rfl⟩⟩
  refine ⟨x5', x6', x7', x8', m', ?_, hK⟩
  unfold sFor
  rw [hp, RS.of_ok]
  exact e2
end K90

namespace K90
open PySem Sh
/-! ### the great ones -/
theorem greats_ok (x0 x1 x2 x3 x4 x6 x7 x8 : Option W) (m : Mem) : ∃ m', compLoop (srcRange 0 24) (gSet 5) (tNot (tVal (eCall d__law_great_kept (aCons (eVar 5) (aNil))))) (eVar 5) [x0, x1, x2, x3, x4, none, x6, x7, x8] 25 0 [] m = .ok [] m' ∧ Ext m m' := by
  have go : ∀ (n i : Nat) (m : Mem), i + n = 24 → ∃ m', compLoop (srcRange 0 24) (gSet 5) (tNot (tVal (eCall d__law_great_kept (aCons (eVar 5) (aNil))))) (eVar 5) [x0, x1, x2, x3, x4, none, x6, x7, x8] (n + 1) i [] m = .ok [] m' ∧ Ext m m' := by
    intro n
    induction n with
    | zero =>
      intro i m hi
      have e : i = 24 := by omega
      subst e
      exact ⟨m, rfl, .refl m⟩
    | succ n ih =>
      intro i m hi
      obtain ⟨m1, e1, E1⟩ := great_ok (i := i) (by omega) m
      obtain ⟨m2, e2, E2⟩ := ih (i + 1) m1 (by omega)
      refine ⟨m2, ?_, E1.trans E2⟩
      have es : srcRange 0 24 i m = some (some (.int (i : Int))) := by
        have ei : (0 + (i : Int)) = (i : Int) := by omega
        show some (if i < 24 then some (W.int (0 + (i : Int))) else none) = _
        rw [if_pos (by omega), ei]
      have et : tNot (tVal (eCall d__law_great_kept (aCons (eVar 5) (aNil)))) [x0, x1, x2, x3, x4, some (.int (i : Int)), x6, x7, x8] m = .ok false m1 := by
        simp only [List.length_cons, List.length_nil, Nat.reduceAdd, Nat.reduceEqDiff, if_true, List.map_cons, List.map_nil, Nat.reduceSub, List.replicate, List.cons_append, List.nil_append, R.bind_ok, R.bind_exc, R.bind_bad, R.nox_ok, RS.of_ok, RS.of_exc, List.getElem?_cons_zero, List.getElem?_cons_succ, List.set_cons_zero, List.set_cons_succ, Bool.not_true, Bool.not_false, Bool.false_eq_true, if_false, isNon, gSet, Int.reduceLT, Int.reduceLE, Int.reduceNeg, and_self, Nat.reduceLeDiff, Nat.reduceMul, decide_true, decide_false, Int.reduceEq, eq_self, reduceCtorEq, seq_nx, seq_rt, seq_bad, of_rt, of_nx, trd_rt, trd_nx, r_defn, r_seq, r_try, r_nil, r_expr, r_ret, r_if, r_set, r_asg, r_put, r_attr, r_var, r_c, r_bin, r_un, r_fn, r_fnL, r_call, r_make, made_ok, made_exc, r_eattr, r_ixL, r_new, r_tup, r_disp, r_few, r_eif, r_eand, r_eor, r_enot, r_acons, r_anil, r_astar, r_astarL, r_val, r_tru, r_not, r_and, r_or, r_chain, r_inL, r_m1, r_joinL, r_sl, r_pno, r_pat, v_add, v_sub, v_mod, v_div, v_neg, v_lt, v_le, v_gt, v_ge, v_isN, v_notN, v_intI, v_intB, v_abs, v_strS, v_ixT, v_ixF, v_eqI, v_neI, v_eqS, v_neS, r_lcomp, r_pval, r_pseq, r_plist, r_planT, r_planS, r_tryO, r_tryA, seq_exc, of_exc, tryO_rt, tryO_nx, tryA_rt, tryA_nx, r_raise, r_raise1, r_xattr, r_slS, r_join, r_dget, r_dict0, r_dput, r_mkx, r_app, e1]
      unfold compLoop
      simp only [es, gSet, List.set_cons_zero, List.set_cons_succ, R.nox_ok, R.bind_ok, et, Bool.false_eq_true, if_false]
      exact e2
  exact go 24 0 m (by omega)
/-! ### the law -/
end K90

namespace K90
open PySem Sh
def lastB : DS := sSeq (sIf (tVal (eBin wNe0 (eNew (lComp (pRange1 (aCons (eC (.int 24)) (aNil))) (gSet 5) (tNot (tVal (eCall d__law_great_kept (aCons (eVar 5) (aNil))))) (eVar 5) [5])) (eNew (lDisp (aNil))))) (sRet (eC (.bl false))) (sNil)) (sSeq (sSet 3 (eMakeX0 "NothingToUndo")) (sRet (eAnd (eFn (bIsi isiT) (aCons (eVar 3) (aCons (eC (.cls "PlaceError")) (aNil)))) (eBin wEq0 (eCall d__law_kinds (aCons (eVar 3) (aNil))) (eNew (lDisp (aCons (eC (.int 24)) (aNil))))))))
def lastA : DS := sIf (tVal (eBin wNe0 (eNew (lComp (pRange1 (aCons (eC (.int 24)) (aNil))) (gSet 5) (tNot (tVal (eCall d__law_great_kept (aCons (eVar 5) (aNil))))) (eVar 5) [5])) (eNew (lDisp (aNil))))) (sRet (eC (.bl false))) (sNil)
def lastR : DS := sRet (eAnd (eFn (bIsi isiT) (aCons (eVar 3) (aCons (eC (.cls "PlaceError")) (aNil)))) (eBin wEq0 (eCall d__law_kinds (aCons (eVar 3) (aNil))) (eNew (lDisp (aCons (eC (.int 24)) (aNil))))))
theorem lastB_eq : lastB = sSeq lastA (sSeq (sSet 3 (eMakeX0 "NothingToUndo")) lastR) := rfl
theorem last_ok (x0 x1 x2 x4 x5 x6 x7 x8 : Option W) (m : Mem) : ∃ m', lastB [x0, x1, x2, none, x4, x5, x6, x7, x8] m = .rt (.bl true) m' := by
  obtain ⟨m1, e1, E1⟩ := greats_ok x0 x1 x2 none x4 x6 x7 x8 m
  have ne := ne_same (a := m1.length) (b := (m1 ++ [O.lst []]).length) (ws := []) (m := (m1 ++ [O.lst []]) ++ [O.lst []]) (fun w hw => by cases hw) ((Ext.app _ _).get last_get) last_get
  have gX : (((m1 ++ [O.lst []]) ++ [O.lst []]) ++ [O.exc "NothingToUndo" []])[((m1 ++ [O.lst []]) ++ [O.lst []]).length]? = some (.exc "NothingToUndo" []) := last_get
  have ty : tyc (.ref ((m1 ++ [O.lst []]) ++ [O.lst []]).length) (((m1 ++ [O.lst []]) ++ [O.lst []]) ++ [O.exc "NothingToUndo" []]) = some (.xc (names.getD 24 "")) := by
    unfold tyc
    simp only [gX]
    rfl
  have i1 := isi_pe ty (name_mem (by decide))
  obtain ⟨n, m2, e2, K2, g2⟩ := kinds_ok (by decide) ty
  have eq := eq_same (a := n) (b := m2.length) (ws := [.int 24]) (m := m2 ++ [O.lst [.int 24]]) (fun w hw => by
    rw [List.mem_singleton.mp hw]; exact .int _) ((Ext.app _ _).get g2) last_get
  refine ⟨m2 ++ [O.lst [.int 24]], ?_⟩
  have e0 : eMakeX0 "NothingToUndo" [x0, x1, x2, none, x4, x5, x6, x7, x8] ((m1 ++ [O.lst []]) ++ [O.lst []]) = .ok (.ref ((m1 ++ [O.lst []]) ++ [O.lst []]).length) (((m1 ++ [O.lst []]) ++ [O.lst []]) ++ [O.exc "NothingToUndo" []]) := rfl
  have q : lComp (pRange1 (aCons (eC (.int 24)) (aNil))) (gSet 5) (tNot (tVal (eCall d__law_great_kept (aCons (eVar 5) (aNil))))) (eVar 5) [5] [x0, x1, x2, none, x4, x5, x6, x7, x8] m = .ok [] m1 := by
    unfold lComp
    rw [plan24, R.bind_ok]
    exact e1
  have s1 : lastA [x0, x1, x2, none, x4, x5, x6, x7, x8] m = .nx [x0, x1, x2, none, x4, x5, x6, x7, x8] ((m1 ++ [O.lst []]) ++ [O.lst []]) := by
    unfold lastA
    rw [r_if, r_val, r_bin, r_new, q, R.bind_ok, R.bind_ok, r_new, r_disp, r_anil, R.bind_ok, r_few, if_pos (by simp), R.bind_ok, R.bind_ok, ne, R.bind_ok, RS.of_ok]
    rfl
  have s2 : sSet 3 (eMakeX0 "NothingToUndo") [x0, x1, x2, none, x4, x5, x6, x7, x8] ((m1 ++ [O.lst []]) ++ [O.lst []]) = .nx [x0, x1, x2, some (.ref ((m1 ++ [O.lst []]) ++ [O.lst []]).length), x4, x5, x6, x7, x8] (((m1 ++ [O.lst []]) ++ [O.lst []]) ++ [O.exc "NothingToUndo" []]) := rfl
  have s3 : lastR [x0, x1, x2, some (.ref ((m1 ++ [O.lst []]) ++ [O.lst []]).length), x4, x5, x6, x7, x8] (((m1 ++ [O.lst []]) ++ [O.lst []]) ++ [O.exc "NothingToUndo" []]) = .rt (.bl true) (m2 ++ [O.lst [.int 24]]) := by
    generalize ((m1 ++ [O.lst []]) ++ [O.lst []]).length = a at i1 e2
    generalize (((m1 ++ [O.lst []]) ++ [O.lst []]) ++ [O.exc "NothingToUndo" []]) = M at i1 e2
    unfold lastR
    simp only [List.length_cons, List.length_nil, Nat.reduceAdd, Nat.reduceEqDiff, if_true, List.map_cons, List.map_nil, Nat.reduceSub, List.replicate, List.cons_append, List.nil_append, R.bind_ok, R.bind_exc, R.bind_bad, R.nox_ok, RS.of_ok, RS.of_exc, List.getElem?_cons_zero, List.getElem?_cons_succ, List.set_cons_zero, List.set_cons_succ, Bool.not_true, Bool.not_false, Bool.false_eq_true, if_false, isNon, gSet, Int.reduceLT, Int.reduceLE, Int.reduceNeg, and_self, Nat.reduceLeDiff, Nat.reduceMul, decide_true, decide_false, Int.reduceEq, eq_self, reduceCtorEq, seq_nx, seq_rt, seq_bad, of_rt, of_nx, trd_rt, trd_nx, r_defn, r_seq, r_try, r_nil, r_expr, r_ret, r_if, r_set, r_asg, r_put, r_attr, r_var, r_c, r_bin, r_un, r_fn, r_fnL, r_call, r_make, made_ok, made_exc, r_eattr, r_ixL, r_new, r_tup, r_disp, r_few, r_eif, r_eand, r_eor, r_enot, r_acons, r_anil, r_astar, r_astarL, r_val, r_tru, r_not, r_and, r_or, r_chain, r_inL, r_m1, r_joinL, r_sl, r_pno, r_pat, v_add, v_sub, v_mod, v_div, v_neg, v_lt, v_le, v_gt, v_ge, v_isN, v_notN, v_intI, v_intB, v_abs, v_strS, v_ixT, v_ixF, v_eqI, v_neI, v_eqS, v_neS, r_lcomp, r_pval, r_pseq, r_plist, r_planT, r_planS, r_tryO, r_tryA, seq_exc, of_exc, tryO_rt, tryO_nx, tryA_rt, tryA_nx, r_raise, r_raise1, r_xattr, r_slS, r_join, r_dget, r_dict0, r_dput, r_mkx, r_app, i1, e2, eq]
  rw [lastB_eq, r_seq, s1, seq_nx, r_seq, s2, seq_nx, s3]
end K90

namespace K90
open PySem Sh
theorem law_true : ∀ ns : List Int, ns.length ≤ 63 → ∃ m, K90.d_law [.frz (ns.map W.int)] [] = .ok (.bl true) m := by
  intro ns _
  have hb : d_law = defn 1 9 (sSeq (sSet 1 (eNew (lDisp (aNil)))) (sSeq (sFor (pRange1 (aCons (eC (.int 8)) (aNil))) (gSet 2) cellB) (sSeq (sFor (pVal (eVar 1)) (gSeq [gSet 5, gSet 6, gSet 7]) entB) lastB))) := rfl
  obtain ⟨σ', m', e2, x2, x4, x5, x6, x7, x8, rfl, hM⟩ := forLoop_nx (src := srcRange 0 8) (h := gSet 2) (b := cellB) (N := 8)
    (fun i σ' m' => ∃ x2 x4 x5 x6 x7 x8, σ' = [some (.frz (ns.map W.int)), some (.ref 0), x2, none, x4, x5, x6, x7, x8] ∧ Made0 0 (24 * i) m')
    (fun i σ m1 hi ⟨x2, x4, x5, x6, x7, x8, hσ, hM⟩ => by
      subst hσ
      obtain ⟨x4', x5', x7', m2, q1, q2⟩ := cell_ok ns i hi 0 m1 hM none x4 x5 x6 x7 x8
      exact ⟨.int (0 + (i : Int)), _, _, _, m2, by show some (if i < 8 then _ else _) = _; rw [if_pos hi], rfl, q1, _, x4', x5', x6, x7', x8, rfl, q2⟩)
    (fun σ m' _ => rfl) 8 0 [some (.frz (ns.map W.int)), some (.ref 0), none, none, none, none, none, none, none] [O.lst []] (by omega) ⟨none, none, none, none, none, none, rfl, ⟨[], rfl, rfl, fun e he => by cases he⟩⟩
  obtain ⟨es, h1, h2, h3⟩ := hM.ex
  obtain ⟨y5, y6, y7, y8, m2, e3, K3⟩ := ents_ok h1 (fun e he => (h3 e he).1) (some (.frz (ns.map W.int))) x2 none x4 x5 x6 x7 x8
  obtain ⟨m3, e4⟩ := last_ok (some (.frz (ns.map W.int))) (some (.ref 0)) x2 x4 y5 y6 y7 y8 m2
  refine ⟨m3, ?_⟩
  rw [hb]
  simp only [r_defn, List.length_cons, List.length_nil, Nat.reduceAdd, if_true, List.map_cons, List.map_nil, Nat.reduceSub, List.replicate, List.cons_append, List.nil_append]
  have s1 : sSet 1 (eNew (lDisp (aNil))) [some (.frz (ns.map W.int)), none, none, none, none, none, none, none, none] [] = .nx [some (.frz (ns.map W.int)), some (.ref 0), none, none, none, none, none, none, none] [O.lst []] := rfl
  have s2 : sFor (pRange1 (aCons (eC (.int 8)) (aNil))) (gSet 2) cellB [some (.frz (ns.map W.int)), some (.ref 0), none, none, none, none, none, none, none] [O.lst []] = .nx [some (.frz (ns.map W.int)), some (.ref 0), x2, none, x4, x5, x6, x7, x8] m' := by
    unfold sFor
    rw [plan8, RS.of_ok]
    exact e2
  rw [r_seq, s1, seq_nx, r_seq, s2, seq_nx, r_seq, e3, seq_nx, e4]
  rfl
end K90

open PySem PySem.W PyProof.Rows
set_option maxRecDepth 100000 in
set_option maxHeartbeats 0 in
theorem PySem.Challenge.cw_placedonce_k90_errors_made_holds : PySem.Challenge.rw_placedonce_k90_errors_made.Holds := by
  w_on; o_law; k_head; (case hw => w_witness2)
  k_fill
  refine Sh.walk_sh (l := PySem.Challenge.rw_placedonce_k90_errors_made) (k := 5) (x := "_law_script") (F := K90.d_law) (by decide +kernel) rfl (by decide) rfl ⟨rfl, by decide, by decide⟩ (fun w h Y => PySem.W.kIn_of Y) ?FO K90.law_true
  case FO =>
    intro w mg fa h KX G hmg
    refine' K90.all_mk (P := PySem.Challenge.pw_placedonce_k90_errors_made) KX G hmg ?z_range ?z_len ?z_int ?z_abs ?a__law_pile ?l__law_pile ?c__law_pile ?k__law_pile ?a_NoName ?cd_NoName ?ct_NoName ?eC_NoName ?a_PlaceError ?xl_NoName ?xsa_NoName ?kc_NoName ?mi_NoName ?sc8_NoName___init__ ?l_NoName___init__ ?c_NoName___init__ ?sc1_NoName___init__ ?sc2_NoName___init__ ?sc3_NoName___init__ ?sc4_NoName___init__ ?xcm_NoName ?xve_NoName ?xnx_NoName ?z_super ?zst ?ztop ?xno_NoName_value ?a_NoValue ?cd_NoValue ?ct_NoValue ?eC_NoValue ?xl_NoValue ?xsa_NoValue ?kc_NoValue ?mi_NoValue ?sc8_NoValue___init__ ?l_NoValue___init__ ?c_NoValue___init__ ?sc1_NoValue___init__ ?sc2_NoValue___init__ ?sc3_NoValue___init__ ?sc4_NoValue___init__ ?xcm_NoValue ?xve_NoValue ?xnx_NoValue ?xno_NoValue_value ?a_NoOperator ?cd_NoOperator ?ct_NoOperator ?eC_NoOperator ?xl_NoOperator ?xsa_NoOperator ?kc_NoOperator ?mi_NoOperator ?sc8_NoOperator___init__ ?l_NoOperator___init__ ?c_NoOperator___init__ ?sc1_NoOperator___init__ ?sc2_NoOperator___init__ ?sc3_NoOperator___init__ ?sc4_NoOperator___init__ ?xcm_NoOperator ?xve_NoOperator ?xnx_NoOperator ?xno_NoOperator_value ?a_NoStatement ?cd_NoStatement ?ct_NoStatement ?eC_NoStatement ?xl_NoStatement ?xsa_NoStatement ?kc_NoStatement ?mi_NoStatement ?sc8_NoStatement___init__ ?l_NoStatement___init__ ?c_NoStatement___init__ ?sc1_NoStatement___init__ ?sc2_NoStatement___init__ ?sc3_NoStatement___init__ ?sc4_NoStatement___init__ ?xcm_NoStatement ?xve_NoStatement ?xnx_NoStatement ?xno_NoStatement_value ?a_NoText ?cd_NoText ?ct_NoText ?eC_NoText ?xl_NoText ?xsa_NoText ?kc_NoText ?mi_NoText ?sc8_NoText___init__ ?l_NoText___init__ ?c_NoText___init__ ?sc1_NoText___init__ ?sc2_NoText___init__ ?sc3_NoText___init__ ?sc4_NoText___init__ ?xcm_NoText ?xve_NoText ?xnx_NoText ?xno_NoText_value ?a_NoNumber ?cd_NoNumber ?ct_NoNumber ?eC_NoNumber ?xl_NoNumber ?xsa_NoNumber ?kc_NoNumber ?mi_NoNumber ?sc8_NoNumber___init__ ?l_NoNumber___init__ ?c_NoNumber___init__ ?sc1_NoNumber___init__ ?sc2_NoNumber___init__ ?sc3_NoNumber___init__ ?sc4_NoNumber___init__ ?xcm_NoNumber ?xve_NoNumber ?xnx_NoNumber ?xno_NoNumber_value ?a_NoInputs ?cd_NoInputs ?ct_NoInputs ?eC_NoInputs ?xl_NoInputs ?xsa_NoInputs ?kc_NoInputs ?mi_NoInputs ?sc8_NoInputs___init__ ?l_NoInputs___init__ ?c_NoInputs___init__ ?sc1_NoInputs___init__ ?sc2_NoInputs___init__ ?sc3_NoInputs___init__ ?sc4_NoInputs___init__ ?xcm_NoInputs ?xve_NoInputs ?xnx_NoInputs ?xno_NoInputs_value ?a_NoExpression ?cd_NoExpression ?ct_NoExpression ?eC_NoExpression ?xl_NoExpression ?xsa_NoExpression ?kc_NoExpression ?mi_NoExpression ?sc8_NoExpression___init__ ?l_NoExpression___init__ ?c_NoExpression___init__ ?sc1_NoExpression___init__ ?sc2_NoExpression___init__ ?sc3_NoExpression___init__ ?sc4_NoExpression___init__ ?xcm_NoExpression ?xve_NoExpression ?xnx_NoExpression ?xno_NoExpression_value ?a_NoPoint ?cd_NoPoint ?ct_NoPoint ?eC_NoPoint ?xl_NoPoint ?xsa_NoPoint ?kc_NoPoint ?mi_NoPoint ?sc8_NoPoint___init__ ?l_NoPoint___init__ ?c_NoPoint___init__ ?sc1_NoPoint___init__ ?sc2_NoPoint___init__ ?sc3_NoPoint___init__ ?sc4_NoPoint___init__ ?xcm_NoPoint ?xve_NoPoint ?xnx_NoPoint ?xno_NoPoint_value ?a_NoPlacement ?cd_NoPlacement ?ct_NoPlacement ?eC_NoPlacement ?xl_NoPlacement ?xsa_NoPlacement ?kc_NoPlacement ?mi_NoPlacement ?sc8_NoPlacement___init__ ?l_NoPlacement___init__ ?c_NoPlacement___init__ ?sc1_NoPlacement___init__ ?sc2_NoPlacement___init__ ?sc3_NoPlacement___init__ ?sc4_NoPlacement___init__ ?xcm_NoPlacement ?xve_NoPlacement ?xnx_NoPlacement ?xno_NoPlacement_value ?a_NoPath ?cd_NoPath ?ct_NoPath ?eC_NoPath ?xl_NoPath ?xsa_NoPath ?kc_NoPath ?mi_NoPath ?sc8_NoPath___init__ ?l_NoPath___init__ ?c_NoPath___init__ ?sc1_NoPath___init__ ?sc2_NoPath___init__ ?sc3_NoPath___init__ ?sc4_NoPath___init__ ?xcm_NoPath ?xve_NoPath ?xnx_NoPath ?xno_NoPath_value ?a_NotClosed ?cd_NotClosed ?ct_NotClosed ?eC_NotClosed ?xl_NotClosed ?xsa_NotClosed ?kc_NotClosed ?mi_NotClosed ?sc8_NotClosed___init__ ?l_NotClosed___init__ ?c_NotClosed___init__ ?sc1_NotClosed___init__ ?sc2_NotClosed___init__ ?sc3_NotClosed___init__ ?sc4_NotClosed___init__ ?xcm_NotClosed ?xve_NotClosed ?xnx_NotClosed ?xno_NotClosed_value ?a__law_first_ones ?l__law_first_ones ?c__law_first_ones ?k__law_first_ones ?a_NoPrice ?cd_NoPrice ?ct_NoPrice ?eC_NoPrice ?xl_NoPrice ?xsa_NoPrice ?kc_NoPrice ?mi_NoPrice ?sc8_NoPrice___init__ ?l_NoPrice___init__ ?c_NoPrice___init__ ?sc1_NoPrice___init__ ?sc2_NoPrice___init__ ?sc3_NoPrice___init__ ?sc4_NoPrice___init__ ?xcm_NoPrice ?xve_NoPrice ?xnx_NoPrice ?xno_NoPrice_value ?a_NoCounts ?cd_NoCounts ?ct_NoCounts ?eC_NoCounts ?xl_NoCounts ?xsa_NoCounts ?kc_NoCounts ?mi_NoCounts ?sc8_NoCounts___init__ ?l_NoCounts___init__ ?c_NoCounts___init__ ?sc1_NoCounts___init__ ?sc2_NoCounts___init__ ?sc3_NoCounts___init__ ?sc4_NoCounts___init__ ?xcm_NoCounts ?xve_NoCounts ?xnx_NoCounts ?xno_NoCounts_value ?a_NoPairs ?cd_NoPairs ?ct_NoPairs ?eC_NoPairs ?xl_NoPairs ?xsa_NoPairs ?kc_NoPairs ?mi_NoPairs ?sc8_NoPairs___init__ ?l_NoPairs___init__ ?c_NoPairs___init__ ?sc1_NoPairs___init__ ?sc2_NoPairs___init__ ?sc3_NoPairs___init__ ?sc4_NoPairs___init__ ?xcm_NoPairs ?xve_NoPairs ?xnx_NoPairs ?xno_NoPairs_value ?a_NoProgram ?cd_NoProgram ?ct_NoProgram ?eC_NoProgram ?xl_NoProgram ?xsa_NoProgram ?kc_NoProgram ?mi_NoProgram ?sc8_NoProgram___init__ ?l_NoProgram___init__ ?c_NoProgram___init__ ?sc1_NoProgram___init__ ?sc2_NoProgram___init__ ?sc3_NoProgram___init__ ?sc4_NoProgram___init__ ?xcm_NoProgram ?xve_NoProgram ?xnx_NoProgram ?xno_NoProgram_node ?a_Idle ?cd_Idle ?ct_Idle ?eC_Idle ?xl_Idle ?xsa_Idle ?kc_Idle ?mi_Idle ?sc8_Idle___init__ ?l_Idle___init__ ?c_Idle___init__ ?sc1_Idle___init__ ?sc2_Idle___init__ ?sc3_Idle___init__ ?sc4_Idle___init__ ?xcm_Idle ?xve_Idle ?xnx_Idle ?xno_Idle_node ?a_NoNode ?cd_NoNode ?ct_NoNode ?eC_NoNode ?xl_NoNode ?xsa_NoNode ?kc_NoNode ?mi_NoNode ?sc8_NoNode___init__ ?l_NoNode___init__ ?c_NoNode___init__ ?sc1_NoNode___init__ ?sc2_NoNode___init__ ?sc3_NoNode___init__ ?sc4_NoNode___init__ ?xcm_NoNode ?xve_NoNode ?xnx_NoNode ?xno_NoNode_node ?a_NoEdge ?cd_NoEdge ?ct_NoEdge ?eC_NoEdge ?xl_NoEdge ?xsa_NoEdge ?kc_NoEdge ?mi_NoEdge ?sc8_NoEdge___init__ ?l_NoEdge___init__ ?c_NoEdge___init__ ?sc1_NoEdge___init__ ?sc2_NoEdge___init__ ?sc3_NoEdge___init__ ?sc4_NoEdge___init__ ?xcm_NoEdge ?xve_NoEdge ?xnx_NoEdge ?xno_NoEdge_edge ?a_NoPlace ?cd_NoPlace ?ct_NoPlace ?eC_NoPlace ?xl_NoPlace ?xsa_NoPlace ?kc_NoPlace ?mi_NoPlace ?sc8_NoPlace___init__ ?l_NoPlace___init__ ?c_NoPlace___init__ ?sc1_NoPlace___init__ ?sc2_NoPlace___init__ ?sc3_NoPlace___init__ ?sc4_NoPlace___init__ ?xcm_NoPlace ?xve_NoPlace ?xnx_NoPlace ?xno_NoPlace_place ?a_NoStep ?cd_NoStep ?ct_NoStep ?eC_NoStep ?xl_NoStep ?xsa_NoStep ?kc_NoStep ?mi_NoStep ?sc8_NoStep___init__ ?l_NoStep___init__ ?c_NoStep___init__ ?sc1_NoStep___init__ ?sc2_NoStep___init__ ?sc3_NoStep___init__ ?sc4_NoStep___init__ ?xcm_NoStep ?xve_NoStep ?xnx_NoStep ?xno_NoStep_place ?a_NoEdit ?cd_NoEdit ?ct_NoEdit ?eC_NoEdit ?xl_NoEdit ?xsa_NoEdit ?kc_NoEdit ?mi_NoEdit ?sc8_NoEdit___init__ ?l_NoEdit___init__ ?c_NoEdit___init__ ?sc1_NoEdit___init__ ?sc2_NoEdit___init__ ?sc3_NoEdit___init__ ?sc4_NoEdit___init__ ?xcm_NoEdit ?xve_NoEdit ?xnx_NoEdit ?xno_NoEdit_name ?a_Unfit ?cd_Unfit ?ct_Unfit ?eC_Unfit ?xl_Unfit ?xsa_Unfit ?kc_Unfit ?mi_Unfit ?sc8_Unfit___init__ ?l_Unfit___init__ ?c_Unfit___init__ ?sc1_Unfit___init__ ?sc2_Unfit___init__ ?sc3_Unfit___init__ ?sc4_Unfit___init__ ?xcm_Unfit ?xve_Unfit ?xnx_Unfit ?xno_Unfit_told ?a_TooLong ?cd_TooLong ?ct_TooLong ?eC_TooLong ?xl_TooLong ?xsa_TooLong ?kc_TooLong ?mi_TooLong ?sc8_TooLong___init__ ?l_TooLong___init__ ?c_TooLong___init__ ?sc1_TooLong___init__ ?sc2_TooLong___init__ ?sc3_TooLong___init__ ?sc4_TooLong___init__ ?xcm_TooLong ?xve_TooLong ?xnx_TooLong ?xno_TooLong_nodes ?a__law_other_ones ?l__law_other_ones ?c__law_other_ones ?k__law_other_ones ?xga_NotClosed ?xgt_NotClosed ?ia_NotClosed ?ig ?it ?im_NotClosed ?hd_NotClosed ?xga_NoName ?xgt_NoName ?ia_NoName ?im_NoName ?hd_NoName ?xga_NoValue ?xgt_NoValue ?ia_NoValue ?im_NoValue ?hd_NoValue ?xga_NoOperator ?xgt_NoOperator ?ia_NoOperator ?im_NoOperator ?hd_NoOperator ?xga_NoStatement ?xgt_NoStatement ?ia_NoStatement ?im_NoStatement ?hd_NoStatement ?xga_NoText ?xgt_NoText ?ia_NoText ?im_NoText ?hd_NoText ?xga_NoNumber ?xgt_NoNumber ?ia_NoNumber ?im_NoNumber ?hd_NoNumber ?xga_NoInputs ?xgt_NoInputs ?ia_NoInputs ?im_NoInputs ?hd_NoInputs ?xga_NoExpression ?xgt_NoExpression ?ia_NoExpression ?im_NoExpression ?hd_NoExpression ?xga_NoPoint ?xgt_NoPoint ?ia_NoPoint ?im_NoPoint ?hd_NoPoint ?xga_NoPlacement ?xgt_NoPlacement ?ia_NoPlacement ?im_NoPlacement ?hd_NoPlacement ?xga_NoPath ?xgt_NoPath ?ia_NoPath ?im_NoPath ?hd_NoPath ?xga_NoPrice ?xgt_NoPrice ?ia_NoPrice ?im_NoPrice ?hd_NoPrice ?xga_NoCounts ?xgt_NoCounts ?ia_NoCounts ?im_NoCounts ?hd_NoCounts ?xga_NoPairs ?xgt_NoPairs ?ia_NoPairs ?im_NoPairs ?hd_NoPairs ?xga_NoProgram ?xgt_NoProgram ?ia_NoProgram ?im_NoProgram ?hd_NoProgram ?xga_Idle ?xgt_Idle ?ia_Idle ?im_Idle ?hd_Idle ?xga_NoNode ?xgt_NoNode ?ia_NoNode ?im_NoNode ?hd_NoNode ?xga_NoEdge ?xgt_NoEdge ?ia_NoEdge ?im_NoEdge ?hd_NoEdge ?xga_NoPlace ?xgt_NoPlace ?ia_NoPlace ?im_NoPlace ?hd_NoPlace ?xga_NoStep ?xgt_NoStep ?ia_NoStep ?im_NoStep ?hd_NoStep ?xga_NoEdit ?xgt_NoEdit ?ia_NoEdit ?im_NoEdit ?hd_NoEdit ?xga_Unfit ?xgt_Unfit ?ia_Unfit ?im_Unfit ?hd_Unfit ?xga_TooLong ?xgt_TooLong ?ia_TooLong ?im_TooLong ?hd_TooLong ?a__law_value_of ?l__law_value_of ?c__law_value_of ?k__law_value_of ?cd_PlaceError ?ct_PlaceError ?eC_PlaceError ?a_NothingToUndo ?cd_NothingToUndo ?ct_NothingToUndo ?eC_NothingToUndo ?xl_NothingToUndo ?xsa_NothingToUndo ?kc_NothingToUndo ?mi_NothingToUndo ?sc8_NothingToUndo___init__ ?l_NothingToUndo___init__ ?c_NothingToUndo___init__ ?sc1_NothingToUndo___init__ ?sc2_NothingToUndo___init__ ?sc3_NothingToUndo___init__ ?sc4_NothingToUndo___init__ ?xcm_NothingToUndo ?xve_NothingToUndo ?xnx_NothingToUndo ?xga_NothingToUndo ?xgt_NothingToUndo ?ia_NothingToUndo ?im_NothingToUndo ?hd_NothingToUndo ?fnod ?fnpe ?z_isinstance ?z_list ?z_repr ?a__law_alike ?l__law_alike ?c__law_alike ?k__law_alike ?z_str ?xst_NotClosed ?xst_NoName ?xst_NoValue ?xst_NoOperator ?xst_NoStatement ?xst_NoText ?xst_NoNumber ?xst_NoInputs ?xst_NoExpression ?xst_NoPoint ?xst_NoPlacement ?xst_NoPath ?xst_TooLong ?xst_NoPrice ?xst_NoCounts ?xst_NoPairs ?xst_NoProgram ?xst_Idle ?xst_NoNode ?xst_NoEdge ?xst_NoPlace ?xst_NoStep ?xst_NoEdit ?xst_Unfit ?a__law_kept ?l__law_kept ?c__law_kept ?k__law_kept ?a__law_mixed ?l__law_mixed ?c__law_mixed ?k__law_mixed ?a__law_take ?l__law_take ?c__law_take ?k__law_take ?a__law_odd ?l__law_odd ?c__law_odd ?k__law_odd ?z_ValueError ?z_enumerate ?a__law_kinds ?l__law_kinds ?c__law_kinds ?k__law_kinds ?a__law_great_kept ?l__law_great_kept ?c__law_great_kept ?k__law_great_kept ?a_law ?l_law ?c_law ?k_law
    (case z_range => k_is)
    (case z_len => k_is)
    (case z_int => k_is)
    (case z_abs => k_is)
    (case a__law_pile => k_is)
    (case l__law_pile => k_is)
    (case c__law_pile => k_is)
    (case k__law_pile => k_is)
    (case a_NoName => k_is)
    (case cd_NoName => k_is)
    (case ct_NoName => k_is)
    (case eC_NoName => k_is)
    (case a_PlaceError => k_is)
    (case xl_NoName => k_is)
    (case xsa_NoName => k_is)
    (case kc_NoName => k_is)
    (case mi_NoName => k_is)
    (case sc8_NoName___init__ => k_is)
    (case l_NoName___init__ => k_is)
    (case c_NoName___init__ => k_is)
    (case sc1_NoName___init__ => k_is)
    (case sc2_NoName___init__ => rfl)
    (case sc3_NoName___init__ => rfl)
    (case sc4_NoName___init__ => k_is)
    (case xcm_NoName => k_is)
    (case xve_NoName => k_is)
    (case xnx_NoName => ks_is)
    (case z_super => k_is)
    (case zst => k_is)
    (case ztop => rfl)
    (case xno_NoName_value => k_is)
    (case a_NoValue => k_is)
    (case cd_NoValue => k_is)
    (case ct_NoValue => k_is)
    (case eC_NoValue => k_is)
    (case xl_NoValue => k_is)
    (case xsa_NoValue => k_is)
    (case kc_NoValue => k_is)
    (case mi_NoValue => k_is)
    (case sc8_NoValue___init__ => k_is)
    (case l_NoValue___init__ => k_is)
    (case c_NoValue___init__ => k_is)
    (case sc1_NoValue___init__ => k_is)
    (case sc2_NoValue___init__ => rfl)
    (case sc3_NoValue___init__ => rfl)
    (case sc4_NoValue___init__ => k_is)
    (case xcm_NoValue => k_is)
    (case xve_NoValue => k_is)
    (case xnx_NoValue => ks_is)
    (case xno_NoValue_value => k_is)
    (case a_NoOperator => k_is)
    (case cd_NoOperator => k_is)
    (case ct_NoOperator => k_is)
    (case eC_NoOperator => k_is)
    (case xl_NoOperator => k_is)
    (case xsa_NoOperator => k_is)
    (case kc_NoOperator => k_is)
    (case mi_NoOperator => k_is)
    (case sc8_NoOperator___init__ => k_is)
    (case l_NoOperator___init__ => k_is)
    (case c_NoOperator___init__ => k_is)
    (case sc1_NoOperator___init__ => k_is)
    (case sc2_NoOperator___init__ => rfl)
    (case sc3_NoOperator___init__ => rfl)
    (case sc4_NoOperator___init__ => k_is)
    (case xcm_NoOperator => k_is)
    (case xve_NoOperator => k_is)
    (case xnx_NoOperator => ks_is)
    (case xno_NoOperator_value => k_is)
    (case a_NoStatement => k_is)
    (case cd_NoStatement => k_is)
    (case ct_NoStatement => k_is)
    (case eC_NoStatement => k_is)
    (case xl_NoStatement => k_is)
    (case xsa_NoStatement => k_is)
    (case kc_NoStatement => k_is)
    (case mi_NoStatement => k_is)
    (case sc8_NoStatement___init__ => k_is)
    (case l_NoStatement___init__ => k_is)
    (case c_NoStatement___init__ => k_is)
    (case sc1_NoStatement___init__ => k_is)
    (case sc2_NoStatement___init__ => rfl)
    (case sc3_NoStatement___init__ => rfl)
    (case sc4_NoStatement___init__ => k_is)
    (case xcm_NoStatement => k_is)
    (case xve_NoStatement => k_is)
    (case xnx_NoStatement => ks_is)
    (case xno_NoStatement_value => k_is)
    (case a_NoText => k_is)
    (case cd_NoText => k_is)
    (case ct_NoText => k_is)
    (case eC_NoText => k_is)
    (case xl_NoText => k_is)
    (case xsa_NoText => k_is)
    (case kc_NoText => k_is)
    (case mi_NoText => k_is)
    (case sc8_NoText___init__ => k_is)
    (case l_NoText___init__ => k_is)
    (case c_NoText___init__ => k_is)
    (case sc1_NoText___init__ => k_is)
    (case sc2_NoText___init__ => rfl)
    (case sc3_NoText___init__ => rfl)
    (case sc4_NoText___init__ => k_is)
    (case xcm_NoText => k_is)
    (case xve_NoText => k_is)
    (case xnx_NoText => ks_is)
    (case xno_NoText_value => k_is)
    (case a_NoNumber => k_is)
    (case cd_NoNumber => k_is)
    (case ct_NoNumber => k_is)
    (case eC_NoNumber => k_is)
    (case xl_NoNumber => k_is)
    (case xsa_NoNumber => k_is)
    (case kc_NoNumber => k_is)
    (case mi_NoNumber => k_is)
    (case sc8_NoNumber___init__ => k_is)
    (case l_NoNumber___init__ => k_is)
    (case c_NoNumber___init__ => k_is)
    (case sc1_NoNumber___init__ => k_is)
    (case sc2_NoNumber___init__ => rfl)
    (case sc3_NoNumber___init__ => rfl)
    (case sc4_NoNumber___init__ => k_is)
    (case xcm_NoNumber => k_is)
    (case xve_NoNumber => k_is)
    (case xnx_NoNumber => ks_is)
    (case xno_NoNumber_value => k_is)
    (case a_NoInputs => k_is)
    (case cd_NoInputs => k_is)
    (case ct_NoInputs => k_is)
    (case eC_NoInputs => k_is)
    (case xl_NoInputs => k_is)
    (case xsa_NoInputs => k_is)
    (case kc_NoInputs => k_is)
    (case mi_NoInputs => k_is)
    (case sc8_NoInputs___init__ => k_is)
    (case l_NoInputs___init__ => k_is)
    (case c_NoInputs___init__ => k_is)
    (case sc1_NoInputs___init__ => k_is)
    (case sc2_NoInputs___init__ => rfl)
    (case sc3_NoInputs___init__ => rfl)
    (case sc4_NoInputs___init__ => k_is)
    (case xcm_NoInputs => k_is)
    (case xve_NoInputs => k_is)
    (case xnx_NoInputs => ks_is)
    (case xno_NoInputs_value => k_is)
    (case a_NoExpression => k_is)
    (case cd_NoExpression => k_is)
    (case ct_NoExpression => k_is)
    (case eC_NoExpression => k_is)
    (case xl_NoExpression => k_is)
    (case xsa_NoExpression => k_is)
    (case kc_NoExpression => k_is)
    (case mi_NoExpression => k_is)
    (case sc8_NoExpression___init__ => k_is)
    (case l_NoExpression___init__ => k_is)
    (case c_NoExpression___init__ => k_is)
    (case sc1_NoExpression___init__ => k_is)
    (case sc2_NoExpression___init__ => rfl)
    (case sc3_NoExpression___init__ => rfl)
    (case sc4_NoExpression___init__ => k_is)
    (case xcm_NoExpression => k_is)
    (case xve_NoExpression => k_is)
    (case xnx_NoExpression => ks_is)
    (case xno_NoExpression_value => k_is)
    (case a_NoPoint => k_is)
    (case cd_NoPoint => k_is)
    (case ct_NoPoint => k_is)
    (case eC_NoPoint => k_is)
    (case xl_NoPoint => k_is)
    (case xsa_NoPoint => k_is)
    (case kc_NoPoint => k_is)
    (case mi_NoPoint => k_is)
    (case sc8_NoPoint___init__ => k_is)
    (case l_NoPoint___init__ => k_is)
    (case c_NoPoint___init__ => k_is)
    (case sc1_NoPoint___init__ => k_is)
    (case sc2_NoPoint___init__ => rfl)
    (case sc3_NoPoint___init__ => rfl)
    (case sc4_NoPoint___init__ => k_is)
    (case xcm_NoPoint => k_is)
    (case xve_NoPoint => k_is)
    (case xnx_NoPoint => ks_is)
    (case xno_NoPoint_value => k_is)
    (case a_NoPlacement => k_is)
    (case cd_NoPlacement => k_is)
    (case ct_NoPlacement => k_is)
    (case eC_NoPlacement => k_is)
    (case xl_NoPlacement => k_is)
    (case xsa_NoPlacement => k_is)
    (case kc_NoPlacement => k_is)
    (case mi_NoPlacement => k_is)
    (case sc8_NoPlacement___init__ => k_is)
    (case l_NoPlacement___init__ => k_is)
    (case c_NoPlacement___init__ => k_is)
    (case sc1_NoPlacement___init__ => k_is)
    (case sc2_NoPlacement___init__ => rfl)
    (case sc3_NoPlacement___init__ => rfl)
    (case sc4_NoPlacement___init__ => k_is)
    (case xcm_NoPlacement => k_is)
    (case xve_NoPlacement => k_is)
    (case xnx_NoPlacement => ks_is)
    (case xno_NoPlacement_value => k_is)
    (case a_NoPath => k_is)
    (case cd_NoPath => k_is)
    (case ct_NoPath => k_is)
    (case eC_NoPath => k_is)
    (case xl_NoPath => k_is)
    (case xsa_NoPath => k_is)
    (case kc_NoPath => k_is)
    (case mi_NoPath => k_is)
    (case sc8_NoPath___init__ => k_is)
    (case l_NoPath___init__ => k_is)
    (case c_NoPath___init__ => k_is)
    (case sc1_NoPath___init__ => k_is)
    (case sc2_NoPath___init__ => rfl)
    (case sc3_NoPath___init__ => rfl)
    (case sc4_NoPath___init__ => k_is)
    (case xcm_NoPath => k_is)
    (case xve_NoPath => k_is)
    (case xnx_NoPath => ks_is)
    (case xno_NoPath_value => k_is)
    (case a_NotClosed => k_is)
    (case cd_NotClosed => k_is)
    (case ct_NotClosed => k_is)
    (case eC_NotClosed => k_is)
    (case xl_NotClosed => k_is)
    (case xsa_NotClosed => k_is)
    (case kc_NotClosed => k_is)
    (case mi_NotClosed => k_is)
    (case sc8_NotClosed___init__ => k_is)
    (case l_NotClosed___init__ => k_is)
    (case c_NotClosed___init__ => k_is)
    (case sc1_NotClosed___init__ => k_is)
    (case sc2_NotClosed___init__ => rfl)
    (case sc3_NotClosed___init__ => rfl)
    (case sc4_NotClosed___init__ => k_is)
    (case xcm_NotClosed => k_is)
    (case xve_NotClosed => k_is)
    (case xnx_NotClosed => ks_is)
    (case xno_NotClosed_value => k_is)
    (case a__law_first_ones => k_is)
    (case l__law_first_ones => k_is)
    (case c__law_first_ones => k_is)
    (case k__law_first_ones => k_is)
    (case a_NoPrice => k_is)
    (case cd_NoPrice => k_is)
    (case ct_NoPrice => k_is)
    (case eC_NoPrice => k_is)
    (case xl_NoPrice => k_is)
    (case xsa_NoPrice => k_is)
    (case kc_NoPrice => k_is)
    (case mi_NoPrice => k_is)
    (case sc8_NoPrice___init__ => k_is)
    (case l_NoPrice___init__ => k_is)
    (case c_NoPrice___init__ => k_is)
    (case sc1_NoPrice___init__ => k_is)
    (case sc2_NoPrice___init__ => rfl)
    (case sc3_NoPrice___init__ => rfl)
    (case sc4_NoPrice___init__ => k_is)
    (case xcm_NoPrice => k_is)
    (case xve_NoPrice => k_is)
    (case xnx_NoPrice => ks_is)
    (case xno_NoPrice_value => k_is)
    (case a_NoCounts => k_is)
    (case cd_NoCounts => k_is)
    (case ct_NoCounts => k_is)
    (case eC_NoCounts => k_is)
    (case xl_NoCounts => k_is)
    (case xsa_NoCounts => k_is)
    (case kc_NoCounts => k_is)
    (case mi_NoCounts => k_is)
    (case sc8_NoCounts___init__ => k_is)
    (case l_NoCounts___init__ => k_is)
    (case c_NoCounts___init__ => k_is)
    (case sc1_NoCounts___init__ => k_is)
    (case sc2_NoCounts___init__ => rfl)
    (case sc3_NoCounts___init__ => rfl)
    (case sc4_NoCounts___init__ => k_is)
    (case xcm_NoCounts => k_is)
    (case xve_NoCounts => k_is)
    (case xnx_NoCounts => ks_is)
    (case xno_NoCounts_value => k_is)
    (case a_NoPairs => k_is)
    (case cd_NoPairs => k_is)
    (case ct_NoPairs => k_is)
    (case eC_NoPairs => k_is)
    (case xl_NoPairs => k_is)
    (case xsa_NoPairs => k_is)
    (case kc_NoPairs => k_is)
    (case mi_NoPairs => k_is)
    (case sc8_NoPairs___init__ => k_is)
    (case l_NoPairs___init__ => k_is)
    (case c_NoPairs___init__ => k_is)
    (case sc1_NoPairs___init__ => k_is)
    (case sc2_NoPairs___init__ => rfl)
    (case sc3_NoPairs___init__ => rfl)
    (case sc4_NoPairs___init__ => k_is)
    (case xcm_NoPairs => k_is)
    (case xve_NoPairs => k_is)
    (case xnx_NoPairs => ks_is)
    (case xno_NoPairs_value => k_is)
    (case a_NoProgram => k_is)
    (case cd_NoProgram => k_is)
    (case ct_NoProgram => k_is)
    (case eC_NoProgram => k_is)
    (case xl_NoProgram => k_is)
    (case xsa_NoProgram => k_is)
    (case kc_NoProgram => k_is)
    (case mi_NoProgram => k_is)
    (case sc8_NoProgram___init__ => k_is)
    (case l_NoProgram___init__ => k_is)
    (case c_NoProgram___init__ => k_is)
    (case sc1_NoProgram___init__ => k_is)
    (case sc2_NoProgram___init__ => rfl)
    (case sc3_NoProgram___init__ => rfl)
    (case sc4_NoProgram___init__ => k_is)
    (case xcm_NoProgram => k_is)
    (case xve_NoProgram => k_is)
    (case xnx_NoProgram => ks_is)
    (case xno_NoProgram_node => k_is)
    (case a_Idle => k_is)
    (case cd_Idle => k_is)
    (case ct_Idle => k_is)
    (case eC_Idle => k_is)
    (case xl_Idle => k_is)
    (case xsa_Idle => k_is)
    (case kc_Idle => k_is)
    (case mi_Idle => k_is)
    (case sc8_Idle___init__ => k_is)
    (case l_Idle___init__ => k_is)
    (case c_Idle___init__ => k_is)
    (case sc1_Idle___init__ => k_is)
    (case sc2_Idle___init__ => rfl)
    (case sc3_Idle___init__ => rfl)
    (case sc4_Idle___init__ => k_is)
    (case xcm_Idle => k_is)
    (case xve_Idle => k_is)
    (case xnx_Idle => ks_is)
    (case xno_Idle_node => k_is)
    (case a_NoNode => k_is)
    (case cd_NoNode => k_is)
    (case ct_NoNode => k_is)
    (case eC_NoNode => k_is)
    (case xl_NoNode => k_is)
    (case xsa_NoNode => k_is)
    (case kc_NoNode => k_is)
    (case mi_NoNode => k_is)
    (case sc8_NoNode___init__ => k_is)
    (case l_NoNode___init__ => k_is)
    (case c_NoNode___init__ => k_is)
    (case sc1_NoNode___init__ => k_is)
    (case sc2_NoNode___init__ => rfl)
    (case sc3_NoNode___init__ => rfl)
    (case sc4_NoNode___init__ => k_is)
    (case xcm_NoNode => k_is)
    (case xve_NoNode => k_is)
    (case xnx_NoNode => ks_is)
    (case xno_NoNode_node => k_is)
    (case a_NoEdge => k_is)
    (case cd_NoEdge => k_is)
    (case ct_NoEdge => k_is)
    (case eC_NoEdge => k_is)
    (case xl_NoEdge => k_is)
    (case xsa_NoEdge => k_is)
    (case kc_NoEdge => k_is)
    (case mi_NoEdge => k_is)
    (case sc8_NoEdge___init__ => k_is)
    (case l_NoEdge___init__ => k_is)
    (case c_NoEdge___init__ => k_is)
    (case sc1_NoEdge___init__ => k_is)
    (case sc2_NoEdge___init__ => rfl)
    (case sc3_NoEdge___init__ => rfl)
    (case sc4_NoEdge___init__ => k_is)
    (case xcm_NoEdge => k_is)
    (case xve_NoEdge => k_is)
    (case xnx_NoEdge => ks_is)
    (case xno_NoEdge_edge => k_is)
    (case a_NoPlace => k_is)
    (case cd_NoPlace => k_is)
    (case ct_NoPlace => k_is)
    (case eC_NoPlace => k_is)
    (case xl_NoPlace => k_is)
    (case xsa_NoPlace => k_is)
    (case kc_NoPlace => k_is)
    (case mi_NoPlace => k_is)
    (case sc8_NoPlace___init__ => k_is)
    (case l_NoPlace___init__ => k_is)
    (case c_NoPlace___init__ => k_is)
    (case sc1_NoPlace___init__ => k_is)
    (case sc2_NoPlace___init__ => rfl)
    (case sc3_NoPlace___init__ => rfl)
    (case sc4_NoPlace___init__ => k_is)
    (case xcm_NoPlace => k_is)
    (case xve_NoPlace => k_is)
    (case xnx_NoPlace => ks_is)
    (case xno_NoPlace_place => k_is)
    (case a_NoStep => k_is)
    (case cd_NoStep => k_is)
    (case ct_NoStep => k_is)
    (case eC_NoStep => k_is)
    (case xl_NoStep => k_is)
    (case xsa_NoStep => k_is)
    (case kc_NoStep => k_is)
    (case mi_NoStep => k_is)
    (case sc8_NoStep___init__ => k_is)
    (case l_NoStep___init__ => k_is)
    (case c_NoStep___init__ => k_is)
    (case sc1_NoStep___init__ => k_is)
    (case sc2_NoStep___init__ => rfl)
    (case sc3_NoStep___init__ => rfl)
    (case sc4_NoStep___init__ => k_is)
    (case xcm_NoStep => k_is)
    (case xve_NoStep => k_is)
    (case xnx_NoStep => ks_is)
    (case xno_NoStep_place => k_is)
    (case a_NoEdit => k_is)
    (case cd_NoEdit => k_is)
    (case ct_NoEdit => k_is)
    (case eC_NoEdit => k_is)
    (case xl_NoEdit => k_is)
    (case xsa_NoEdit => k_is)
    (case kc_NoEdit => k_is)
    (case mi_NoEdit => k_is)
    (case sc8_NoEdit___init__ => k_is)
    (case l_NoEdit___init__ => k_is)
    (case c_NoEdit___init__ => k_is)
    (case sc1_NoEdit___init__ => k_is)
    (case sc2_NoEdit___init__ => rfl)
    (case sc3_NoEdit___init__ => rfl)
    (case sc4_NoEdit___init__ => k_is)
    (case xcm_NoEdit => k_is)
    (case xve_NoEdit => k_is)
    (case xnx_NoEdit => ks_is)
    (case xno_NoEdit_name => k_is)
    (case a_Unfit => k_is)
    (case cd_Unfit => k_is)
    (case ct_Unfit => k_is)
    (case eC_Unfit => k_is)
    (case xl_Unfit => k_is)
    (case xsa_Unfit => k_is)
    (case kc_Unfit => k_is)
    (case mi_Unfit => k_is)
    (case sc8_Unfit___init__ => k_is)
    (case l_Unfit___init__ => k_is)
    (case c_Unfit___init__ => k_is)
    (case sc1_Unfit___init__ => k_is)
    (case sc2_Unfit___init__ => rfl)
    (case sc3_Unfit___init__ => rfl)
    (case sc4_Unfit___init__ => k_is)
    (case xcm_Unfit => k_is)
    (case xve_Unfit => k_is)
    (case xnx_Unfit => ks_is)
    (case xno_Unfit_told => k_is)
    (case a_TooLong => k_is)
    (case cd_TooLong => k_is)
    (case ct_TooLong => k_is)
    (case eC_TooLong => k_is)
    (case xl_TooLong => k_is)
    (case xsa_TooLong => k_is)
    (case kc_TooLong => k_is)
    (case mi_TooLong => k_is)
    (case sc8_TooLong___init__ => k_is)
    (case l_TooLong___init__ => k_is)
    (case c_TooLong___init__ => k_is)
    (case sc1_TooLong___init__ => k_is)
    (case sc2_TooLong___init__ => rfl)
    (case sc3_TooLong___init__ => rfl)
    (case sc4_TooLong___init__ => k_is)
    (case xcm_TooLong => k_is)
    (case xve_TooLong => k_is)
    (case xnx_TooLong => ks_is)
    (case xno_TooLong_nodes => k_is)
    (case a__law_other_ones => k_is)
    (case l__law_other_ones => k_is)
    (case c__law_other_ones => k_is)
    (case k__law_other_ones => k_is)
    (case xga_NotClosed => k_is)
    (case xgt_NotClosed => k_is)
    (case ia_NotClosed => k_is)
    (case ig => k_is)
    (case it => k_is)
    (case im_NotClosed => k_is)
    (case hd_NotClosed => k_is)
    (case xga_NoName => k_is)
    (case xgt_NoName => k_is)
    (case ia_NoName => k_is)
    (case im_NoName => k_is)
    (case hd_NoName => k_is)
    (case xga_NoValue => k_is)
    (case xgt_NoValue => k_is)
    (case ia_NoValue => k_is)
    (case im_NoValue => k_is)
    (case hd_NoValue => k_is)
    (case xga_NoOperator => k_is)
    (case xgt_NoOperator => k_is)
    (case ia_NoOperator => k_is)
    (case im_NoOperator => k_is)
    (case hd_NoOperator => k_is)
    (case xga_NoStatement => k_is)
    (case xgt_NoStatement => k_is)
    (case ia_NoStatement => k_is)
    (case im_NoStatement => k_is)
    (case hd_NoStatement => k_is)
    (case xga_NoText => k_is)
    (case xgt_NoText => k_is)
    (case ia_NoText => k_is)
    (case im_NoText => k_is)
    (case hd_NoText => k_is)
    (case xga_NoNumber => k_is)
    (case xgt_NoNumber => k_is)
    (case ia_NoNumber => k_is)
    (case im_NoNumber => k_is)
    (case hd_NoNumber => k_is)
    (case xga_NoInputs => k_is)
    (case xgt_NoInputs => k_is)
    (case ia_NoInputs => k_is)
    (case im_NoInputs => k_is)
    (case hd_NoInputs => k_is)
    (case xga_NoExpression => k_is)
    (case xgt_NoExpression => k_is)
    (case ia_NoExpression => k_is)
    (case im_NoExpression => k_is)
    (case hd_NoExpression => k_is)
    (case xga_NoPoint => k_is)
    (case xgt_NoPoint => k_is)
    (case ia_NoPoint => k_is)
    (case im_NoPoint => k_is)
    (case hd_NoPoint => k_is)
    (case xga_NoPlacement => k_is)
    (case xgt_NoPlacement => k_is)
    (case ia_NoPlacement => k_is)
    (case im_NoPlacement => k_is)
    (case hd_NoPlacement => k_is)
    (case xga_NoPath => k_is)
    (case xgt_NoPath => k_is)
    (case ia_NoPath => k_is)
    (case im_NoPath => k_is)
    (case hd_NoPath => k_is)
    (case xga_NoPrice => k_is)
    (case xgt_NoPrice => k_is)
    (case ia_NoPrice => k_is)
    (case im_NoPrice => k_is)
    (case hd_NoPrice => k_is)
    (case xga_NoCounts => k_is)
    (case xgt_NoCounts => k_is)
    (case ia_NoCounts => k_is)
    (case im_NoCounts => k_is)
    (case hd_NoCounts => k_is)
    (case xga_NoPairs => k_is)
    (case xgt_NoPairs => k_is)
    (case ia_NoPairs => k_is)
    (case im_NoPairs => k_is)
    (case hd_NoPairs => k_is)
    (case xga_NoProgram => k_is)
    (case xgt_NoProgram => k_is)
    (case ia_NoProgram => k_is)
    (case im_NoProgram => k_is)
    (case hd_NoProgram => k_is)
    (case xga_Idle => k_is)
    (case xgt_Idle => k_is)
    (case ia_Idle => k_is)
    (case im_Idle => k_is)
    (case hd_Idle => k_is)
    (case xga_NoNode => k_is)
    (case xgt_NoNode => k_is)
    (case ia_NoNode => k_is)
    (case im_NoNode => k_is)
    (case hd_NoNode => k_is)
    (case xga_NoEdge => k_is)
    (case xgt_NoEdge => k_is)
    (case ia_NoEdge => k_is)
    (case im_NoEdge => k_is)
    (case hd_NoEdge => k_is)
    (case xga_NoPlace => k_is)
    (case xgt_NoPlace => k_is)
    (case ia_NoPlace => k_is)
    (case im_NoPlace => k_is)
    (case hd_NoPlace => k_is)
    (case xga_NoStep => k_is)
    (case xgt_NoStep => k_is)
    (case ia_NoStep => k_is)
    (case im_NoStep => k_is)
    (case hd_NoStep => k_is)
    (case xga_NoEdit => k_is)
    (case xgt_NoEdit => k_is)
    (case ia_NoEdit => k_is)
    (case im_NoEdit => k_is)
    (case hd_NoEdit => k_is)
    (case xga_Unfit => k_is)
    (case xgt_Unfit => k_is)
    (case ia_Unfit => k_is)
    (case im_Unfit => k_is)
    (case hd_Unfit => k_is)
    (case xga_TooLong => k_is)
    (case xgt_TooLong => k_is)
    (case ia_TooLong => k_is)
    (case im_TooLong => k_is)
    (case hd_TooLong => k_is)
    (case a__law_value_of => k_is)
    (case l__law_value_of => k_is)
    (case c__law_value_of => k_is)
    (case k__law_value_of => k_is)
    (case cd_PlaceError => k_is)
    (case ct_PlaceError => k_is)
    (case eC_PlaceError => k_is)
    (case a_NothingToUndo => k_is)
    (case cd_NothingToUndo => k_is)
    (case ct_NothingToUndo => k_is)
    (case eC_NothingToUndo => k_is)
    (case xl_NothingToUndo => k_is)
    (case xsa_NothingToUndo => k_is)
    (case kc_NothingToUndo => k_is)
    (case mi_NothingToUndo => k_is)
    (case sc8_NothingToUndo___init__ => k_is)
    (case l_NothingToUndo___init__ => k_is)
    (case c_NothingToUndo___init__ => k_is)
    (case sc1_NothingToUndo___init__ => k_is)
    (case sc2_NothingToUndo___init__ => rfl)
    (case sc3_NothingToUndo___init__ => rfl)
    (case sc4_NothingToUndo___init__ => k_is)
    (case xcm_NothingToUndo => k_is)
    (case xve_NothingToUndo => k_is)
    (case xnx_NothingToUndo => ks_is)
    (case xga_NothingToUndo => k_is)
    (case xgt_NothingToUndo => k_is)
    (case ia_NothingToUndo => k_is)
    (case im_NothingToUndo => k_is)
    (case hd_NothingToUndo => k_is)
    (case fnod => decide)
    (case fnpe => decide)
    (case z_isinstance => k_is)
    (case z_list => k_is)
    (case z_repr => k_is)
    (case a__law_alike => k_is)
    (case l__law_alike => k_is)
    (case c__law_alike => k_is)
    (case k__law_alike => k_is)
    (case z_str => k_is)
    (case xst_NotClosed => k_is)
    (case xst_NoName => k_is)
    (case xst_NoValue => k_is)
    (case xst_NoOperator => k_is)
    (case xst_NoStatement => k_is)
    (case xst_NoText => k_is)
    (case xst_NoNumber => k_is)
    (case xst_NoInputs => k_is)
    (case xst_NoExpression => k_is)
    (case xst_NoPoint => k_is)
    (case xst_NoPlacement => k_is)
    (case xst_NoPath => k_is)
    (case xst_TooLong => k_is)
    (case xst_NoPrice => k_is)
    (case xst_NoCounts => k_is)
    (case xst_NoPairs => k_is)
    (case xst_NoProgram => k_is)
    (case xst_Idle => k_is)
    (case xst_NoNode => k_is)
    (case xst_NoEdge => k_is)
    (case xst_NoPlace => k_is)
    (case xst_NoStep => k_is)
    (case xst_NoEdit => k_is)
    (case xst_Unfit => k_is)
    (case a__law_kept => k_is)
    (case l__law_kept => k_is)
    (case c__law_kept => k_is)
    (case k__law_kept => k_is)
    (case a__law_mixed => k_is)
    (case l__law_mixed => k_is)
    (case c__law_mixed => k_is)
    (case k__law_mixed => k_is)
    (case a__law_take => k_is)
    (case l__law_take => k_is)
    (case c__law_take => k_is)
    (case k__law_take => k_is)
    (case a__law_odd => k_is)
    (case l__law_odd => k_is)
    (case c__law_odd => k_is)
    (case k__law_odd => k_is)
    (case z_ValueError => k_is)
    (case z_enumerate => k_is)
    (case a__law_kinds => k_is)
    (case l__law_kinds => k_is)
    (case c__law_kinds => k_is)
    (case k__law_kinds => k_is)
    (case a__law_great_kept => k_is)
    (case l__law_great_kept => k_is)
    (case c__law_great_kept => k_is)
    (case k__law_great_kept => k_is)
    (case a_law => k_is)
    (case l_law => k_is)
    (case c_law => k_is)
    (case k_law => k_is)
