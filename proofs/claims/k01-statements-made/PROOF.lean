import PyProof.Rows.All
import Wide.All
import OpenK.AllK
import Wide.FinOn
import HandS.ForMost
import HandS.Property
import HandS.IsInst
import HandS.ForExc
import HandS.TryMany
import HandS.Walk
import HandS.StrMore
import HandS.Flow
import KE.KSuper
import HandS.Wide
import HandS.Codes
import HandS.Star
import HandS.TupAny
import HandS.NoneIn
import KE.KUnpack
import PyProof.CollectIter
import HandS.RaiseMore
import HandS.Ends
import HandS.Words
import PySem.Challenge.RW_placedonce_k01_statements_made
import PyProof.StrLawsAffix
set_option Elab.async false
set_option linter.all false
set_option maxRecDepth 100000
set_option maxHeartbeats 4000000
set_option exponentiation.threshold 2000
namespace Sh
open PySem PySem.Spec L2

/-! ### values, memory, results -/
inductive W where
  | non | bl (b : Bool) | int (i : Int) | str (s : List Nat) | tup (ws : List W) | frz (ws : List W) | ref (n : Nat) | cls (c : String) | ty (c : String)

inductive O where
  | lst (ws : List W) | dK (kvs : List (Key × W)) | dT (kvs : List (List Key × W)) | ins (c : String) (fs : List (List Nat × W)) | exc (c : String) (fs : List (List Nat × W))

abbrev Mem := List O
abbrev Loc := List (Option W)

inductive R (α : Type) where
  | ok (a : α) (m : Mem) | exc (c : String) (fs : List (List Nat × W)) (m : Mem) | bad

def R.bind {α β : Type} (r : R α) (f : α → Mem → R β) : R β := match r with
  | .ok a m => f a m
  | .exc c fs m => .exc c fs m
  | .bad => .bad
@[simp] theorem R.bind_ok {α β : Type} (a : α) (m : Mem) (f : α → Mem → R β) : (R.ok a m).bind f = f a m := rfl
@[simp] theorem R.bind_exc {α β : Type} (c : String) (fs : List (List Nat × W)) (m : Mem) (f : α → Mem → R β) : (R.exc c fs m : R α).bind f = .exc c fs m := rfl
@[simp] theorem R.bind_bad {α β : Type} (f : α → Mem → R β) : (R.bad : R α).bind f = .bad := rfl

abbrev DE := Loc → Mem → R W
abbrev DL := Loc → Mem → R (List W)
abbrev DB := Loc → Mem → R Bool

inductive RS where
  | nx (σ : Loc) (m : Mem) | rt (w : W) (m : Mem) | bk (σ : Loc) (m : Mem) | ct (σ : Loc) (m : Mem) | exc (c : String) (fs : List (List Nat × W)) (σ : Loc) (m : Mem) | bad
abbrev DS := Loc → Mem → RS

/-! ### the relation to the layer's values and heap -/
structure G where
  K : PySem.W.Frag
  cl : String → Addr

abbrev S (l : List Nat) : Str := ⟨l.toArray⟩
theorem S_inj {a b : List Nat} (h : S a = S b) : a = b := by
  have := congrArg (fun x => x.cps.toList) h
  simpa using this
theorem S_cps (a : List Nat) : (S a).cps.toList = a := by simp
theorem S_len (a : List Nat) : (S a).length = a.length := by simp [Str.length]
theorem S_of (x : Str) : S x.cps.toList = x := by cases x; simp

/-- a list that nobody writes: the script, a module's own list -/
def SqF (K : PySem.W.Frag) (H : Hp) (a : Addr) (xs : List V) : Prop :=
  (∃ o, H a = some (.frz o (.lst xs))) ∨ ∃ (o : Obj) (its : Array Value) (n : Nat), K.lookup a = some o ∧ o.cls = .type "list" ∧ o.dict = none ∧ o.data = .seq its n ∧ its.size ≤ sizeLine ∧ Vals xs its.toList
theorem SqF.toL {K : PySem.W.Frag} {H : Hp} {a : Addr} {xs : List V} (h : SqF K H a xs) : SqL K H a xs := by
  rcases h with ⟨o, h⟩ | h
  · exact .inl (.inr ⟨o, h⟩)
  · exact .inr h
section
variable (g : G) (ρ : List Addr) (H : Hp)
mutual
inductive VR : W → V → Prop
  | non : VR .non .non
  | bl (b : Bool) : VR (.bl b) (.bl b)
  | int (i : Int) : VR (.int i) (.int i)
  | str (s : List Nat) : VR (.str s) (.str (S s))
  | tup {ws : List W} {vs : List V} {a : Addr} : SqT g.K H a vs → VRs ws vs → VR (.tup ws) (.ref a)
  | frz {ws : List W} {vs : List V} {a : Addr} : SqF g.K H a vs → VRs ws vs → VR (.frz ws) (.ref a)
  | ref {n : Nat} {a : Addr} : ρ[n]? = some a → VR (.ref n) (.ref a)
  | cls (c : String) : VR (.cls c) (.ref (g.cl c))
  | ty (c : String) : VR (.ty c) (.ty c)
inductive VRs : List W → List V → Prop
  | nil : VRs [] []
  | cons {w : W} {v : V} {ws : List W} {vs : List V} : VR w v → VRs ws vs → VRs (w :: ws) (v :: vs)
end
/-- fields -/
def FR (fs : List (List Nat × W)) (gs : List (Str × V)) : Prop := Paired (fun (p : List Nat × W) (q : Str × V) => q.1 = Sh.S p.1 ∧ VR g ρ H p.2 q.2) fs gs
def KR {κ : Type} (fs : List (κ × W)) (gs : List (κ × V)) : Prop := Paired (fun (p : κ × W) (q : κ × V) => p.1 = q.1 ∧ VR g ρ H p.2 q.2) fs gs
def OR : O → HO → Prop
  | .lst ws, u => ∃ vs, u = .lst vs ∧ VRs g ρ H ws vs
  | .dK kvs, u => ∃ vs, u = .dK vs ∧ KR g ρ H kvs vs
  | .dT kvs, u => ∃ vs, u = .dT vs ∧ KR g ρ H kvs vs
  | .ins c fs, u => ∃ dx gs, u = .ins (g.cl c) dx gs ∧ FR g ρ H fs gs
  | .exc c fs, u => False
end

structure Sim (g : G) (ρ : List Addr) (m : Mem) (H : Hp) : Prop where
  len : ρ.length = m.length
  nd : ρ.Nodup
  obj : ∀ (i : Nat) (a : Addr) (o : O), ρ[i]? = some a → m[i]? = some o → ∃ u, H a = some u ∧ OR g ρ H o u

/-- from one state to a later one -/
structure Post (ρ : List Addr) (H : Hp) (ρ' : List Addr) (H' : Hp) : Prop where
  ext : ∃ l, ρ' = ρ ++ l ∧ ∀ a ∈ l, H a = none
  keep : ∀ a o, H a = some o → a ∉ ρ → H' a = some o

theorem Post.refl {ρ : List Addr} {H : Hp} : Post ρ H ρ H := ⟨⟨[], by simp, by simp⟩, fun _ _ h _ => h⟩
theorem Post.trans {ρ ρ1 ρ2 : List Addr} {H H1 H2 : Hp} (a : Post ρ H ρ1 H1) (b : Post ρ1 H1 ρ2 H2) (hs : ∀ a ∈ ρ, H a ≠ none) (hs1 : ∀ a ∈ ρ, H1 a ≠ none) : Post ρ H ρ2 H2 := by
  obtain ⟨l, e, hl⟩ := a.ext
  obtain ⟨l1, e1, hl1⟩ := b.ext
  refine ⟨⟨l ++ l1, by rw [e1, e, List.append_assoc], fun x hx => ?_⟩, fun x o h n => ?_⟩
  · rcases List.mem_append.mp hx with h | h
    · exact hl x h
    · cases q : H x with
      | none => rfl
      | some o =>
        by_cases n : x ∈ ρ
        · exact absurd (hl1 x h) (hs1 x n)
        · have k := a.keep x o q n
          rw [hl1 x h] at k; cases k
  · have h1 := a.keep x o h n
    refine b.keep x o h1 ?_
    rw [e]
    intro hm
    rcases List.mem_append.mp hm with z | z
    · exact n z
    · rw [hl x z] at h; cases h

section
variable {g : G} {ρ ρ' : List Addr} {H H' : Hp} {m m' : Mem}
theorem Sim.there (s : Sim g ρ m H) {a : Addr} (ha : a ∈ ρ) : ∃ o u, o ∈ m ∧ H a = some u ∧ OR g ρ H o u := by
  obtain ⟨i, hi, e⟩ := List.getElem_of_mem ha
  have hi' : i < m.length := by rw [← s.len]; exact hi
  have h1 : ρ[i]? = some a := by rw [List.getElem?_eq_getElem hi, e]
  have h2 : m[i]? = some m[i] := List.getElem?_eq_getElem hi'
  obtain ⟨u, h3, h4⟩ := s.obj i a _ h1 h2
  exact ⟨_, u, List.getElem_mem hi', h3, h4⟩
theorem Sim.isSm (s : Sim g ρ m H) {a : Addr} (ha : a ∈ ρ) : H a ≠ none := by
  obtain ⟨_, u, _, h, _⟩ := s.there ha
  rw [h]; simp
theorem OR.notup {o : O} {u : HO} (h : OR g ρ H o u) : (∀ xs, u ≠ .tup xs) ∧ (∀ ob w, u ≠ .frz ob w) ∧ (∀ x, u ≠ .own x) := by
  cases o with
  | lst ws => obtain ⟨vs, e, _⟩ := h; subst e; exact ⟨fun _ z => (nomatch z), fun _ _ z => (nomatch z), fun _ z => (nomatch z)⟩
  | dK ws => obtain ⟨vs, e, _⟩ := h; subst e; exact ⟨fun _ z => (nomatch z), fun _ _ z => (nomatch z), fun _ z => (nomatch z)⟩
  | dT ws => obtain ⟨vs, e, _⟩ := h; subst e; exact ⟨fun _ z => (nomatch z), fun _ _ z => (nomatch z), fun _ z => (nomatch z)⟩
  | ins c fs => obtain ⟨dx, gs, e, _⟩ := h; subst e; exact ⟨fun _ z => (nomatch z), fun _ _ z => (nomatch z), fun _ z => (nomatch z)⟩
  | exc c fs => exact False.elim h
theorem Sim.tup_out (s : Sim g ρ m H) {a : Addr} {xs : List V} (h : H a = some (.tup xs)) : a ∉ ρ := fun ha => by
  obtain ⟨o, u, _, h1, h2⟩ := s.there ha
  rw [h] at h1; cases h1
  exact h2.notup.1 xs rfl
theorem Sim.frz_out (s : Sim g ρ m H) {a : Addr} {ob : Obj} {w : HO} (h : H a = some (.frz ob w)) : a ∉ ρ := fun ha => by
  obtain ⟨o, u, _, h1, h2⟩ := s.there ha
  rw [h] at h1; cases h1
  exact h2.notup.2.1 ob w rfl
theorem Post.seqT (p : Post ρ H ρ' H') (s : Sim g ρ m H) {a : Addr} {xs : List V} (h : SqT g.K H a xs) : SqT g.K H' a xs := by
  rcases h with (h | ⟨o, h⟩) | h
  · exact .inl (.inl (p.keep _ _ h (s.tup_out h)))
  · exact .inl (.inr ⟨o, p.keep _ _ h (s.frz_out h)⟩)
  · exact .inr h
theorem Post.seqF (p : Post ρ H ρ' H') (s : Sim g ρ m H) {a : Addr} {xs : List V} (h : SqF g.K H a xs) : SqF g.K H' a xs := by
  rcases h with ⟨o, h⟩ | h
  · exact .inl ⟨o, p.keep _ _ h (s.frz_out h)⟩
  · exact .inr h
theorem Post.get (p : Post ρ H ρ' H') {n : Nat} {a : Addr} (h : ρ[n]? = some a) : ρ'[n]? = some a := by
  obtain ⟨l, e, _⟩ := p.ext
  rw [e, List.getElem?_append_left (List.getElem?_eq_some_iff.mp h).1]
  exact h
mutual
theorem VR.post (s : Sim g ρ m H) (p : Post ρ H ρ' H') : ∀ {w : W} {v : V}, VR g ρ H w v → VR g ρ' H' w v
  | _, _, .non => .non
  | _, _, .bl b => .bl b
  | _, _, .int b => .int b
  | _, _, .str b => .str b
  | _, _, .tup h r => .tup (p.seqT s h) (VRs.post s p r)
  | _, _, .frz h r => .frz (p.seqF s h) (VRs.post s p r)
  | _, _, .ref h => .ref (p.get h)
  | _, _, .cls c => .cls c
  | _, _, .ty c => .ty c
theorem VRs.post (s : Sim g ρ m H) (p : Post ρ H ρ' H') : ∀ {ws : List W} {vs : List V}, VRs g ρ H ws vs → VRs g ρ' H' ws vs
  | _, _, .nil => .nil
  | _, _, .cons h r => .cons (VR.post s p h) (VRs.post s p r)
end
theorem Paired.imp {α β : Type} {F F' : α → β → Prop} : ∀ {xs : List α} {ys : List β}, Paired F xs ys → (∀ a b, F a b → F' a b) → Paired F' xs ys
  | _, _, .nil, _ => .nil
  | _, _, .cons h r, f => .cons (f _ _ h) (Paired.imp r f)
theorem FR.post (s : Sim g ρ m H) (p : Post ρ H ρ' H') {fs : List (List Nat × W)} {gs : List (Str × V)} (h : FR g ρ H fs gs) : FR g ρ' H' fs gs :=
  Paired.imp h fun _ _ q => ⟨q.1, q.2.post s p⟩
theorem KR.post {κ : Type} (s : Sim g ρ m H) (p : Post ρ H ρ' H') {fs : List (κ × W)} {gs : List (κ × V)} (h : KR g ρ H fs gs) : KR g ρ' H' fs gs :=
  Paired.imp h fun _ _ q => ⟨q.1, q.2.post s p⟩
theorem OR.post (s : Sim g ρ m H) (p : Post ρ H ρ' H') {o : O} {u : HO} (h : OR g ρ H o u) : OR g ρ' H' o u := by
  cases o with
  | lst ws => obtain ⟨vs, e, r⟩ := h; exact ⟨vs, e, r.post s p⟩
  | dK ws => obtain ⟨vs, e, r⟩ := h; exact ⟨vs, e, r.post s p⟩
  | dT ws => obtain ⟨vs, e, r⟩ := h; exact ⟨vs, e, r.post s p⟩
  | ins c fs => obtain ⟨dx, gs, e, r⟩ := h; exact ⟨dx, gs, e, r.post s p⟩
  | exc c fs => exact h
theorem Post.then {ρ2 : List Addr} {H2 : Hp} (a : Post ρ H ρ' H') (b : Post ρ' H' ρ2 H2) (s : Sim g ρ m H) (s' : Sim g ρ' m' H') : Post ρ H ρ2 H2 :=
  a.trans b (fun x hx => s.isSm hx) fun x hx => by
    obtain ⟨l, e, _⟩ := a.ext
    exact s'.isSm (by rw [e]; exact List.mem_append_left _ hx)

/-- garbage: an object that is not of the memory -/
theorem Sim.junk (s : Sim g ρ m H) {p : Addr} {u : HO} (hp : H p = none) : Post ρ H ρ (upd H p u) ∧ Sim g ρ m (upd H p u) := by
  have P : Post ρ H ρ (upd H p u) := ⟨⟨[], by simp, by simp⟩, fun a o h _ => by rw [upd_ne (ne_of_none h hp)]; exact h⟩
  refine ⟨P, s.len, s.nd, fun i a o h1 h2 => ?_⟩
  obtain ⟨v, h3, h4⟩ := s.obj i a o h1 h2
  exact ⟨v, by rw [upd_ne (ne_of_none h3 hp)]; exact h3, h4.post s P⟩
/-- a new object -/
theorem Sim.push (s : Sim g ρ m H) {p : Addr} {u : HO} {o : O} (hp : H p = none) (h : OR g ρ H o u) : Post ρ H (ρ ++ [p]) (upd H p u) ∧ Sim g (ρ ++ [p]) (m ++ [o]) (upd H p u) := by
  have P : Post ρ H (ρ ++ [p]) (upd H p u) := ⟨⟨[p], rfl, by simpa using hp⟩, fun a o h _ => by rw [upd_ne (ne_of_none h hp)]; exact h⟩
  have hn : p ∉ ρ := fun z => s.isSm z hp
  refine ⟨P, by simp [s.len], ?_, fun i a o' h1 h2 => ?_⟩
  · rw [List.nodup_append]
    refine ⟨s.nd, by simp, fun a ha b hb => ?_⟩
    have : b = p := by simpa using hb
    subst this
    rintro rfl
    exact hn ha
  · by_cases hi : i < ρ.length
    · rw [List.getElem?_append_left hi] at h1
      rw [List.getElem?_append_left (by rw [← s.len]; exact hi)] at h2
      obtain ⟨v, h3, h4⟩ := s.obj i a o' h1 h2
      exact ⟨v, by rw [upd_ne (ne_of_none h3 hp)]; exact h3, h4.post s P⟩
    · have hi' : ρ.length ≤ i := Nat.le_of_not_lt hi
      rw [List.getElem?_append_right hi'] at h1
      rw [List.getElem?_append_right (by rw [← s.len]; exact hi')] at h2
      have e0 : i - ρ.length = 0 := by
        have := (List.getElem?_eq_some_iff.mp h1).1
        simp at this; omega
      have e0' : i - m.length = 0 := by rw [← s.len]; exact e0
      rw [e0] at h1; rw [e0'] at h2
      simp at h1 h2
      subst h1; subst h2
      exact ⟨u, upd_same, h.post s P⟩
/-- an object is changed -/
theorem Sim.set (s : Sim g ρ m H) {n : Nat} {a : Addr} {u : HO} {o : O} (ha : ρ[n]? = some a) (h : OR g ρ H o u) : Post ρ H ρ (upd H a u) ∧ Sim g ρ (m.set n o) (upd H a u) := by
  have P : Post ρ H ρ (upd H a u) := ⟨⟨[], by simp, by simp⟩, fun b o h hb => by
    rw [upd_ne (fun e => hb (by rw [e]; exact List.mem_of_getElem? ha))]; exact h⟩
  refine ⟨P, by simp [s.len], s.nd, fun i b o' h1 h2 => ?_⟩
  by_cases e : i = n
  · subst e
    rw [ha] at h1; cases h1
    have hlt : i < m.length := by have := (List.getElem?_eq_some_iff.mp h2).1; simpa using this
    rw [List.getElem?_set_self hlt] at h2
    cases h2
    exact ⟨u, upd_same, h.post s P⟩
  · rw [List.getElem?_set_ne (Ne.symm e)] at h2
    obtain ⟨v, h3, h4⟩ := s.obj i b o' h1 h2
    refine ⟨v, ?_, h4.post s P⟩
    rw [upd_ne]
    · exact h3
    · rintro rfl
      exact e ((List.getElem?_inj (List.getElem?_eq_some_iff.mp h1).1 s.nd).mp (h1.trans ha.symm))
end

/-- locals -/
def LR (g : G) (ρ : List Addr) (H : Hp) (σ : Loc) (τ : St) : Prop := σ.length = τ.length ∧ ∀ (i : Nat) (w : W), σ[i]? = some (some w) → ∃ v, τ[i]? = some (some v) ∧ VR g ρ H w v
theorem LR.post {g : G} {ρ ρ' : List Addr} {H H' : Hp} {m : Mem} {σ : Loc} {τ : St} (l : LR g ρ H σ τ) (s : Sim g ρ m H) (p : Post ρ H ρ' H') : LR g ρ' H' σ τ :=
  ⟨l.1, fun i w h => let ⟨v, a, b⟩ := l.2 i w h; ⟨v, a, b.post s p⟩⟩
theorem LR.set {g : G} {ρ : List Addr} {H : Hp} {σ : Loc} {τ : St} {w : W} {v : V} (l : LR g ρ H σ τ) (i : Nat) (r : VR g ρ H w v) : LR g ρ H (σ.set i (some w)) (τ.set i (some v)) := by
  refine ⟨by simp [l.1], fun j w' h => ?_⟩
  by_cases e : j = i
  · subst e
    have hl : j < σ.length := by have := (List.getElem?_eq_some_iff.mp h).1; simpa using this
    rw [List.getElem?_set_self hl] at h
    cases h
    exact ⟨v, List.getElem?_set_self (by rw [← l.1]; exact hl), r⟩
  · rw [List.getElem?_set_ne (Ne.symm e)] at h
    obtain ⟨v', a, b⟩ := l.2 j w' h
    exact ⟨v', by rw [List.getElem?_set_ne (Ne.symm e)]; exact a, b⟩
theorem LR.forget {g : G} {ρ : List Addr} {H : Hp} {σ : Loc} {τ : St} (l : LR g ρ H σ τ) (i : Nat) : LR g ρ H (σ.set i none) (τ.set i none) := by
  refine ⟨by simp [l.1], fun j w' h => ?_⟩
  by_cases e : j = i
  · subst e
    have hl : j < σ.length := by have := (List.getElem?_eq_some_iff.mp h).1; simpa using this
    rw [List.getElem?_set_self hl] at h
    cases h
  · rw [List.getElem?_set_ne (Ne.symm e)] at h
    obtain ⟨v', a, b⟩ := l.2 j w' h
    exact ⟨v', by rw [List.getElem?_set_ne (Ne.symm e)]; exact a, b⟩
end Sh

namespace Sh
open PySem PySem.Spec L2

/-! ### argument lists without stars -/
def notStar : Expr → Bool
  | .Starred _ _ => false
  | _ => true
theorem star1 {e : Expr} {es : List Expr} {env : Env} (h : notStar e = true) : starEach (e :: es) env = (false, eval e env) :: starEach es env := by
  cases e <;> first | rfl | cases h
theorem star2 {e : Expr} {es : List Expr} {env : Env} {p : Pos} : starEach (.Starred e p :: es) env = (true, eval e env) :: starEach es env := rfl
def noStars : List Expr → Bool
  | [] => true
  | e :: es => notStar e && noStars es
theorem plain_ns {es : List Expr} {env : Env} {pos : Pos} (h : noStars es = true) : (backTo pos (starEach es env)).any (·.1) = false := by
  induction es with
  | nil => rfl
  | cons e es ih =>
    simp only [noStars, Bool.and_eq_true] at h
    rw [star1 h.1]
    show (false || (backTo pos (starEach es env)).any (·.1)) = false
    rw [ih h.2]; rfl
/-! ### judgements -/
section
variable (g : G) (X : Cx) (wx : WX)
def Out (τ : L2.St) (ρ : List Addr) (H : Hp) {β : Type} (r : R β) (Q : β → Mem → List Addr → Hp → Prop) : Prop :=
  match r with
  | .ok b m' => ∀ ρ' H', Post ρ H ρ' H' → Sim g ρ' m' H' → Q b m' ρ' H'
  | .exc c fs m' => ∀ ρ' H' d gs, Post ρ H ρ' H' → Sim g ρ' m' H' → H' d = some (.xd gs) → FR g ρ' H' fs gs → wx (.ref (g.cl c)) (some d) τ H'
  | .bad => False
/-- an expression -/
structure SE (e : Expr) (f : DE) : Prop where
  run : ∀ (pins : List (Addr × Obj)) (s : Shared) (σ : Loc) (m : Mem) (ρ : List Addr) (H : Hp) (τ : L2.St) (Q : Value → Shared → Prop),
  Inv X pins τ H s → Sim g ρ m H → LR g ρ H σ τ →
  Out g wx τ ρ H (f σ m) (fun w m' ρ' H' => ∀ v u s', Inv X pins τ H' s' → VR g ρ' H' w v → RelV v u → Q u s') →
  wpAny (model X.prog X.w) X.A (eval e X.env) Q X.xe s
/-- a fresh list -/
structure SL (e : Expr) (f : DL) : Prop where
  run : ∀ (pins : List (Addr × Obj)) (s : Shared) (σ : Loc) (m : Mem) (ρ : List Addr) (H : Hp) (τ : L2.St) (Q : Value → Shared → Prop),
  Inv X pins τ H s → Sim g ρ m H → LR g ρ H σ τ →
  Out g wx τ ρ H (f σ m) (fun ws m' ρ' H' => ∀ p vs s', Inv X pins τ H' s' → H p = none → H' p = some (.lst vs) → p ∉ ρ' → VRs g ρ' H' ws vs → Q (.ref p) s') →
  wpAny (model X.prog X.w) X.A (eval e X.env) Q X.xe s
/-- a test -/
structure ST (e : Expr) (f : DB) : Prop where
  run : ∀ (whole : Sem Value) (pins : List (Addr × Obj)) (s : Shared) (σ : Loc) (m : Mem) (ρ : List Addr) (H : Hp) (τ : L2.St) (Q : Bool → Shared → Prop),
  (whole = eval e X.env ∨ ∃ op es pos, e = .BoolOp op es pos) →
  Inv X pins τ H s → Sim g ρ m H → LR g ρ H σ τ →
  Out g wx τ ρ H (f σ m) (fun b m' ρ' H' => ∀ s', Inv X pins τ H' s' → Q b s') →
  wpAny (model X.prog X.w) X.A (isTrue e X.env whole) Q X.xe s
/-- arguments -/
structure SA (es : List Expr) (f : DL) : Prop where
  run : ∀ (pos : Pos) (pins : List (Addr × Obj)) (s : Shared) (σ : Loc) (m : Mem) (ρ : List Addr) (H : Hp) (τ : L2.St) (Q : List Value → Shared → Prop),
  Inv X pins τ H s → Sim g ρ m H → LR g ρ H σ τ →
  Out g wx τ ρ H (f σ m) (fun ws m' ρ' H' => ∀ vs us s', Inv X pins τ H' s' → VRs g ρ' H' ws vs → Vals vs us → Q us s') →
  wpAny (model X.prog X.w) X.A (spliced (backTo pos (starEach es X.env))) Q X.xe s
/-- functions of values -/
structure F1 (f : Value → Sem Value) (fn : W → Mem → R W) : Prop where
  run : ∀ (pins : List (Addr × Obj)) (s : Shared) (m : Mem) (ρ : List Addr) (H : Hp) (τ : L2.St) (x : W) (v : V) (u : Value) (Q : Value → Shared → Prop),
  Inv X pins τ H s → Sim g ρ m H → VR g ρ H x v → RelV v u →
  Out g wx τ ρ H (fn x m) (fun w m' ρ' H' => ∀ v u s', Inv X pins τ H' s' → VR g ρ' H' w v → RelV v u → Q u s') → wpAny (model X.prog X.w) X.A (f u) Q X.xe s
structure F2 (f : Value → Value → Sem Value) (fn : W → W → Mem → R W) : Prop where
  run : ∀ (pins : List (Addr × Obj)) (s : Shared) (m : Mem) (ρ : List Addr) (H : Hp) (τ : L2.St) (x y : W) (v z : V) (u t : Value) (Q : Value → Shared → Prop),
  Inv X pins τ H s → Sim g ρ m H → VR g ρ H x v → RelV v u → VR g ρ H y z → RelV z t →
  Out g wx τ ρ H (fn x y m) (fun w m' ρ' H' => ∀ v u s', Inv X pins τ H' s' → VR g ρ' H' w v → RelV v u → Q u s') → wpAny (model X.prog X.w) X.A (f u t) Q X.xe s
structure Fn (f : List Value → Sem Value) (fn : List W → Mem → R W) : Prop where
  run : ∀ (pins : List (Addr × Obj)) (s : Shared) (m : Mem) (ρ : List Addr) (H : Hp) (τ : L2.St) (xs : List W) (vs : List V) (us : List Value) (Q : Value → Shared → Prop),
  Inv X pins τ H s → Sim g ρ m H → VRs g ρ H xs vs → Vals vs us →
  Out g wx τ ρ H (fn xs m) (fun w m' ρ' H' => ∀ v u s', Inv X pins τ H' s' → VR g ρ' H' w v → RelV v u → Q u s') → wpAny (model X.prog X.w) X.A (f us) Q X.xe s
end

section
variable {g : G} {X : Cx} {wx : WX} {τ : L2.St} {ρ ρ' : List Addr} {H H' : Hp} {m m' : Mem} {pins : List (Addr × Obj)} {s : Shared} {σ : Loc}
theorem Out.imp {β : Type} {r : R β} {Q Q' : β → Mem → List Addr → Hp → Prop} (h : Out g wx τ ρ H r Q) (k : ∀ b m' ρ' H', Post ρ H ρ' H' → Sim g ρ' m' H' → Q b m' ρ' H' → Q' b m' ρ' H') : Out g wx τ ρ H r Q' := by
  cases r with
  | ok b m' => exact fun ρ' H' P S => k b m' ρ' H' P S (h ρ' H' P S)
  | exc c fs m' => exact h
  | bad => exact h
theorem Out.from {β : Type} {r : R β} {Q : β → Mem → List Addr → Hp → Prop} (h : Out g wx τ ρ H r Q) (P : Post ρ H ρ' H') (S : Sim g ρ m H) (S' : Sim g ρ' m' H') : Out g wx τ ρ' H' r Q := by
  cases r with
  | ok b m' => exact fun ρ2 H2 P2 S2 => h ρ2 H2 (P.then P2 S S') S2
  | exc c fs m' => exact fun ρ2 H2 d gs P2 S2 => h ρ2 H2 d gs (P.then P2 S S') S2
  | bad => exact h
theorem Out.bind {α β : Type} {r : R α} {k : α → Mem → R β} {Q : β → Mem → List Addr → Hp → Prop} (S : Sim g ρ m H) (h : Out g wx τ ρ H (r.bind k) Q) :
    Out g wx τ ρ H r (fun b m1 ρ1 H1 => Out g wx τ ρ1 H1 (k b m1) Q) := by
  cases r with
  | ok b m1 => exact fun ρ1 H1 P1 S1 => Out.from (r := k b m1) h P1 S S1
  | exc c fs m1 => exact h
  | bad => exact h
theorem Out.here {β : Type} {b : β} {Q : β → Mem → List Addr → Hp → Prop} (h : Out g wx τ ρ H (.ok b m) Q) (S : Sim g ρ m H) : Q b m ρ H := h ρ H Post.refl S
theorem Post.back (P : Post ρ H ρ' H') (S : Sim g ρ m H) (S' : Sim g ρ' m' H') {p : Addr} (h : H' p = none) : H p = none := by
  cases q : H p with
  | none => rfl
  | some o =>
    by_cases n : p ∈ ρ
    · obtain ⟨l, e, _⟩ := P.ext
      exact absurd h (S'.isSm (by rw [e]; exact List.mem_append_left _ n))
    · rw [P.keep p o q n] at h; cases h

theorem VRs.length : ∀ {ws : List W} {vs : List V}, VRs g ρ H ws vs → ws.length = vs.length
  | _, _, .nil => rfl
  | _, _, .cons _ r => by simp [VRs.length r]
theorem VRs.get : ∀ {ws : List W} {vs : List V} {i : Nat} {w : W}, VRs g ρ H ws vs → ws[i]? = some w → ∃ v, vs[i]? = some v ∧ VR g ρ H w v
  | _, _, i, w, .nil, h => by simp at h
  | _, _, 0, w, .cons h _, e => by simp at e; subst e; exact ⟨_, rfl, h⟩
  | _, _, i + 1, w, .cons _ r, e => by simpa using VRs.get r (by simpa using e)
theorem VRs.append : ∀ {ws ws' : List W} {vs vs' : List V}, VRs g ρ H ws vs → VRs g ρ H ws' vs' → VRs g ρ H (ws ++ ws') (vs ++ vs')
  | _, _, _, _, .nil, r => r
  | _, _, _, _, .cons h t, r => .cons h (VRs.append t r)
theorem VRs.set {w : W} {v : V} (h : VR g ρ H w v) : ∀ {ws : List W} {vs : List V} (i : Nat), VRs g ρ H ws vs → VRs g ρ H (ws.set i w) (vs.set i v)
  | _, _, _, .nil => .nil
  | _, _, 0, .cons _ t => .cons h t
  | _, _, i + 1, .cons q t => .cons q (VRs.set h i t)
theorem VRs.take : ∀ {ws : List W} {vs : List V} (n : Nat), VRs g ρ H ws vs → VRs g ρ H (ws.take n) (vs.take n)
  | _, _, 0, _ => .nil
  | _, _, _ + 1, .nil => .nil
  | _, _, n + 1, .cons h t => .cons h (VRs.take n t)
theorem VRs.drop : ∀ {ws : List W} {vs : List V} (n : Nat), VRs g ρ H ws vs → VRs g ρ H (ws.drop n) (vs.drop n)
  | _, _, 0, r => r
  | _, _, _ + 1, .nil => .nil
  | _, _, n + 1, .cons _ t => VRs.drop n t
theorem VRs.one {w : W} {v : V} (h : VR g ρ H w v) : VRs g ρ H [w] [v] := .cons h .nil

/-- from the layer's own expression rules -/
theorem SE.ofPE {e : Expr} {t : TE} {f : DE} (he : PE X e t)
    (h : ∀ (σ : Loc) (m : Mem) (ρ : List Addr) (H : Hp) (τ : L2.St) (Q : VK), Sim g ρ m H → LR g ρ H σ τ → Out g wx τ ρ H (f σ m) (fun w m' ρ' H' => ∀ v, VR g ρ' H' w v → Q v H') → t τ H Q) : SE g X wx e f := by
  refine ⟨fun pins s σ m ρ H τ Q I S L o => ?_⟩
  refine thn (he.run pins s τ H (fun v H' => ∀ u s', Inv X pins τ H' s' → RelV v u → Q u s') I (h σ m ρ H τ _ S L ?_)) fun u s1 ⟨v, H1, I1, r1, q⟩ => q u s1 I1 r1
  exact o.imp fun w m' ρ' H' _ _ k v r u s' I' ru => k v u s' I' r ru
theorem F2.ofR {f : Value → Value → Sem Value} {fn : W → W → Mem → R W}
    (h : ∀ (m : Mem) (ρ : List Addr) (H : Hp) (τ : L2.St) (x y : W) (v z : V) (Q : VK), Sim g ρ m H → VR g ρ H x v → VR g ρ H y z → Out g wx τ ρ H (fn x y m) (fun w m' ρ' H' => ∀ v, VR g ρ' H' w v → Q v H') → ∃ r, OpR X f r ∧ r v z H Q) : F2 g X wx f fn := by
  refine ⟨fun pins s m ρ H τ x y v z u t Q I S rx ru ry rt o => ?_⟩
  obtain ⟨r, hr, hq⟩ := h m ρ H τ x y v z (fun v H' => ∀ u s', Inv X pins τ H' s' → RelV v u → Q u s') S rx ry (o.imp fun w m' ρ' H' _ _ k v r u s' I' ru => k v u s' I' r ru)
  exact thn (hr pins s τ H v z u t _ I ru rt hq) fun u1 s1 ⟨v1, H1, I1, r1, q⟩ => q u1 s1 I1 r1
theorem Fn.ofR {f : Value} {fn : List W → Mem → R W}
    (h : ∀ (m : Mem) (ρ : List Addr) (H : Hp) (τ : L2.St) (xs : List W) (vs : List V) (Q : VK), Sim g ρ m H → VRs g ρ H xs vs → Out g wx τ ρ H (fn xs m) (fun w m' ρ' H' => ∀ v, VR g ρ' H' w v → Q v H') → ∃ r, CallR X f r ∧ r vs H Q) : Fn g X wx (fun us => call f us) fn := by
  refine ⟨fun pins s m ρ H τ xs vs us Q I S rx ru o => ?_⟩
  obtain ⟨r, hr, hq⟩ := h m ρ H τ xs vs (fun v H' => ∀ u s', Inv X pins τ H' s' → RelV v u → Q u s') S rx (o.imp fun w m' ρ' H' _ _ k v r u s' I' ru => k v u s' I' r ru)
  exact thn (hr pins s τ H vs us _ I ru hq) fun u1 s1 ⟨v1, H1, I1, r1, q⟩ => q u1 s1 I1 r1
end

/-! ### names, constants -/
def eVar (i : Nat) : DE := fun σ m => match σ[i]? with | some (some w) => .ok w m | _ => .bad
def eC (w : W) : DE := fun _ m => .ok w m
section
variable {g : G} {X : Cx} {wx : WX}
theorem se_var {i : Nat} {x : Str} {pos : Pos} (hN : X.N[i]? = some x) (hv : Vis X.env.scope x) (hd : (x == ("__debug__" : Str)) = false := by decide) (hcd : (x == ("__classdict__" : Str)) = false := by decide) : SE g X wx (.Name x pos) (eVar i) := by
  refine SE.ofPE (pe_var hN hv hd hcd) fun σ m ρ H τ Q S L o => ?_
  unfold eVar at o
  split at o
  · rename_i w h
    obtain ⟨v, h1, h2⟩ := L.2 i w h
    exact ⟨v, h1, (Out.here o S) v h2⟩
  · exact o.elim
theorem se_int {i j pos} : SE g X wx (.Constant (.int i) j pos) (eC (.int i)) := SE.ofPE pe_int fun σ m ρ H τ Q S L o => (Out.here o S) _ (.int i)
theorem se_bl {b j pos} : SE g X wx (.Constant (.bool b) j pos) (eC (.bl b)) := SE.ofPE pe_bl fun σ m ρ H τ Q S L o => (Out.here o S) _ (.bl b)
theorem se_non {j pos} : SE g X wx (.Constant .none j pos) (eC .non) := SE.ofPE pe_non fun σ m ρ H τ Q S L o => (Out.here o S) _ .non
theorem se_str {x : Str} {l : List Nat} {j pos} (h : x = S l) : SE g X wx (.Constant (.str x) j pos) (eC (.str l)) := SE.ofPE pe_str fun σ m ρ H τ Q S L o => by
  subst h
  exact (Out.here o S) _ (.str l)
theorem se_glob {x : Str} {w : W} {u : Value} {pos : Pos} (hg : Gl X x) (hm : X.mg x = some u) (hr : ∃ v, RelV v u ∧ ∀ ρ H, VR g ρ H w v) (hd : (x == ("__debug__" : Str)) = false := by decide) : SE g X wx (.Name x pos) (eC w) := by
  obtain ⟨v, r, q⟩ := hr
  exact SE.ofPE (pe_glob hg hm r hd) fun σ m ρ H τ Q S L o => (Out.here o S) _ (q ρ H)
theorem se_bltn {x : Str} {c : String} {pos : Pos} (hg : Gl X x) (hm : X.mg x = none) (hv : bootBuiltins x = some (.type c)) (hn : x ≠ "__name__" := by decide) (hd : (x == ("__debug__" : Str)) = false := by decide) : SE g X wx (.Name x pos) (eC (.ty c)) :=
  SE.ofPE (pe_bltn (v := .ty c) hg hm hv rfl hn hd) fun σ m ρ H τ Q S L o => (Out.here o S) _ (.ty c)

/-! ### operators -/
def eBin (fn : W → W → Mem → R W) (a b : DE) : DE := fun σ m => (a σ m).bind fun x m1 => (b σ m1).bind fun y m2 => fn x y m2
def eUn (fn : W → Mem → R W) (a : DE) : DE := fun σ m => (a σ m).bind fun x m1 => fn x m1
variable {a b c : Expr} {fa fb fc : DE} {pos : Pos}
theorem bin2 (ha : SE g X wx a fa) (hb : SE g X wx b fb) {fn : W → W → Mem → R W} {f : Value → Value → Sem Value} (hf : F2 g X wx f fn)
    {pins : List (Addr × Obj)} {s : Shared} {σ : Loc} {m : Mem} {ρ : List Addr} {H : Hp} {τ : L2.St} {Q : Value → Shared → Prop} (I : Inv X pins τ H s) (S : Sim g ρ m H) (L : LR g ρ H σ τ)
    (o : Out g wx τ ρ H (eBin fn fa fb σ m) (fun w m' ρ' H' => ∀ v u s', Inv X pins τ H' s' → VR g ρ' H' w v → RelV v u → Q u s')) :
    wpAny (model X.prog X.w) X.A (eval a X.env) (fun v s₁ => wpAny (model X.prog X.w) X.A (eval b X.env) (fun u s₂ => wpAny (model X.prog X.w) X.A (f v u) Q X.xe s₂) X.xe s₁) X.xe s := by
  refine ha.run pins s σ m ρ H τ _ I S L ((o.bind S).imp fun x m1 ρ1 H1 P1 S1 o1 v u s1 I1 rv ru => ?_)
  refine hb.run pins s1 σ m1 ρ1 H1 τ _ I1 S1 (L.post S P1) ((o1.bind S1).imp fun y m2 ρ2 H2 P2 S2 o2 z t s2 I2 rz rt => ?_)
  exact hf.run pins s2 m2 ρ2 H2 τ x y v z u t Q I2 S2 (rv.post S1 P2) ru rz rt o2
theorem se_bin {op : Operator} {fn : W → W → Mem → R W} (hf : F2 g X wx (binaryOp op) fn) (ha : SE g X wx a fa) (hb : SE g X wx b fb) : SE g X wx (.BinOp a op b pos) (eBin fn fa fb) := by
  refine ⟨fun pins s σ m ρ H τ Q I S L o => ?_⟩
  exact wpAny_BinOp (bin2 ha hb hf I S L o)
theorem se_cmp {op : CmpOp} {fn : W → W → Mem → R W} (hf : F2 g X wx (compareOp op) fn) (ha : SE g X wx a fa) (hb : SE g X wx b fb)
    (h1 : behindInMarks op b = false := by first | exact nobehind _ (by decide) (by decide) | rfl) : SE g X wx (.Compare a [op] [b] pos) (eBin fn fa fb) := by
  refine ⟨fun pins s σ m ρ H τ Q I S L o => ?_⟩
  exact wpAny_Compare1 (bin2 ha hb hf I S L o) h1
theorem se_un {op : UnaryOp} {fn : W → Mem → R W} (hf : F1 g X wx (unaryOp op) fn) (ha : SE g X wx a fa) : SE g X wx (.UnaryOp op a pos) (eUn fn fa) := by
  refine ⟨fun pins s σ m ρ H τ Q I S L o => ?_⟩
  exact PyProof.Rows.UnaryOp_ (ha.run pins s σ m ρ H τ _ I S L ((o.bind S).imp fun x m1 ρ1 H1 P1 S1 o1 v u s1 I1 rv ru => hf.run pins s1 m1 ρ1 H1 τ x v u Q I1 S1 rv ru o1))

/-! ### tests -/
def tVal (a : DE) : DB := fun σ m => (a σ m).bind fun x m1 => match x with | .bl b => .ok b m1 | _ => .bad
def tNot (a : DB) : DB := fun σ m => (a σ m).bind fun x m1 => .ok (!x) m1
def tAnd (a b : DB) : DB := fun σ m => (a σ m).bind fun x m1 => if x = true then b σ m1 else .ok false m1
def tOr (a b : DB) : DB := fun σ m => (a σ m).bind fun x m1 => if x = true then .ok true m1 else b σ m1
/-- truth of a value: None, bool, int, text, list -/
def truth (x : W) (m : Mem) : R Bool := match x with
  | .non => .ok false m
  | .bl b => .ok b m
  | .int i => .ok (i != 0) m
  | .str l => if l.length ≤ 1000000 then .ok (l.length != 0) m else .bad
  | .ref n => match m[n]? with
    | some (.lst xs) => .ok (!xs.isEmpty) m
    | _ => .bad
  | _ => .bad
def tTru (a : DE) : DB := fun σ m => (a σ m).bind truth
theorem st_val (ha : SE g X wx a fa) (he : ∀ whole, isTrue a X.env whole = (do let v ← whole; standAt a.pos; holding [v] (truthy v)) := by intro _; rfl) (hn : ∀ op es pos, a ≠ .BoolOp op es pos := by intro _ _ _ z; cases z) : ST g X wx a (tVal fa) := by
  refine ⟨fun whole pins s σ m ρ H τ Q hw I S L o => ?_⟩
  rcases hw with rfl | ⟨op, es, pos, e⟩
  · refine PyProof.Rows.isTrue_plain (ha.run pins s σ m ρ H τ _ I S L ((o.bind S).imp fun x m1 ρ1 H1 P1 S1 o1 v u s1 I1 rv ru => ?_)) (he _)
    cases x with
    | bl b =>
      cases rv; cases ru
      exact wpAny_truthy_bool (Out.here o1 S1 s1 I1)
    | _ => exact o1.elim
  · exact absurd e (hn _ _ _)
theorem st_tru (ha : SE g X wx a fa) (he : ∀ whole, isTrue a X.env whole = (do let v ← whole; standAt a.pos; holding [v] (truthy v)) := by intro _; rfl) (hn : ∀ op es pos, a ≠ .BoolOp op es pos := by intro _ _ _ z; cases z) : ST g X wx a (tTru fa) := by
  refine ⟨fun whole pins s σ m ρ H τ Q hw I S L o => ?_⟩
  rcases hw with rfl | ⟨op, es, pos, e⟩
  · refine PyProof.Rows.isTrue_plain (ha.run pins s σ m ρ H τ _ I S L ((o.bind S).imp fun x m1 ρ1 H1 P1 S1 o1 v u s1 I1 rv ru => ?_)) (he _)
    have go : ∀ k, TruV X.K v H1 k → (∀ s', Inv X pins τ H1 s' → Q k s') → wpAny (model X.prog X.w) X.A (truthy u) Q X.xe s1 := fun k tv hq =>
      thn (tru_ok pins s1 τ H1 v u (fun k' H' => k' = k ∧ H' = H1) I1 ru ⟨k, tv, rfl, rfl⟩) fun k' s' ⟨H', I', e1, e2⟩ => by subst e1; subst e2; exact hq s' I'
    cases rv with
    | non => exact go false rfl (Out.here o1 S1)
    | bl b => exact go b rfl (Out.here o1 S1)
    | int i => exact go (i != 0) rfl (Out.here o1 S1)
    | str l =>
      simp only [truth] at o1
      split at o1
      · rename_i hl
        refine go (l.length != 0) ⟨?_, ?_⟩ (Out.here o1 S1)
        · rw [S_len, sizeLine_eq]; omega
        · rw [S_len, Bool.eq_iff_iff]; simp
      · exact o1.elim
    | @ref n a h =>
      simp only [truth] at o1
      split at o1
      · rename_i xs hx
        obtain ⟨u1, h1, vs, e1, r1⟩ := S1.obj n a _ h hx
        subst e1
        refine go (!xs.isEmpty) (.inl ⟨vs, SqL.of h1, ?_⟩) (Out.here o1 S1)
        cases r1 <;> rfl
      · exact o1.elim
    | _ => exact o1.elim
  · exact absurd e (hn _ _ _)
theorem st_not {t : DB} (h : ST g X wx a t) (hw : True := trivial) : ST g X wx (.UnaryOp .Not a pos) (tNot t) := by
  refine ⟨fun whole pins s σ m ρ H τ Q hw I S L o => ?_⟩
  rcases hw with rfl | ⟨op, es, pos, e⟩
  · exact PyProof.Rows.isTrue_not (h.run _ pins s σ m ρ H τ (fun c s' => Q (!c) s') (.inl rfl) I S L ((o.bind S).imp fun x m1 ρ1 H1 P1 S1 o1 s1 I1 => Out.here o1 S1 s1 I1))
  · cases e
theorem st_and1 {t : DB} (h : ST g X wx a t) : ST g X wx (.BoolOp .And [a] pos) t := by
  refine ⟨fun whole pins s σ m ρ H τ Q hw I S L o => ?_⟩
  refine PyProof.Rows.isTrue_and (h.run _ pins s σ m ρ H τ _ (.inl rfl) I S L (o.imp fun x m1 ρ1 H1 P1 S1 o1 s1 I1 => ?_))
  cases x with
  | true => exact PyProof.Rows.isTrue_and_nil (o1 s1 I1)
  | false => exact o1 s1 I1
theorem st_or1 {t : DB} (h : ST g X wx a t) : ST g X wx (.BoolOp .Or [a] pos) t := by
  refine ⟨fun whole pins s σ m ρ H τ Q hw I S L o => ?_⟩
  refine PyProof.Rows.isTrue_or (h.run _ pins s σ m ρ H τ _ (.inl rfl) I S L (o.imp fun x m1 ρ1 H1 P1 S1 o1 s1 I1 => ?_))
  cases x with
  | false => exact PyProof.Rows.isTrue_or_nil (o1 s1 I1)
  | true => exact o1 s1 I1
variable {rest : List Expr}
theorem st_and {t t' : DB} (h : ST g X wx a t) (h' : ST g X wx (.BoolOp .And (b :: rest) pos) t') : ST g X wx (.BoolOp .And (a :: b :: rest) pos) (tAnd t t') := by
  refine ⟨fun whole pins s σ m ρ H τ Q hw I S L o => ?_⟩
  refine PyProof.Rows.isTrue_and (h.run _ pins s σ m ρ H τ _ (.inl rfl) I S L ((o.bind S).imp fun x m1 ρ1 H1 P1 S1 o1 s1 I1 => ?_))
  cases x with
  | true => exact h'.run whole pins s1 σ m1 ρ1 H1 τ Q (.inr ⟨_, _, _, rfl⟩) I1 S1 (L.post S P1) o1
  | false => exact Out.here o1 S1 s1 I1
theorem st_or {t t' : DB} (h : ST g X wx a t) (h' : ST g X wx (.BoolOp .Or (b :: rest) pos) t') : ST g X wx (.BoolOp .Or (a :: b :: rest) pos) (tOr t t') := by
  refine ⟨fun whole pins s σ m ρ H τ Q hw I S L o => ?_⟩
  refine PyProof.Rows.isTrue_or (h.run _ pins s σ m ρ H τ _ (.inl rfl) I S L ((o.bind S).imp fun x m1 ρ1 H1 P1 S1 o1 s1 I1 => ?_))
  cases x with
  | false => exact h'.run whole pins s1 σ m1 ρ1 H1 τ Q (.inr ⟨_, _, _, rfl⟩) I1 S1 (L.post S P1) o1
  | true => exact Out.here o1 S1 s1 I1
/-! .. as values -/
def eIf (t : DB) (a b : DE) : DE := fun σ m => (t σ m).bind fun x m1 => if x = true then a σ m1 else b σ m1
def eAnd (a b : DE) : DE := fun σ m => (a σ m).bind fun x m1 => match x with | .bl true => b σ m1 | .bl false => .ok (.bl false) m1 | _ => .bad
def eOr (a b : DE) : DE := fun σ m => (a σ m).bind fun x m1 => match x with | .bl true => .ok (.bl true) m1 | .bl false => b σ m1 | _ => .bad
def eNot (a : DE) : DE := fun σ m => (a σ m).bind fun x m1 => match x with | .bl b => .ok (.bl (!b)) m1 | _ => .bad
theorem se_if {t : DB} (h : ST g X wx c t) (ha : SE g X wx a fa) (hb : SE g X wx b fb) : SE g X wx (.IfExp c a b pos) (eIf t fa fb) := by
  refine ⟨fun pins s σ m ρ H τ Q I S L o => ?_⟩
  refine wpAny_IfExp (h.run _ pins s σ m ρ H τ _ (.inl rfl) I S L ((o.bind S).imp fun x m1 ρ1 H1 P1 S1 o1 s1 I1 => ?_))
  cases x with
  | true => exact ha.run pins s1 σ m1 ρ1 H1 τ Q I1 S1 (L.post S P1) o1
  | false => exact hb.run pins s1 σ m1 ρ1 H1 τ Q I1 S1 (L.post S P1) o1
theorem se_one {op} (h : SE g X wx a fa) : SE g X wx (.BoolOp op [a] pos) fa := ⟨fun pins s σ m ρ H τ Q I S L o => PyProof.Rows.BoolOp_one (h.run pins s σ m ρ H τ Q I S L o)⟩
theorem se_and (ha : SE g X wx a fa) (hb : SE g X wx (.BoolOp .And (b :: rest) pos) fb) : SE g X wx (.BoolOp .And (a :: b :: rest) pos) (eAnd fa fb) := by
  refine ⟨fun pins s σ m ρ H τ Q I S L o => ?_⟩
  refine PyProof.Rows.BoolOp_and (ha.run pins s σ m ρ H τ _ I S L ((o.bind S).imp fun x m1 ρ1 H1 P1 S1 o1 v u s1 I1 rv ru => ?_))
  cases x with
  | bl k =>
    cases rv; cases ru
    refine wpAny_truthy_bool ?_
    cases k with
    | true => exact hb.run pins s1 σ m1 ρ1 H1 τ Q I1 S1 (L.post S P1) o1
    | false => exact Out.here o1 S1 _ _ s1 I1 (.bl false) rfl
  | _ => exact o1.elim
theorem se_or (ha : SE g X wx a fa) (hb : SE g X wx (.BoolOp .Or (b :: rest) pos) fb) : SE g X wx (.BoolOp .Or (a :: b :: rest) pos) (eOr fa fb) := by
  refine ⟨fun pins s σ m ρ H τ Q I S L o => ?_⟩
  refine PyProof.Rows.BoolOp_or (ha.run pins s σ m ρ H τ _ I S L ((o.bind S).imp fun x m1 ρ1 H1 P1 S1 o1 v u s1 I1 rv ru => ?_))
  cases x with
  | bl k =>
    cases rv; cases ru
    refine wpAny_truthy_bool ?_
    cases k with
    | false => exact hb.run pins s1 σ m1 ρ1 H1 τ Q I1 S1 (L.post S P1) o1
    | true => exact Out.here o1 S1 _ _ s1 I1 (.bl true) rfl
  | _ => exact o1.elim
theorem se_not (ha : SE g X wx a fa) : SE g X wx (.UnaryOp .Not a pos) (eNot fa) := by
  refine ⟨fun pins s σ m ρ H τ Q I S L o => ?_⟩
  refine PyProof.Rows.UnaryOp_ (ha.run pins s σ m ρ H τ _ I S L ((o.bind S).imp fun x m1 ρ1 H1 P1 S1 o1 v u s1 I1 rv ru => ?_))
  cases x with
  | bl k =>
    cases rv; cases ru
    exact PyProof.Rows.not_of (wpAny_truthy_bool (Out.here o1 S1 _ _ s1 I1 (.bl (!k)) rfl))
  | _ => exact o1.elim

/-! ### arguments, displays -/
def aNil : DL := fun _ m => .ok [] m
def aCons (a : DE) (r : DL) : DL := fun σ m => (a σ m).bind fun x m1 => (r σ m1).bind fun xs m2 => .ok (x :: xs) m2
theorem sa_nil : SA g X wx [] aNil := ⟨fun pos pins s σ m ρ H τ Q I S L o => Calls.spliced_nil (Out.here o S [] [] s I .nil .nil)⟩
theorem sa_cons {e : Expr} {es : List Expr} {fe : DE} {fs : DL} (he : SE g X wx e fe) (hr : SA g X wx es fs) (hs : starEach (e :: es) X.env = (false, eval e X.env) :: starEach es X.env := by exact star1 rfl) : SA g X wx (e :: es) (aCons fe fs) := by
  refine ⟨fun pos pins s σ m ρ H τ Q I S L o => ?_⟩
  rw [hs]
  show wpAny _ _ (spliced ((false, eval e X.env) :: backTo pos (starEach es X.env))) _ _ s
  refine Calls.spliced_cons (he.run pins s σ m ρ H τ _ I S L ((o.bind S).imp fun x m1 ρ1 H1 P1 S1 o1 v u s1 I1 rv ru => ?_))
  refine hr.run pos pins s1 σ m1 ρ1 H1 τ _ I1 S1 (L.post S P1) ((o1.bind S1).imp fun xs m2 ρ2 H2 P2 S2 o2 vs us s2 I2 rvs rus => ?_)
  exact Out.here o2 S2 (v :: vs) (u :: us) s2 I2 (.cons (rv.post S1 P2) rvs) (.cons ru rus)
/-- a display's items are few -/
def few (ws : List W) (m : Mem) : R (List W) := if ws.length ≤ 1000000 then .ok ws m else .bad
def eTup (f : DL) : DE := fun σ m => (f σ m).bind fun ws m1 => (few ws m1).bind fun ws m2 => .ok (.tup ws) m2
def lDisp (f : DL) : DL := fun σ m => (f σ m).bind few
/-- a fresh list becomes an object -/
def eNew (f : DL) : DE := fun σ m => (f σ m).bind fun ws m1 => .ok (.ref m1.length) (m1 ++ [.lst ws])
theorem sizeM {n : Nat} (h : n ≤ 1000000) : n ≤ sizeLine := by rw [sizeLine_eq]; omega
theorem sizeM' {n : Nat} (h : n ≤ 1000000) : n < sizeLine := by rw [sizeLine_eq]; omega
theorem se_tup {es : List Expr} {f : DL} {x1} (h : SA g X wx es f) : SE g X wx (.Tuple es x1 pos) (eTup f) := by
  refine ⟨fun pins s σ m ρ H τ Q I S L o => ?_⟩
  refine wpAny_Tuple_spliced (h.run pos pins s σ m ρ H τ _ I S L ((o.bind S).imp fun ws m1 ρ1 H1 P1 S1 o1 vs us s1 I1 rv ru => ?_))
  unfold few at o1
  split at o1
  · rename_i hl
    have hlu : us.length ≤ sizeLine := by rw [← ru.length, ← rv.length]; exact sizeM hl
    refine ⟨hlu, ?_⟩
    have hf : H1 s1.heap.objs.size = none := I1.hok.fresh (Nat.le_refl _)
    have I2 : Inv X pins τ (upd H1 s1.heap.objs.size (.tup vs)) { s1 with heap := s1.heap.push { cls := .type "tuple", data := .seq us.toArray } } :=
      I1.laid (t' := s1.toks) (fun b u e => Heap.get?_push_of_some _ e) (Nat.le_refl _) ⟨by rw [← rv.length]; exact sizeM hl, us, ru, ⟨_, Heap.get?_push_size _ rfl, rfl, _, rfl⟩⟩
    obtain ⟨P2, S2⟩ := S1.junk (u := .tup vs) hf
    exact (o1 : Out g wx τ ρ1 H1 (R.ok (W.tup ws) m1) _) ρ1 _ P2 S2 _ _ _ I2 (.tup (SqT.of upd_same) (rv.post S1 P2)) rfl
  · exact o1.elim
theorem sl_disp {es : List Expr} {f : DL} (h : SA g X wx es f) : SL g X wx (.List es pos) (lDisp f) := by
  refine ⟨fun pins s σ m ρ H τ Q I S L o => ?_⟩
  refine wpAny_List_spliced (h.run pos pins s σ m ρ H τ _ I S L ((o.bind S).imp fun ws m1 ρ1 H1 P1 S1 o1 vs us s1 I1 rv ru => ?_))
  unfold few at o1
  split at o1
  · rename_i hl
    have hlu : us.length ≤ sizeLine := by rw [← ru.length, ← rv.length]; exact sizeM hl
    refine ⟨hlu, ?_⟩
    have hf : H1 s1.heap.objs.size = none := I1.hok.fresh (Nat.le_refl _)
    have I2 : Inv X pins τ (upd H1 s1.heap.objs.size (.lst vs)) { s1 with heap := s1.heap.push { cls := .type "list", data := .seq us.toArray } } :=
      I1.laid (t' := s1.toks) (fun b u e => Heap.get?_push_of_some _ e) (Nat.le_refl _) ⟨by rw [← rv.length]; exact sizeM hl, us, 0, ru, Heap.get?_push_size _ rfl⟩
    obtain ⟨P2, S2⟩ := S1.junk (u := .lst vs) hf
    exact (o1 : Out g wx τ ρ1 H1 (R.ok ws m1) _) ρ1 _ P2 S2 _ _ _ I2 (P1.back S S1 hf) upd_same (fun z => S1.isSm z hf) (rv.post S1 P2)
  · exact o1.elim
mutual
theorem VR.grow {ρ : List Addr} {H : Hp} (p : Addr) : ∀ {w : W} {v : V}, VR g ρ H w v → VR g (ρ ++ [p]) H w v
  | _, _, .non => .non
  | _, _, .bl b => .bl b
  | _, _, .int b => .int b
  | _, _, .str b => .str b
  | _, _, .tup h r => .tup h (VRs.grow p r)
  | _, _, .frz h r => .frz h (VRs.grow p r)
  | _, _, .ref h => .ref (by rw [List.getElem?_append_left (List.getElem?_eq_some_iff.mp h).1]; exact h)
  | _, _, .cls c => .cls c
  | _, _, .ty c => .ty c
theorem VRs.grow {ρ : List Addr} {H : Hp} (p : Addr) : ∀ {ws : List W} {vs : List V}, VRs g ρ H ws vs → VRs g (ρ ++ [p]) H ws vs
  | _, _, .nil => .nil
  | _, _, .cons h r => .cons (VR.grow p h) (VRs.grow p r)
end
theorem Sim.adopt {ρ : List Addr} {m : Mem} {H : Hp} {p : Addr} {u : HO} {o : O} (s : Sim g ρ m H) (hp : H p = some u) (hn : p ∉ ρ) (h : OR g ρ H o u) {ρ0 : List Addr} {H0 : Hp} (P : Post ρ0 H0 ρ H) (h0 : H0 p = none) :
    Post ρ0 H0 (ρ ++ [p]) H ∧ Sim g (ρ ++ [p]) (m ++ [o]) H := by
  obtain ⟨l, e, hl⟩ := P.ext
  have P0 : Post ρ H (ρ ++ [p]) H → True := fun _ => trivial
  refine ⟨⟨⟨l ++ [p], by rw [e, List.append_assoc], fun a ha => ?_⟩, P.keep⟩, by simp [s.len], ?_, fun i a o' h1 h2 => ?_⟩
  · rcases List.mem_append.mp ha with z | z
    · exact hl a z
    · have : a = p := by simpa using z
      subst this; exact h0
  · rw [List.nodup_append]
    refine ⟨s.nd, by simp, fun a ha b hb => ?_⟩
    have : b = p := by simpa using hb
    subst this
    rintro rfl
    exact hn ha
  · -- relations survive a longer ρ
    have mono : ∀ {o : O} {v : HO}, OR g ρ H o v → OR g (ρ ++ [p]) H o v := fun {o v} r => by
      -- Post with p free would want H p = none; do it by hand
      have vr : ∀ {w : W} {x : V}, VR g ρ H w x → VR g (ρ ++ [p]) H w x := fun r => r.grow p
      have vrs : ∀ {ws : List W} {xs : List V}, VRs g ρ H ws xs → VRs g (ρ ++ [p]) H ws xs := fun r => r.grow p
      cases o with
      | lst ws => obtain ⟨vs, e, r⟩ := r; exact ⟨vs, e, vrs r⟩
      | dK ws => obtain ⟨vs, e, r⟩ := r; exact ⟨vs, e, Paired.imp r fun _ _ q => ⟨q.1, vr q.2⟩⟩
      | dT ws => obtain ⟨vs, e, r⟩ := r; exact ⟨vs, e, Paired.imp r fun _ _ q => ⟨q.1, vr q.2⟩⟩
      | ins c fs => obtain ⟨dx, gs, e, r⟩ := r; exact ⟨dx, gs, e, Paired.imp r fun _ _ q => ⟨q.1, vr q.2⟩⟩
      | exc c fs => exact r
    by_cases hi : i < ρ.length
    · rw [List.getElem?_append_left hi] at h1
      rw [List.getElem?_append_left (by rw [← s.len]; exact hi)] at h2
      obtain ⟨v, h3, h4⟩ := s.obj i a o' h1 h2
      exact ⟨v, h3, mono h4⟩
    · have hi' : ρ.length ≤ i := Nat.le_of_not_lt hi
      rw [List.getElem?_append_right hi'] at h1
      rw [List.getElem?_append_right (by rw [← s.len]; exact hi')] at h2
      have e0 : i - ρ.length = 0 := by
        have := (List.getElem?_eq_some_iff.mp h1).1
        simp at this; omega
      have e0' : i - m.length = 0 := by rw [← s.len]; exact e0
      rw [e0] at h1; rw [e0'] at h2
      simp at h1 h2
      subst h1; subst h2
      exact ⟨u, hp, mono h⟩
theorem se_new {e : Expr} {f : DL} (h : SL g X wx e f) : SE g X wx e (eNew f) := by
  refine ⟨fun pins s σ m ρ H τ Q I S L o => ?_⟩
  refine h.run pins s σ m ρ H τ Q I S L ?_
  have o' := o
  unfold eNew at o'
  cases hr : f σ m with
  | ok ws m1 =>
    rw [hr] at o'
    intro ρ1 H1 P1 S1 p vs s1 I1 h0 hp hn rv
    obtain ⟨P2, S2⟩ := S1.adopt (o := .lst ws) hp hn ⟨vs, rfl, rv⟩ P1 h0
    have hl : (ρ1 ++ [p])[m1.length]? = some p := by rw [← S1.len]; simp
    exact o' (ρ1 ++ [p]) H1 P2 S2 (.ref p) (.ref p) s1 I1 (.ref hl) rfl
  | exc c fs m1 => rw [hr] at o'; exact o'
  | bad => rw [hr] at o'; exact o'
end
end Sh

namespace Sh
open PySem PySem.Spec L2

/-! ### as the layer's readings -/
section
variable (g : G) (X : Cx) (wx : WX)
def teOf (f : DE) : TE := fun τ H Q => ∃ (σ : Loc) (m : Mem) (ρ : List Addr), Sim g ρ m H ∧ LR g ρ H σ τ ∧ Out g wx τ ρ H (f σ m) fun w m' ρ' H' => ∀ v, VR g ρ' H' w v → Q v H'
def tlOf (f : DL) : TE := fun τ H Q => ∃ (σ : Loc) (m : Mem) (ρ : List Addr), Sim g ρ m H ∧ LR g ρ H σ τ ∧ Out g wx τ ρ H (f σ m) fun ws m' ρ' H' => ∀ p vs, H p = none → H' p = some (.lst vs) → p ∉ ρ' → VRs g ρ' H' ws vs → Q (.ref p) H'
def ttOf (f : DB) : TT := fun τ H Q => ∃ (σ : Loc) (m : Mem) (ρ : List Addr), Sim g ρ m H ∧ LR g ρ H σ τ ∧ Out g wx τ ρ H (f σ m) fun b m' ρ' H' => Q b H'
def taOf (f : DL) : TA := fun τ H Q => ∃ (σ : Loc) (m : Mem) (ρ : List Addr), Sim g ρ m H ∧ LR g ρ H σ τ ∧ Out g wx τ ρ H (f σ m) fun ws m' ρ' H' => ∀ vs, VRs g ρ' H' ws vs → Q vs H'
/-- what a statement leaves -/
def OutT (ρ : List Addr) (H : Hp) (r : RS) (D : Ends) : Prop := match r with
  | .nx σ' m' => ∀ ρ' H' τ', Post ρ H ρ' H' → Sim g ρ' m' H' → LR g ρ' H' σ' τ' → D.nx τ' H'
  | .rt w m' => ∀ ρ' H' v, Post ρ H ρ' H' → Sim g ρ' m' H' → VR g ρ' H' w v → D.rt v H'
  | .bk σ' m' => ∀ ρ' H' τ', Post ρ H ρ' H' → Sim g ρ' m' H' → LR g ρ' H' σ' τ' → D.bk τ' H'
  | .ct σ' m' => ∀ ρ' H' τ', Post ρ H ρ' H' → Sim g ρ' m' H' → LR g ρ' H' σ' τ' → D.ct τ' H'
  | .exc c fs σ' m' => ∀ ρ' H' τ' d gs, Post ρ H ρ' H' → Sim g ρ' m' H' → LR g ρ' H' σ' τ' → H' d = some (.xd gs) → FR g ρ' H' fs gs → wx (.ref (g.cl c)) (some d) τ' H'
  | .bad => False
def tsOf (f : DS) : TS := fun D τ H => ∃ (σ : Loc) (m : Mem) (ρ : List Addr), Sim g ρ m H ∧ LR g ρ H σ τ ∧ OutT g wx ρ H (f σ m) D
def SS (st : Stmt) (f : DS) : Prop := PS X st (tsOf g wx f)
def SSs (st : List Stmt) (f : DS) : Prop := PSs X st (tsOf g wx f)
end
section
variable {g : G} {X : Cx} {wx : WX} {τ : L2.St} {ρ ρ' : List Addr} {H H' : Hp} {m m' : Mem} {e : Expr}
theorem SE.pe {f : DE} (h : SE g X wx e f) : PE X e (teOf g wx f) := ⟨fun pins s τ H Q I ⟨σ, m, ρ, S, L, o⟩ =>
  h.run pins s σ m ρ H τ _ I S L (o.imp fun w m' ρ' H' P S' k v u s' I' r ru => ⟨v, H', I', ru, k v r⟩)⟩
theorem SL.pe {f : DL} (h : SL g X wx e f) : PE X e (tlOf g wx f) := ⟨fun pins s τ H Q I ⟨σ, m, ρ, S, L, o⟩ =>
  h.run pins s σ m ρ H τ _ I S L (o.imp fun w m' ρ' H' P S' k p vs s' I' h0 hp hn r => ⟨.ref p, H', I', rfl, k p vs h0 hp hn r⟩)⟩
theorem ST.pt {f : DB} (h : ST g X wx e f) : PT X e (ttOf g wx f) := ⟨fun pins s τ H Q I ⟨σ, m, ρ, S, L, o⟩ =>
  h.run _ pins s σ m ρ H τ _ (.inl rfl) I S L (o.imp fun b m' ρ' H' P S' k s' I' => ⟨H', I', k⟩)⟩
theorem SA.pa {es : List Expr} {f : DL} (h : SA g X wx es f) : PA X es (taOf g wx f) := ⟨fun pos pins s τ H Q I ⟨σ, m, ρ, S, L, o⟩ =>
  h.run pos pins s σ m ρ H τ _ I S L (o.imp fun b m' ρ' H' P S' k vs us s' I' r ru => ⟨vs, H', I', ru, k vs r⟩)⟩
theorem PS.conv {st : Stmt} {t t' : TS} (h : PS X st t) (k : ∀ D τ H, t' D τ H → t D τ H) : PS X st t' := ⟨fun pins s σ H D I q => h.run pins s σ H D I (k _ _ _ q)⟩
theorem PSs.conv {st : List Stmt} {t t' : TS} (h : PSs X st t) (k : ∀ D τ H, t' D τ H → t D τ H) : PSs X st t' := ⟨fun pins s σ H D I q => h.run pins s σ H D I (k _ _ _ q)⟩
theorem OutT.from {r : RS} {D : Ends} (h : OutT g wx ρ H r D) (P : Post ρ H ρ' H') (S : Sim g ρ m H) (S' : Sim g ρ' m' H') : OutT g wx ρ' H' r D := by
  cases r with
  | nx σ' m' => exact fun ρ2 H2 τ2 P2 S2 => h ρ2 H2 τ2 (P.then P2 S S') S2
  | rt w m' => exact fun ρ2 H2 v P2 S2 => h ρ2 H2 v (P.then P2 S S') S2
  | bk σ' m' => exact fun ρ2 H2 τ2 P2 S2 => h ρ2 H2 τ2 (P.then P2 S S') S2
  | ct σ' m' => exact fun ρ2 H2 τ2 P2 S2 => h ρ2 H2 τ2 (P.then P2 S S') S2
  | exc c fs σ' m' => exact fun ρ2 H2 τ2 d gs P2 S2 => h ρ2 H2 τ2 d gs (P.then P2 S S') S2
  | bad => exact h

/-- an expression's result, then a statement's -/
def RS.of {β : Type} (σ : Loc) (r : R β) (k : β → Mem → RS) : RS := match r with
  | .ok b m => k b m
  | .exc c fs m => .exc c fs σ m
  | .bad => .bad
@[simp] theorem RS.of_ok {β : Type} (σ : Loc) (b : β) (m : Mem) (k : β → Mem → RS) : RS.of σ (.ok b m) k = k b m := rfl
@[simp] theorem RS.of_exc {β : Type} (σ : Loc) (c : String) (fs : List (List Nat × W)) (m : Mem) (k : β → Mem → RS) : RS.of σ (.exc c fs m) k = .exc c fs σ m := rfl
@[simp] theorem RS.of_bad {β : Type} (σ : Loc) (k : β → Mem → RS) : RS.of σ .bad k = .bad := rfl
theorem OutT.of {β : Type} {σ : Loc} {r : R β} {k : β → Mem → RS} {D : Ends} (S : Sim g ρ m H) (L : LR g ρ H σ τ) (h : OutT g wx ρ H (RS.of σ r k) D) :
    Out g wx τ ρ H r (fun b m1 ρ1 H1 => OutT g wx ρ1 H1 (k b m1) D) := by
  cases r with
  | ok b m1 => exact fun ρ1 H1 P1 S1 => OutT.from h P1 S S1
  | exc c fs m1 => exact fun ρ1 H1 d gs P1 S1 h1 h2 => h ρ1 H1 τ d gs P1 S1 (L.post S P1) h1 h2
  | bad => exact h

/-! ### statements -/
def sSeq (a b : DS) : DS := fun σ m => match a σ m with
  | .nx σ' m' => b σ' m'
  | r => r
def sNil : DS := fun σ m => .nx σ m
def sExpr (f : DE) : DS := fun σ m => RS.of σ (f σ m) fun _ m1 => .nx σ m1
def sExprL (f : DL) : DS := fun σ m => RS.of σ (f σ m) fun _ m1 => .nx σ m1
def sRet (f : DE) : DS := fun σ m => RS.of σ (f σ m) fun w m1 => .rt w m1
def sRetN : DS := fun _ m => .rt .non m
def sIf (t : DB) (a b : DS) : DS := fun σ m => RS.of σ (t σ m) fun k m1 => if k = true then a σ m1 else b σ m1
def sSet (i : Nat) (f : DE) : DS := fun σ m => RS.of σ (f σ m) fun w m1 => .nx (σ.set i (some w)) m1
def sBreak : DS := fun σ m => .bk σ m
def sCont : DS := fun σ m => .ct σ m
theorem OutT.seq {a b : DS} {σ : Loc} {D : Ends} (S : Sim g ρ m H) (h : OutT g wx ρ H (sSeq a b σ m) D) : OutT g wx ρ H (a σ m) { D with nx := tsOf g wx b D } := by
  unfold sSeq at h
  cases ha : a σ m with
  | nx σ' m' => rw [ha] at h; exact fun ρ1 H1 τ1 P1 S1 L1 => ⟨σ', m', ρ1, S1, L1, OutT.from h P1 S S1⟩
  | rt w m' => rw [ha] at h; exact h
  | bk σ' m' => rw [ha] at h; exact h
  | ct σ' m' => rw [ha] at h; exact h
  | exc c fs σ' m' => rw [ha] at h; exact h
  | bad => rw [ha] at h; exact h
theorem ss_nil : SSs g X wx [] sNil := PSs.conv pss_nil fun D τ H ⟨σ, m, ρ, S, L, o⟩ => o ρ H τ Post.refl S L
theorem ss_cons {st : Stmt} {rest : List Stmt} {a b : DS} (h1 : SS g X wx st a) (h2 : SSs g X wx rest b) : SSs g X wx (st :: rest) (sSeq a b) :=
  PSs.conv (pss_cons h1 h2) fun D τ H ⟨σ, m, ρ, S, L, o⟩ => ⟨σ, m, ρ, S, L, o.seq S⟩
theorem ss_one {st : Stmt} {a : DS} (h1 : SS g X wx st a) : SSs g X wx [st] a := pss_one h1
theorem ss_pass {pos} : SS g X wx (.Pass pos) sNil := PS.conv ps_pass fun D τ H ⟨σ, m, ρ, S, L, o⟩ => o ρ H τ Post.refl S L
theorem ss_break {pos} : SS g X wx (.Break pos) sBreak := PS.conv ps_break fun D τ H ⟨σ, m, ρ, S, L, o⟩ => o ρ H τ Post.refl S L
theorem ss_cont {pos} : SS g X wx (.Continue pos) sCont := PS.conv ps_continue fun D τ H ⟨σ, m, ρ, S, L, o⟩ => o ρ H τ Post.refl S L
theorem ss_doc {x j pos pos'} : SS g X wx (.Expr (.Constant (.str x) j pos) pos') sNil := PS.conv ps_doc fun D τ H ⟨σ, m, ρ, S, L, o⟩ => o ρ H τ Post.refl S L
theorem ss_expr {f : DE} {pos : Pos} (he : SE g X wx e f) (hs : swapsWith e none pos.line X.env = pure false := by rfl) : SS g X wx (.Expr e pos) (sExpr f) :=
  PS.conv (ps_expr he.pe hs) fun D τ H ⟨σ, m, ρ, S, L, o⟩ => ⟨σ, m, ρ, S, L, (o.of S L).imp fun w m1 ρ1 H1 P1 S1 o1 v r => o1 ρ1 H1 τ Post.refl S1 (L.post S P1)⟩
theorem ss_ret {f : DE} {pos : Pos} (he : SE g X wx e f) : SS g X wx (.Return (some e) pos) (sRet f) :=
  PS.conv (ps_ret he.pe) fun D τ H ⟨σ, m, ρ, S, L, o⟩ => ⟨σ, m, ρ, S, L, (o.of S L).imp fun w m1 ρ1 H1 P1 S1 o1 v r => o1 ρ1 H1 v Post.refl S1 r⟩
theorem ss_retN {pos : Pos} : SS g X wx (.Return none pos) sRetN := PS.conv ps_retN fun D τ H ⟨σ, m, ρ, S, L, o⟩ => o ρ H .non Post.refl S .non
theorem ss_if {t : DB} {a b : List Stmt} {fa fb : DS} {pos : Pos} (h : ST g X wx e t) (ha : SSs g X wx a fa) (hb : SSs g X wx b fb) : SS g X wx (.If e a b pos) (sIf t fa fb) :=
  PS.conv (ps_if h.pt ha hb) fun D τ H ⟨σ, m, ρ, S, L, o⟩ => ⟨σ, m, ρ, S, L, (o.of S L).imp fun k m1 ρ1 H1 P1 S1 o1 => by
    cases k with
    | true => exact ⟨σ, m1, ρ1, S1, L.post S P1, o1⟩
    | false => exact ⟨σ, m1, ρ1, S1, L.post S P1, o1⟩⟩
theorem ss_set {i : Nat} {x : Str} {f : DE} {pos pos' : Pos} (hN : X.N.Nodup) (hi : X.N[i]? = some x) (hx : L2.Loc X.env.scope x) (he : SE g X wx e f) (hs : swapsWith e (some (.Name x pos')) pos.line X.env = pure false := by rfl)
    (hf : X.fn x = true ∨ X.env.scope.names.lookup x = some .local := by first | exact .inl rfl | exact .inr rfl | assumption) : SS g X wx (.Assign [.Name x pos'] e pos) (sSet i f) :=
  PS.conv (ps_set hN hi hx he.pe hs hf) fun D τ H ⟨σ, m, ρ, S, L, o⟩ => ⟨σ, m, ρ, S, L, (o.of S L).imp fun w m1 ρ1 H1 P1 S1 o1 v r => o1 ρ1 H1 _ Post.refl S1 ((L.post S P1).set i r)⟩

/-! ### targets -/
/-- the places js alone are touched -/
def Agree (js : List Nat) (τ τ' : L2.St) : Prop := τ'.length = τ.length ∧ ∀ j, j ∉ js → τ'[j]? = τ[j]?
theorem Agree.refl {js : List Nat} {τ : L2.St} : Agree js τ τ := ⟨rfl, fun _ _ => rfl⟩
theorem Agree.trans {js : List Nat} {τ τ1 τ2 : L2.St} (a : Agree js τ τ1) (b : Agree js τ1 τ2) : Agree js τ τ2 := ⟨b.1.trans a.1, fun j h => (b.2 j h).trans (a.2 j h)⟩
theorem Agree.mono {js ks : List Nat} {τ τ1 : L2.St} (a : Agree js τ τ1) (h : ∀ j ∈ js, j ∈ ks) : Agree ks τ τ1 := ⟨a.1, fun j hj => a.2 j fun z => hj (h j z)⟩
theorem Agree.wipe {js : List Nat} {τ τ1 : L2.St} (a : Agree js τ τ1) : L2.wipe τ1 js = L2.wipe τ js := by
  have key : ∀ (js : List Nat) (τ : L2.St) (i : Nat), (L2.wipe τ js)[i]? = if i ∈ js ∧ i < τ.length then some none else τ[i]? := by
    intro js τ i
    induction js with
    | nil => simp [L2.wipe]
    | cons v vs ih =>
      unfold L2.wipe
      by_cases h : i = v
      · subst h
        by_cases hl : i < τ.length
        · rw [List.getElem?_set_self (by rw [wipe_length]; exact hl)]; simp [hl]
        · rw [List.getElem?_eq_none (by rw [List.length_set, wipe_length]; omega)]
          simp [hl]
      · rw [List.getElem?_set_ne (Ne.symm h), ih]
        simp [h]
  refine List.ext_getElem? fun i => ?_
  rw [key, key, a.1]
  by_cases h : i ∈ js
  · by_cases hl : i < τ.length
    · simp [h, hl]
    · have h1 : τ1[i]? = none := List.getElem?_eq_none (by rw [a.1]; omega)
      have h2 : τ[i]? = none := List.getElem?_eq_none (by omega)
      simp [hl, h1, h2]
  · simp [h, a.2 i h]
def tgOf (g : G) (wx : WX) (h : W → Loc → Mem → R Loc) (js : List Nat) : TG := fun v τ H Q => ∃ (w : W) (σ : Loc) (m : Mem) (ρ : List Addr), Sim g ρ m H ∧ LR g ρ H σ τ ∧ VR g ρ H w v ∧
  Out g wx τ ρ H (h w σ m) fun σ' m' ρ' H' => ∀ τ', LR g ρ' H' σ' τ' → Agree js τ τ' → Q τ' H'
/-- a target; js: the places that it stores to -/
def SG (g : G) (X : Cx) (wx : WX) (tg : Expr) (h : W → Loc → Mem → R Loc) (js : List Nat) : Prop := PG X tg (tgOf g wx h js)
def gSet (i : Nat) : W → Loc → Mem → R Loc := fun w σ m => .ok (σ.set i (some w)) m
theorem PG.conv {tg : Expr} {t t' : TG} (h : PG X tg t) (k : ∀ v τ H Q, t' v τ H Q → t v τ H Q) : PG X tg t' := ⟨fun pins s σ H v u Q I r q => h.run pins s σ H v u Q I r (k _ _ _ _ q)⟩
theorem sg_name {i : Nat} {x : Str} {pos : Pos} (hN : X.N.Nodup) (hi : X.N[i]? = some x) (hx : L2.Loc X.env.scope x) (hf : X.fn x = true ∨ X.env.scope.names.lookup x = some .local := by first | exact .inl rfl | exact .inr rfl | assumption) : SG g X wx (.Name x pos) (gSet i) [i] :=
  PG.conv (pg_name hN hi hx hf) fun v τ H Q ⟨w, σ, m, ρ, S, L, r, o⟩ => (Out.here o S) _ (L.set i r) ⟨by simp, fun j hj => by
    have : j ≠ i := by simpa using hj
    exact List.getElem?_set_ne (Ne.symm this)⟩
/-- several names: (a, b, ..) = a tuple -/
def gTups : List (W → Loc → Mem → R Loc) → List W → Loc → Mem → R Loc
  | [], [], σ, m => .ok σ m
  | h :: hs, w :: ws, σ, m => (h w σ m).bind fun σ1 m1 => gTups hs ws σ1 m1
  | _, _, _, _ => .bad
def gTup (hs : List (W → Loc → Mem → R Loc)) : W → Loc → Mem → R Loc := fun w σ m => match w with
  | .tup ws => if ws.length = hs.length then gTups hs ws σ m else .bad
  | _ => .bad
def tgsOf (g : G) (wx : WX) (hs : List (W → Loc → Mem → R Loc)) (js : List Nat) : TGs := fun vs τ H Q => ∃ (ws : List W) (σ : Loc) (m : Mem) (ρ : List Addr), Sim g ρ m H ∧ LR g ρ H σ τ ∧ VRs g ρ H ws vs ∧
  Out g wx τ ρ H (gTups hs ws σ m) fun σ' m' ρ' H' => ∀ τ', LR g ρ' H' σ' τ' → Agree js τ τ' → Q τ' H'
def SGs (g : G) (X : Cx) (wx : WX) (tgs : List Expr) (hs : List (W → Loc → Mem → R Loc)) (js : List Nat) : Prop := PGs X tgs (tgsOf g wx hs js)
theorem PGs.conv {tg : List Expr} {t t' : TGs} (h : PGs X tg t) (k : ∀ v τ H Q, t' v τ H Q → t v τ H Q) : PGs X tg t' := ⟨fun pins s σ H v u Q I r q => h.run pins s σ H v u Q I r (k _ _ _ _ q)⟩
theorem sgs_nil : SGs g X wx [] [] [] := PGs.conv pgs_nil fun vs τ H Q ⟨ws, σ, m, ρ, S, L, r, o⟩ => by
  cases r with
  | nil => exact ⟨rfl, (Out.here o S) τ L Agree.refl⟩
  | cons a b => exact o.elim
theorem Out.slots {τ' : L2.St} {js : List Nat} {β : Type} {r : R β} {Q : β → Mem → List Addr → Hp → Prop} (hw : ∀ c d H, wx c d τ H → wx c d τ' H) (h : Out g wx τ ρ H r Q) : Out g wx τ' ρ H r Q := by
  cases r with
  | ok b m1 => exact h
  | exc c fs m1 => exact fun ρ1 H1 d gs P1 S1 h1 h2 => hw _ _ _ (h ρ1 H1 d gs P1 S1 h1 h2)
  | bad => exact h
/-- targets raise nothing -/
def Quiet (h : W → Loc → Mem → R Loc) : Prop := ∀ w σ m c fs m', h w σ m ≠ .exc c fs m'
theorem quiet_set {i : Nat} : Quiet (gSet i) := fun w σ m c fs m' z => nomatch z
theorem gTups_quiet : ∀ {hs : List (W → Loc → Mem → R Loc)}, (∀ h ∈ hs, Quiet h) → ∀ ws σ m c fs m', gTups hs ws σ m ≠ .exc c fs m'
  | [], _, [], σ, m, c, fs, m', z => nomatch z
  | [], _, _ :: _, σ, m, c, fs, m', z => nomatch z
  | _ :: _, _, [], σ, m, c, fs, m', z => nomatch z
  | h :: hs, k, w :: ws, σ, m, c, fs, m', z => by
    unfold gTups at z
    cases q : h w σ m with
    | ok σ1 m1 => rw [q] at z; exact gTups_quiet (fun h hh => k h (List.mem_cons_of_mem _ hh)) ws σ1 m1 c fs m' z
    | exc c1 fs1 m1 => exact k h List.mem_cons_self w σ m c1 fs1 m1 q
    | bad => rw [q] at z; cases z
theorem Out.quiet {τ' : L2.St} {β : Type} {r : R β} {Q : β → Mem → List Addr → Hp → Prop} (hq : ∀ c fs m', r ≠ .exc c fs m') (h : Out g wx τ ρ H r Q) : Out g wx τ' ρ H r Q := by
  cases r with
  | ok b m1 => exact h
  | exc c fs m1 => exact absurd rfl (hq c fs m1)
  | bad => exact h
theorem sgs_cons {t : Expr} {ts : List Expr} {h : W → Loc → Mem → R Loc} {hs : List (W → Loc → Mem → R Loc)} {js ks : List Nat} (h1 : SG g X wx t h js) (h2 : SGs g X wx ts hs ks) (hq : ∀ h ∈ hs, Quiet h := by first | (intro h hh; simp only [List.mem_cons, List.not_mem_nil, or_false] at hh; rcases hh with rfl | rfl | rfl | rfl | rfl <;> exact quiet_set) | (intro h hh; cases hh))
    (hst : (assignEach (t :: ts) X.env).map (·.2) = assign t X.env :: (assignEach ts X.env).map (·.2) := by rfl) : SGs g X wx (t :: ts) (h :: hs) (js ++ ks) :=
  PGs.conv (pgs_cons h1 h2 hst) fun vs τ H Q ⟨ws, σ, m, ρ, S, L, r, o⟩ => by
    cases r with
    | nil => exact o.elim
    | @cons w v ws vs rv rr =>
      refine ⟨_, _, rfl, w, σ, m, ρ, S, L, rv, ((show Out g wx τ ρ H ((h w σ m).bind fun σ1 m1 => gTups hs ws σ1 m1) _ from o).bind S).imp fun σ1 m1 ρ1 H1 P1 S1 o1 τ1 L1 A1 => ?_⟩
      refine ⟨ws, σ1, m1, ρ1, S1, L1, rr.post S P1, (o1.quiet (gTups_quiet hq ws σ1 m1)).imp fun σ2 m2 ρ2 H2 P2 S2 o2 τ2 L2 A2 => o2 τ2 L2 ((A1.mono fun j hj => List.mem_append_left _ hj).trans (A2.mono fun j hj => List.mem_append_right _ hj))⟩
theorem sg_tup {es : List Expr} {k : Nat} {hs : List (W → Loc → Mem → R Loc)} {js : List Nat} {pos : Pos} (hK : X.K = g.K) (hc : X.calm = true) (h : SGs g X wx es hs js) (hl : hs.length = es.length := by rfl) (hn : (assignEach es X.env).length = es.length := by rfl)
    (hst : (assignEach es X.env).findIdx? (·.1) = none := by rfl) : SG g X wx (.Tuple es k pos) (gTup hs) js :=
  PG.conv (pg_tup (n := es.length) hc h hn hst) fun v τ H Q ⟨w, σ, m, ρ, S, L, r, o⟩ => by
    cases r with
    | @tup ws vs a hs' rv =>
      have o' : Out g wx τ ρ H (if ws.length = hs.length then gTups hs ws σ m else .bad) _ := o
      by_cases he : ws.length = hs.length
      · rw [if_pos he] at o'
        exact ⟨a, vs, rfl, by rw [hK]; exact hs', by rw [← rv.length, he, hl], ws, σ, m, ρ, S, L, rv, o'⟩
      · rw [if_neg he] at o'
        exact o'.elim
    | _ => exact o.elim
end
end Sh

namespace Sh
open PySem PySem.Spec L2

/-! ### what is walked -/
abbrev Src := Nat → Mem → Option (Option W)
structure Plan where
  n : Nat
  src : Src
abbrev DP := Loc → Mem → R Plan
def Wk (g : G) (J : It) (src : Src) (ρ0 : List Addr) (H0 : Hp) : Prop := ∀ (ρ : List Addr) (H : Hp) (m : Mem) (i : Nat), Post ρ0 H0 ρ H → Sim g ρ m H →
  match src i m with
  | some (some w) => J.go i H ∧ ∀ x H', J.yld i H x H' → Post ρ H ρ H' ∧ Sim g ρ m H' ∧ VR g ρ H' w x
  | some none => J.stop i H
  | none => True
def tiOf (g : G) (wx : WX) (f : DP) : TI := fun τ H R => ∃ (σ : Loc) (m : Mem) (ρ : List Addr), Sim g ρ m H ∧ LR g ρ H σ τ ∧ Out g wx τ ρ H (f σ m) fun pl m' ρ' H' => ∀ J, Wk g J pl.src ρ' H' → R J H'
def SI (g : G) (X : Cx) (wx : WX) (tg iter : Expr) (f : DP) : Prop := PI X tg iter (tiOf g wx f)
def srcFix (ws : List W) : Src := fun i _ => some ws[i]?
def srcLive (a : Nat) : Src := fun i m => match m[a]? with | some (.lst xs) => some xs[i]? | _ => none
def srcRange (lo : Int) (n : Nat) : Src := fun i _ => some (if i < n then some (.int (lo + (i : Int))) else none)
def srcStr (l : List Nat) : Src := fun i _ => some (l[i]?.map fun c => .str [c])
def srcEnum (s : Src) : Src := fun i m => (s i m).map fun o => o.map fun w => .tup [.int (i : Nat), w]
def srcZip (s t : Src) : Src := fun i m => match s i m, t i m with
  | some (some x), some (some y) => some (some (.tup [x, y]))
  | some none, some _ => some none
  | some _, some none => some none
  | _, _ => none
section
variable {g : G} {X : Cx} {wx : WX} {τ : L2.St} {ρ ρ' : List Addr} {H H' : Hp} {m m' : Mem} {e tg : Expr}
theorem PI.conv {iter : Expr} {t t' : TI} (h : PI X tg iter t) (k : ∀ τ H R, t' τ H R → t τ H R) : PI X tg iter t' := ⟨fun pins s σ H R I q => h.run pins s σ H R I (k _ _ _ q)⟩
theorem PI.union {iter : Expr} {ι : Type} {t : ι → TI} {t' : TI} (h : ∀ i, PI X tg iter (t i)) (k : ∀ τ H R, t' τ H R → ∃ i, t i τ H R) : PI X tg iter t' := ⟨fun pins s σ H R I q => let ⟨i, q'⟩ := k _ _ _ q; (h i).run pins s σ H R I q'⟩
/-- a fresh list stays -/
theorem fresh_stay {p : Addr} {o : HO} (S : Sim g ρ m H) (hp : H p = some o) (hn : p ∉ ρ) {ρ1 : List Addr} {H1 : Hp} (P : Post ρ H ρ1 H1) : H1 p = some o ∧ p ∉ ρ1 := by
  refine ⟨P.keep p o hp hn, fun z => ?_⟩
  obtain ⟨l, e, hl⟩ := P.ext
  rw [e] at z
  rcases List.mem_append.mp z with z | z
  · exact hn z
  · rw [hl p z] at hp; cases hp

theorem VRs.at_none : ∀ {ws : List W} {vs : List V} {i : Nat}, VRs g ρ H ws vs → ws[i]? = none → vs.length ≤ i := fun {ws vs i} r h => by
  rw [← r.length]; exact List.getElem?_eq_none_iff.mp h
theorem wk_fix {p : Addr} {vs : List V} {ws : List W} (hK : X.K = g.K) (S : Sim g ρ m H) (hp : H p = some (.lst vs)) (hn : p ∉ ρ) (r : VRs g ρ H ws vs) : Wk g (Itl X.K p) (srcFix ws) ρ H := by
  intro ρ1 H1 m1 i P1 S1
  obtain ⟨hp1, hn1⟩ := fresh_stay S hp hn P1
  have r1 := r.post S P1
  cases q : ws[i]? with
  | some w =>
    obtain ⟨v, hv, rv⟩ := r1.get q
    simp only [srcFix, q]
    refine ⟨⟨vs, v, SqL.of hp1, hv⟩, fun x H' ⟨e, hx⟩ => ?_⟩
    subst e
    have := hx vs (SqL.of hp1)
    rw [hv] at this; cases this
    exact ⟨Post.refl, S1, rv⟩
  | none =>
    simp only [srcFix, q]
    exact ⟨vs, SqL.of hp1, r1.at_none q⟩
theorem wk_live {n : Nat} {a : Addr} (hK : X.K = g.K) (S : Sim g ρ m H) (ha : ρ[n]? = some a) : Wk g (Itl X.K a) (srcLive n) ρ H := by
  intro ρ1 H1 m1 i P1 S1
  have ha1 := P1.get ha
  unfold srcLive
  split
  · rename_i x w hw
    split at hw
    · rename_i xs hxs
      obtain ⟨u, h1, vs, e1, r1⟩ := S1.obj n a _ ha1 hxs
      subst e1
      have hw' : xs[i]? = some w := Option.some.inj hw
      obtain ⟨v, hv, rv⟩ := r1.get hw'
      refine ⟨⟨vs, v, SqL.of h1, hv⟩, fun x H' ⟨e, hx⟩ => ?_⟩
      subst e
      have := hx vs (SqL.of h1)
      rw [hv] at this; cases this
      exact ⟨Post.refl, S1, rv⟩
    · cases hw
  · rename_i x hw
    split at hw
    · rename_i xs hxs
      obtain ⟨u, h1, vs, e1, r1⟩ := S1.obj n a _ ha1 hxs
      subst e1
      exact ⟨vs, SqL.of h1, r1.at_none (Option.some.inj hw)⟩
    · cases hw
  · trivial
theorem wk_tup {a : Addr} {vs : List V} {ws : List W} (hK : X.K = g.K) (S : Sim g ρ m H) (hp : SqT X.K H a vs) (r : VRs g ρ H ws vs) : Wk g (Itt X.K a) (srcFix ws) ρ H := by
  intro ρ1 H1 m1 i P1 S1
  have hp1 : SqT X.K H1 a vs := by rw [hK] at hp ⊢; exact P1.seqT S hp
  have r1 := r.post S P1
  cases q : ws[i]? with
  | some w =>
    obtain ⟨v, hv, rv⟩ := r1.get q
    simp only [srcFix, q]
    refine ⟨⟨vs, v, hp1, hv⟩, fun x H' ⟨e, hx⟩ => ?_⟩
    subst e
    have := hx vs hp1
    rw [hv] at this; cases this
    exact ⟨Post.refl, S1, rv⟩
  | none =>
    simp only [srcFix, q]
    exact ⟨vs, hp1, r1.at_none q⟩
theorem wk_range {lo : Int} {n : Nat} : Wk g (Itr lo n) (srcRange lo n) ρ H := by
  intro ρ1 H1 m1 i P1 S1
  unfold srcRange
  by_cases h : i < n
  · simp only [if_pos h]
    refine ⟨h, fun x H' ⟨e, hx⟩ => ?_⟩
    subst e; subst hx
    exact ⟨Post.refl, S1, .int _⟩
  · simp only [if_neg h]
    exact Nat.le_of_not_lt h
theorem wk_str {l : List Nat} : Wk g (Its (Sh.S l)) (srcStr l) ρ H := by
  intro ρ1 H1 m1 i P1 S1
  unfold srcStr
  have hg : (Sh.S l).cps[i]? = l[i]? := by simp
  have hs : (Sh.S l).cps.size = l.length := by simp
  cases q : l[i]? with
  | some c =>
    simp only [Option.map_some]
    refine ⟨by show i < (Sh.S l).cps.size; rw [hs]; exact (List.getElem?_eq_some_iff.mp q).1, fun x H' ⟨e, c', hc, hx⟩ => ?_⟩
    subst e; subst hx
    rw [hg, q] at hc; cases hc
    exact ⟨Post.refl, S1, .str [c]⟩
  | none =>
    simp only [Option.map_none]
    show (Sh.S l).cps.size ≤ i
    rw [hs]; exact List.getElem?_eq_none_iff.mp q

/-- iterables -/
def pList (f : DL) : DP := fun σ m => (f σ m).bind fun ws m1 => .ok ⟨ws.length, srcFix ws⟩ m1
def planOf (w : W) (m : Mem) : R Plan := match w with
  | .ref n => match m[n]? with
    | some (.lst xs) => .ok ⟨xs.length, srcLive n⟩ m
    | _ => .bad
  | .tup ws => .ok ⟨ws.length, srcFix ws⟩ m
  | .str l => .ok ⟨l.length, srcStr l⟩ m
  | _ => .bad
def pVal (f : DE) : DP := fun σ m => (f σ m).bind planOf
theorem si_list {f : DL} (hK : X.K = g.K) (h : SL g X wx e f) : SI g X wx tg e (pList f) :=
  PI.conv (pi_list h.pe) fun τ H R ⟨σ, m, ρ, S, L, o⟩ => ⟨σ, m, ρ, S, L, (o.bind S).imp fun ws m1 ρ1 H1 P1 S1 o1 p vs h0 hp hn r =>
    ⟨p, rfl, ⟨vs, SqL.of hp⟩, Out.here o1 S1 _ (wk_fix hK S1 hp hn r)⟩⟩
theorem si_val {f : DE} (hK : X.K = g.K) (h : SE g X wx e f) : SI g X wx tg e (pVal f) := by
  -- list, tuple or text
  have hl : PI X tg e (iList X.K (teOf g wx f)) := pi_list h.pe
  have ht : PI X tg e (iTup X.K (teOf g wx f)) := pi_tup h.pe
  have hs : PI X tg e (iStr (teOf g wx f)) := pi_str h.pe
  refine PI.union (ι := Fin 3) (t := fun i => match i with | 0 => iList X.K (teOf g wx f) | 1 => iTup X.K (teOf g wx f) | 2 => iStr (teOf g wx f)) (fun i => match i with | 0 => hl | 1 => ht | 2 => hs) fun τ H R ⟨σ, m, ρ, S, L, o⟩ => ?_
  have o' := o.bind S
  cases hr : f σ m with
  | ok w m1 =>
    have hbad : (∀ ρ1 H1, Post ρ H ρ1 H1 → Sim g ρ1 m1 H1 → ∀ v, VR g ρ1 H1 w v → Out g wx τ ρ1 H1 (planOf w m1) fun pl m' ρ' H' => ∀ J, Wk g J pl.src ρ' H' → R J H') := fun ρ1 H1 P1 S1 v r => by
      rw [hr] at o'; exact o' ρ1 H1 P1 S1
    cases w with
    | ref n =>
      refine ⟨0, σ, m, ρ, S, L, ?_⟩
      rw [hr]
      intro ρ1 H1 P1 S1 v r
      have o1 := hbad ρ1 H1 P1 S1 v r
      cases r with
      | @ref n a ha =>
        simp only [planOf] at o1
        split at o1
        · rename_i xs hx
          obtain ⟨u, h1, vs, e1, r1⟩ := S1.obj n a _ ha hx
          subst e1
          exact ⟨a, rfl, ⟨vs, SqL.of h1⟩, Out.here o1 S1 _ (wk_live hK S1 ha)⟩
        · exact o1.elim
    | tup ws =>
      refine ⟨1, σ, m, ρ, S, L, ?_⟩
      rw [hr]
      intro ρ1 H1 P1 S1 v r
      have o1 := hbad ρ1 H1 P1 S1 v r
      cases r with
      | @tup ws vs a hs rv =>
        have hs' : SqT X.K H1 a vs := by rw [hK]; exact hs
        exact ⟨a, rfl, ⟨vs, hs'⟩, Out.here o1 S1 _ (wk_tup hK S1 hs' rv)⟩
    | str l =>
      refine ⟨2, σ, m, ρ, S, L, ?_⟩
      rw [hr]
      intro ρ1 H1 P1 S1 v r
      have o1 := hbad ρ1 H1 P1 S1 v r
      cases r
      exact ⟨_, rfl, Out.here o1 S1 _ wk_str⟩
    | _ =>
      refine ⟨0, σ, m, ρ, S, L, ?_⟩
      rw [hr]
      intro ρ1 H1 P1 S1 v r
      exact (hbad ρ1 H1 P1 S1 v r).elim
  | exc c fs m1 =>
    rw [hr] at o'
    refine ⟨0, σ, m, ρ, S, L, ?_⟩
    rw [hr]; exact o'
  | bad => rw [hr] at o'; exact o'.elim
def pRange1 (f : DL) : DP := fun σ m => (f σ m).bind fun ws m1 => match ws with
  | [.int n] => if -1000000000 ≤ n ∧ n ≤ 1000000000 then .ok ⟨n.toNat, srcRange 0 n.toNat⟩ m1 else .bad
  | _ => .bad
def pRange2 (f : DL) : DP := fun σ m => (f σ m).bind fun ws m1 => match ws with
  | [.int a, .int n] => if (-1000000000 ≤ n ∧ n ≤ 1000000000) ∧ -1000000000 ≤ a ∧ a ≤ 1000000000 then .ok ⟨(n - a).toNat, srcRange a (n - a).toNat⟩ m1 else .bad
  | _ => .bad
theorem VRs.inv1 {w : W} {vs : List V} (h : VRs g ρ H [w] vs) : ∃ v, vs = [v] ∧ VR g ρ H w v := by
  cases h with | cons a b => cases b; exact ⟨_, rfl, a⟩
theorem VRs.inv2 {w x : W} {vs : List V} (h : VRs g ρ H [w, x] vs) : ∃ v u, vs = [v, u] ∧ VR g ρ H w v ∧ VR g ρ H x u := by
  cases h with | cons a b => cases b with | cons c d => cases d; exact ⟨_, _, rfl, a, c⟩
theorem si_range1 {a : Expr} {f : DL} {p pos : Pos} (hg : Gl X "range") (hm : X.mg "range" = none) (ha : SA g X wx [a] f) (hs : starEach [a] X.env = [(false, eval a X.env)] := by rfl) : SI g X wx tg (.Call (.Name "range" p) [a] [] pos) (pRange1 f) :=
  PI.conv (pi_range1 hg hm ha.pa hs) fun τ H R ⟨σ, m, ρ, S, L, o⟩ => ⟨σ, m, ρ, S, L, (o.bind S).imp fun ws m1 ρ1 H1 P1 S1 o1 vs r => by
    split at o1
    · rename_i n
      obtain ⟨v, rfl, rv⟩ := r.inv1
      cases rv
      split at o1
      · rename_i hb
        exact ⟨n, rfl, by omega, by omega, Out.here o1 S1 _ wk_range⟩
      · exact o1.elim
    · exact o1.elim⟩
theorem si_range2 {a b : Expr} {f : DL} {p pos : Pos} (hg : Gl X "range") (hm : X.mg "range" = none) (ha : SA g X wx [a, b] f) (hs : starEach [a, b] X.env = [(false, eval a X.env), (false, eval b X.env)] := by rfl) (hs2 : starEach [b] X.env = [(false, eval b X.env)] := by rfl) :
    SI g X wx tg (.Call (.Name "range" p) [a, b] [] pos) (pRange2 f) :=
  PI.conv (pi_range2 hg hm ha.pa hs hs2) fun τ H R ⟨σ, m, ρ, S, L, o⟩ => ⟨σ, m, ρ, S, L, (o.bind S).imp fun ws m1 ρ1 H1 P1 S1 o1 vs r => by
    split at o1
    · rename_i k n
      obtain ⟨v, u, rfl, rv, ru⟩ := r.inv2
      cases rv; cases ru
      split at o1
      · rename_i hb
        exact ⟨k, n, rfl, ⟨by omega, by omega, by omega, by omega⟩, Out.here o1 S1 _ wk_range⟩
      · exact o1.elim
    · exact o1.elim⟩
/-! enumerate, zip of lists: each argument a fresh list or a list that stands -/
/-- an argument that is a list: what is walked -/
def SQ (g : G) (X : Cx) (wx : WX) (e : Expr) (f : DP) : Prop := PE X e (fun τ H Q => ∃ (σ : Loc) (m : Mem) (ρ : List Addr), Sim g ρ m H ∧ LR g ρ H σ τ ∧ Out g wx τ ρ H (f σ m) fun pl m' ρ' H' => ∀ a, (∃ xs, SqL X.K H' a xs) → (∀ ρ1 H1 m1 i, Post ρ' H' ρ1 H1 → Sim g ρ1 m1 H1 → pl.src i m1 ≠ none → ∃ xs, SqL X.K H1 a xs) → Wk g (Itl X.K a) pl.src ρ' H' → Q (.ref a) H')
def planL (w : W) (m : Mem) : R Plan := match w with
  | .ref n => match m[n]? with
    | some (.lst xs) => .ok ⟨xs.length, srcLive n⟩ m
    | _ => .bad
  | _ => .bad
def pSeq (f : DE) : DP := fun σ m => (f σ m).bind planL
theorem PE.conv {t t' : TE} (h : PE X e t) (k : ∀ τ H Q, t' τ H Q → t τ H Q) : PE X e t' := ⟨fun pins s σ H Q I q => h.run pins s σ H Q I (k _ _ _ q)⟩
def enumPlan (pl : Plan) (m : Mem) : R Plan := .ok ⟨pl.n, srcEnum pl.src⟩ m
def pEnum (f : DP) : DP := fun σ m => (f σ m).bind enumPlan
def zipPlan (pl pl' : Plan) (m : Mem) : R Plan := match pl.src 0 m with
  | some _ => .ok ⟨min pl.n pl'.n, srcZip pl.src pl'.src⟩ m
  | none => .bad
def pZip (f f' : DP) : DP := fun σ m => (f σ m).bind fun pl m1 => (f' σ m1).bind fun pl' m2 => zipPlan pl pl' m2
theorem wk_enum {a : Addr} {src : Src} (S : Sim g ρ m H) (h : Wk g (Itl X.K a) src ρ H) : Wk g (Ite X.K a) (srcEnum src) ρ H := by
  intro ρ1 H1 m1 i P1 S1
  have k := h ρ1 H1 m1 i P1 S1
  unfold srcEnum
  cases q : src i m1 with
  | none => trivial
  | some o =>
    rw [q] at k
    cases o with
    | none => exact k
    | some w =>
      obtain ⟨⟨xs, x, hx, hi⟩, ky⟩ := k
      refine ⟨⟨xs, x, hx, hi⟩, fun v H' ⟨T, y, ev, hT, eH, hy⟩ => ?_⟩
      subst ev; subst eH
      obtain ⟨_, _, r⟩ := ky y H1 ⟨rfl, hy⟩
      obtain ⟨P2, S2⟩ := S1.junk (u := .tup [.int (i : Nat), y]) hT
      exact ⟨P2, S2, .tup (SqT.of upd_same) (.cons (.int _) (.cons (r.post S1 P2) .nil))⟩
theorem wk_zip {a b : Addr} {src src' : Src} (S : Sim g ρ m H) (h : Wk g (Itl X.K a) src ρ H) (h' : Wk g (Itl X.K b) src' ρ H)
    (k1 : ∀ ρ1 H1 m1 i, Post ρ H ρ1 H1 → Sim g ρ1 m1 H1 → src i m1 ≠ none → ∃ xs, SqL X.K H1 a xs) (k2 : ∀ ρ1 H1 m1 i, Post ρ H ρ1 H1 → Sim g ρ1 m1 H1 → src' i m1 ≠ none → ∃ xs, SqL X.K H1 b xs) : Wk g (Itz X.K a b) (srcZip src src') ρ H := by
  intro ρ1 H1 m1 i P1 S1
  have k := h ρ1 H1 m1 i P1 S1
  have k' := h' ρ1 H1 m1 i P1 S1
  unfold srcZip
  cases q : src i m1 with
  | none => cases src' i m1 with
    | none => trivial
    | some o' =>
      cases o' with
      | none => trivial
      | some w' => trivial
  | some o =>
    rw [q] at k
    cases q' : src' i m1 with
    | none => cases o <;> trivial
    | some o' =>
      rw [q'] at k'
      cases o with
      | none =>
        obtain ⟨xs, hx, hl⟩ := k
        obtain ⟨ys, hy⟩ := k2 ρ1 H1 m1 i P1 S1 (by rw [q']; simp)
        exact ⟨xs, ys, hx, hy, .inl hl⟩
      | some w =>
        cases o' with
        | none =>
          obtain ⟨ys, hy, hl⟩ := k'
          obtain ⟨xs, hx⟩ := k1 ρ1 H1 m1 i P1 S1 (by rw [q]; simp)
          exact ⟨xs, ys, hx, hy, .inr hl⟩
        | some w' =>
          obtain ⟨⟨xs, x, hx, hi⟩, ky⟩ := k
          obtain ⟨⟨ys, y, hy, hj⟩, ky'⟩ := k'
          refine ⟨⟨xs, ys, x, y, hx, hy, hi, hj⟩, fun v H' ⟨T, x', y', ev, hT, eH, hx', hy'⟩ => ?_⟩
          subst ev; subst eH
          obtain ⟨_, _, r⟩ := ky x' H1 ⟨rfl, hx'⟩
          obtain ⟨_, _, r'⟩ := ky' y' H1 ⟨rfl, hy'⟩
          obtain ⟨P2, S2⟩ := S1.junk (u := .tup [x', y']) hT
          exact ⟨P2, S2, .tup (SqT.of upd_same) (.cons (r.post S1 P2) (.cons (r'.post S1 P2) .nil))⟩
theorem Wk.post {J : It} {src : Src} (h : Wk g J src ρ H) (S : Sim g ρ m H) (P : Post ρ H ρ' H') (S' : Sim g ρ' m' H') : Wk g J src ρ' H' := fun ρ1 H1 m1 i P1 S1 => h ρ1 H1 m1 i (P.then P1 S S') S1
theorem sq_list {f : DL} (hK : X.K = g.K) (h : SL g X wx e f) : SQ g X wx e (pList f) :=
  PE.conv h.pe fun τ H Q ⟨σ, m, ρ, S, L, o⟩ => ⟨σ, m, ρ, S, L, (o.bind S).imp fun ws m1 ρ1 H1 P1 S1 o1 p vs h0 hp hn r =>
    Out.here o1 S1 p ⟨vs, SqL.of hp⟩ (fun ρ2 H2 m2 i P2 S2 _ => ⟨vs, SqL.of (fresh_stay S1 hp hn P2).1⟩) (wk_fix hK S1 hp hn r)⟩
theorem sq_val {f : DE} (hK : X.K = g.K) (h : SE g X wx e f) : SQ g X wx e (pSeq f) :=
  PE.conv h.pe fun τ H Q ⟨σ, m, ρ, S, L, o⟩ => ⟨σ, m, ρ, S, L, (o.bind S).imp fun w m1 ρ1 H1 P1 S1 o1 v r => by
    cases r with
    | @ref n a ha =>
      simp only [planL] at o1
      split at o1
      · rename_i xs hx
        obtain ⟨u, h1, vs, e1, r1⟩ := S1.obj n a _ ha hx
        subst e1
        refine Out.here o1 S1 a ⟨vs, SqL.of h1⟩ (fun ρ2 H2 m2 i P2 S2 hne => ?_) (wk_live hK S1 ha)
        simp only [srcLive] at hne
        split at hne
        · rename_i ys hy
          obtain ⟨u, h2, vs2, e2, _⟩ := S2.obj n a _ (P2.get ha) hy
          subst e2
          exact ⟨vs2, SqL.of h2⟩
        · exact absurd rfl hne
      · exact o1.elim
    | _ => exact o1.elim⟩

theorem si_enum {f : DP} {elts : List Expr} {kk : Nat} {p pos tpos : Pos} (hg : Gl X "enumerate") (hm : X.mg "enumerate" = none) (h : SQ g X wx e f) (hs : starEach [e] X.env = [(false, eval e X.env)] := by rfl) :
    SI g X wx (.Tuple elts kk tpos) (.Call (.Name "enumerate" p) [e] [] pos) (pEnum f) :=
  PI.conv (pi_enum hg hm (pa_cons h pa_nil hs) hs) fun τ H R ⟨σ, m, ρ, S, L, o⟩ => ⟨σ, m, ρ, S, L, (o.bind S).imp fun pl m1 ρ1 H1 P1 S1 o1 a ⟨xs, hx⟩ _ wk =>
    ⟨a, xs, rfl, hx, Out.here o1 S1 _ (wk_enum S1 wk)⟩⟩
theorem si_zip {e2 : Expr} {f f' : DP} {elts : List Expr} {kk : Nat} {p pos tpos : Pos} (hg : Gl X "zip") (hm : X.mg "zip" = none) (h : SQ g X wx e f) (h' : SQ g X wx e2 f')
    (hs : starEach [e, e2] X.env = (false, eval e X.env) :: starEach [e2] X.env := by rfl) (hpl : (backTo pos (starEach [e2] X.env)).any (·.1) = false := by rfl) (hs2 : starEach [e2] X.env = (false, eval e2 X.env) :: starEach [] X.env := by rfl) :
    SI g X wx (.Tuple elts kk tpos) (.Call (.Name "zip" p) [e, e2] [] pos) (pZip f f') :=
  PI.conv (pi_zip hg hm (pa_cons h (pa_cons h' pa_nil hs2) hs) hs hpl) fun τ H R ⟨σ, m, ρ, S, L, o⟩ => ⟨σ, m, ρ, S, L, (o.bind S).imp fun pl m1 ρ1 H1 P1 S1 o1 a ⟨xs, hx⟩ ka wk =>
    ⟨σ, m1, ρ1, S1, L.post S P1, (o1.bind S1).imp fun pl' m2 ρ2 H2 P2 S2 o2 b ⟨ys, hy⟩ kb wk' => by
      unfold zipPlan at o2
      split at o2
      · rename_i o hq
        obtain ⟨xs2, hx2⟩ := ka ρ2 H2 m2 0 P2 S2 (by rw [hq]; simp)
        exact ⟨a, b, xs2, ys, rfl, hx2, hy, Out.here o2 S2 _ (wk_zip S2 (wk.post S1 P2 S2) wk' (fun ρ3 H3 m3 i P3 S3 hne => ka ρ3 H3 m3 i (P2.then P3 S1 S2) S3 hne) kb)⟩
      · exact o2.elim⟩⟩
end
end Sh

namespace Sh
open PySem PySem.Spec L2

/-! ### loops -/
def forLoop (src : Src) (h : W → Loc → Mem → R Loc) (b : DS) : Nat → Nat → DS
  | 0, _, _, _ => .bad
  | n + 1, i, σ, m => match src i m with
    | some (some w) => RS.of σ (h w σ m) fun σ1 m1 => match b σ1 m1 with
      | .nx σ2 m2 => forLoop src h b n (i + 1) σ2 m2
      | .ct σ2 m2 => forLoop src h b n (i + 1) σ2 m2
      | .bk σ2 m2 => .nx σ2 m2
      | r => r
    | some none => .nx σ m
    | none => .bad
def sFor (p : DP) (h : W → Loc → Mem → R Loc) (b : DS) : DS := fun σ m => RS.of σ (p σ m) fun pl m1 => forLoop pl.src h b (pl.n + 1) 0 σ m1
def whileLoop (t : DB) (b : DS) : Nat → DS
  | 0, _, _ => .bad
  | n + 1, σ, m => RS.of σ (t σ m) fun k m1 => if k = true then (match b σ m1 with
      | .nx σ2 m2 => whileLoop t b n σ2 m2
      | .ct σ2 m2 => whileLoop t b n σ2 m2
      | .bk σ2 m2 => .nx σ2 m2
      | r => r) else .nx σ m1
def sWhile (n : Nat) (t : DB) (b : DS) : DS := whileLoop t b n

section
variable {g : G} {X : Cx} {wx : WX} {τ : L2.St} {ρ ρ' : List Addr} {H H' : Hp} {m m' : Mem} {e tg : Expr}
theorem ss_for {iter : Expr} {body : List Stmt} {p : DP} {h : W → Loc → Mem → R Loc} {js : List Nat} {b : DS} {pos : Pos} (hp : PassesOwn (model X.prog X.w) X.A X.env X.xe) (hc : X.calm = true) (hi : SI g X wx tg iter p) (hg : SG g X wx tg h js) (hb : SSs g X wx body b)
    (hs : ∀ x, foldedSetIterable iter X.env x = pure x := by intro _; rfl) : SS g X wx (.For tg iter body [] pos) (sFor p h b) := by
  refine PS.conv (ps_for hp hc hi hg hb hs) fun D τ H ⟨σ, m, ρ, S, L, o⟩ => ?_
  refine ⟨σ, m, ρ, S, L, (o.of S L).imp fun pl m1 ρ1 H1 P1 S1 o1 J wk => ?_⟩
  refine ⟨fun i n τ' H' => ∃ (σ' : Loc) (m' : Mem) (ρ' : List Addr), Post ρ1 H1 ρ' H' ∧ Sim g ρ' m' H' ∧ LR g ρ' H' σ' τ' ∧ OutT g wx ρ' H' (forLoop pl.src h b n i σ' m') D, ⟨pl.n + 1, σ, m1, ρ1, Post.refl, S1, L.post S P1, o1⟩, ?_⟩
  rintro i n τ2 H2 ⟨σ2, m2, ρ2, P2, S2, L2, o2⟩
  cases n with
  | zero => exact o2.elim
  | succ n =>
    have k := wk ρ2 H2 m2 i P2 S2
    unfold forLoop at o2
    cases q : pl.src i m2 with
    | none => rw [q] at o2; exact o2.elim
    | some oo =>
      rw [q] at o2 k
      cases oo with
      | none => exact .inl ⟨k, o2 ρ2 H2 τ2 Post.refl S2 L2⟩
      | some w =>
        refine .inr ⟨k.1, fun τ' H' => ∃ (σ' : Loc) (m' : Mem) (ρ' : List Addr), Post ρ1 H1 ρ' H' ∧ Sim g ρ' m' H' ∧ LR g ρ' H' σ' τ' ∧ OutT g wx ρ' H' (forLoop pl.src h b n (i + 1) σ' m') D,
          fun τ' H' q' => ⟨n, Nat.lt_succ_self n, q'⟩, fun x H3 hy => ?_⟩
        obtain ⟨P3, S3, r3⟩ := k.2 x H3 hy
        have L3 := L2.post S2 P3
        refine ⟨w, σ2, m2, ρ2, S3, L3, r3, ((OutT.from o2 P3 S2 S3).of S3 L3).imp fun σ4 m4 ρ4 H4 P4 S4 o4 τ4 L4 A4 => ?_⟩
        have P14 := (P2.then P3 S1 S2).then P4 S1 S3
        refine ⟨σ4, m4, ρ4, S4, L4, ?_⟩
        cases hb' : b σ4 m4 with
        | nx σ5 m5 => rw [hb'] at o4; exact fun ρ5 H5 τ5 P5 S5 L5 => ⟨σ5, m5, ρ5, P14.then P5 S1 S4, S5, L5, OutT.from o4 P5 S4 S5⟩
        | ct σ5 m5 => rw [hb'] at o4; exact fun ρ5 H5 τ5 P5 S5 L5 => ⟨σ5, m5, ρ5, P14.then P5 S1 S4, S5, L5, OutT.from o4 P5 S4 S5⟩
        | bk σ5 m5 => rw [hb'] at o4; exact o4
        | rt w5 m5 => rw [hb'] at o4; exact o4
        | exc c fs σ5 m5 => rw [hb'] at o4; exact o4
        | bad => rw [hb'] at o4; exact o4
theorem ss_while {c : Expr} {body : List Stmt} {t : DB} {b : DS} {pos : Pos} (n : Nat) (hp : PassesOwn (model X.prog X.w) X.A X.env X.xe) (hc : ST g X wx c t) (hb : SSs g X wx body b) : SS g X wx (.While c body [] pos) (sWhile n t b) := by
  refine PS.conv (ps_while hp hc.pt hb) fun D τ H ⟨σ, m, ρ, S, L, o⟩ => ?_
  refine ⟨fun n τ' H' => ∃ (σ' : Loc) (m' : Mem) (ρ' : List Addr), Sim g ρ' m' H' ∧ LR g ρ' H' σ' τ' ∧ OutT g wx ρ' H' (whileLoop t b n σ' m') D, ⟨n, σ, m, ρ, S, L, o⟩, ?_⟩
  rintro n τ2 H2 ⟨σ2, m2, ρ2, S2, L2, o2⟩
  cases n with
  | zero => exact o2.elim
  | succ n =>
    unfold whileLoop at o2
    refine ⟨σ2, m2, ρ2, S2, L2, (o2.of S2 L2).imp fun k m3 ρ3 H3 P3 S3 o3 => ?_⟩
    cases k with
    | false => exact o3 ρ3 H3 τ2 Post.refl S3 (L2.post S2 P3)
    | true =>
      refine ⟨fun τ' H' => ∃ (σ' : Loc) (m' : Mem) (ρ' : List Addr), Sim g ρ' m' H' ∧ LR g ρ' H' σ' τ' ∧ OutT g wx ρ' H' (whileLoop t b n σ' m') D, fun τ' H' q' => ⟨n, Nat.lt_succ_self n, q'⟩, ?_⟩
      refine ⟨σ2, m3, ρ3, S3, L2.post S2 P3, ?_⟩
      have o3 : OutT g wx ρ3 H3 (match b σ2 m3 with
        | .nx σ2 m2 => whileLoop t b n σ2 m2
        | .ct σ2 m2 => whileLoop t b n σ2 m2
        | .bk σ2 m2 => .nx σ2 m2
        | r => r) D := o3
      cases hb' : b σ2 m3 with
      | nx σ5 m5 => rw [hb'] at o3; exact fun ρ5 H5 τ5 P5 S5 L5 => ⟨σ5, m5, ρ5, S5, L5, OutT.from o3 P5 S3 S5⟩
      | ct σ5 m5 => rw [hb'] at o3; exact fun ρ5 H5 τ5 P5 S5 L5 => ⟨σ5, m5, ρ5, S5, L5, OutT.from o3 P5 S3 S5⟩
      | bk σ5 m5 => rw [hb'] at o3; exact o3
      | rt w5 m5 => rw [hb'] at o3; exact o3
      | exc c fs σ5 m5 => rw [hb'] at o3; exact o3
      | bad => rw [hb'] at o3; exact o3

/-! ### list comprehensions -/
def R.nox {β : Type} (r : R β) : R β := match r with
  | .exc _ _ _ => .bad
  | r => r
@[simp] theorem R.nox_ok {β : Type} (b : β) (m : Mem) : (R.ok b m).nox = .ok b m := rfl
@[simp] theorem R.nox_bad {β : Type} : (R.bad : R β).nox = .bad := rfl
abbrev wx0 : WX := fun _ _ _ _ => False
theorem Out.nox {β : Type} {r : R β} {Q : β → Mem → List Addr → Hp → Prop} {τ' : L2.St} (h : Out g wx τ ρ H r.nox Q) : Out g wx0 τ' ρ H r Q := by
  cases r with
  | ok b m1 => exact h
  | exc c fs m1 => exact h.elim
  | bad => exact h
def wipeW (σ : Loc) : List Nat → Loc
  | [] => σ
  | v :: vs => (wipeW σ vs).set v none
theorem LR.wipe {σ : Loc} (L : LR g ρ H σ τ) : ∀ vs : List Nat, LR g ρ H (wipeW σ vs) (L2.wipe τ vs)
  | [] => L
  | v :: vs => (LR.wipe L vs).forget v
def compLoop (src : Src) (h : W → Loc → Mem → R Loc) (t : DB) (e : DE) (σ : Loc) : Nat → Nat → List W → Mem → R (List W)
  | 0, _, _, _ => .bad
  | n + 1, i, acc, m => match src i m with
    | some (some w) => (h w σ m).nox.bind fun σ1 m1 => (t σ1 m1).nox.bind fun k m2 =>
      if k = true then (e σ1 m2).nox.bind fun y m3 => if acc.length < 1000000 then compLoop src h t e σ n (i + 1) (acc ++ [y]) m3 else .bad
      else compLoop src h t e σ n (i + 1) acc m2
    | some none => .ok acc m
    | none => .bad
def lComp (p : DP) (h : W → Loc → Mem → R Loc) (t : DB) (e : DE) (vs : List Nat) : DL := fun σ m => (p σ m).bind fun pl m1 => compLoop pl.src h t e (wipeW σ vs) (pl.n + 1) 0 [] m1
def tYesB : DB := fun _ m => .ok true m
def STs (g : G) (X : Cx) (wx : WX) (ifs : List Expr) (t : DB) : Prop := PTs X ifs (ttOf g wx t)
theorem sts_nil : STs g X wx [] tYesB := ⟨fun pins s τ H Q I ⟨σ, m, ρ, S, L, o⟩ => pts_nil.run pins s τ H Q I (Out.here o S)⟩
theorem sts_one {c : Expr} {t : DB} (h : ST g X wx c t) : STs g X wx [c] t := pts_one h.pt

theorem SqT.swap {K : PySem.W.Frag} {D a : Addr} {vs us xs : List V} (hD : H D = some (.lst vs)) (h : SqT K H a xs) : SqT K (upd H D (.lst us)) a xs := by
  rcases h with (h | ⟨o, h⟩) | h
  · exact .inl (.inl (by rw [upd_ne (ne_of h hD (by intro z; cases z))]; exact h))
  · exact .inl (.inr ⟨o, by rw [upd_ne (ne_of h hD (by intro z; cases z))]; exact h⟩)
  · exact .inr h
theorem SqF.swap {K : PySem.W.Frag} {D a : Addr} {vs us xs : List V} {H : Hp} (hD : H D = some (.lst vs)) (h : SqF K H a xs) : SqF K (upd H D (.lst us)) a xs := by
  rcases h with ⟨o, h⟩ | h
  · refine .inl ⟨o, ?_⟩
    rw [upd_ne (fun e => by subst e; rw [hD] at h; cases h)]; exact h
  · exact .inr h
mutual
theorem VR.swap {D : Addr} {vs us : List V} (hD : H D = some (.lst vs)) : ∀ {w : W} {v : V}, VR g ρ H w v → VR g ρ (upd H D (.lst us)) w v
  | _, _, .non => .non
  | _, _, .bl b => .bl b
  | _, _, .int b => .int b
  | _, _, .str b => .str b
  | _, _, .tup h r => .tup (SqT.swap hD h) (VRs.swap hD r)
  | _, _, .frz h r => .frz (SqF.swap hD h) (VRs.swap hD r)
  | _, _, .ref h => .ref h
  | _, _, .cls c => .cls c
  | _, _, .ty c => .ty c
theorem VRs.swap {D : Addr} {vs us : List V} (hD : H D = some (.lst vs)) : ∀ {ws : List W} {xs : List V}, VRs g ρ H ws xs → VRs g ρ (upd H D (.lst us)) ws xs
  | _, _, .nil => .nil
  | _, _, .cons h r => .cons (VR.swap hD h) (VRs.swap hD r)
end
theorem OR.swap {D : Addr} {vs us : List V} (hD : H D = some (.lst vs)) {o : O} {u : HO} (h : OR g ρ H o u) : OR g ρ (upd H D (.lst us)) o u := by
  cases o with
  | lst ws => obtain ⟨vs, e, r⟩ := h; exact ⟨vs, e, r.swap hD⟩
  | dK ws => obtain ⟨vs, e, r⟩ := h; exact ⟨vs, e, Paired.imp r fun _ _ q => ⟨q.1, q.2.swap hD⟩⟩
  | dT ws => obtain ⟨vs, e, r⟩ := h; exact ⟨vs, e, Paired.imp r fun _ _ q => ⟨q.1, q.2.swap hD⟩⟩
  | ins c fs => obtain ⟨dx, gs, e, r⟩ := h; exact ⟨dx, gs, e, Paired.imp r fun _ _ q => ⟨q.1, q.2.swap hD⟩⟩
  | exc c fs => exact h
theorem Sim.swap (S : Sim g ρ m H) {D : Addr} {vs us : List V} (hD : H D = some (.lst vs)) (hn : D ∉ ρ) : Sim g ρ m (upd H D (.lst us)) := by
  refine ⟨S.len, S.nd, fun i a o h1 h2 => ?_⟩
  obtain ⟨u, h3, h4⟩ := S.obj i a o h1 h2
  refine ⟨u, ?_, h4.swap hD⟩
  rw [upd_ne]
  · exact h3
  · rintro rfl
    exact hn (List.mem_of_getElem? h1)
theorem Post.out (P : Post ρ H ρ' H') {D : Addr} {u : HO} (hD : H D = none) : Post ρ H ρ' (upd H' D u) := ⟨P.ext, fun a o h n => by rw [upd_ne (ne_of_none h hD)]; exact P.keep a o h n⟩
theorem VRs.snoc {w : W} {v : V} {ws : List W} {vs : List V} (r : VRs g ρ H ws vs) (q : VR g ρ H w v) : VRs g ρ H (ws ++ [w]) (vs ++ [v]) := r.append (.cons q .nil)

theorem comp_turns {J : It} {src : Src} {h : W → Loc → Mem → R Loc} {js : List Nat} {t : DB} {fe : DE} {σ : Loc} {Q : VK} {ρ1 : List Addr} {H0 H1 : Hp} {m1 : Mem} {ρ0 : List Addr} {m0 : Mem}
    (S0 : Sim g ρ0 m0 H0) (P0 : Post ρ0 H0 ρ1 H1) (S1 : Sim g ρ1 m1 H1) (L1 : LR g ρ1 H1 σ τ) (wk : Wk g J src ρ1 H1) (n0 : Nat)
    (o : Out g wx τ ρ1 H1 (compLoop src h t fe (wipeW σ js) n0 0 [] m1) (fun ws m' ρ' H' => ∀ p vs, H0 p = none → H' p = some (.lst vs) → p ∉ ρ' → VRs g ρ' H' ws vs → Q (.ref p) H')) :
    ∀ D, H1 D = none → ∃ Wv : Nat → Nat → Hp → Prop, (∃ n, Wv 0 n (upd H1 D (.lst []))) ∧ ∀ i n H, Wv i n H →
      (J.stop i H ∧ Q (.ref D) H) ∨ (J.go i H ∧ ∃ Nx : Hp → Prop, (∀ H', Nx H' → ∃ m', m' < n ∧ Wv (i + 1) m' H') ∧ ∀ x H', J.yld i H x H' → tgOf g wx0 h js x (L2.wipe τ js) H' fun σ2 H2 => L2.wipe σ2 js = L2.wipe τ js ∧ ttOf g wx0 t σ2 H2 fun b H3 =>
        if b = true then teOf g wx0 fe σ2 H3 fun y H4 => ∃ acc, H4 D = some (.lst acc) ∧ acc.length < sizeLine ∧ Nx (upd H4 D (.lst (acc ++ [y]))) else Nx H3) := by
  intro D hD
  refine ⟨fun i n H => ∃ (acc : List W) (m : Mem) (ρ : List Addr) (vs : List V), Post ρ1 H1 ρ H ∧ Sim g ρ m H ∧ H D = some (.lst vs) ∧ D ∉ ρ ∧ VRs g ρ H acc vs ∧
    Out g wx τ ρ1 H1 (compLoop src h t fe (wipeW σ js) n i acc m) (fun ws m' ρ' H' => ∀ p vs, H0 p = none → H' p = some (.lst vs) → p ∉ ρ' → VRs g ρ' H' ws vs → Q (.ref p) H'), ⟨n0, [], m1, ρ1, [], ?_⟩, ?_⟩
  · exact ⟨Post.refl.out hD, (S1.junk hD).2, upd_same, fun z => S1.isSm z hD, .nil, o⟩
  · rintro i n H ⟨acc, m, ρ, vs, P, S, hDv, hDn, rv, o⟩
    cases n with
    | zero => exact o.elim
    | succ n =>
      have k := wk ρ H m i P S
      unfold compLoop at o
      cases q : src i m with
      | none => rw [q] at o; exact o.elim
      | some oo =>
        rw [q] at o k
        cases oo with
        | none => exact .inl ⟨k, o ρ H P S D vs (P0.back S0 S1 hD) hDv hDn rv⟩
        | some w =>
          refine .inr ⟨k.1, fun H => ∃ (acc : List W) (m : Mem) (ρ : List Addr) (vs : List V), Post ρ1 H1 ρ H ∧ Sim g ρ m H ∧ H D = some (.lst vs) ∧ D ∉ ρ ∧ VRs g ρ H acc vs ∧
            Out g wx τ ρ1 H1 (compLoop src h t fe (wipeW σ js) n (i + 1) acc m) (fun ws m' ρ' H' => ∀ p vs, H0 p = none → H' p = some (.lst vs) → p ∉ ρ' → VRs g ρ' H' ws vs → Q (.ref p) H'),
            fun H' q' => ⟨n, Nat.lt_succ_self n, q'⟩, fun x H2 hy => ?_⟩
          obtain ⟨P2, S2, r2⟩ := k.2 x H2 hy
          have P12 := P.then P2 S1 S
          have Lb : LR g ρ H2 (wipeW σ js) (L2.wipe τ js) := (L1.wipe js).post S1 P12
          have f2 := fresh_stay S hDv hDn P2
          refine ⟨w, wipeW σ js, m, ρ, S2, Lb, r2, ?_⟩
          have o : Out g wx τ ρ1 H1 ((h w (wipeW σ js) m).nox.bind fun σ1 m1 => (t σ1 m1).nox.bind fun k m2 =>
            if k = true then (fe σ1 m2).nox.bind fun y m3 => if acc.length < 1000000 then compLoop src h t fe (wipeW σ js) n (i + 1) (acc ++ [y]) m3 else .bad
            else compLoop src h t fe (wipeW σ js) n (i + 1) acc m2) _ := o
          cases q1 : h w (wipeW σ js) m with
          | exc c fs m3 => rw [q1] at o; exact o.elim
          | bad => rw [q1] at o; exact o.elim
          | ok σ3 m3 =>
            rw [q1] at o
            simp only [R.nox_ok, R.bind_ok] at o
            intro ρ3 H3 P3 S3 τ3 L3 A3
            have P13 := P12.then P3 S1 S2
            have f3 := fresh_stay S2 f2.1 f2.2 P3
            refine ⟨A3.wipe.trans ?_, σ3, m3, ρ3, S3, L3, ?_⟩
            · exact (Agree.wipe (js := js) ⟨by rw [wipe_length], fun j hj => by
                have key : ∀ (js : List Nat), j ∉ js → (L2.wipe τ js)[j]? = τ[j]? := by
                  intro js
                  induction js with
                  | nil => intro _; rfl
                  | cons v vs ih =>
                    intro hv
                    simp only [List.mem_cons, not_or] at hv
                    unfold L2.wipe
                    rw [List.getElem?_set_ne (Ne.symm hv.1)]
                    exact ih hv.2
                exact key js hj⟩)
            · cases q2 : t σ3 m3 with
              | exc c fs m4 => rw [q2] at o; exact o.elim
              | bad => rw [q2] at o; exact o.elim
              | ok b m4 =>
                rw [q2] at o
                simp only [R.nox_ok, R.bind_ok] at o
                intro ρ4 H4 P4 S4
                have P14 := P13.then P4 S1 S3
                have f4 := fresh_stay S3 f3.1 f3.2 P4
                have rv4 := ((rv.post S P2).post S2 P3).post S3 P4
                cases b with
                | false => exact ⟨acc, m4, ρ4, vs, P14, S4, f4.1, f4.2, rv4, o⟩
                | true =>
                  refine ⟨σ3, m4, ρ4, S4, L3.post S3 P4, ?_⟩
                  simp only [if_true] at o
                  cases q3 : fe σ3 m4 with
                  | exc c fs m5 => rw [q3] at o; exact o.elim
                  | bad => rw [q3] at o; exact o.elim
                  | ok y m5 =>
                    rw [q3] at o
                    simp only [R.nox_ok, R.bind_ok] at o
                    intro ρ5 H5 P5 S5 v r5
                    have P15 := P14.then P5 S1 S4
                    have f5 := fresh_stay S4 f4.1 f4.2 P5
                    by_cases hl : acc.length < 1000000
                    · rw [if_pos hl] at o
                      have rv5 := rv4.post S4 P5
                      refine ⟨vs, f5.1, by rw [← rv.length, sizeLine_eq]; omega, acc ++ [y], m5, ρ5, vs ++ [v], P15.out hD, S5.swap f5.1 f5.2, upd_same, f5.2, (rv5.snoc r5).swap f5.1, o⟩
                    · rw [if_neg hl] at o; exact o.elim
theorem sl_comp {elt iter : Expr} {ifs : List Expr} {scope : Scope} {own : List (Str × Nat)} {pos : Pos} {p : DP} {h : W → Loc → Mem → R Loc} {t : DB} {fe : DE} (hc : X.calm = true) (hN : X.N.Nodup) (hi : SI g X wx tg iter p) (ok : BlkOk X.N X.env.scope scope own)
    (hg : ∀ (s : Shared) (H : Hp) (C : Addr) (cl : List (Str × Addr)) (fp : List Addr), SG g (X.blk s H scope (compEnvC scope cl C X.env) fp) wx0 tg h (own.map (·.2)))
    (ht : ∀ (s : Shared) (H : Hp) (C : Addr) (cl : List (Str × Addr)) (fp : List Addr), STs g (X.blk s H scope (compEnvC scope cl C X.env) fp) wx0 ifs t)
    (he : ∀ (s : Shared) (H : Hp) (C : Addr) (cl : List (Str × Addr)) (fp : List Addr), SE g (X.blk s H scope (compEnvC scope cl C X.env) fp) wx0 elt fe) (hs : ∀ x, foldedSetIterable iter X.env x = pure x := by intro _; rfl) :
    SL g X wx (.ListComp elt [⟨tg, iter, ifs, 0⟩] scope pos) (lComp p h t fe (own.map (·.2))) := by
  refine ⟨fun pins s σ m ρ H τ Q I S L o => ?_⟩
  refine thn ((pe_lc hc hN hi ok hg ht (fun a b c d e => (he a b c d e).pe) hs).run pins s τ H (fun v H' => ∃ a : Addr, v = .ref a ∧ ∀ s', Inv X pins τ H' s' → Q (.ref a) s') I ?_) fun u s1 ⟨v, H1, I1, r1, a, e1, q⟩ => by
    subst e1
    cases r1
    exact q s1 I1
  refine ⟨σ, m, ρ, S, L, (o.bind S).imp fun pl m1 ρ1 H1 P1 S1 o1 J wk => ?_⟩
  exact comp_turns (Q := fun v H' => ∃ a : Addr, v = .ref a ∧ ∀ s', Inv X pins τ H' s' → Q (.ref a) s') S P1 S1 (L.post S P1) wk _ (o1.imp fun ws m' ρ' H' P' S' k p vs h0 hp hn r => ⟨p, rfl, fun s' I' => k p vs s' I' h0 hp hn r⟩)
/-- name = [.. for ..] -/
theorem ss_setLc {i : Nat} {y : Str} {py : Pos} {elt iter : Expr} {ifs : List Expr} {scope : Scope} {own : List (Str × Nat)} {pos spos : Pos} {p : DP} {h : W → Loc → Mem → R Loc} {t : DB} {fe : DE} (hc : X.calm = true) (hN : X.N.Nodup) (hy : X.N[i]? = some y) (hyl : X.env.scope.names.lookup y = some .local)
    (hsw : swapsWith (.ListComp elt [⟨tg, iter, ifs, 0⟩] scope pos) (some (.Name y py)) spos.line X.env = pure true) (hi : SI g X wx tg iter p) (ok : BlkOk X.N X.env.scope scope own)
    (hg : ∀ (s : Shared) (H : Hp) (C : Addr) (cl : List (Str × Addr)) (fp : List Addr), SG g (X.blk s H scope (compEnvC scope cl C X.env) fp) wx0 tg h (own.map (·.2)))
    (ht : ∀ (s : Shared) (H : Hp) (C : Addr) (cl : List (Str × Addr)) (fp : List Addr), STs g (X.blk s H scope (compEnvC scope cl C X.env) fp) wx0 ifs t)
    (he : ∀ (s : Shared) (H : Hp) (C : Addr) (cl : List (Str × Addr)) (fp : List Addr), SE g (X.blk s H scope (compEnvC scope cl C X.env) fp) wx0 elt fe) (hs : ∀ x, foldedSetIterable iter X.env x = pure x := by intro _; rfl) :
    SS g X wx (.Assign [.Name y py] (.ListComp elt [⟨tg, iter, ifs, 0⟩] scope pos) spos) (sSet i (eNew (lComp p h t fe (own.map (·.2))))) :=
  PS.conv (ps_setLc hc hN hy hyl hsw hi ok hg ht (fun a b c d e => (he a b c d e).pe) hs) fun D τ H ⟨σ, m, ρ, S, L, o⟩ => by
    have o1 := o.of S L
    have o2 : Out g wx τ ρ H (lComp p h t fe (own.map (·.2)) σ m) (fun ws m' ρ' H' => ∀ p vs, H p = none → H' p = some (.lst vs) → p ∉ ρ' → VRs g ρ' H' ws vs → D.nx (τ.set i (some (.ref p))) H') := by
      cases hr : lComp p h t fe (own.map (·.2)) σ m with
      | ok ws m1 =>
        unfold eNew at o1
        rw [hr] at o1
        intro ρ' H' P' S' p vs h0 hp hn r
        obtain ⟨P2, S2⟩ := S'.adopt (o := .lst ws) hp hn ⟨vs, rfl, r⟩ P' h0
        have hl : (ρ' ++ [p])[m1.length]? = some p := by rw [← S'.len]; simp
        exact o1 (ρ' ++ [p]) H' P2 S2 (ρ' ++ [p]) H' _ Post.refl S2 ((L.post S P2).set i (.ref hl))
      | exc c fs m1 => unfold eNew at o1; rw [hr] at o1; exact o1
      | bad => unfold eNew at o1; rw [hr] at o1; exact o1
    refine ⟨σ, m, ρ, S, L, (o2.bind S).imp fun pl m1 ρ1 H1 P1 S1 o3 J wk => ?_⟩
    exact comp_turns (Q := fun v H' => L2.gName i v τ H' D.nx) S P1 S1 (L.post S P1) wk _ (o3.imp fun ws m' ρ' H' P' S' k p vs h0 hp hn r => k p vs h0 hp hn r)
end
end Sh

namespace Sh
open PySem PySem.Spec L2
open PyProof.Rows (envOfC)

/-! ### room, with no repr under way -/
structure Rm (k : Nat) (A : Around) : Prop where
  r : Room k A
  g : A.guards = some []
theorem Rm.mono {j k : Nat} {A : Around} (r : Rm k A) (h : j ≤ k) : Rm j A := ⟨r.r.mono h, r.g⟩
theorem Rm.deeper {k : Nat} {A : Around} (r : Rm (k + 1) A) (env : Env) : Rm k (A.deeper env) := ⟨r.r.deeper env, r.g⟩
theorem Rm.in1 {k : Nat} {A : Around} (r : Rm (k + 1) A) : Rm k A.in1 := ⟨r.r.in1, r.g⟩
theorem Rm.make {k : Nat} {A : Around} (r : Rm (k + 1) A) (C : Addr) (us : List Value) (kw : List (Str × Value)) : Rm k (A.under (.builtin "type.__call__" ⟨.ref C :: us, kw⟩)) := by
  refine ⟨r.r.make C us kw, ?_⟩
  have : (Code.builtin "type.__call__" ⟨.ref C :: us, kw⟩).guards = [] := by
    simp [Code.guards, Code.isGuard, guardIds]
  unfold Around.under
  simp only [this, pushGuards]
  exact r.g
theorem Rm.caller {k : Nat} (h : Room k callerA) : Rm k callerA := ⟨h, rfl⟩

structure FnG (P : Program) (w : World) (K : PySem.W.Frag) (mg : Str → Option Value) (base : Heap) (k : Nat) (f : Addr) (fd : FuncData) (ps : List Str) (sp : Sp) : Prop where
  len : ∀ vs H Q E, sp vs H Q E → vs.length = ps.length
  run : ∀ (A : Around) (outer : List Env) (s : Shared) (H : Hp) (args : Args) (us : List Value) (vs : List V) (Q : VK) (E : XK), Rm k A → Env0 P w K mg base A outer s H → BindsTo s fd args (ps.zip us) → Vals vs us → sp vs H Q E →
    codeAny (model P w) A (.call (.ref f) args) (CR (CX P w) outer P w H s Q E) s
theorem FnG.mono {P : Program} {w : World} {K : PySem.W.Frag} {mg : Str → Option Value} {base : Heap} {j k : Nat} {f : Addr} {fd : FuncData} {ps : List Str} {sp : Sp} (F : FnG P w K mg base j f fd ps sp) (h : j ≤ k) :
    FnG P w K mg base k f fd ps sp := ⟨F.len, fun A outer s H args us vs Q E hr => F.run A outer s H args us vs Q E (hr.mono h)⟩

/-- a def of the text, by its body -/
theorem fnG_of {P : Program} {w : World} {K : PySem.W.Frag} {mg : Str → Option Value} {base : Heap} {k : Nat} {f : Addr} {name qual : Str} {params : Arguments} {body : List Stmt} {scope : Scope} {dV kV doc pm cdv ct oc : Value} {an od : Option Addr}
    {osl : Array (Option Value)} {N ps : List Str} {sp : Sp} (lk : K.lookup f = some ⟨oc, od, .func (PySem.W.fnOf name qual params body scope dV kV doc pm an cdv ct), osl⟩) (hcd : PySem.W.codeIn K cdv qual = true) (S : FnScope N ps scope)
    (len : ∀ vs H Q E, sp vs H Q E → vs.length = ps.length)
    (hbody : ∀ (A : Around) (outer : List Env) (s : Shared) (H : Hp) (vs : List V) (Q : VK) (E : XK), Rm k (A.deeper (envOfC qual scope s.heap.objs.size f cdv)) → sp vs H Q E →
      ∃ t, PSs (cxOf (CX P w) P w K mg base N qual scope f cdv A outer s H E) body t ∧ t { nx := fun _ H' => Q .non H', rt := Q } (L2.start N vs) H) :
    FnG P w K mg base (k + 1) f (PySem.W.fnOf name qual params body scope dV kV doc pm an cdv ct) ps sp := by
  refine ⟨len, fun A outer s H args us vs Q E hr e0 hb r hsp => ?_⟩
  have hl := len _ _ _ _ hsp
  have KX : K.In s.heap := e0.mod.kin.keeps fun b o e => (e0.bs b o e).1
  have lim : s.heap.NoLimit := e0.mod.nolimit.keeps fun b o e => (e0.bs b o e).1
  have hkind : ∀ y ∈ ps.zip us, scope.names.lookup y.1 = some .local ∨ (scope.names.lookup y.1 = some .cell ∧ ((cellsFrom (s.heap.objs.size + 1) scope.names []).lookup y.1).isSome = true) := fun ⟨n, v⟩ hy => by
    rcases S.par n (List.of_mem_zip hy).1 with q | q
    · exact .inl q
    · exact .inr ⟨q, PySem.W.cellsFrom_some _ _ _ (.inl q)⟩
  refine codeAny_call_function hr.r.depth (KX _ _ lk) rfl S.co S.gen rfl (PySem.W.codeRec_of KX hcd) (hb _ _ _ _ ?_)
  refine wpAny_newFunctionEnv_cells S.kind hkind fun env he s1 x => ?_
  subst he
  refine ⟨lim.keeps x.toInCall.keep, codeAny_func ?_⟩
  obtain ⟨t, ht, hq⟩ := hbody A outer s H vs Q E (hr.deeper _) hsp
  have I : Inv (cxOf (CX P w) P w K mg base N qual scope f cdv A outer s H E) [] (L2.start N vs) H s1 := inv_start S hr.r.hd e0 hl r x
  refine wpAny_mono (ht.run [] s1 (L2.start N vs) H _ I hq) (fun fl s' hs => ?_) fun e s' hs => hs
  have fin : ∀ {σ' : L2.St} {H' : Hp} {v : V} {u : Value}, Inv (cxOf (CX P w) P w K mg base N qual scope f cdv A outer s H E) [] σ' H' s' → RelV v u → Q v H' → CE outer P w H s Q u s' :=
    fun {σ' H' v u} J rv q => ⟨v, H', J.os, J.bare, J.base, J.hok, rv, q⟩
  cases fl with
  | ret u =>
    obtain ⟨v, σ', H', J, rv, q⟩ := hs
    exact fin J rv q
  | next =>
    obtain ⟨σ', H', J, q⟩ := hs
    exact fin (v := V.non) (u := Value.none) J rfl q
  | brk =>
    obtain ⟨_, _, _, q⟩ := hs
    exact False.elim q
  | cont =>
    obtain ⟨_, _, _, q⟩ := hs
    exact False.elim q

/-! ### an __init__ whose first statement is super().__init__(..) -/
/-- the context of its body: one cell, __class__'s, older than the call -/
def cxS (P : Program) (w : World) (K : PySem.W.Frag) (mg : Str → Option Value) (base : Heap) (N : List Str) (qual : Str) (scope : Scope) (f : Addr) (cda cc : Addr) (A : Around) (outer : List Env) (s : Shared) (H : Hp) (E : XK) : Cx where
  prog := P
  w := w
  K := K
  mg := mg
  base := base
  A := A.deeper (PySem.W.ksEnv qual scope s.heap.objs.size f (.ref cda) cc)
  N := N
  s_0 := s
  H_0 := H
  env := PySem.W.ksEnv qual scope s.heap.objs.size f (.ref cda) cc
  outer := outer
  stack := PySem.W.ksEnv qual scope s.heap.objs.size f (.ref cda) cc :: outer
  ex := []
  calm := true
  fn := fun _ => false
  pn := []
  xe := fun e s' => wpAny (model P w) (A.deeper (PySem.W.ksEnv qual scope s.heap.objs.size f (.ref cda) cc)) (leaving (PySem.W.ksEnv qual scope s.heap.objs.size f (.ref cda) cc) e) (fun _ s'' => CX P w outer H s E e s'') (fun e' s'' => CX P w outer H s E e' s'') s'
structure ScopeS (N P : List Str) (sc : Scope) : Prop where
  kind : sc.kind = .function
  co : sc.isCoroutine = false
  gen : sc.isGenerator = false
  nd : N.Nodup
  pre : N.take P.length = P
  par : ∀ x ∈ P, sc.names.lookup x = some .local
  nocell : ∀ y ∈ sc.names, y.2 ≠ .cell
  free1 : ∀ y ∈ sc.names, y.2 = .free → y.1 = ("__class__" : Str)
theorem lookup_rev {P : List Str} {us : List Value} {x : Str} {v : Value} (nd : P.Nodup) (hl : P.length = us.length) {i : Nat} (h1 : P[i]? = some x) (h2 : us[i]? = some v) : (P.zip us).reverse.lookup x = some v := by
  have key : ∀ (l : List (Str × Value)), (l.map (·.1)).Nodup → (x, v) ∈ l → l.lookup x = some v := by
    intro l
    induction l with
    | nil => intro _ h; cases h
    | cons p l ih =>
      obtain ⟨a, b⟩ := p
      intro hn hm
      rw [List.map_cons, List.nodup_cons] at hn
      rcases List.mem_cons.mp hm with e | hm'
      · cases e; simp [List.lookup]
      · have ne : x ≠ a := by
          intro e
          rw [← e] at hn
          exact hn.1 (List.mem_map.mpr ⟨(x, v), hm', rfl⟩)
        have : (x == a) = false := beq_eq_false_iff_ne.mpr ne
        simp only [List.lookup, this]
        exact ih hn.2 hm'
  refine key _ ?_ ?_
  · have e : (P.zip us).map (·.1) = P := by rw [List.map_fst_zip]; omega
    rw [List.map_reverse, e]
    exact (List.reverse_perm P).nodup_iff.mpr nd
  · rw [List.mem_reverse]
    refine List.mem_of_getElem? (i := i) ?_
    exact List.getElem?_zip_eq_some.mpr ⟨h1, h2⟩
theorem inv_startS {P : Program} {w : World} {K : PySem.W.Frag} {mg : Str → Option Value} {base : Heap} {N ps : List Str} {qual : Str} {scope : Scope} {f cda cc : Addr} {A : Around} {outer : List Env} {s : Shared} {h0 : Heap} {tk : Nat} {H : Hp} {E : XK} {us : List Value} {vs : List V} {occ : Obj} {D : Value}
    (S : ScopeS N ps scope) (hd : A.handled = none) (e0 : Env0 P w K mg base A outer s H) (hl : vs.length = ps.length) (r : Vals vs us) (hcc : K.lookup cc = some occ) (hoc : occ.data = .cell (some D))
    (hns : h0.Ns s.heap.objs.size (fun x => (ps.zip us).reverse.lookup x)) (hk : ∀ b o, s.heap.get? b = some o → h0.get? b = some o) :
    Inv (cxS P w K mg base N qual scope f cda cc A outer s H E) [] (L2.start N vs) H { s with heap := h0, toks := tk } := by
  have hpl : ps.length ≤ N.length := by have := congrArg List.length S.pre; rw [List.length_take] at this; omega
  have noA : ∀ b : Addr, b ∉ (cxS P w K mg base N qual scope f cda cc A outer s H E).ex := fun b z => absurd (show b ∈ ([] : List Addr) from z) (by simp)
  have KXb := e0.mod.kin cc occ hcc
  have hcs := e0.bs cc occ KXb
  have cellOf : ∀ {x : Str} {c : Addr}, List.lookup x [(("__class__" : Str), cc)] = some c → x = "__class__" ∧ c = cc := fun {x c} h => by
    simp only [List.lookup] at h
    split at h
    · rename_i hb; cases h; exact ⟨beq_iff_eq.mp hb, rfl⟩
    · cases h
  refine ⟨⟨e0.mod, S.kind, rfl, rfl, Nat.le_refl _, fun y z c h1 h2 => ?_, fun y hy => ?_, fun y c hf _ => ?_, fun _ => hd, Around.frames_deeper e0.frames, .inr ⟨rfl, rfl⟩, fun b z => absurd z (noA b), e0.bs, e0.bsz, fun b _ _ => noA b, fun b z => absurd z (noA b), e0.funs, e0.frf⟩,
    rfl, e0.bare, Un.kept hk, ⟨_, hns, fun i y v h1 h2 h3 => ?_⟩, fun y c h => ?_, e0.hok.fresh (Nat.le_refl _), fun y c h => ?_, fun p hp => absurd (show p ∈ ([] : List (Addr × Obj)) from hp) (by simp), e0.hok.kept hk, ?_⟩
  · exact (cellOf h1).1.trans (cellOf h2).1.symm
  · have hy : scope.names.lookup y = some .cell ∨ scope.names.lookup y = some .free := hy
    rcases hy with hy | hy
    · exact absurd rfl (S.nocell _ (PySem.mem_of_lookup hy))
    · have := S.free1 _ (PySem.mem_of_lookup hy) rfl
      have this : y = "__class__" := this
      subst this
      exact ⟨cc, by show List.lookup _ [(("__class__" : Str), cc)] = _; simp [List.lookup]⟩
  · exact absurd (show false = true from hf) Bool.false_ne_true
  · have hi : i < vs.length := by
      unfold L2.start at h2
      by_cases hi : i < vs.length
      · exact hi
      · rw [List.getElem?_append_right (by simpa using hi)] at h2
        rw [List.getElem?_replicate] at h2
        split at h2 <;> cases h2
    have ha : vs[i]? = some v := by
      unfold L2.start at h2
      rw [List.getElem?_append_left (by simpa using hi), List.getElem?_map] at h2
      cases e : vs[i]? with
      | none => rw [e] at h2; cases h2
      | some a => rw [e] at h2; cases h2; rfl
    obtain ⟨u, hu, rv⟩ := r.get ha
    have hp : ps[i]? = some y := by
      rw [← S.pre, List.getElem?_take_of_lt (by omega)]; exact h1
    have ndP : ps.Nodup := by rw [← S.pre]; exact S.nd.sublist (List.take_sublist _ _)
    exact ⟨u, rv, .inl ⟨S.par y (List.mem_of_getElem? hp), lookup_rev ndP (by rw [← hl]; exact r.length) hp hu⟩⟩
  · obtain ⟨_, rfl⟩ := cellOf (show List.lookup y [(("__class__" : Str), cc)] = some c from h)
    exact ⟨some D, ⟨occ, hk _ _ hcs.1, hoc⟩⟩
  · obtain ⟨_, rfl⟩ := cellOf (show List.lookup y [(("__class__" : Str), cc)] = some c from h)
    exact hcs.2
  · unfold L2.start
    show _ = N.length
    rw [List.length_append, List.length_map, List.length_replicate]
    omega
end Sh

namespace Sh
open PySem PySem.Spec L2
open PyProof.Rows (envOfC)

/-! ### defs and calls -/
abbrev DF := List W → Mem → R W
def defn (n N : Nat) (b : DS) : DF := fun ws m => if ws.length = n then (match b (ws.map some ++ List.replicate (N - n) none) m with
  | .rt w m' => .ok w m'
  | .nx _ m' => .ok .non m'
  | .exc c fs _ m' => .exc c fs m'
  | _ => .bad) else .bad
/-- the wish of a call -/
def OutC (g : G) (ρ : List Addr) (H : Hp) (r : R W) (Q : VK) (E : XK) : Prop := match r with
  | .ok w m' => ∀ ρ' H' v, Post ρ H ρ' H' → Sim g ρ' m' H' → VR g ρ' H' w v → Q v H'
  | .exc c fs m' => ∀ ρ' H' d gs, Post ρ H ρ' H' → Sim g ρ' m' H' → H' d = some (.xd gs) → FR g ρ' H' fs gs → E (.ref (g.cl c)) (some d) H'
  | .bad => False
/-- a def's promise -/
def spOf (g : G) (F : DF) (n : Nat) : Sp := fun vs H Q E => vs.length = n ∧ ∃ (ws : List W) (m : Mem) (ρ : List Addr), Sim g ρ m H ∧ VRs g ρ H ws vs ∧ OutC g ρ H (F ws m) Q E
/-- a def of the module: where it stands, what it promises -/
structure Def (P : Program) (w : World) (K : PySem.W.Frag) (mg : Str → Option Value) (base : Heap) (g : G) (x : Str) (k : Nat) (ps : List Str) (F : DF) : Prop where
  ex : ∃ (f : Addr) (fd : FuncData), mg x = some (.ref f) ∧ PySem.W.keepIn K (.ref f) = true ∧ Binds K fd ps [] ∧ FnG P w K mg base k f fd ps (spOf g F ps.length)
section
variable {g : G} {X : Cx} {wx : WX} {τ : L2.St} {ρ ρ' : List Addr} {H H' : Hp} {m m' : Mem} {e : Expr} {pins : List (Addr × Obj)} {s : Shared}
theorem LR.start {N : List Str} {n : Nat} {ws : List W} {vs : List V} (r : VRs g ρ H ws vs) (hl : ws.length = n) (hn : n ≤ N.length) : LR g ρ H (ws.map some ++ List.replicate (N.length - n) none) (L2.start N vs) := by
  have hv : vs.length = n := by rw [← r.length]; exact hl
  refine ⟨by simp [L2.start, hl, hv], fun i w h => ?_⟩
  by_cases hi : i < ws.length
  · rw [List.getElem?_append_left (by simpa using hi), List.getElem?_map] at h
    cases q : ws[i]? with
    | none => rw [q] at h; cases h
    | some w' =>
      rw [q] at h; cases h
      obtain ⟨v, hv', rv⟩ := r.get q
      refine ⟨v, ?_, rv⟩
      unfold L2.start
      rw [List.getElem?_append_left (by rw [List.length_map]; exact (List.getElem?_eq_some_iff.mp hv').1), List.getElem?_map, hv']
      rfl
  · rw [List.getElem?_append_right (by simpa using Nat.le_of_not_lt hi), List.getElem?_replicate] at h
    split at h <;> cases h
/-- a def of the text keeps the promise of its denotation -/
theorem fn_ok {P : Program} {w : World} {K : PySem.W.Frag} {mg : Str → Option Value} {base : Heap} {k : Nat} {x qual : Str} {st : Stmt} {f : Addr} {fd : FuncData} {N ps : List Str} {b : DS} (F : Fun K x qual st f fd) (S : FnScope N ps (defScope st))
    (hb : ∀ (cdv : Value) (A : Around) (outer : List Env) (s : Shared) (H : Hp) (E : XK), Rm k (A.deeper (envOfC qual (defScope st) s.heap.objs.size f cdv)) →
      Takes (cxOf (CX P w) P w K mg base N qual (defScope st) f cdv A outer s H E) (fun cls d _ H => E cls d H) →
      PassesOwn (model P w) (A.deeper (envOfC qual (defScope st) s.heap.objs.size f cdv)) (envOfC qual (defScope st) s.heap.objs.size f cdv) (cxOf (CX P w) P w K mg base N qual (defScope st) f cdv A outer s H E).xe →
      SSs g (cxOf (CX P w) P w K mg base N qual (defScope st) f cdv A outer s H E) (fun cls d _ H => E cls d H) (defBody st) b) :
    FnG P w K mg base (k + 1) f fd ps (spOf g (defn ps.length N.length b) ps.length) := by
  obtain ⟨oc, od, kV, doc, pm, an, cdv, ct, osl, rfl, lk, hcd⟩ := F.ex
  refine fnG_of lk hcd S (fun vs H Q E h => h.1) fun A outer s H vs Q E hr h => ?_
  obtain ⟨hl, ws, m, ρ, S0, r, o⟩ := h
  have hpl : ps.length ≤ N.length := by have := congrArg List.length S.pre; rw [List.length_take] at this; omega
  refine ⟨_, hb cdv A outer s H E hr (takes_of rfl rfl rfl rfl) (passes_of rfl), ws.map some ++ List.replicate (N.length - ps.length) none, m, ρ, S0, LR.start r (by rw [r.length]; exact hl) hpl, ?_⟩
  unfold defn at o
  rw [if_pos (by rw [r.length]; exact hl)] at o
  cases hr' : b (ws.map some ++ List.replicate (N.length - ps.length) none) m with
  | nx σ' m' => rw [hr'] at o; exact fun ρ' H' τ' P' S' L' => o ρ' H' .non P' S' .non
  | rt w m' => rw [hr'] at o; exact fun ρ' H' v P' S' r => o ρ' H' v P' S' r
  | bk σ' m' => rw [hr'] at o; exact o.elim
  | ct σ' m' => rw [hr'] at o; exact o.elim
  | exc c fs σ' m' => rw [hr'] at o; exact fun ρ' H' τ' d gs P' S' L' h1 h2 => o ρ' H' d gs P' S' h1 h2
  | bad => rw [hr'] at o; exact o.elim

/-- the callee runs -/
theorem run_def {k : Nat} {f : Addr} {fd : FuncData} {ps : List Str} {F : DF} {ws : List W} {vs : List V} {us : List Value} {Q : Value → Shared → Prop} (tk : Takes X wx) (FO : FnG X.prog X.w X.K X.mg X.base k f fd ps (spOf g F ps.length)) (hr : Rm k X.A)
    (hb : Binds X.K fd ps []) (hl : ws.length = ps.length ∨ F ws m = .bad) (I : Inv X pins τ H s) (S : Sim g ρ m H) (r : VRs g ρ H ws vs) (ru : Vals vs us)
    (o : Out g wx τ ρ H (F ws m) (fun w m' ρ' H' => ∀ v u s', Inv X pins τ H' s' → VR g ρ' H' w v → RelV v u → Q u s')) : wpAny (model X.prog X.w) X.A (call (.ref f) us) Q X.xe s := by
  have hl : ws.length = ps.length := by
    rcases hl with h | h
    · exact h
    · rw [h] at o; exact o.elim
  have hlv : vs.length = ps.length := by rw [← r.length]; exact hl
  have hlu : us.length = ps.length := by rw [← ru.length]; exact hlv
  have hbind := hb s us I.kIn (by rw [List.append_nil]; exact hlu)
  rw [List.append_nil] at hbind
  refine wpAny_call (codeAny_mono (FO.run X.A X.stack s H ⟨us, []⟩ us vs (fun v H' => ∀ u s', Inv X pins τ H' s' → RelV v u → Q u s') (fun c d H' => wx c d τ H') hr I.env0 hbind ru ⟨hlv, ws, m, ρ, S, r, ?_⟩) fun r' s' hq => ?_)
  · cases hF : F ws m with
    | ok w m1 => rw [hF] at o; exact fun ρ' H' v P' S' rv u s' I' ru => o ρ' H' P' S' v u s' I' rv ru
    | exc c fs m1 => rw [hF] at o; exact fun ρ' H' d gs P' S' h1 h2 => o ρ' H' d gs P' S' h1 h2
    | bad => rw [hF] at o; exact o
  · cases r' with
    | error e => exact tk e s' (XE.of_call I (fun cls d H' h => h) hq)
    | ok fl =>
      cases fl with
      | ret u =>
        obtain ⟨v, H', I', rv, q⟩ := I.after hq
        exact q u s' I' rv
      | next => exact False.elim hq
      | brk => exact False.elim hq
      | cont => exact False.elim hq
/-- a denotation that takes n arguments -/
def Arity (n : Nat) (F : DF) : Prop := ∀ ws m, ws.length ≠ n → F ws m = .bad
theorem arity_defn {n N : Nat} {b : DS} : Arity n (defn n N b) := fun ws m h => by unfold defn; rw [if_neg h]
theorem Arity.or {n : Nat} {F : DF} (a : Arity n F) (ws : List W) (m : Mem) : ws.length = n ∨ F ws m = .bad := by
  by_cases h : ws.length = n
  · exact .inl h
  · exact .inr (a ws m h)
def eCall (F : DF) (a : DL) : DE := fun σ m => (a σ m).bind F
theorem se_call {x : Str} {k : Nat} {ps : List Str} {F : DF} {es : List Expr} {f : DL} {p pos : Pos} (tk : Takes X wx) (D : Def X.prog X.w X.K X.mg X.base g x k ps F) (ar : Arity ps.length F) (hr : Rm k X.A) (hg : Gl X x) (ha : SA g X wx (e :: es) f)
    (hdb : (x == ("__debug__" : Str)) = false := by decide) (he : starEach (e :: es) X.env = (false, eval e X.env) :: starEach es X.env := by exact star1 rfl) (hpl : (backTo pos (starEach es X.env)).any (·.1) = false := by exact plain_ns rfl) :
    SE g X wx (.Call (.Name x p) (e :: es) [] pos) (eCall F f) := by
  obtain ⟨fa, fd, hm, hk, hb, FO⟩ := D.ex
  refine ⟨fun pins s σ m ρ H τ Q I S L o => ?_⟩
  refine wpAny_Call_Name_kw (ld_glob I hg hm ?_ hdb)
  refine PySem.W.callWith_K (h₀ := X.base) I.ok.mod.kin hk (ha.run pos pins s σ m ρ H τ _ I S L ((o.bind S).imp fun ws m1 ρ1 H1 P1 S1 o1 vs us s1 I1 rv ru => ⟨I1.kIn, ?_⟩)) he hpl
  exact run_def tk FO hr hb (ar.or ws m1) I1 S1 rv ru o1
theorem se_call0 {x : Str} {k : Nat} {ps : List Str} {F : DF} {p pos : Pos} (tk : Takes X wx) (D : Def X.prog X.w X.K X.mg X.base g x k ps F) (ar : Arity ps.length F) (hr : Rm k X.A) (hg : Gl X x) (hdb : (x == ("__debug__" : Str)) = false := by decide) :
    SE g X wx (.Call (.Name x p) [] [] pos) (eCall F aNil) := by
  obtain ⟨fa, fd, hm, hk, hb, FO⟩ := D.ex
  refine ⟨fun pins s σ m ρ H τ Q I S L o => ?_⟩
  refine wpAny_Call_Name_kw (ld_glob I hg hm ?_ hdb)
  exact PySem.W.callWith_K0 I.kIn hk (run_def (us := []) tk FO hr hb (ar.or [] m) I S .nil .nil o)
theorem takes0 : Takes X wx0 := fun u s' ⟨_, _, _, _, _, _, _, _, _, _, _, _, _, _, _, _, h⟩ => h.elim

/-! ### built-ins by name -/
def eFn (fn : List W → Mem → R W) (a : DL) : DE := fun σ m => (a σ m).bind fn
theorem se_blt {x : Str} {id : String} {fn : List W → Mem → R W} {es : List Expr} {f : DL} {p pos : Pos} (hf : Fn g X wx (fun us => call (.builtin id) us) fn) (hg : Gl X x) (hm : X.mg x = none) (hv : bootBuiltins x = some (.builtin id)) (ha : SA g X wx (e :: es) f) (hn : x ≠ "__name__" := by decide) (hdb : (x == ("__debug__" : Str)) = false := by decide)
    (he : starEach (e :: es) X.env = (false, eval e X.env) :: starEach es X.env := by exact star1 rfl) (hpl : (backTo pos (starEach es X.env)).any (·.1) = false := by exact plain_ns rfl) : SE g X wx (.Call (.Name x p) (e :: es) [] pos) (eFn fn f) := by
  refine ⟨fun pins s σ m ρ H τ Q I S L o => ?_⟩
  refine wpAny_Call_Name_kw (ld_blt I hg hm hv ?_ hn hdb)
  exact PyProof.Rows.callWith_builtin1 (ha.run pos pins s σ m ρ H τ _ I S L ((o.bind S).imp fun ws m1 ρ1 H1 P1 S1 o1 vs us s1 I1 rv ru => hf.run pins s1 m1 ρ1 H1 τ ws vs us Q I1 S1 rv ru o1)) he hpl
theorem se_typ {x : Str} {T : String} {fn : List W → Mem → R W} {es : List Expr} {f : DL} {p pos : Pos} (hf : Fn g X wx (fun us => call (.type T) us) fn) (hg : Gl X x) (hm : X.mg x = none) (hv : bootBuiltins x = some (.type T)) (ha : SA g X wx (e :: es) f) (hn : x ≠ "__name__" := by decide) (hdb : (x == ("__debug__" : Str)) = false := by decide)
    (he : starEach (e :: es) X.env = (false, eval e X.env) :: starEach es X.env := by exact star1 rfl) (hpl : (backTo pos (starEach es X.env)).any (·.1) = false := by exact plain_ns rfl) : SE g X wx (.Call (.Name x p) (e :: es) [] pos) (eFn fn f) := by
  refine ⟨fun pins s σ m ρ H τ Q I S L o => ?_⟩
  refine wpAny_Call_Name_kw (ld_blt I hg hm hv ?_ hn hdb)
  exact PyProof.Rows.callWith_type1 (ha.run pos pins s σ m ρ H τ _ I S L ((o.bind S).imp fun ws m1 ρ1 H1 P1 S1 o1 vs us s1 I1 rv ru => hf.run pins s1 m1 ρ1 H1 τ ws vs us Q I1 S1 rv ru o1)) he hpl
/-- a built-in of one fresh list: all([..]), sum([..]), tuple([..]) -/
def eFnL (fn : List W → Mem → R W) (a : DL) : DE := fun σ m => (a σ m).bind fn
/-- by its items: a fresh list stands at p -/
structure FnL (g : G) (X : Cx) (wx : WX) (f : Value → Sem Value) (fn : List W → Mem → R W) : Prop where
  run : ∀ (pins : List (Addr × Obj)) (s : Shared) (m : Mem) (ρ : List Addr) (H : Hp) (τ : L2.St) (p : Addr) (ws : List W) (vs : List V) (Q : Value → Shared → Prop),
  Inv X pins τ H s → Sim g ρ m H → H p = some (.lst vs) → p ∉ ρ → VRs g ρ H ws vs →
  Out g wx τ ρ H (fn ws m) (fun w m' ρ' H' => ∀ v u s', Inv X pins τ H' s' → VR g ρ' H' w v → RelV v u → Q u s') → wpAny (model X.prog X.w) X.A (f (.ref p)) Q X.xe s
theorem FnL.ofR {f : Value} {fn : List W → Mem → R W}
    (h : ∀ (m : Mem) (ρ : List Addr) (H : Hp) (τ : L2.St) (p : Addr) (ws : List W) (vs : List V) (Q : VK), Sim g ρ m H → H p = some (.lst vs) → p ∉ ρ → VRs g ρ H ws vs → Out g wx τ ρ H (fn ws m) (fun w m' ρ' H' => ∀ v, VR g ρ' H' w v → Q v H') → ∃ r, CallR X f r ∧ r [.ref p] H Q) : FnL g X wx (fun u => call f [u]) fn := by
  refine ⟨fun pins s m ρ H τ p ws vs Q I S hp hn rx o => ?_⟩
  obtain ⟨r, hr, hq⟩ := h m ρ H τ p ws vs (fun v H' => ∀ u s', Inv X pins τ H' s' → RelV v u → Q u s') S hp hn rx (o.imp fun w m' ρ' H' _ _ k v r u s' I' ru => k v u s' I' r ru)
  exact thn (hr pins s τ H [.ref p] [.ref p] _ I (.cons rfl .nil) hq) fun u1 s1 ⟨v1, H1, I1, r1, q⟩ => q u1 s1 I1 r1
theorem se_bltL {x : Str} {id : String} {fn : List W → Mem → R W} {f : DL} {p pos : Pos} (hf : FnL g X wx (fun u => call (.builtin id) [u]) fn) (hg : Gl X x) (hm : X.mg x = none) (hv : bootBuiltins x = some (.builtin id)) (ha : SL g X wx e f) (hn : x ≠ "__name__" := by decide) (hdb : (x == ("__debug__" : Str)) = false := by decide)
    (he : starEach [e] X.env = (false, eval e X.env) :: starEach [] X.env := by exact star1 rfl) (hpl : (backTo pos (starEach [] X.env)).any (·.1) = false := by rfl) : SE g X wx (.Call (.Name x p) [e] [] pos) (eFnL fn f) := by
  refine ⟨fun pins s σ m ρ H τ Q I S L o => ?_⟩
  refine wpAny_Call_Name_kw (ld_blt I hg hm hv ?_ hn hdb)
  refine PyProof.Rows.callWith_builtin1 ?_ he hpl
  rw [he]
  show wpAny _ _ (spliced ((false, eval e X.env) :: backTo pos (starEach [] X.env))) _ _ s
  refine Calls.spliced_cons (ha.run pins s σ m ρ H τ _ I S L ((o.bind S).imp fun ws m1 ρ1 H1 P1 S1 o1 p vs s1 I1 h0 hp hn rv => ?_))
  exact Calls.spliced_nil (hf.run pins s1 m1 ρ1 H1 τ p ws vs Q I1 S1 hp hn rv o1)
theorem se_typL {x : Str} {T : String} {fn : List W → Mem → R W} {f : DL} {p pos : Pos} (hf : FnL g X wx (fun u => call (.type T) [u]) fn) (hg : Gl X x) (hm : X.mg x = none) (hv : bootBuiltins x = some (.type T)) (ha : SL g X wx e f) (hn : x ≠ "__name__" := by decide) (hdb : (x == ("__debug__" : Str)) = false := by decide)
    (he : starEach [e] X.env = (false, eval e X.env) :: starEach [] X.env := by exact star1 rfl) (hpl : (backTo pos (starEach [] X.env)).any (·.1) = false := by rfl) : SE g X wx (.Call (.Name x p) [e] [] pos) (eFnL fn f) := by
  refine ⟨fun pins s σ m ρ H τ Q I S L o => ?_⟩
  refine wpAny_Call_Name_kw (ld_blt I hg hm hv ?_ hn hdb)
  refine PyProof.Rows.callWith_type1 ?_ he hpl
  rw [he]
  show wpAny _ _ (spliced ((false, eval e X.env) :: backTo pos (starEach [] X.env))) _ _ s
  refine Calls.spliced_cons (ha.run pins s σ m ρ H τ _ I S L ((o.bind S).imp fun ws m1 ρ1 H1 P1 S1 o1 p vs s1 I1 h0 hp hn rv => ?_))
  exact Calls.spliced_nil (hf.run pins s1 m1 ρ1 H1 τ p ws vs Q I1 S1 hp hn rv o1)

/-! ### instances -/
def insOf (m : Mem) (w : W) : Option (String × List (List Nat × W)) := match w with
  | .ref n => match m[n]? with
    | some (.ins c fs) => some (c, fs)
    | _ => none
  | _ => none
theorem FR.lookup {fs : List (List Nat × W)} {gs : List (Str × V)} (h : FR g ρ H fs gs) (f : List Nat) :
    (∀ w, fs.lookup f = some w → ∃ v, gs.lookup (Sh.S f) = some v ∧ VR g ρ H w v) ∧ (fs.lookup f = none → gs.lookup (Sh.S f) = none) := by
  induction fs generalizing gs with
  | nil => cases h; exact ⟨fun w z => (by cases z), fun _ => rfl⟩
  | cons p fs ih =>
    cases h with
    | @cons _ q _ gs hq hr =>
      obtain ⟨a, w0⟩ := p
      obtain ⟨b, v0⟩ := q
      obtain ⟨e, rv⟩ := hq
      have e' : b = Sh.S a := e
      subst e'
      obtain ⟨i1, i2⟩ := ih hr
      simp only [List.lookup_cons]
      by_cases hc : f = a
      · subst hc
        simp only [beq_self_eq_true]
        exact ⟨fun w z => ⟨v0, rfl, (by cases z; exact rv)⟩, fun z => (by cases z)⟩
      · have h1 : (f == a) = false := beq_eq_false_iff_ne.mpr hc
        have h2 : (Sh.S f == Sh.S a) = false := beq_eq_false_iff_ne.mpr fun z => hc (S_inj z)
        simp only [h1, h2]
        exact ⟨i1, i2⟩
/-- a field is put -/
def putW (f : List Nat) (w : W) : List (List Nat × W) → List (List Nat × W)
  | [] => [(f, w)]
  | (k, x) :: r => if k = f then (k, w) :: r else (k, x) :: putW f w r
theorem FR.put {fs : List (List Nat × W)} {gs : List (Str × V)} (h : FR g ρ H fs gs) (f : List Nat) {w : W} {v : V} (r : VR g ρ H w v) : FR g ρ H (putW f w fs) (putF (Sh.S f) v gs) := by
  induction fs generalizing gs with
  | nil => cases h; exact .cons ⟨rfl, r⟩ .nil
  | cons p fs ih =>
    cases h with
    | @cons _ q _ gs hq hr =>
      obtain ⟨a, w0⟩ := p
      obtain ⟨b, v0⟩ := q
      obtain ⟨e, rv⟩ := hq
      have e' : b = Sh.S a := e
      subst e'
      show FR g ρ H (if a = f then (a, w) :: fs else (a, w0) :: putW f w fs) (if Sh.S a = Sh.S f then (Sh.S a, v) :: gs else (Sh.S a, v0) :: putF (Sh.S f) v gs)
      by_cases hc : a = f
      · subst hc
        rw [if_pos rfl, if_pos rfl]
        exact .cons ⟨rfl, r⟩ hr
      · rw [if_neg hc, if_neg fun z => hc (S_inj z)]
        exact .cons ⟨rfl, rv⟩ (ih hr)
theorem FR.length {fs : List (List Nat × W)} {gs : List (Str × V)} (h : FR g ρ H fs gs) : fs.length = gs.length := Paired.length h

/-- the facts of an own class at the address g.cl c -/
structure ClsOk (K : PySem.W.Frag) (g : G) (c : String) : Prop where
  cl : Cls K (g.cl c)
/-- how an attribute stands in a class -/
inductive AttK (P : Program) (w : World) (K : PySem.W.Frag) (mg : Str → Option Value) (base : Heap) (g : G) (f : List Nat) (c : String) (k : Nat) : Option (DF ⊕ W) → Prop
  | fld (cl : Cls K (g.cl c)) (n : NoAttr K (g.cl c) (Sh.S f)) : AttK P w K mg base g f c k none
  | prop {p ga : Addr} {fd : FuncData} {F : DF} (cl : Cls K (g.cl c)) (hp : PropOf K (g.cl c) (Sh.S f) p ga) (hb : Binds K fd ["self"] []) (FO : FnG P w K mg base k ga fd ["self"] (spOf g F 1)) : AttK P w K mg base g f c k (some (.inl F))
  | con {v : V} {u : Value} {x : W} (cl : Cls K (g.cl c)) (h : Con K (g.cl c) (Sh.S f) v u) (r : ∀ ρ H, VR g ρ H x v) : AttK P w K mg base g f c k (some (.inr x))
/-- e.f; tbl tells the classes that have f, and how -/
def attr (f : List Nat) (tbl : String → Option (Option (DF ⊕ W))) (x : W) (m : Mem) : R W := match insOf m x with
  | some (c, fs) => match tbl c with
    | some none => match fs.lookup f with
      | some w => .ok w m
      | none => .bad
    | some (some (.inl F)) => (F [x] m).nox
    | some (some (.inr w)) => match fs.lookup f with
      | some _ => .bad
      | none => .ok w m
    | none => .bad
  | none => .bad
def eAttr (f : List Nat) (tbl : String → Option (Option (DF ⊕ W))) (o : DE) : DE := fun σ m => (o σ m).bind (attr f tbl)
theorem insOf_some {w : W} {c : String} {fs : List (List Nat × W)} (h : insOf m w = some (c, fs)) : ∃ n, w = .ref n ∧ m[n]? = some (.ins c fs) := by
  unfold insOf at h
  split at h
  · rename_i n
    split at h
    · rename_i c' fs' hm
      cases h
      exact ⟨n, rfl, hm⟩
    · cases h
  · cases h
theorem getpropG {C p ga a dx : Addr} {fs : List (Str × V)} {f : Str} {fd : FuncData} {k : Nat} {sp : Sp} {Q : Value → Shared → Prop} {b : Bool} {E' : Value → Shared → Prop} (I : Inv X pins τ H s) (ea : H a = some (.ins C dx fs)) (c : Cls X.K C) (hp : PropOf X.K C f p ga)
    (F : FnG X.prog X.w X.K X.mg X.base k ga fd ["self"] sp) (hr : Rm (k + 1) X.A) (hb : Binds X.K fd ["self"] []) (h : sp [.ref a] H (fun v H' => ∀ u s', Inv X pins τ H' s' → RelV v u → Q u s') (fun _ _ _ => False)) :
    wpAny (model X.prog X.w) X.A (getAttr (.ref a) f b) Q E' s := by
  obtain ⟨mA, O, _, _, _, _⟩ := ins_get I.hok ea
  obtain ⟨od, J, _⟩ := O.look
  obtain ⟨rest, hrec⟩ := hp.rec_
  have I1 := I.tok (s.toks + 1)
  have hc : (PySem.W.clsIn X.K C).isSome = true := by
    obtain ⟨cd, hc, _⟩ := PySem.W.any_some c.hd
    rw [hc]
    rfl
  refine PySem.W.get_bind I.kIn J (PySem.W.plainGet_of (c.get f)).1 (PySem.W.findObj_data hc hp.at_ hp.get hp.tak) (PySem.W.plainGet_of (c.get f)).2 (wpAny_call (PySem.W.prop_get (s := { s with toks := s.toks + 1 }) I.kIn hrec ?_))
  refine codeAny_mono (F.run X.A.in1 X.stack { s with toks := s.toks + 1 } H ⟨[.ref a], []⟩ [.ref a] [.ref a] _ _ hr.in1 I1.env0.in1 (hb _ [.ref a] I1.kIn rfl) (.cons rfl .nil) h) fun r s' hq => ?_
  cases r with
  | error er =>
    obtain ⟨_, _, _, _, _, _, _, _, _, _, _, _, z⟩ := hq
    exact z.elim
  | ok fl =>
    cases fl with
    | ret u =>
      obtain ⟨v, H', I3, rv, q3⟩ := I1.after hq
      show wpAny _ _ (handedOut u) _ _ _
      rw [PySem.W.handedOut_of (handed_of rv)]
      exact wpAny_pure (q3 u s' I3 rv)
    | next => exact False.elim hq
    | brk => exact False.elim hq
    | cont => exact False.elim hq
theorem attr_ok {f : List Nat} {tbl : String → Option (Option (DF ⊕ W))} {k : Nat} (ht : ∀ c x, tbl c = some x → AttK X.prog X.w X.K X.mg X.base g f c k x) (hr : Rm (k + 1) X.A) {b : Bool} {x : W} {v : V} {u : Value} {Q : Value → Shared → Prop}
    (I : Inv X pins τ H s) (S : Sim g ρ m H) (rv : VR g ρ H x v) (ru : RelV v u) (o : Out g wx τ ρ H (attr f tbl x m) (fun w m' ρ' H' => ∀ v u s', Inv X pins τ H' s' → VR g ρ' H' w v → RelV v u → Q u s')) :
    wpAny (model X.prog X.w) X.A (getAttr u (Sh.S f) b) Q X.xe s := by
  unfold attr at o
  split at o
  · rename_i c fs hins
    obtain ⟨n, rfl, hm⟩ := insOf_some hins
    cases rv with
    | @ref n a ha =>
      obtain rfl : u = Value.ref a := ru
      obtain ⟨u1, h1, dx, gs, e1, rf⟩ := S.obj n a _ ha hm
      subst e1
      obtain ⟨lk1, lk2⟩ := rf.lookup f
      split at o
      · rename_i hc
        have hcc := ht c none hc
        cases hcc with
        | fld cl n =>
          split at o
          · rename_i w hw
            obtain ⟨v', h2, r2⟩ := lk1 w hw
            exact getattr_ok I h1 cl n h2 fun u' s' I' ru' => Out.here o S v' u' s' I' r2 ru'
          · exact o.elim
      · rename_i F hc
        have hcc := ht c _ hc
        cases hcc with
        | prop cl hp hb FO =>
          refine getpropG I h1 cl hp FO hr hb ⟨rfl, [.ref n], m, ρ, S, .cons (.ref ha) .nil, ?_⟩
          · cases hF : F [.ref n] m with
            | ok w m1 => rw [hF] at o; exact fun ρ' H' v P' S' rv u s' I' ru => o ρ' H' P' S' v u s' I' rv ru
            | exc c fs m1 => rw [hF] at o; exact o.elim
            | bad => rw [hF] at o; exact o.elim
      · rename_i w hc
        have hcc := ht c _ hc
        cases hcc with
        | con cl hcon r =>
          split at o
          · exact o.elim
          · rename_i hn
            exact getcon_ok I h1 cl hcon (lk2 hn) fun s' I' => Out.here o S _ _ s' I' (r _ _) hcon.rel
      · exact o.elim
  · exact o.elim
theorem se_attr {o : Expr} {fo : DE} {f : List Nat} {fn : Str} {tbl : String → Option (Option (DF ⊕ W))} {k : Nat} {pos : Pos} (ho : SE g X wx o fo) (ht : ∀ c x, tbl c = some x → AttK X.prog X.w X.K X.mg X.base g f c k x) (hr : Rm (k + 1) X.A) (hf : fn = Sh.S f)
    (hb : attributeBase o fn X.env (eval o X.env) = eval o X.env := by rfl) : SE g X wx (.Attribute o fn pos) (eAttr f tbl fo) := by
  subst hf
  refine ⟨fun pins s σ m ρ H τ Q I S L oo => ?_⟩
  refine attr_of hb (ho.run pins s σ m ρ H τ _ I S L ((oo.bind S).imp fun x m1 ρ1 H1 P1 S1 o1 v u s1 I1 rv ru => ?_))
  exact attr_ok ht hr I1 S1 rv ru o1
/-- o.f = e -/
def sAttr (f : List Nat) (ok : String → Bool) (fo fe : DE) : DS := fun σ m => RS.of σ (fe σ m) fun w m1 => RS.of σ (fo σ m1) fun x m2 => match x with
  | .ref n => match m2[n]? with
    | some (.ins c fs) => if ok c = true ∧ fs.length < 100 then .nx σ (m2.set n (.ins c (putW f w fs))) else .bad
    | _ => .bad
  | _ => .bad
theorem ss_attr {o e : Expr} {fo fe : DE} {f : List Nat} {fn : Str} {okc : String → Bool} {pos pos' : Pos} (ho : SE g X wx o fo) (he : SE g X wx e fe) (ht : ∀ c, okc c = true → Cls X.K (g.cl c) ∧ NoAttr X.K (g.cl c) (Sh.S f)) (hf : fn = Sh.S f)
    (hs : swapsWith e (some (.Attribute o fn pos')) pos.line X.env = pure false := by rfl) : SS g X wx (.Assign [.Attribute o fn pos'] e pos) (sAttr f okc fo fe) := by
  subst hf
  exact PS.conv (ps_fld ho.pe he.pe hs) fun D τ H ⟨σ, m, ρ, S, L, oo⟩ => ⟨σ, m, ρ, S, L, (oo.of S L).imp fun w m1 ρ1 H1 P1 S1 o1 v r => ⟨σ, m1, ρ1, S1, L.post S P1, (o1.of S1 (L.post S P1)).imp fun x m2 ρ2 H2 P2 S2 o2 v2 r2 => by
    cases r2 with
    | @ref n a ha =>
      simp only at o2
      split at o2
      · rename_i c fs hm
        split at o2
        · rename_i hc
          obtain ⟨u1, h1, dx, gs, e1, rf⟩ := S2.obj n a _ ha hm
          subst e1
          obtain ⟨hcl, hna⟩ := ht c hc.1
          refine ⟨a, g.cl c, dx, gs, rfl, h1, hcl, hna, by rw [← rf.length]; omega, ?_⟩
          obtain ⟨P3, S3⟩ := S2.set (u := .ins (g.cl c) dx (putF (Sh.S f) v gs)) (o := .ins c (putW f w fs)) ha ⟨dx, _, rfl, rf.put f (r.post S1 P2)⟩
          exact o2 _ _ _ P3 S3 (((L.post S P1).post S1 P2).post S2 P3)
        · exact o2.elim
      · exact o2.elim
    | _ => exact o2.elim⟩⟩

/-- o.m(e, ..) -/
structure MethK (P : Program) (w : World) (K : PySem.W.Frag) (mg : Str → Option Value) (base : Heap) (g : G) (f : List Nat) (c : String) (k : Nat) (F : DF) : Prop where
  ex : ∃ (ga : Addr) (fd : FuncData) (ps : List Str), Cls K (g.cl c) ∧ Meth K (g.cl c) (Sh.S f) ga ∧ Binds K fd ps [] ∧ Arity ps.length F ∧ FnG P w K mg base k ga fd ps (spOf g F ps.length)
def eMeth (f : List Nat) (tbl : String → Option DF) (o : DE) (a : DL) : DE := fun σ m => (o σ m).bind fun x m1 => match insOf m1 x with
  | some (c, fs) => match tbl c, fs.lookup f with
    | some F, none => (a σ m1).bind fun ws m2 => F (x :: ws) m2
    | _, _ => .bad
  | none => .bad
theorem se_meth {o : Expr} {fo : DE} {f : List Nat} {fn : Str} {tbl : String → Option DF} {k : Nat} {es : List Expr} {fa : DL} {pos apos : Pos} {pl : Sem Bool} (tk : Takes X wx) (ho : SE g X wx o fo) (ht : ∀ c F, tbl c = some F → MethK X.prog X.w X.K X.mg X.base g f c k F) (hr : Rm k X.A) (hf : fn = Sh.S f) (ha : SA g X wx (e :: es) fa)
    (hst : starEach (e :: es) X.env = (false, eval e X.env) :: starEach es X.env := by exact star1 rfl) (hpl : (backTo pos (starEach es X.env)).any (·.1) = false := by exact plain_ns rfl)
    (hev : eval (.Call (.Attribute o fn apos) (e :: es) [] pos) X.env = (do
      let ov ← eval o X.env
      standAt apos.atName
      let (f, first) ← holding [ov] (getMethod ov fn pl)
      callWith pos f first (backTo pos (starEach (e :: es) X.env)) (backToKw pos (keywordEach [] X.env))) := by rfl) : SE g X wx (.Call (.Attribute o fn apos) (e :: es) [] pos) (eMeth f tbl fo fa) := by
  subst hf
  refine ⟨fun pins s σ m ρ H τ Q I S L oo => ?_⟩
  refine PySem.W.methodCall_KW (pl := pl) (ho.run pins s σ m ρ H τ _ I S L ((oo.bind S).imp fun x m1 ρ1 H1 P1 S1 o1 v u s1 I1 rv ru => ?_)) hev
  split at o1
  · rename_i c fs hins
    obtain ⟨n, rfl, hm⟩ := insOf_some hins
    cases rv with
    | @ref n a hra =>
      obtain rfl : u = Value.ref a := ru
      obtain ⟨u1, h1, dx, gs, e1, rf⟩ := S1.obj n a _ hra hm
      subst e1
      split at o1
      · rename_i F hF hn
        obtain ⟨ga, fd, ps, cl, hmt, hb, ar, FO⟩ := (ht c F hF).ex
        refine getmeth_ok I1 h1 cl hmt ((rf.lookup f).2 hn) ?_
        refine PySem.W.callWith_K (first := [.ref a]) (h₀ := X.base) I.ok.mod.kin hmt.kp (ha.run pos pins s1 σ m1 ρ1 H1 τ _ I1 S1 (L.post S P1) ((o1.bind S1).imp fun ws m2 ρ2 H2 P2 S2 o2 vs us s2 I2 rvs rus => ⟨I2.kIn, ?_⟩)) hst hpl
        exact run_def (us := .ref a :: us) tk FO hr hb (ar.or _ m2) I2 S2 (.cons (.ref (P2.get hra)) rvs) (.cons rfl rus) o2
      · exact o1.elim
  · exact o1.elim
theorem se_meth0 {o : Expr} {fo : DE} {f : List Nat} {fn : Str} {tbl : String → Option DF} {k : Nat} {pos apos : Pos} {pl : Sem Bool} (tk : Takes X wx) (ho : SE g X wx o fo) (ht : ∀ c F, tbl c = some F → MethK X.prog X.w X.K X.mg X.base g f c k F) (hr : Rm k X.A) (hf : fn = Sh.S f)
    (hev : eval (.Call (.Attribute o fn apos) [] [] pos) X.env = (do
      let ov ← eval o X.env
      standAt apos.atName
      let (f, first) ← holding [ov] (getMethod ov fn pl)
      callWith pos f first (backTo pos (starEach [] X.env)) (backToKw pos (keywordEach [] X.env))) := by rfl) : SE g X wx (.Call (.Attribute o fn apos) [] [] pos) (eMeth f tbl fo aNil) := by
  subst hf
  refine ⟨fun pins s σ m ρ H τ Q I S L oo => ?_⟩
  refine PySem.W.methodCall_KW (pl := pl) (ho.run pins s σ m ρ H τ _ I S L ((oo.bind S).imp fun x m1 ρ1 H1 P1 S1 o1 v u s1 I1 rv ru => ?_)) hev
  split at o1
  · rename_i c fs hins
    obtain ⟨n, rfl, hm⟩ := insOf_some hins
    cases rv with
    | @ref n a hra =>
      obtain rfl : u = Value.ref a := ru
      obtain ⟨u1, h1, dx, gs, e1, rf⟩ := S1.obj n a _ hra hm
      subst e1
      split at o1
      · rename_i F hF hn
        obtain ⟨ga, fd, ps, cl, hmt, hb, ar, FO⟩ := (ht c F hF).ex
        refine getmeth_ok I1 h1 cl hmt ((rf.lookup f).2 hn) ?_
        exact PySem.W.callWith_K0 (first := [.ref a]) I1.kIn hmt.kp (run_def (us := [.ref a]) tk FO hr hb (ar.or _ m1) I1 S1 (.cons (.ref hra) .nil) (.cons rfl .nil) o1)
      · exact o1.elim
  · exact o1.elim

/-- C(e, ..) -/
structure MakeK (P : Program) (w : World) (K : PySem.W.Frag) (mg : Str → Option Value) (base : Heap) (g : G) (x : Str) (c : String) (k : Nat) (F : DF) : Prop where
  ex : ∃ (fi : Addr) (fd : FuncData) (ps : List Str), mg x = some (.ref (g.cl c)) ∧ Mk K (g.cl c) fi ∧ Binds K fd ps [] ∧ Arity ps.length F ∧ FnG P w K mg base k fi fd ps (spOf g F ps.length)
def make (c : String) (F : DF) (ws : List W) (m : Mem) : R W := (F (.ref m.length :: ws) (m ++ [.ins c []])).bind fun r m2 => match r with
  | .non => .ok (.ref m.length) m2
  | _ => .bad
def eMake (c : String) (F : DF) (a : DL) : DE := fun σ m => (a σ m).bind (make c F)
theorem make_ok {x : Str} {c : String} {k : Nat} {F : DF} {ws : List W} {vs : List V} {us : List Value} {Q : Value → Shared → Prop} (tk : Takes X wx) (D : MakeK X.prog X.w X.K X.mg X.base g x c k F) (hr : Rm (k + 1) X.A) (I : Inv X pins τ H s) (S : Sim g ρ m H) (r : VRs g ρ H ws vs) (ru : Vals vs us)
    (o : Out g wx τ ρ H (make c F ws m) (fun w m' ρ' H' => ∀ v u s', Inv X pins τ H' s' → VR g ρ' H' w v → RelV v u → Q u s')) : wpAny (model X.prog X.w) X.A (call (.ref (g.cl c)) us) Q X.xe s := by
  obtain ⟨fi, fd, ps, _, mk, hb, ar, FO⟩ := D.ex
  have hx : H (s.heap.objs.size + 1) = none := I.hok.fresh (Nat.le_succ _)
  have hdx : H s.heap.objs.size = none := I.hok.fresh (Nat.le_refl _)
  have hne : s.heap.objs.size ≠ s.heap.objs.size + 1 := Nat.ne_of_lt (Nat.lt_succ_self _)
  have I2 := Inv.made (C := g.cl c) I
  obtain ⟨Pa, Sa⟩ := S.junk (u := .own (s.heap.objs.size + 1)) hdx
  have hx2 : upd H s.heap.objs.size (.own (s.heap.objs.size + 1)) (s.heap.objs.size + 1) = none := by rw [upd_ne (Ne.symm hne)]; exact hx
  obtain ⟨Pb, Sb⟩ := Sa.push (o := .ins c []) (u := .ins (g.cl c) s.heap.objs.size []) hx2 ⟨_, _, rfl, .nil⟩
  have Pab := Pa.then Pb S Sa
  have hn : (ρ ++ [s.heap.objs.size + 1])[m.length]? = some (s.heap.objs.size + 1) := by rw [← S.len]; simp
  unfold make at o
  have o' : Out g wx τ (ρ ++ [s.heap.objs.size + 1]) (upd (upd H s.heap.objs.size (.own (s.heap.objs.size + 1))) (s.heap.objs.size + 1) (.ins (g.cl c) s.heap.objs.size [])) _ _ := o.from Pab S Sb
  have rs : VRs g (ρ ++ [s.heap.objs.size + 1]) (upd (upd H s.heap.objs.size (.own (s.heap.objs.size + 1))) (s.heap.objs.size + 1) (.ins (g.cl c) s.heap.objs.size [])) (.ref m.length :: ws) (.ref (s.heap.objs.size + 1) :: vs) := .cons (.ref hn) (r.post S Pab)
  have hl : (W.ref m.length :: ws).length = ps.length := by
    rcases ar.or (.ref m.length :: ws) (m ++ [.ins c []]) with h | h
    · exact h
    · rw [h] at o'; exact o'.elim
  have hlv : (V.ref (s.heap.objs.size + 1) :: vs).length = ps.length := by rw [← rs.length]; exact hl
  have hlu : ((Value.ref (s.heap.objs.size + 1) :: us) ++ []).length = ps.length := by rw [List.append_nil, ← hlv]; simp [ru.length]
  have hbind := hb { s with heap := (s.heap.push PySem.W.emptyDict).push (PySem.W.instObj (g.cl c) s.heap.objs.size) } (Value.ref (s.heap.objs.size + 1) :: us) I2.kIn hlu
  rw [List.append_nil] at hbind
  refine wpAny_call (make_map (f := fi) I.kIn mk.makes mk.init (beq_iff_eq.mp mk.fn) (codeAny_mono (FO.run _ X.stack _ _ ⟨Value.ref (s.heap.objs.size + 1) :: us, []⟩ (Value.ref (s.heap.objs.size + 1) :: us) (V.ref (s.heap.objs.size + 1) :: vs)
    (fun v H' => v = .non ∧ ∀ u s', Inv X pins τ H' s' → RelV (.ref (s.heap.objs.size + 1)) u → Q u s') (fun c d H' => wx c d τ H') (Rm.make hr (g.cl c) us []) (I2.env0.make (g.cl c) us []) hbind (.cons rfl ru) ⟨hlv, _, _, _, Sb, rs, ?_⟩) fun r' s' hq => ?_))
  · cases hF : F (.ref m.length :: ws) (m ++ [.ins c []]) with
    | ok w m1 =>
      rw [hF] at o'
      cases w with
      | non =>
        intro ρ' H' v P' S' rv
        cases rv
        exact ⟨rfl, fun u s' I' ru => o' ρ' H' P' S' (.ref (s.heap.objs.size + 1)) u s' I' (.ref (P'.get hn)) ru⟩
      | _ => exact o'.elim
    | exc c fs m1 => rw [hF] at o'; exact fun ρ' H' d gs P' S' h1 h2 => o' ρ' H' d gs P' S' h1 h2
    | bad => rw [hF] at o'; exact o'
  · cases r' with
    | error e => exact tk e s' (XE.of_call I2 (fun cls d H' h => h) hq)
    | ok fl =>
      cases fl with
      | ret u =>
        obtain ⟨v, H', I3, rv, ev, q3⟩ := I2.after hq
        subst ev
        exact ⟨rv, q3 _ s' I3 rfl⟩
      | next => exact False.elim hq
      | brk => exact False.elim hq
      | cont => exact False.elim hq
theorem se_make {x : Str} {c : String} {k : Nat} {F : DF} {es : List Expr} {f : DL} {p pos : Pos} (tk : Takes X wx) (D : MakeK X.prog X.w X.K X.mg X.base g x c k F) (hr : Rm (k + 1) X.A) (hg : Gl X x) (ha : SA g X wx (e :: es) f)
    (hdb : (x == ("__debug__" : Str)) = false := by decide) (he : starEach (e :: es) X.env = (false, eval e X.env) :: starEach es X.env := by exact star1 rfl) (hpl : (backTo pos (starEach es X.env)).any (·.1) = false := by exact plain_ns rfl) :
    SE g X wx (.Call (.Name x p) (e :: es) [] pos) (eMake c F f) := by
  obtain ⟨fi, fd, ps, hm, mk, hb, ar, FO⟩ := D.ex
  refine ⟨fun pins s σ m ρ H τ Q I S L o => ?_⟩
  refine wpAny_Call_Name_kw (ld_glob I hg hm ?_ hdb)
  refine PySem.W.callWith_K (h₀ := X.base) I.ok.mod.kin mk.kp (ha.run pos pins s σ m ρ H τ _ I S L ((o.bind S).imp fun ws m1 ρ1 H1 P1 S1 o1 vs us s1 I1 rv ru => ⟨I1.kIn, ?_⟩)) he hpl
  exact make_ok tk D hr I1 S1 rv ru o1
end
end Sh

namespace Sh
open PySem PySem.Spec L2
open PyProof.Rows (envOfC)

/-! ### super().__init__(..) as the first statement of an __init__ -/
def sSuper (cs : String) (F : DF) (fa : DL) : DS := fun σ m => match σ[0]? with
  | some (some (W.ref n)) => match m[n]? with
    | some (.ins c fs) => if c = cs then RS.of σ (fa σ m) fun ws m1 => RS.of σ (F (.ref n :: ws) m1) fun _ m2 => .nx σ m2 else .bad
    | _ => .bad
  | _ => .bad
/-- what of the text stands around such a def: D its class, cs the class of the receiver, F the next __init__ -/
structure SupK (P : Program) (w : World) (K : PySem.W.Frag) (mg : Str → Option Value) (base : Heap) (g : G) (cda cc D : Addr) (cs : String) (k : Nat) (F : DF) : Prop where
  code : ∃ (ccl : Value) (cdd : Option Addr) (vs : Array Value) (ccs : Array (Option Value)) (file : Str) (tf : Tok), K.lookup cda = some ⟨ccl, cdd, .fields vs, ccs⟩ ∧ vs[2]? = some (.str file tf) ∧ ((P.main.file : Str) == file) = true
  cell : ∃ (cl : Value) (cld : Option Addr) (csl : Array (Option Value)), K.lookup cc = some ⟨cl, cld, .cell (some (.ref D)), csl⟩
  cls : ∃ cdD, PySem.W.clsIn K D = some cdD
  sup : mg "super" = none
  stat : PySem.W.nsIn K PySem.cStatics "thirdparty.any" = some none
  top : (P.main.scope.names.lookup ("super" : Str)).isSome = false
  ccl : Cls K (g.cl cs)
  sub : PySem.W.mroIn K (g.cl cs) (.ref D) = some true
  nxt : ∃ (f2 : Addr) (fd2 : FuncData) (ps2 : List Str), PySem.W.ks_superIn K (g.cl cs) D "__init__" = some (some (.ref f2)) ∧ PySem.W.typeIn K (.ref f2) = some (.type "function") ∧ PySem.W.fnIn K f2 = true ∧ Binds K fd2 ps2 [] ∧ Arity ps2.length F ∧ FnG P w K mg base k f2 fd2 ps2 (spOf g F ps2.length)

section
variable {g : G} {P : Program} {w : World} {K : PySem.W.Frag} {mg : Str → Option Value} {base : Heap} {k : Nat} {f cda cc D : Addr} {name qual : Str} {params : Arguments} {rest : List Stmt} {scope : Scope} {doc pm ct oc : Value} {an od : Option Addr}
  {osl : Array (Option Value)} {N ps : List Str} {p0 p1 apos cpos epos : Pos} {e : Expr} {es : List Expr} {fa : DL} {b : DS} {cs : String} {F : DF} {ar : Arg} {pl : Sem Bool}
theorem superG (lk : K.lookup f = some ⟨oc, od, .func (PySem.W.ksFn name qual params (.Expr (.Call (.Attribute (.Call (.Name "super" p0) [] [] p1) "__init__" apos) (e :: es) [] cpos) epos :: rest) scope .none .none doc pm an (.ref cda) ct cc), osl⟩)
    (hcd : PySem.W.codeIn K (.ref cda) qual = true) (S : ScopeS N ps scope) (hps : ps[0]? = some ar.arg) (hpar : (params.posonlyargs ++ params.args).head? = some ar)
    (hks : scope.names.lookup ("super" : Str) = some .globalImplicit) (hkc : scope.names.lookup ("__class__" : Str) = some .free)
    (U : SupK P w K mg base g cda cc D cs k F)
    (hev : ∀ env, eval (.Call (.Attribute (.Call (.Name "super" p0) [] [] p1) "__init__" apos) (e :: es) [] cpos) env = (do
      let ov ← attributeBase (.Call (.Name "super" p0) [] [] p1) "__init__" env (eval (.Call (.Name "super" p0) [] [] p1) env)
      standAt apos.atName
      let (f, first) ← holding [ov] (getMethod ov "__init__" pl)
      callWith cpos f first (backTo cpos (starEach (e :: es) env)) []))
    (hsw : ∀ env, swapsWith (.Call (.Attribute (.Call (.Name "super" p0) [] [] p1) "__init__" apos) (e :: es) [] cpos) none epos.line env = pure false)
    (hb : ∀ (A : Around) (outer : List Env) (s : Shared) (H : Hp) (E : XK), Rm k (A.deeper (PySem.W.ksEnv qual scope s.heap.objs.size f (.ref cda) cc)) →
      Takes (cxS P w K mg base N qual scope f cda cc A outer s H E) (fun cls d _ H => E cls d H) →
      PassesOwn (model P w) (A.deeper (PySem.W.ksEnv qual scope s.heap.objs.size f (.ref cda) cc)) (PySem.W.ksEnv qual scope s.heap.objs.size f (.ref cda) cc) (cxS P w K mg base N qual scope f cda cc A outer s H E).xe →
      SA g (cxS P w K mg base N qual scope f cda cc A outer s H E) (fun cls d _ H => E cls d H) (e :: es) fa ∧
      SSs g (cxS P w K mg base N qual scope f cda cc A outer s H E) (fun cls d _ H => E cls d H) rest b)
    (hst : ∀ env, starEach (e :: es) env = (false, eval e env) :: starEach es env) (hpl : ∀ env, (backTo cpos (starEach es env)).any (·.1) = false) :
    FnG P w K mg base (k + 1) f (PySem.W.ksFn name qual params (.Expr (.Call (.Attribute (.Call (.Name "super" p0) [] [] p1) "__init__" apos) (e :: es) [] cpos) epos :: rest) scope .none .none doc pm an (.ref cda) ct cc) ps (spOf g (defn ps.length N.length (sSeq (sSuper cs F fa) b)) ps.length) := by
  refine ⟨fun vs H Q E h => h.1, fun A outer s H args us vs Q E hr e0 hbd r hsp => ?_⟩
  obtain ⟨hl, ws, m, ρ, S0, rv, o⟩ := hsp
  obtain ⟨f2, fd2, ps2, hnx, hty, hfn, hb2, ari, FO⟩ := U.nxt
  obtain ⟨ccl, cdd, cvs, ccs, file, tf, hcode, hvs, hfile⟩ := U.code
  obtain ⟨ocl, ocd, ocs, hcell⟩ := U.cell
  obtain ⟨cdD, hD⟩ := U.cls
  have hlw : ws.length = ps.length := by rw [rv.length]; exact hl
  have hlu : us.length = ps.length := by rw [← r.length]; exact hl
  have KX : K.In s.heap := e0.mod.kin.keeps fun b o e => (e0.bs b o e).1
  have lim : s.heap.NoLimit := e0.mod.nolimit.keeps fun b o e => (e0.bs b o e).1
  have hloc : ∀ y ∈ ps.zip us, scope.names.lookup y.1 = some .local := fun ⟨n, v⟩ hy => S.par n (List.of_mem_zip hy).1
  refine ks_codeAny_call_defAt (fd := PySem.W.ksFn name qual params (.Expr (.Call (.Attribute (.Call (.Name "super" p0) [] [] p1) "__init__" apos) (e :: es) [] cpos) epos :: rest) scope .none .none doc pm an (.ref cda) ct cc) (binds := ps.zip us) hr.r.depth (KX _ _ lk) rfl lim
    (PySem.W.codeRec_of KX hcd) rfl hbd S.nocell hloc (fun h0 hns hk => ?_) S.co S.gen S.kind
  show _root_.PySem.wpAt (model P w) (A.deeper (PySem.W.ksEnv qual scope s.heap.objs.size f (.ref cda) cc)) (.func (.Expr (.Call (.Attribute (.Call (.Name "super" p0) [] [] p1) "__init__" apos) (e :: es) [] cpos) epos :: rest) (PySem.W.ksEnv qual scope s.heap.objs.size f (.ref cda) cc))
    (execs (.Expr (.Call (.Attribute (.Call (.Name "super" p0) [] [] p1) "__init__" apos) (e :: es) [] cpos) epos :: rest) (PySem.W.ksEnv qual scope s.heap.objs.size f (.ref cda) cc)) _ _ _
  have hrd : Rm k (A.deeper (PySem.W.ksEnv qual scope s.heap.objs.size f (.ref cda) cc)) := hr.deeper _
  have I : Inv (cxS P w K mg base N qual scope f cda cc A outer s H E) [] (L2.start N vs) H { s with heap := h0, toks := s.toks + (ps.zip us).length } := inv_startS S hr.r.hd e0 hl r hcell rfl hns hk
  have tk : Takes (cxS P w K mg base N qual scope f cda cc A outer s H E) (fun cls d _ H => E cls d H) := takes_of rfl rfl rfl rfl
  obtain ⟨hSA, hSS⟩ := hb A outer s H E hrd tk (passes_of rfl)
  have KX0 : K.In h0 := I.kIn
  have L : LR g ρ H (ws.map some ++ List.replicate (N.length - ps.length) none) (L2.start N vs) := LR.start rv hlw (by have := congrArg List.length S.pre; rw [List.length_take] at this; omega)
  unfold defn at o
  rw [if_pos hlw] at o
  -- the receiver
  obtain ⟨hp0, _⟩ := List.getElem?_eq_some_iff.mp hps
  have hw0 : 0 < ws.length := by omega
  obtain ⟨w0, hw⟩ : ∃ w0, ws[0]? = some w0 := ⟨_, List.getElem?_eq_getElem hw0⟩
  have hσ0 : (ws.map some ++ List.replicate (N.length - ps.length) none)[0]? = some (some w0) := by
    rw [List.getElem?_append_left (by simpa using hw0), List.getElem?_map, hw]; rfl
  obtain ⟨v0, hv0, rv0⟩ := rv.get hw
  obtain ⟨u0, hu0, ru0⟩ := r.get hv0
  have o : OutC g ρ H (match sSeq (sSuper cs F fa) b (ws.map some ++ List.replicate (N.length - ps.length) none) m with
    | .rt w m' => .ok w m'
    | .nx _ m' => .ok .non m'
    | .exc c fs _ m' => .exc c fs m'
    | _ => .bad) Q E := o
  have hsup : ∃ n x dx gs fs, w0 = .ref n ∧ v0 = .ref x ∧ ρ[n]? = some x ∧ m[n]? = some (.ins cs fs) ∧ H x = some (.ins (g.cl cs) dx gs) := by
    unfold sSeq sSuper at o
    rw [hσ0] at o
    cases w0 with
    | ref n =>
      cases rv0 with
      | @ref n x hx =>
        cases hm : m[n]? with
        | none => simp only [hm] at o; exact o.elim
        | some ob =>
          cases ob with
          | ins c fs =>
            simp only [hm] at o
            by_cases hc : c = cs
            · subst hc
              obtain ⟨u1, h1, dx, gs, e1, _⟩ := S0.obj n x _ hx hm
              subst e1
              exact ⟨n, x, dx, gs, fs, rfl, rfl, hx, hm, h1⟩
            · rw [if_neg hc] at o; exact o.elim
          | _ => simp only [hm] at o; exact o.elim
    | _ => exact o.elim
  obtain ⟨n, x, dx, gs, fs, rfl, rfl, hx, hm, hHx⟩ := hsup
  obtain rfl : u0 = Value.ref x := ru0
  have oS : OutT g (fun cls d _ H => E cls d H) ρ H (sSeq (sSuper cs F fa) b (ws.map some ++ List.replicate (N.length - ps.length) none) m) { nx := fun _ H' => Q .non H', rt := Q } := by
    cases hrs : sSeq (sSuper cs F fa) b (ws.map some ++ List.replicate (N.length - ps.length) none) m with
    | nx σ' m' => rw [hrs] at o; exact fun ρ' H' τ' P' S' L' => o ρ' H' .non P' S' .non
    | rt w m' => rw [hrs] at o; exact fun ρ' H' v P' S' r => o ρ' H' v P' S' r
    | bk σ' m' => rw [hrs] at o; exact o.elim
    | ct σ' m' => rw [hrs] at o; exact o.elim
    | exc c fs σ' m' => rw [hrs] at o; exact fun ρ' H' τ' d gs P' S' L' h1 h2 => o ρ' H' d gs P' S' h1 h2
    | bad => rw [hrs] at o; exact o.elim
  have oS1 := oS.seq S0
  have oS2 : OutT g (fun cls d _ H => E cls d H) ρ H (RS.of (ws.map some ++ List.replicate (N.length - ps.length) none) (fa (ws.map some ++ List.replicate (N.length - ps.length) none) m) fun ws' m1 => RS.of (ws.map some ++ List.replicate (N.length - ps.length) none) (F (.ref n :: ws') m1) fun _ m2 => .nx (ws.map some ++ List.replicate (N.length - ps.length) none) m2) { ({ nx := fun _ H' => Q .non H', rt := Q } : Ends) with nx := tsOf g (fun cls d _ H => E cls d H) b { nx := fun _ H' => Q .non H', rt := Q } } := by
    have e1 : sSuper cs F fa (ws.map some ++ List.replicate (N.length - ps.length) none) m = RS.of (ws.map some ++ List.replicate (N.length - ps.length) none) (fa (ws.map some ++ List.replicate (N.length - ps.length) none) m) fun ws' m1 => RS.of (ws.map some ++ List.replicate (N.length - ps.length) none) (F (.ref n :: ws') m1) fun _ m2 => .nx (ws.map some ++ List.replicate (N.length - ps.length) none) m2 := by
      unfold sSuper
      rw [hσ0]
      simp only [hm, if_true]
    rw [← e1]; exact oS1
  have oA := oS2.of S0 L
  obtain ⟨mA, O, _, _, _, _⟩ := ins_get I.hok hHx
  obtain ⟨od', J, _⟩ := O.look
  obtain ⟨oD, hD1, hD2⟩ : ∃ oD, h0.get? D = some oD ∧ oD.data = .cls cdD := by
    unfold PySem.W.clsIn at hD
    split at hD
    · rename_i c d cd' sl ho
      cases hD
      exact ⟨_, KX0 _ _ ho, rfl⟩
    · cases hD
  refine ks_wpAt_execs_cons (ks_wpAt_Expr_any (ks_wpAt_MethodCall (pl := pl) ?_ (hev _)) (by have := I.quiet; exact this) (hsw _))
  refine ks_wpAt_super_base (env := PySem.W.ksEnv qual scope s.heap.objs.size f (.ref cda) cc) hks hkc (by decide +kernel) rfl (KX0 _ _ lk) rfl hpar rfl (KX0 _ _ hcode) rfl hvs hfile U.top ?_
  obtain ⟨mb, hbn, hbv⟩ := I.mod.blt
  refine PySem.W.ks_loadName_global S.kind hks (Calls.loadGlobal_builtin (env := PySem.W.ksEnv qual scope s.heap.objs.size f (.ref cda) cc) (I.mod.glob.keeps I.bk) U.sup (hbn.keeps I.bk) ((hbv ("super" : Str) (by decide +kernel)).trans (show bootBuiltins ("super" : Str) = some (Value.type "super") by first | rfl | decide +kernel | kernel_rfl)) ⟨rfl, ?_⟩)
  refine wpAny_loadName_free S.kind hkc rfl ⟨_, KX0 _ _ hcell, rfl⟩ ?_
  have hself : (ps.zip us).reverse.lookup ar.arg = some (Value.ref x) := lookup_rev (by rw [← S.pre]; exact S.nd.sublist (List.take_sublist _ _)) hlu.symm hps hu0
  refine wpAny_loadName_local S.kind (S.par _ (List.mem_of_getElem? hps)) hns hself ?_
  refine ks_wpAny_isType_cls hD1 hD2 ⟨rfl, ?_⟩
  refine ks_wpAny_call_super hD1 hD2 J.at_ J.cls (fun c e => ?_) (PySem.W.looks_mroIn KX0 U.sub) (fun h' e1 k1 => ?_)
  · have := J.no
    unfold PySem.W.notCls at this
    rw [e] at this
    exact Bool.noConfusion this
  have I2 : Inv (cxS P w K mg base N qual scope f cda cc A outer s H E) [] (L2.start N vs) H { s with heap := h', toks := s.toks + (ps.zip us).length } := I.kept (t' := s.toks + (ps.zip us).length) k1
  have KX2 : K.In h' := I2.kIn
  obtain ⟨of, hof, hofc⟩ : ∃ of, h'.get? f2 = some of ∧ of.cls = .type "function" := by
    have ht' : (K.lookup f2).map (·.cls) = some (.type "function") := hty
    cases z : K.lookup f2 with
    | none => rw [z] at ht'; cases ht'
    | some of => rw [z] at ht'; exact ⟨of, KX2 _ _ z, Option.some.inj ht'⟩
  obtain ⟨cdc, hcc, hal⟩ : ∃ cdc, PySem.W.clsIn K (g.cl cs) = some cdc ∧ PySem.W.alongIn K "__init__" ((cdc.mro.dropWhile (· != .ref D)).drop 1) = some (some (.ref f2)) := by
    have h2 := hnx
    unfold PySem.W.ks_superIn at h2
    cases z : PySem.W.clsIn K (g.cl cs) with
    | none => rw [z] at h2; cases h2
    | some cd => rw [z] at h2; exact ⟨cd, rfl, h2⟩
  obtain ⟨mA2, O2, _, _, _, _⟩ := ins_get I2.hok hHx
  obtain ⟨od2, J2, _⟩ := O2.look
  refine ks_wpAny_getMethod_super e1 (PySem.W.looks_opaque KX2 U.stat) (l₀ := cdc.mro) (fun A Q E s k q => wpAny_bind ((PySem.W.looks_clsIn KX2 hcc) A _ E s k (wpAny_pure q))) rfl KX2 hal hof hofc (PySem.W.ks_ne KX2 J2 hcc) (by decide +kernel) ?_
  -- the bound method stands at the heap's end
  have hq0 : H h'.objs.size = none := I2.hok.fresh (Nat.le_refl _)
  have I3a : Inv (cxS P w K mg base N qual scope f cda cc A outer s H E) [] (L2.start N vs) H { s with heap := h'.push { cls := .type "method", data := .fields #[.ref f2, .ref x] }, toks := s.toks + (ps.zip us).length + 1 } := I2.kept (t' := s.toks + (ps.zip us).length + 1) fun b u q => Heap.get?_push_of_some _ q
  have hq1 : (h'.push { cls := .type "method", data := .fields #[.ref f2, .ref x] }).get? h'.objs.size = some (PySem.W.methodObj (.ref f2) (.ref x)) := Heap.get?_push_size h' rfl
  have I3 : Inv (cxS P w K mg base N qual scope f cda cc A outer s H E) [(h'.objs.size, PySem.W.methodObj (.ref f2) (.ref x))] (L2.start N vs) H { s with heap := h'.push { cls := .type "method", data := .fields #[.ref f2, .ref x] }, toks := s.toks + (ps.zip us).length + 1 } :=
    I3a.pins_of fun p hp => by
      have hp : p = (h'.objs.size, PySem.W.methodObj (.ref f2) (.ref x)) := by simpa using hp
      subst hp
      have fo := I2.fpOk (H' := H) (b := h'.objs.size) (Nat.le_refl _) hq0
      exact ⟨hq1, hq0, fo.2.1, fo.2.2.1, fun v z => by cases z⟩
  show wpAny _ _ (callWith cpos (.ref h'.objs.size) [] (backTo cpos (starEach (e :: es) (PySem.W.ksEnv qual scope s.heap.objs.size f (.ref cda) cc))) []) _ _ _
  rw [hst]
  refine PySem.W.callWith_of (P := PySem.W.MethP K h'.objs.size f2 (.ref x)) (by show ((false || (backTo cpos (starEach es _)).any (·.1)) || false) = false; rw [hpl]; rfl) (PySem.W.keeps_M hfn) (Calls.evalArgs_plain ?_)
  have key := fun Q' ho => (hst (PySem.W.ksEnv qual scope s.heap.objs.size f (.ref cda) cc)) ▸ (show wpAny (model P w) (A.deeper (PySem.W.ksEnv qual scope s.heap.objs.size f (.ref cda) cc)) (spliced (backTo cpos (starEach (e :: es) (PySem.W.ksEnv qual scope s.heap.objs.size f (.ref cda) cc)))) Q' (cxS P w K mg base N qual scope f cda cc A outer s H E).xe _ from
    hSA.run cpos [(h'.objs.size, PySem.W.methodObj (.ref f2) (.ref x))] _ (ws.map some ++ List.replicate (N.length - ps.length) none) m ρ H (L2.start N vs) Q' I3 S0 L ho)
  refine key _ (oA.imp fun ws' m1 ρ1 H1 P1 S1 o1 vs' us' s4 I4 rv' ru' => ?_)
  have pin := I4.pin (h'.objs.size, PySem.W.methodObj (.ref f2) (.ref x)) (List.mem_append_right _ (List.mem_singleton.mpr rfl))
  refine ⟨⟨pin.1, I4.kIn⟩, ?_⟩
  have L1 := L.post S0 P1
  have oF := o1.of S1 L1
  have hlF : (W.ref n :: ws').length = ps2.length := by
    rcases ari.or (.ref n :: ws') m1 with h | h
    · exact h
    · rw [h] at oF; exact oF.elim
  have rs : VRs g ρ1 H1 (.ref n :: ws') (.ref x :: vs') := .cons (.ref (P1.get hx)) rv'
  have hlV : (V.ref x :: vs').length = ps2.length := by rw [← rs.length]; exact hlF
  have hlU : (Value.ref x :: us').length = ps2.length := by rw [← hlV]; simp [ru'.length]
  have hbd2 := hb2 s4 (.ref x :: us') I4.kIn (by rw [List.append_nil]; exact hlU)
  rw [List.append_nil] at hbd2
  have fin : ∀ {pins : List (Addr × Obj)} {σ' : L2.St} {H' : Hp} {s' : Shared} {v : V} {u : Value}, Inv (cxS P w K mg base N qual scope f cda cc A outer s H E) pins σ' H' s' → RelV v u → Q v H' → CE outer P w H s Q u s' :=
    fun {pins σ' H' s' v u} J rv q => ⟨v, H', J.os, J.bare, J.base, J.hok, rv, q⟩
  refine wpAny_call (PySem.W.method_call pin.1 (codeAny_mono (FO.run (cxS P w K mg base N qual scope f cda cc A outer s H E).A (cxS P w K mg base N qual scope f cda cc A outer s H E).stack s4 H1 ⟨.ref x :: us', []⟩ (.ref x :: us') (.ref x :: vs')
    (fun v H' => tsOf g (fun cls d _ H => E cls d H) b { nx := fun _ H' => Q .non H', rt := Q } (L2.start N vs) H') (fun c d H' => E c d H') hrd I4.env0 hbd2 (.cons rfl ru') ⟨hlV, .ref n :: ws', m1, ρ1, S1, rs, ?_⟩) fun r' s' hq => ?_))
  · cases hF : F (.ref n :: ws') m1 with
    | ok w m2 => rw [hF] at oF; exact fun ρ' H' v P' S' rv => oF ρ' H' P' S' ρ' H' (L2.start N vs) Post.refl S' (L1.post S1 P')
    | exc c fs m2 => rw [hF] at oF; exact fun ρ' H' d gs P' S' h1 h2 => oF ρ' H' d gs P' S' h1 h2
    | bad => rw [hF] at oF; exact oF
  · cases r' with
    | error e => exact tk e s' (XE.of_call I4 (fun cls d H' h => h) hq)
    | ok fl =>
      cases fl with
      | ret u =>
        obtain ⟨v, H', I5, rv5, q⟩ := I4.after hq
        refine wpAt_of_wpAny (wpAny_mono (hSS.run _ s' (L2.start N vs) H' _ I5 q) (fun fl s6 hs => ?_) fun e s6 hs => hs)
        cases fl with
        | ret u =>
          obtain ⟨v, σ', H', J, rv, q⟩ := hs
          exact fin J rv q
        | next =>
          obtain ⟨σ', H', J, q⟩ := hs
          exact fin (v := V.non) (u := Value.none) J rfl q
        | brk =>
          obtain ⟨_, _, _, q⟩ := hs
          exact False.elim q
        | cont =>
          obtain ⟨_, _, _, q⟩ := hs
          exact False.elim q
      | next => exact False.elim hq
      | brk => exact False.elim hq
      | cont => exact False.elim hq
end
end Sh

namespace Sh
open PySem PySem.Spec L2
open PyProof.Rows (envOfC)

/-! ### numbers -/
/-- a bound for factors -/
def big : Nat := 2 ^ 20000
def wAdd (x y : W) (m : Mem) : R W := match x, y with
  | .int i, .int j => .ok (.int (i + j)) m
  | .str a, .str b => if a.length + b.length ≤ 1000000 then .ok (.str (a ++ b)) m else .bad
  | .ref a, .ref b => match m[a]?, m[b]? with
    | some (.lst xs), some (.lst ys) => if xs.length + ys.length ≤ 1000000 then .ok (.ref m.length) (m ++ [.lst (xs ++ ys)]) else .bad
    | _, _ => .bad
  | .tup (a :: as), .tup (b :: bs) => if (a :: as).length + (b :: bs).length ≤ 1000000 then .ok (.tup ((a :: as) ++ (b :: bs))) m else .bad
  | _, _ => .bad
def wSub (x y : W) (m : Mem) : R W := match x, y with
  | .int i, .int j => .ok (.int (i - j)) m
  | _, _ => .bad
def wMul (x y : W) (m : Mem) : R W := match x, y with
  | .int i, .int j => if i.natAbs < big ∧ j.natAbs < big then .ok (.int (i * j)) m else .bad
  | _, _ => .bad
def wMod (x y : W) (m : Mem) : R W := match x, y with
  | .int i, .int j => if 0 < j then .ok (.int (i % j)) m else .bad
  | _, _ => .bad
def wDiv (x y : W) (m : Mem) : R W := match x, y with
  | .int i, .int j => if 0 < j ∧ j < 1073741824 then .ok (.int (i / j)) m else .bad
  | _, _ => .bad
def wPow (x y : W) (m : Mem) : R W := match x, y with
  | .int i, .int j => if 0 ≤ j ∧ j ≤ 1000 ∧ i.natAbs < 1000000 then .ok (.int (i ^ j.toNat)) m else .bad
  | _, _ => .bad
def wNeg (x : W) (m : Mem) : R W := match x with
  | .int i => .ok (.int (-i)) m
  | _ => .bad
def wLt (x y : W) (m : Mem) : R W := match x, y with
  | .int i, .int j => .ok (.bl (decide (i < j))) m
  | _, _ => .bad
def wLe (x y : W) (m : Mem) : R W := match x, y with
  | .int i, .int j => .ok (.bl (decide (i ≤ j))) m
  | _, _ => .bad
def wGt (x y : W) (m : Mem) : R W := match x, y with
  | .int i, .int j => .ok (.bl (decide (j < i))) m
  | _, _ => .bad
def wGe (x y : W) (m : Mem) : R W := match x, y with
  | .int i, .int j => .ok (.bl (decide (j ≤ i))) m
  | _, _ => .bad
def isNon : W → Bool | .non => true | _ => false
def wIsN (x y : W) (m : Mem) : R W := match y with
  | .non => .ok (.bl (isNon x)) m
  | _ => .bad
def wNotN (x y : W) (m : Mem) : R W := match y with
  | .non => .ok (.bl (!isNon x)) m
  | _ => .bad
section
variable {g : G} {X : Cx} {wx : WX} {τ : L2.St} {ρ ρ' : List Addr} {H H' : Hp} {m m' : Mem} {e : Expr} {pins : List (Addr × Obj)} {s : Shared}
theorem big_log {n : Nat} (h : n < big) : n.log2 < 20000 := PySem.Flt.log2_lt_of (by decide) h
theorem Out.ok0 {τ : L2.St} {b : W} {Q : VK} (S : Sim g ρ m H) (o : Out g wx τ ρ H (.ok b m) (fun w m' ρ' H' => ∀ v, VR g ρ' H' w v → Q v H')) {v : V} (r : VR g ρ H b v) : Q v H := Out.here o S v r
theorem f_sub : F2 g X wx (binaryOp .Sub) wSub := F2.ofR fun m ρ H τ x y v z Q S rx ry o => by
  unfold wSub at o
  split at o
  · cases rx; cases ry; exact ⟨_, op_sub, _, _, rfl, rfl, Out.ok0 S o (.int _)⟩
  · exact o.elim
theorem f_mul : F2 g X wx (binaryOp .Mult) wMul := F2.ofR fun m ρ H τ x y v z Q S rx ry o => by
  unfold wMul at o
  split at o
  · split at o
    · rename_i h
      cases rx; cases ry
      refine ⟨_, op_mulW, _, _, rfl, rfl, ?_, Out.ok0 S o (.int _)⟩
      have h1 := big_log h.1
      have h2 := big_log h.2
      show _ + _ < 1000000
      omega
    · exact o.elim
  · exact o.elim
theorem f_mod : F2 g X wx (binaryOp .Mod) wMod := F2.ofR fun m ρ H τ x y v z Q S rx ry o => by
  unfold wMod at o
  split at o
  · split at o
    · rename_i h
      cases rx; cases ry
      exact ⟨_, op_mod, _, _, rfl, rfl, h, Out.ok0 S o (.int _)⟩
    · exact o.elim
  · exact o.elim
theorem f_div : F2 g X wx (binaryOp .FloorDiv) wDiv := F2.ofR fun m ρ H τ x y v z Q S rx ry o => by
  unfold wDiv at o
  split at o
  · split at o
    · rename_i h
      cases rx; cases ry
      exact ⟨_, op_fdiv, _, _, rfl, rfl, h, Out.ok0 S o (.int _)⟩
    · exact o.elim
  · exact o.elim
theorem f_pow : F2 g X wx (binaryOp .Pow) wPow := F2.ofR fun m ρ H τ x y v z Q S rx ry o => by
  unfold wPow at o
  split at o
  · split at o
    · rename_i h
      cases rx; cases ry
      refine ⟨_, op_pow, _, _, rfl, rfl, ⟨h.1, by omega, ?_⟩, Out.ok0 S o (.int _)⟩
      have : (1000000 : Nat) < 2 ^ 64 := by decide
      omega
    · exact o.elim
  · exact o.elim
theorem f_lt : F2 g X wx (compareOp .Lt) wLt := F2.ofR fun m ρ H τ x y v z Q S rx ry o => by
  unfold wLt at o
  split at o
  · cases rx; cases ry; exact ⟨_, op_lt, _, _, rfl, rfl, Out.ok0 S o (.bl _)⟩
  · exact o.elim
theorem f_le : F2 g X wx (compareOp .LtE) wLe := F2.ofR fun m ρ H τ x y v z Q S rx ry o => by
  unfold wLe at o
  split at o
  · cases rx; cases ry; exact ⟨_, op_le, _, _, rfl, rfl, Out.ok0 S o (.bl _)⟩
  · exact o.elim
theorem f_gt : F2 g X wx (compareOp .Gt) wGt := F2.ofR fun m ρ H τ x y v z Q S rx ry o => by
  unfold wGt at o
  split at o
  · cases rx; cases ry; exact ⟨_, op_gt, _, _, rfl, rfl, Out.ok0 S o (.bl _)⟩
  · exact o.elim
theorem f_ge : F2 g X wx (compareOp .GtE) wGe := F2.ofR fun m ρ H τ x y v z Q S rx ry o => by
  unfold wGe at o
  split at o
  · cases rx; cases ry; exact ⟨_, op_ge, _, _, rfl, rfl, Out.ok0 S o (.bl _)⟩
  · exact o.elim
theorem f_isN : F2 g X wx (compareOp .Is) wIsN := F2.ofR fun m ρ H τ x y v z Q S rx ry o => by
  unfold wIsN at o
  split at o
  · cases ry
    have e : decide (v = V.non) = isNon x := by cases rx <;> rfl
    exact ⟨_, op_isN, rfl, by rw [e]; exact Out.ok0 S o (.bl _)⟩
  · exact o.elim
theorem f_notN : F2 g X wx (compareOp .IsNot) wNotN := F2.ofR fun m ρ H τ x y v z Q S rx ry o => by
  unfold wNotN at o
  split at o
  · cases ry
    have e : (!decide (v = V.non)) = !isNon x := by cases rx <;> rfl
    exact ⟨_, op_notN, rfl, by rw [e]; exact Out.ok0 S o (.bl _)⟩
  · exact o.elim
theorem f_neg : F1 g X wx (unaryOp .USub) wNeg := by
  refine ⟨fun pins s m ρ H τ x v u Q I S rx ru o => ?_⟩
  unfold wNeg at o
  split at o
  · cases rx
    exact thn (un_neg pins s τ H _ _ (fun v H' => ∀ u s', Inv X pins τ H' s' → RelV v u → Q u s') I ru ⟨_, rfl, fun u s' I' ru' => Out.here o S _ u s' I' (.int _) ru'⟩) fun u1 s1 ⟨v1, H1, I1, r1, q⟩ => q u1 s1 I1 r1
  · exact o.elim
/-- lists joined: both stand in H -/
theorem obj_lst {n : Nat} {a : Addr} {xs : List W} (S : Sim g ρ m H) (ha : ρ[n]? = some a) (hm : m[n]? = some (.lst xs)) : ∃ vs, H a = some (.lst vs) ∧ VRs g ρ H xs vs := by
  obtain ⟨u, h1, vs, e1, r1⟩ := S.obj n a _ ha hm
  subst e1
  exact ⟨vs, h1, r1⟩
theorem f_add (hK : X.K = g.K) : F2 g X wx (binaryOp .Add) wAdd := F2.ofR fun m ρ H τ x y v z Q S rx ry o => by
  unfold wAdd at o
  split at o
  · cases rx; cases ry; exact ⟨_, op_add, _, _, rfl, rfl, Out.ok0 S o (.int _)⟩
  · split at o
    · rename_i a b h
      cases rx; cases ry
      refine ⟨_, op_add_str, _, _, rfl, rfl, by rw [S_len, S_len, sizeLine_eq]; omega, ?_⟩
      have e : (Sh.S a ++ Sh.S b : Str) = Sh.S (a ++ b) := by
        show Str.mk _ = Str.mk _
        simp
      rw [e]
      exact Out.ok0 S o (.str _)
    · exact o.elim
  · rename_i a b
    cases rx with
    | @ref _ p hp =>
      cases ry with
      | @ref _ q hq =>
        split at o
        · rename_i xs ys hx hy
          split at o
          · rename_i hl
            obtain ⟨vs, h1, r1⟩ := obj_lst S hp hx
            obtain ⟨us, h2, r2⟩ := obj_lst S hq hy
            refine ⟨_, op_cat, p, q, vs, us, rfl, rfl, h1, h2, by rw [← r1.length, ← r2.length, sizeLine_eq]; omega, fun d hd => ?_⟩
            obtain ⟨P2, S2⟩ := S.push (o := .lst (xs ++ ys)) (u := .lst (vs ++ us)) hd ⟨_, rfl, r1.append r2⟩
            exact o _ _ P2 S2 _ (.ref (by rw [← S.len]; simp))
          · exact o.elim
        · exact o.elim
  · rename_i a as b bs
    split at o
    · rename_i hl
      cases rx with
      | @tup _ vs p hp r1 =>
        cases ry with
        | @tup _ us q hq r2 =>
          have hp' : SqT X.K H p vs := by rw [hK]; exact hp
          have hq' : SqT X.K H q us := by rw [hK]; exact hq
          refine ⟨_, op_catT, p, q, vs, us, rfl, rfl, hp', hq', ?_, by rw [← r1.length, ← r2.length, sizeLine_eq]; simp only [List.length_cons] at hl ⊢; omega, fun z => ?_, fun z d hd => ?_⟩
          · intro z; rw [z] at r1; cases r1
          · rw [z] at r2; cases r2
          · obtain ⟨P2, S2⟩ := S.junk (u := .tup (vs ++ us)) hd
            exact o _ _ P2 S2 _ (.tup (SqT.of upd_same) ((r1.append r2).post S P2))
    · exact o.elim
  · exact o.elim

/-! ### equality of data -/
mutual
def dat (m : Mem) : Nat → W → Option PyData
  | _, .non => some .none
  | _, .bl b => some (.bool b)
  | _, .int i => some (.int i)
  | _, .str l => some (.str (Sh.S l))
  | 0, _ => none
  | d + 1, .tup ws => (dats m d ws).map .tuple
  | d + 1, .ref n => match m[n]? with
    | some (.lst ws) => (dats m d ws).map .list
    | _ => none
  | _ + 1, _ => none
def dats (m : Mem) : Nat → List W → Option (List PyData)
  | _, [] => some []
  | d, w :: ws => match dat m d w, dats m d ws with
    | some x, some xs => some (x :: xs)
    | _, _ => none
end
mutual
theorem dat_ok (hK : X.K = g.K) (S : Sim g ρ m H) : ∀ (d : Nat) (w : W) (v : V) (x : PyData), VR g ρ H w v → dat m d w = some x → Dp X.K H v x
  | d, .non, v, x, r, e => by
    cases r
    have e : some PyData.none = some x := by cases d <;> (simp only [dat] at e; exact e)
    cases e; exact .non
  | d, .bl b, v, x, r, e => by
    cases r
    have e : some (PyData.bool b) = some x := by cases d <;> (simp only [dat] at e; exact e)
    cases e; exact .bl b
  | d, .int i, v, x, r, e => by
    cases r
    have e : some (PyData.int i) = some x := by cases d <;> (simp only [dat] at e; exact e)
    cases e; exact .int i
  | d, .str l, v, x, r, e => by
    cases r
    have e : some (PyData.str (Sh.S l)) = some x := by cases d <;> (simp only [dat] at e; exact e)
    cases e; exact .str _
  | 0, .tup ws, v, x, r, e => by simp [dat] at e
  | 0, .ref n, v, x, r, e => by simp [dat] at e
  | d + 1, .tup ws, v, x, r, e => by
    simp only [dat] at e
    cases q : dats m d ws with
    | none => rw [q] at e; cases e
    | some xs =>
      rw [q] at e; cases e
      cases r with
      | tup h rv => exact .tup (by rw [hK]; exact h) (dats_ok hK S d ws _ xs rv q)
  | d + 1, .ref n, v, x, r, e => by
    simp only [dat] at e
    split at e
    · rename_i ws hm
      cases q : dats m d ws with
      | none => rw [q] at e; cases e
      | some xs =>
        rw [q] at e; cases e
        cases r with
        | ref h =>
          obtain ⟨vs, h1, r1⟩ := obj_lst S h hm
          exact .lst (SqL.of h1) (dats_ok hK S d ws vs xs r1 q)
    · cases e
  | d, .frz ws, v, x, r, e => by cases d <;> simp [dat] at e
  | d, .cls c, v, x, r, e => by cases d <;> simp [dat] at e
  | d, .ty c, v, x, r, e => by cases d <;> simp [dat] at e
theorem dats_ok (hK : X.K = g.K) (S : Sim g ρ m H) : ∀ (d : Nat) (ws : List W) (vs : List V) (xs : List PyData), VRs g ρ H ws vs → dats m d ws = some xs → DpAll X.K H vs xs
  | d, [], vs, xs, r, e => by
    cases r
    have e : some ([] : List PyData) = some xs := by cases d <;> (simp only [dats] at e; exact e)
    cases e; exact .nil
  | d, w :: ws, vs, xs, r, e => by
    cases r with
    | cons h rv =>
      have e : (match dat m d w, dats m d ws with | some x, some xs => some (x :: xs) | _, _ => none) = some xs := by cases d <;> (simp only [dats] at e; exact e)
      split at e
      · rename_i x xs' h1 h2
        cases e
        exact .cons (dat_ok hK S d w _ x h h1) (dats_ok hK S d ws _ xs' rv h2)
      · cases e
end
/-- == of data -/
def eqD (x y : W) (m : Mem) : R Bool := match dat m 30 x, dat m 30 y with
  | some a, some b => if SeqAt.shaped a = true ∧ SeqAt.shaped b = true then .ok (PyData.eqv a b) m else .bad
  | _, _ => .bad
def scalW : W → W → Bool
  | .non, .non => true | .non, .int _ => true | .int _, .non => true | .non, .bl _ => true | .bl _, .non => true | .non, .str _ => true | .str _, .non => true
  | .int _, .int _ => true | .bl _, .bl _ => true | .str _, .str _ => true
  | .int _, .str _ => true | .str _, .int _ => true | .bl _, .str _ => true | .str _, .bl _ => true
  | _, _ => false
def eqS : W → W → Bool
  | .non, .non => true
  | .int i, .int j => decide (i = j)
  | .bl i, .bl j => i == j
  | .str a, .str b => decide (a = b)
  | _, _ => false
theorem scal_V {x y : W} {v z : V} (rx : VR g ρ H x v) (ry : VR g ρ H y z) (h : scalW x y = true) : L2.scal v z = true ∧ decide (v = z) = eqS x y := by
  cases x <;> cases y <;> simp [scalW] at h <;> cases rx <;> cases ry <;> refine ⟨rfl, ?_⟩ <;> simp [eqS]
  · rename_i a b
    cases a <;> cases b <;> rfl
/-- == of scalars, of data -/
def eqB0 (x y : W) (m : Mem) : R Bool := if scalW x y = true then .ok (eqS x y) m else eqD x y m
def wEq0 (x y : W) (m : Mem) : R W := (eqB0 x y m).bind fun b m1 => .ok (.bl b) m1
def wNe0 (x y : W) (m : Mem) : R W := (eqB0 x y m).bind fun b m1 => .ok (.bl (!b)) m1
theorem eqD_cases {x y : W} {m : Mem} : (∃ a b, dat m 30 x = some a ∧ dat m 30 y = some b ∧ SeqAt.shaped a = true ∧ SeqAt.shaped b = true ∧ eqD x y m = .ok (PyData.eqv a b) m) ∨ eqD x y m = .bad := by
  unfold eqD
  split
  · rename_i a b h1 h2
    split
    · rename_i h; exact .inl ⟨a, b, h1, h2, h.1, h.2, rfl⟩
    · exact .inr rfl
  · exact .inr rfl
theorem f_eq0 {k : Nat} (hK : X.K = g.K) (hr : Rm k X.A) : F2 g X wx (compareOp .Eq) wEq0 := F2.ofR fun m ρ H τ x y v z Q S rx ry o => by
  unfold wEq0 eqB0 at o
  split at o
  · rename_i hs
    obtain ⟨h1, h2⟩ := scal_V rx ry hs
    exact ⟨_, op_eq, h1, by rw [h2]; exact Out.ok0 S o (.bl _)⟩
  rcases eqD_cases (x := x) (y := y) (m := m) with ⟨a, b, h1, h2, h3, h4, h5⟩ | h
  · rw [h5] at o
    exact ⟨_, op_eqD hr.r.units, a, b, dat_ok hK S 30 x v a rx h1, dat_ok hK S 30 y z b ry h2, h3, h4, Out.ok0 S o (.bl _)⟩
  · rw [h] at o; exact o.elim
theorem f_ne0 {k : Nat} (hK : X.K = g.K) (hr : Rm k X.A) : F2 g X wx (compareOp .NotEq) wNe0 := F2.ofR fun m ρ H τ x y v z Q S rx ry o => by
  unfold wNe0 eqB0 at o
  split at o
  · rename_i hs
    obtain ⟨h1, h2⟩ := scal_V rx ry hs
    exact ⟨_, op_ne, h1, by rw [h2]; exact Out.ok0 S o (.bl _)⟩
  rcases eqD_cases (x := x) (y := y) (m := m) with ⟨a, b, h1, h2, h3, h4, h5⟩ | h
  · rw [h5] at o
    exact ⟨_, op_neD hr.r.units, a, b, dat_ok hK S 30 x v a rx h1, dat_ok hK S 30 y z b ry h2, h3, h4, Out.ok0 S o (.bl _)⟩
  · rw [h] at o; exact o.elim
end
end Sh

namespace Sh
open PySem PySem.Spec L2
open PyProof.Rows (envOfC)

section
variable {g : G} {X : Cx} {wx : WX} {τ : L2.St} {ρ ρ' : List Addr} {H H' : Hp} {m m' : Mem} {e a b c o : Expr} {fa fb fc fo : DE} {pos : Pos} {pins : List (Addr × Obj)} {s : Shared}
/-! ### from the layer's rules over values -/
def R1 (g : G) (wx : WX) (r : V → Hp → VK → Prop) (fn : W → Mem → R W) : Prop := ∀ (m : Mem) (ρ : List Addr) (H : Hp) (τ : L2.St) (x : W) (v : V) (Q : VK), Sim g ρ m H → VR g ρ H x v → Out g wx τ ρ H (fn x m) (fun w m' ρ' H' => ∀ v, VR g ρ' H' w v → Q v H') → r v H Q
def Rr2 (g : G) (wx : WX) (r : V → V → Hp → VK → Prop) (fn : W → W → Mem → R W) : Prop := ∀ (m : Mem) (ρ : List Addr) (H : Hp) (τ : L2.St) (x y : W) (v z : V) (Q : VK), Sim g ρ m H → VR g ρ H x v → VR g ρ H y z → Out g wx τ ρ H (fn x y m) (fun w m' ρ' H' => ∀ v, VR g ρ' H' w v → Q v H') → r v z H Q
theorem SE.un1 {r : V → Hp → VK → Prop} {fn : W → Mem → R W} (h : PE X e (fun τ H Q => teOf g wx fa τ H fun v H1 => r v H1 Q)) (hr : R1 g wx r fn) : SE g X wx e (eUn fn fa) :=
  SE.ofPE h fun σ m ρ H τ Q S L o => ⟨σ, m, ρ, S, L, (o.bind S).imp fun x m1 ρ1 H1 P1 S1 o1 v rv => hr m1 ρ1 H1 τ x v Q S1 rv o1⟩
theorem SE.bin2 {r : V → V → Hp → VK → Prop} {fn : W → W → Mem → R W} (h : PE X e (fun τ H Q => teOf g wx fa τ H fun v H1 => teOf g wx fb τ H1 fun z H2 => r v z H2 Q)) (hr : Rr2 g wx r fn) : SE g X wx e (eBin fn fa fb) :=
  SE.ofPE h fun σ m ρ H τ Q S L o => ⟨σ, m, ρ, S, L, (o.bind S).imp fun x m1 ρ1 H1 P1 S1 o1 v rv => ⟨σ, m1, ρ1, S1, L.post S P1, (o1.bind S1).imp fun y m2 ρ2 H2 P2 S2 o2 z rz => hr m2 ρ2 H2 τ x y v z Q S2 (rv.post S1 P2) rz o2⟩⟩
theorem F2.toR {f : Value → Value → Sem Value} {fn : W → W → Mem → R W} {r : R2} (h : OpR X f r) (hr : Rr2 g wx r fn) : F2 g X wx f fn := F2.ofR fun m ρ H τ x y v z Q S rx ry o => ⟨r, h, hr m ρ H τ x y v z Q S rx ry o⟩

/-! ### subscripts -/
def atW (ws : List W) (i : Int) (m : Mem) : R W := match atI ws i with | some w => .ok w m | none => .bad
def wIx (x y : W) (m : Mem) : R W := match x, y with
  | .tup ws, .int i => atW ws i m
  | .frz ws, .int i => atW ws i m
  | .str l, .int i => if l.length ≤ 1000000 then (match atI l i with | some c => .ok (.str [c]) m | none => .bad) else .bad
  | .ref n, .int i => match m[n]? with
    | some (.lst ws) => atW ws i m
    | _ => .bad
  | _, _ => .bad
theorem VRs.at_ {ws : List W} {vs : List V} {i : Int} {w : W} (r : VRs g ρ H ws vs) (h : atI ws i = some w) : ∃ v, atI vs i = some v ∧ VR g ρ H w v := by
  unfold atI at h ⊢
  rw [← r.length]
  cases q : ixN ws.length i with
  | none => rw [q] at h; cases h
  | some j => rw [q] at h; exact r.get h
theorem atW_out {ws : List W} {vs : List V} {i : Int} {Q : VK} (S : Sim g ρ m H) (r : VRs g ρ H ws vs) (o : Out g wx τ ρ H (atW ws i m) (fun w m' ρ' H' => ∀ v, VR g ρ' H' w v → Q v H')) : ∃ v, atI vs i = some v ∧ Q v H := by
  unfold atW at o
  split at o
  · rename_i w h
    obtain ⟨v, h1, h2⟩ := r.at_ h
    exact ⟨v, h1, Out.ok0 S o h2⟩
  · exact o.elim
theorem ix_ok (hK : X.K = g.K) : Rr2 g wx (rIx X.K) wIx := by
  intro m ρ H τ x y v z Q S rx ry o
  rw [hK]
  unfold wIx at o
  split at o
  · rename_i ws i
    cases ry
    cases rx with
    | tup h r => obtain ⟨v, h1, h2⟩ := atW_out S r o; exact .inr (.inl ⟨_, _, i, v, rfl, rfl, h, h1, h2⟩)
  · rename_i ws i
    cases ry
    cases rx with
    | frz h r => obtain ⟨v, h1, h2⟩ := atW_out S r o; exact .inl ⟨_, _, i, v, rfl, rfl, h.toL, h1, h2⟩
  · rename_i l i
    cases ry; cases rx
    split at o
    · rename_i hl
      split at o
      · rename_i c h
        refine .inr (.inr ⟨_, i, c, rfl, rfl, by rw [S_len]; exact sizeM hl, ?_, ?_⟩)
        · rw [S_cps]; exact h
        · exact Out.ok0 S o (.str [c])
      · exact o.elim
    · exact o.elim
  · rename_i n i
    cases ry
    cases rx with
    | @ref _ p hp =>
      split at o
      · rename_i ws hm
        obtain ⟨vs, h1, r1⟩ := obj_lst S hp hm
        obtain ⟨v, h2, h3⟩ := atW_out S r1 o
        exact .inl ⟨_, _, i, v, rfl, rfl, SqL.of h1, h2, h3⟩
      · exact o.elim
  · exact o.elim
theorem se_ix (hK : X.K = g.K) (ha : SE g X wx a fa) (hb : SE g X wx b fb) (hs : PlainIx b := by intro _ _; rfl) : SE g X wx (.Subscript a b pos) (eBin wIx fa fb) := SE.bin2 (pe_ix ix_seq ha.pe hb.pe hs) (ix_ok hK)
/-- of a fresh list -/
def eIxL (fl : DL) (fb : DE) : DE := fun σ m => (fl σ m).bind fun ws m1 => (fb σ m1).bind fun y m2 => match y with | .int i => atW ws i m2 | _ => .bad
theorem se_ixL {fl : DL} (hK : X.K = g.K) (ha : SL g X wx a fl) (hb : SE g X wx b fb) (hs : PlainIx b := by intro _ _; rfl) : SE g X wx (.Subscript a b pos) (eIxL fl fb) :=
  SE.ofPE (pe_ix ix_list ha.pe hb.pe hs) fun σ m ρ H τ Q S L o => ⟨σ, m, ρ, S, L, (o.bind S).imp fun ws m1 ρ1 H1 P1 S1 o1 p vs h0 hp hn rv => ⟨σ, m1, ρ1, S1, L.post S P1, (o1.bind S1).imp fun y m2 ρ2 H2 P2 S2 o2 z rz => by
    split at o2
    · rename_i i
      cases rz
      obtain ⟨h1, _⟩ := fresh_stay S1 hp hn P2
      obtain ⟨v, h2, h3⟩ := atW_out S2 (rv.post S1 P2) o2
      exact ⟨p, vs, i, v, rfl, rfl, SqL.of h1, h2, h3⟩
    · exact o2.elim⟩⟩

/-! ### slices -/
abbrev DO := Loc → Mem → R (Option Int)
def toOf (g : G) (wx : WX) (f : DO) : TO := fun τ H Q => ∃ (σ : Loc) (m : Mem) (ρ : List Addr), Sim g ρ m H ∧ LR g ρ H σ τ ∧ Out g wx τ ρ H (f σ m) fun b m' ρ' H' => Q b H'
def SO (g : G) (X : Cx) (wx : WX) (e : Option Expr) (f : DO) : Prop := PO X e (toOf g wx f)
def pNo : DO := fun _ m => .ok none m
def pAt (f : DE) : DO := fun σ m => (f σ m).bind fun w m1 => match w with | .int i => .ok (some i) m1 | _ => .bad
theorem so_none : SO g X wx none pNo := ⟨fun pins s τ H Q I ⟨σ, m, ρ, S, L, o⟩ => po_none.run pins s τ H Q I (Out.here o S)⟩
theorem so_some (he : SE g X wx e fa) : SO g X wx (some e) (pAt fa) := ⟨fun pins s τ H Q I ⟨σ, m, ρ, S, L, o⟩ => (po_some he.pe).run pins s τ H Q I ⟨σ, m, ρ, S, L, (o.bind S).imp fun x m1 ρ1 H1 P1 S1 o1 v r => by
  cases r with
  | int i => exact ⟨_, rfl, Out.here o1 S1⟩
  | _ => exact o1.elim⟩⟩
def cutW {α : Type} (xs : List α) (lo hi : Option Int) : List α := (xs.drop (HT.sIx xs.length 0 lo)).take (HT.sIx xs.length xs.length hi - HT.sIx xs.length 0 lo)
theorem VRs.cut {ws : List W} {vs : List V} (r : VRs g ρ H ws vs) (lo hi : Option Int) : VRs g ρ H (cutW ws lo hi) (cutV vs lo hi) := by
  unfold cutW cutV
  rw [← r.length]
  exact (r.drop _).take _
def wSl (x : W) (lo hi : Option Int) (m : Mem) : R W := match x with
  | .tup ws => .ok (.tup (cutW ws lo hi)) m
  | .str l => if l.length ≤ 1000000 then .ok (.str (cutW l lo hi)) m else .bad
  | .ref n => match m[n]? with
    | some (.lst ws) => .ok (.ref m.length) (m ++ [.lst (cutW ws lo hi)])
    | _ => .bad
  | _ => .bad
def eSl (f : DE) (fl fh : DO) : DE := fun σ m => (f σ m).bind fun x m1 => (fl σ m1).bind fun l m2 => (fh σ m2).bind fun h m3 => wSl x l h m3
theorem cutW_all {α : Type} {ws : List α} {lo hi : Option Int} (h : HT.sIx ws.length 0 lo = 0 ∧ HT.sIx ws.length ws.length hi = ws.length) : cutW ws lo hi = ws := by
  unfold cutW
  rw [h.1, h.2]
  simp
theorem se_sl {lo hi : Option Expr} {fl fh : DO} {p2 : Pos} (hK : X.K = g.K) (ha : SE g X wx a fa) (hl : SO g X wx lo fl) (hh : SO g X wx hi fh) : SE g X wx (.Subscript a (.Slice lo hi none p2) pos) (eSl fa fl fh) :=
  SE.ofPE (pe_slice (sl_list.or (sl_tupA.or sl_str)) ha.pe hl hh) fun σ m ρ H τ Q S L o => ⟨σ, m, ρ, S, L, (o.bind S).imp fun x m1 ρ1 H1 P1 S1 o1 v rv => ⟨σ, m1, ρ1, S1, L.post S P1, (o1.bind S1).imp fun l m2 ρ2 H2 P2 S2 o2 => ⟨σ, m2, ρ2, S2, (L.post S P1).post S1 P2, (o2.bind S2).imp fun h m3 ρ3 H3 P3 S3 o3 => by
    have rv3 := (rv.post S1 P2).post S2 P3
    unfold wSl at o3
    split at o3
    · rename_i ws
      cases rv3 with
      | tup hs r =>
        refine .inr (.inl ⟨_, _, rfl, by rw [hK]; exact hs, fun hw => ?_, fun hw p hp => ?_⟩)
        · rw [← r.length] at hw
          rw [cutW_all hw] at o3
          exact Out.ok0 S3 o3 (.tup hs r)
        · obtain ⟨P4, S4⟩ := S3.junk (u := .tup (cutV _ l h)) hp
          exact o3 _ _ P4 S4 _ (.tup (SqT.of upd_same) ((r.cut l h).post S3 P4))
    · rename_i z
      cases rv3
      split at o3
      · rename_i hz
        refine .inr (.inr ⟨_, rfl, by rw [S_len]; exact sizeM hz, ?_⟩)
        have : cutS (Sh.S z) l h = Sh.S (cutW z l h) := by
          unfold cutS cutW
          rw [S_cps, S_len]
        rw [this]
        exact Out.ok0 S3 o3 (.str _)
      · exact o3.elim
    · rename_i n
      cases rv3 with
      | @ref _ p hp =>
        split at o3
        · rename_i ws hm
          obtain ⟨vs, h1, r1⟩ := obj_lst S3 hp hm
          refine .inl ⟨_, _, rfl, SqL.of h1, fun d hd => ?_⟩
          obtain ⟨P4, S4⟩ := S3.push (o := .lst (cutW ws l h)) (u := .lst (cutV vs l h)) hd ⟨_, rfl, r1.cut l h⟩
          exact o3 _ _ P4 S4 _ (.ref (by rw [← S3.len]; simp))
        · exact o3.elim
    · exact o3.elim⟩⟩⟩

/-! ### in, not in -/
def flatW : W → Bool
  | .non => true | .bl _ => true | .int _ => true | .str _ => true | _ => false
def eqW : W → W → Bool
  | .non, .non => true
  | .bl a, .bl b => a == b
  | .bl a, .int b => (if a then 1 else 0) == b
  | .int a, .bl b => a == (if b then 1 else 0)
  | .int a, .int b => a == b
  | .str a, .str b => a == b
  | _, _ => false
theorem eqW_V {x y : W} {v z : V} (rx : VR g ρ H x v) (ry : VR g ρ H y z) (fx : flatW x = true) (fy : flatW y = true) : eqV v z = eqW x y := by
  cases x <;> simp [flatW] at fx <;> cases rx <;> cases y <;> simp [flatW] at fy <;> cases ry <;> try rfl
  exact SX.S_beq _ _
theorem flat_V {x : W} {v : V} (rx : VR g ρ H x v) (fx : flatW x = true) : flatV v = true := by
  cases x <;> simp [flatW] at fx <;> cases rx <;> rfl
theorem flats_V : ∀ {ws : List W} {vs : List V}, VRs g ρ H ws vs → ws.all flatW = true → vs.all flatV = true
  | _, _, .nil, _ => rfl
  | _, _, .cons h r, e => by
    simp only [List.all_cons, Bool.and_eq_true] at e ⊢
    exact ⟨flat_V h e.1, flats_V r e.2⟩
def inW (x : W) (ws : List W) : Bool := ws.any fun y => eqW y x
theorem inW_V {x : W} {v : V} (rx : VR g ρ H x v) (fx : flatW x = true) : ∀ {ws : List W} {vs : List V}, VRs g ρ H ws vs → ws.all flatW = true → inV v vs = inW x ws
  | _, _, .nil, _ => rfl
  | _, _, .cons h r, e => by
    simp only [List.all_cons, Bool.and_eq_true] at e
    have ih := inW_V rx fx r e.2
    unfold inV inW at ih ⊢
    simp only [List.any_cons]
    rw [ih, eqW_V h rx e.1 fx]
def inD (x : W) (ws : List W) (m : Mem) : R Bool := if flatW x = true ∧ ws.all flatW = true then .ok (inW x ws) m else .bad
def inB (x y : W) (m : Mem) : R Bool := match y with
  | .tup ws => inD x ws m
  | .str l => match x with
    | .str [c] => .ok (decide (c ∈ l)) m
    | _ => .bad
  | .ref n => match m[n]? with
    | some (.lst ws) => inD x ws m
    | _ => .bad
  | _ => .bad
def wIn (x y : W) (m : Mem) : R W := (inB x y m).bind fun b m1 => .ok (.bl b) m1
def wNotIn (x y : W) (m : Mem) : R W := (inB x y m).bind fun b m1 => .ok (.bl (!b)) m1
theorem inD_cases {x : W} {ws : List W} {m : Mem} : (flatW x = true ∧ ws.all flatW = true ∧ inD x ws m = .ok (inW x ws) m) ∨ inD x ws m = .bad := by
  unfold inD
  split
  · rename_i h; exact .inl ⟨h.1, h.2, rfl⟩
  · exact .inr rfl
theorem in_ok (neg : Bool) (hK : X.K = g.K) {op : CmpOp} (h1 : OpR X (compareOp op) (rIn X.K neg)) (h2 : OpR X (compareOp op) (fun x y H Q => ∃ (c : Nat) (z : Str), x = .str ⟨#[c]⟩ ∧ y = .str z ∧ Q (.bl (if neg then !decide (c ∈ z.cps.toList) else decide (c ∈ z.cps.toList))) H)) :
    F2 g X wx (compareOp op) (fun x y m => (inB x y m).bind fun b m1 => .ok (.bl (if neg then !b else b)) m1) := F2.ofR fun m ρ H τ x y v z Q S rx ry o => by
  unfold inB at o
  split at o
  · rename_i ws
    rcases inD_cases (x := x) (ws := ws) (m := m) with ⟨e1, e2, e3⟩ | e
    · rw [e3] at o
      cases ry with
      | tup hs r => exact ⟨_, h1, _, _, rfl, .inr (by rw [hK]; exact hs), flat_V rx e1, flats_V r e2, by rw [inW_V rx e1 r e2]; exact Out.ok0 S o (.bl _)⟩
    · rw [e] at o; exact o.elim
  · rename_i l
    split at o
    · rename_i c
      cases ry; cases rx
      refine ⟨_, h2, c, _, rfl, rfl, ?_⟩
      rw [S_cps]
      exact Out.ok0 S o (.bl _)
    · exact o.elim
  · rename_i n
    cases ry with
    | @ref _ p hp =>
      split at o
      · rename_i ws hm
        rcases inD_cases (x := x) (ws := ws) (m := m) with ⟨e1, e2, e3⟩ | e
        · rw [e3] at o
          obtain ⟨vs, hv, r⟩ := obj_lst S hp hm
          exact ⟨_, h1, _, _, rfl, .inl (SqL.of hv), flat_V rx e1, flats_V r e2, by rw [inW_V rx e1 r e2]; exact Out.ok0 S o (.bl _)⟩
        · rw [e] at o; exact o.elim
      · exact o.elim
  · exact o.elim
theorem f_in (hK : X.K = g.K) : F2 g X wx (compareOp .In) wIn := in_ok (g := g) (wx := wx) false hK op_in_seq op_in_sign
theorem f_notIn (hK : X.K = g.K) : F2 g X wx (compareOp .NotIn) wNotIn := in_ok (g := g) (wx := wx) true hK op_notIn_seq op_notIn_sign
/-- in a fresh list -/
def eInL (neg : Bool) (fa : DE) (fl : DL) : DE := fun σ m => (fa σ m).bind fun x m1 => (fl σ m1).bind fun ws m2 => (inD x ws m2).bind fun b m3 => .ok (.bl (if neg then !b else b)) m3
theorem inL_ok {neg : Bool} {op : CmpOp} {fl : DL} (hK : X.K = g.K) (h1 : OpR X (compareOp op) (rIn X.K neg)) (ha : SE g X wx a fa) (hb : SL g X wx b fl) (hm : behindInMarks op b = false) : SE g X wx (.Compare a [op] [b] pos) (eInL neg fa fl) :=
  SE.ofPE (pe_cmpR h1 ha.pe hb.pe hm) fun σ m ρ H τ Q S L o => ⟨σ, m, ρ, S, L, (o.bind S).imp fun x m1 ρ1 H1 P1 S1 o1 v rv => ⟨σ, m1, ρ1, S1, L.post S P1, (o1.bind S1).imp fun ws m2 ρ2 H2 P2 S2 o2 p vs h0 hp hn r => by
    rcases inD_cases (x := x) (ws := ws) (m := m2) with ⟨e1, e2, e3⟩ | e
    · rw [e3] at o2
      have rv2 := rv.post S1 P2
      exact ⟨p, vs, rfl, .inl (SqL.of hp), flat_V rv2 e1, flats_V r e2, by rw [inW_V rv2 e1 r e2]; exact Out.ok0 S2 o2 (.bl _)⟩
    · rw [e] at o2; exact o2.elim⟩⟩
theorem se_inL {fl : DL} (hK : X.K = g.K) (ha : SE g X wx a fa) (hb : SL g X wx b fl) (hm : behindInMarks .In b = false := by first | exact nobehind _ (by decide) (by decide) | rfl) : SE g X wx (.Compare a [.In] [b] pos) (eInL false fa fl) := inL_ok hK op_in_seq ha hb hm
theorem se_notInL {fl : DL} (hK : X.K = g.K) (ha : SE g X wx a fa) (hb : SL g X wx b fl) (hm : behindInMarks .NotIn b = false := by first | exact nobehind _ (by decide) (by decide) | rfl) : SE g X wx (.Compare a [.NotIn] [b] pos) (eInL true fa fl) := inL_ok hK op_notIn_seq ha hb hm

/-! ### a < b < c -/
def eChain (f1 f2 : W → W → Mem → R W) (fa fb fc : DE) : DE := fun σ m => (fa σ m).bind fun x m1 => (fb σ m1).bind fun y m2 => (f1 x y m2).bind fun t m3 => match t with
  | .bl true => (fc σ m3).bind fun z m4 => f2 y z m4
  | .bl false => .ok (.bl false) m3
  | _ => .bad
theorem se_chain {op op' : CmpOp} {f1 f2 : W → W → Mem → R W} (h1 : F2 g X wx (compareOp op) f1) (h2 : F2 g X wx (compareOp op') f2) (ha : SE g X wx a fa) (hb : SE g X wx b fb) (hc : SE g X wx c fc)
    (hm : lastMarks [op, op'] [b, c] = false := by with_unfolding_all rfl) : SE g X wx (.Compare a [op, op'] [b, c] pos) (eChain f1 f2 fa fb fc) := by
  refine ⟨fun pins s σ m ρ H τ Q I S L o => ?_⟩
  refine PyProof.Rows.Compare_chain (ha.run pins s σ m ρ H τ _ I S L ((o.bind S).imp fun x m1 ρ1 H1 P1 S1 o1 v u s1 I1 rv ru => PyProof.Rows.chain_link (hb.run pins s1 σ m1 ρ1 H1 τ _ I1 S1 (L.post S P1) ((o1.bind S1).imp fun y m2 ρ2 H2 P2 S2 o2 z t s2 I2 rz rt => ?_)))) hm
  refine h1.run pins s2 m2 ρ2 H2 τ x y v z u t _ I2 S2 (rv.post S1 P2) ru rz rt ((o2.bind S2).imp fun w m3 ρ3 H3 P3 S3 o3 v3 u3 s3 I3 r3 ru3 => ?_)
  cases w with
  | bl k =>
    cases r3; cases ru3
    refine wpAny_truthy_bool ?_
    cases k with
    | false => exact PyProof.Rows.ite_ff (Out.here o3 S3 _ _ s3 I3 (.bl false) rfl)
    | true =>
      refine PyProof.Rows.ite_tt (PyProof.Rows.chain_last (hc.run pins s3 σ m3 ρ3 H3 τ _ I3 S3 (((L.post S P1).post S1 P2).post S2 P3) ((o3.bind S3).imp fun w4 m4 ρ4 H4 P4 S4 o4 v4 u4 s4 I4 r4 ru4 => ?_)))
      exact h2.run pins s4 m4 ρ4 H4 τ y w4 z v4 t u4 Q I4 S4 ((rz.post S2 P3).post S3 P4) rt r4 ru4 o4
  | _ => exact o3.elim
def tChain (f1 f2 : W → W → Mem → R W) (fa fb fc : DE) : DB := fun σ m => (fa σ m).bind fun x m1 => (fb σ m1).bind fun y m2 => (f1 x y m2).bind fun t m3 => match t with
  | .bl true => (fc σ m3).bind fun z m4 => (f2 y z m4).bind fun w m5 => match w with | .bl k => .ok k m5 | _ => .bad
  | .bl false => .ok false m3
  | _ => .bad
theorem st_chain {op op' : CmpOp} {f1 f2 : W → W → Mem → R W} (h1 : F2 g X wx (compareOp op) f1) (h2 : F2 g X wx (compareOp op') f2) (ha : SE g X wx a fa) (hb : SE g X wx b fb) (hc : SE g X wx c fc)
    (hm : lastMarks [op, op'] [b, c] = false := by with_unfolding_all rfl) : ST g X wx (.Compare a [op, op'] [b, c] pos) (tChain f1 f2 fa fb fc) := by
  refine ⟨fun whole pins s σ m ρ H τ Q hw I S L o => ?_⟩
  refine PyProof.Rows.isTrue_chain (ha.run pins s σ m ρ H τ _ I S L ((o.bind S).imp fun x m1 ρ1 H1 P1 S1 o1 v u s1 I1 rv ru => PyProof.Rows.test_link (hb.run pins s1 σ m1 ρ1 H1 τ _ I1 S1 (L.post S P1) ((o1.bind S1).imp fun y m2 ρ2 H2 P2 S2 o2 z t s2 I2 rz rt => ?_)))) hm
  refine h1.run pins s2 m2 ρ2 H2 τ x y v z u t _ I2 S2 (rv.post S1 P2) ru rz rt ((o2.bind S2).imp fun w m3 ρ3 H3 P3 S3 o3 v3 u3 s3 I3 r3 ru3 => ?_)
  cases w with
  | bl k =>
    cases r3; cases ru3
    refine wpAny_truthy_bool ?_
    cases k with
    | false => exact PyProof.Rows.ite_ff (Out.here o3 S3 s3 I3)
    | true =>
      refine PyProof.Rows.ite_tt (PyProof.Rows.test_last (hc.run pins s3 σ m3 ρ3 H3 τ _ I3 S3 (((L.post S P1).post S1 P2).post S2 P3) ((o3.bind S3).imp fun w4 m4 ρ4 H4 P4 S4 o4 v4 u4 s4 I4 r4 ru4 => ?_)))
      refine h2.run pins s4 m4 ρ4 H4 τ y w4 z v4 t u4 _ I4 S4 ((rz.post S2 P3).post S3 P4) rt r4 ru4 ((o4.bind S4).imp fun w5 m5 ρ5 H5 P5 S5 o5 v5 u5 s5 I5 r5 ru5 => ?_)
      cases w5 with
      | bl k2 => cases r5; cases ru5; exact wpAny_truthy_bool (Out.here o5 S5 s5 I5)
      | _ => exact o5.elim
  | _ => exact o3.elim
end
end Sh

namespace Sh
open PySem PySem.Spec L2
open PyProof.Rows (envOfC)

/-! ### a, b, *c = a list -/
section
variable {prog : Program} {w : World} {A : Around} {E : Value → Shared → Prop} {s : Shared}
theorem walk_from (hh : A.handled = none) (I ax : Addr) (hne : ax ≠ I) (items : Array Value) (d : Nat) (hd : d ≤ items.size) :
    Walks prog w A I [I, ax] [I] (items.size - d) (fun i v => items[d + i]? = some v) (fun i h => h.IsListIter I ax (d + i) ∧ h.IsList ax items) where
  sub := (Walks.list (prog := prog) (w := w) hh I ax hne items).sub
  frame := fun i h h' st hk => (Walks.list (prog := prog) (w := w) hh I ax hne items).frame (d + i) h h' st hk
  item := fun i s Q E hi st hQ => (Walks.list (prog := prog) (w := w) hh I ax hne items).item (d + i) s Q E (by omega) st fun v h' tk p st' k => hQ v h' tk p st' k
  done := fun s Q E st hQ => (Walks.list (prog := prog) (w := w) hh I ax hne items).done s Q E (by
    have : d + (items.size - d) = items.size := by omega
    rw [this] at st; exact st) hQ
  self := fun i s Q E st hQ => (Walks.list (prog := prog) (w := w) hh I ax hne items).self (d + i) s Q E st hQ
theorem unpack_star {l : Addr} {items : Array Value} {i : Nat} {Q : List Value → Shared → Prop} (hh : A.handled = none) (hl : s.heap.IsList l items) (hi : i ≤ items.size) (hz : items.size ≤ sizeLine)
    (hQ : ∀ (h' : Heap) (tk : Nat), (∀ b o, s.heap.get? b = some o → h'.get? b = some o) → Q (items.toList.take i ++ [.ref h'.objs.size]) { s with heap := h'.push { cls := .type "list", data := .seq (items.toList.drop i).toArray }, toks := tk }) :
    wpAny (model prog w) A (unpackItems (.ref l) (i + 1) (some i)) Q E s := by
  have hlt : l ≠ s.heap.objs.size := by obtain ⟨o, ho, _⟩ := hl; exact Nat.ne_of_lt (Heap.lt_size ho)
  unfold unpackItems
  refine wpAny_bind ?_
  unfold notIterableAtAll
  refine wpAny_bind (wpAny_specialOf hl.typeIs PySem.F.slot_list_iter.lookup ?_)
  refine wpAny_pure ?_
  simp only [Bool.false_eq_true, if_false]
  refine wpAny_bind (wpAny_holding (wpAny_pyIter_list hl ?_))
  refine wpAny_bind (wpAny_holding (PySem.W.kun_draw hlt i 0 _ _ ⟨_, Heap.get?_push_size _ rfl, rfl, rfl⟩ (hl.push _) (by omega) fun h₁ hit₁ hs₁ => ?_))
  have hl₁ : h₁.IsList l items := (hl.push _).extBut hs₁.extBut hlt
  have hlen : ¬ (List.take i (List.drop 0 items.toList)).length < i := by simp; omega
  rw [if_neg hlen]
  refine wpAny_bind (wpAny_holding ?_)
  refine wpAny_collect_iter (T := "list_iterator") (.inr (.inr (.inl rfl))) (walk_from (A := A.in1) hh s.heap.objs.size l hlt items i hi).toS (fun i' s' st => ?_) ⟨by simpa using hit₁, hl₁⟩ (fun b hb => ?_) (by simp) (fun s' acc mv it => ?_) (by omega)
  · obtain ⟨o, ho, hc, _⟩ := st.1
    exact ⟨o, ho, hc⟩
  · simp at hb
    rcases hb with rfl | rfl
    · obtain ⟨o, ho, _⟩ := hit₁; exact Heap.lt_size ho
    · obtain ⟨o, ho, _⟩ := hl₁; exact Heap.lt_size ho
  · have he : acc.toList = items.toList.drop i := by
      apply List.ext_getElem?
      intro j
      rw [List.getElem?_drop]
      by_cases hj : j < acc.size
      · have h1 : acc.toList[j]? = some acc[j] := by simp [hj]
        have h2 := it.2 j acc[j] (by simp [hj])
        rw [h1, Array.getElem?_toList]
        exact h2.symm
      · have h1 : acc.toList[j]? = none := by simp; omega
        have h2 : items.toList[i + j]? = none := by
          have := it.1
          simp; omega
        rw [h1, h2]
    obtain ⟨hp, gs, dr, tt, os⟩ := s'
    obtain ⟨k1, k2, k3, k4, k5⟩ := mv
    simp only at k1 k2 k3 k4 k5
    subst k2 k3 k4
    have h0 : i + 1 - 1 - i = 0 := by omega
    simp only [h0]
    rw [if_neg (by omega)]
    simp only [Nat.sub_zero, List.take_length, List.drop_length, List.append_nil]
    rw [he]
    refine wpAny_bind (wpAny_newList (wpAny_pure ?_) (by simp; omega))
    have e0 : List.take i (List.drop 0 items.toList) = items.toList.take i := rfl
    rw [e0]
    exact hQ hp tt fun b o e => k1 b o (by simp; exact Nat.ne_of_lt (Heap.lt_size e)) (hs₁.extBut b o (Nat.ne_of_lt (Heap.lt_size e)) (Heap.get?_push_of_some _ e))
end
section
variable {g : G} {X : Cx} {wx : WX} {τ : L2.St} {ρ ρ' : List Addr} {H H' : Hp} {m m' : Mem} {e a b c o : Expr} {fa fb fc fo fe : DE} {pos : Pos} {pins : List (Addr × Obj)} {s : Shared}
theorem VRs.drp {ws : List W} {vs : List V} (r : VRs g ρ H ws vs) (n : Nat) : VRs g ρ H (ws.drop n) (vs.drop n) := r.drop n
theorem Vals.tk : ∀ {vs : List V} {us : List Value} (n : Nat), Vals vs us → Vals (vs.take n) (us.take n)
  | _, _, 0, _ => .nil
  | _, _, _ + 1, .nil => .nil
  | _, _, n + 1, .cons h t => .cons h (Vals.tk n t)
theorem Vals.dr : ∀ {vs : List V} {us : List Value} (n : Nat), Vals vs us → Vals (vs.drop n) (us.drop n)
  | _, _, 0, r => r
  | _, _, _ + 1, .nil => .nil
  | _, _, n + 1, .cons _ t => Vals.dr n t
/-- several targets = a tuple or a list; the last may be starred -/
def gSeq (hs : List (W → Loc → Mem → R Loc)) : W → Loc → Mem → R Loc := fun w σ m => match w with
  | .tup ws => if ws.length = hs.length then gTups hs ws σ m else .bad
  | .ref n => match m[n]? with
    | some (.lst ws) => if ws.length = hs.length then gTups hs ws σ m else .bad
    | _ => .bad
  | _ => .bad
theorem sg_seq {es : List Expr} {k : Nat} {hs : List (W → Loc → Mem → R Loc)} {js : List Nat} (hK : X.K = g.K) (hc : X.calm = true) (h : SGs g X wx es hs js) (hl : hs.length = es.length := by rfl) (hn : (assignEach es X.env).length = es.length := by rfl)
    (hst : (assignEach es X.env).findIdx? (·.1) = none := by rfl) : SG g X wx (.Tuple es k pos) (gSeq hs) js := by
  refine ⟨fun pins s τ H v u Q I ru ⟨w, σ, m, ρ, S, L, r, o⟩ => ?_⟩
  unfold gSeq at o
  split at o
  · rename_i ws
    split at o
    · rename_i he
      cases r with
      | tup hs' rv => exact (pg_tup (n := es.length) hc h hn hst).run pins s τ H _ u Q I ru ⟨_, _, rfl, by rw [hK]; exact hs', by rw [← rv.length, he, hl], ws, σ, m, ρ, S, L, rv, o⟩
    · exact o.elim
  · rename_i n
    cases r with
    | @ref _ p hp =>
      split at o
      · rename_i ws hm
        split at o
        · rename_i he
          obtain ⟨vs, h1, rv⟩ := obj_lst S hp hm
          exact (pg_unl (n := es.length) hc h hn hst).run pins s τ H _ u Q I ru ⟨_, _, rfl, SqL.of h1, by rw [← rv.length, he, hl], ws, σ, m, ρ, S, L, rv, o⟩
        · exact o.elim
      · exact o.elim
  · exact o.elim
/-- a, .., *z = a list -/
def gStar (hs : List (W → Loc → Mem → R Loc)) (i : Nat) : W → Loc → Mem → R Loc := fun w σ m => match w with
  | .ref n => match m[n]? with
    | some (.lst ws) => if i ≤ ws.length then gTups hs (ws.take i ++ [.ref m.length]) σ (m ++ [.lst (ws.drop i)]) else .bad
    | _ => .bad
  | _ => .bad
theorem sgs_star {t : Expr} {p : Pos} {h : W → Loc → Mem → R Loc} {js : List Nat} (h1 : SG g X wx t h js) (hq : Quiet h := by exact quiet_set) (ha : (assignEach [.Starred t p] X.env).map (·.2) = [assign t X.env] := by rfl) : SGs g X wx [.Starred t p] [h] js :=
  ⟨fun pins s τ H vs us Q I r ⟨ws, σ, m, ρ, S, L, rv, o⟩ => by
    rw [ha]
    cases rv with
    | nil => exact o.elim
    | @cons w v ws vs rw_ rr =>
      cases rr with
      | cons _ _ =>
        exfalso
        unfold gTups at o
        cases q : h w σ m with
        | ok σ1 m1 => rw [q] at o; exact o
        | exc c1 fs1 m1 => exact hq w σ m c1 fs1 m1 q
        | bad => rw [q] at o; exact o
      | nil =>
        cases r with
        | cons r rr =>
          cases rr
          refine PyProof.Rows.assignInOrder_cons (thn (h1.run pins s τ H _ _ (fun τ' H' => Q τ' H') I r ⟨w, σ, m, ρ, S, L, rw_, ?_⟩) fun _ s1 ⟨σ1, H1, I1, q1⟩ => PyProof.Rows.assignInOrder_nil ⟨σ1, H1, I1, q1⟩)
          exact ((show Out g wx τ ρ H ((h w σ m).bind fun σ1 m1 => gTups [] [] σ1 m1) _ from o).bind S).imp fun σ1 m1 ρ1 H1 P1 S1 o1 τ1 L1 A1 => (Out.here o1 S1) τ1 L1 A1⟩
theorem sg_star {es : List Expr} {k i : Nat} {hs : List (W → Loc → Mem → R Loc)} {js : List Nat} (hK : X.K = g.K) (hc : X.calm = true) (h : SGs g X wx es hs js) (hn : (assignEach es X.env).length = i + 1 := by rfl)
    (hst : (assignEach es X.env).findIdx? (·.1) = some i := by rfl) : SG g X wx (.Tuple es k pos) (gStar hs i) js := by
  refine ⟨fun pins s τ H v u Q I ru ⟨w, σ, m, ρ, S, L, r, o⟩ => ?_⟩
  unfold gStar at o
  split at o
  · rename_i n
    cases r with
    | @ref _ p hp =>
      cases ru
      split at o
      · rename_i ws hm
        split at o
        · rename_i he
          obtain ⟨vs, h1, rv⟩ := obj_lst S hp hm
          obtain ⟨its, rvs, pl, hz⟩ := I.list (SqL.of h1)
          have hl' : s.heap.IsList p its.toArray := by
            obtain ⟨o, m, e, c, d, q⟩ := pl
            exact ⟨o, e, c, m, q⟩
          have hlen := rvs.length
          have hlw := rv.length
          rw [PyProof.Rows.assign_Tuple]
          refine wpAny_bind (wpAny_standAt ?_)
          unfold unpack
          rw [hn, hst]
          refine wpAny_bind (wpAny_holding (unpack_star (I.ok.hd hc) hl' (by rw [List.size_toArray]; omega) (by rw [List.size_toArray]; omega) fun h' tk hk => ?_))
          have I1 : Inv X pins τ H { s with heap := h', toks := tk } := I.kept hk
          have I2 : Inv X pins τ (upd H h'.objs.size (.lst (vs.drop i))) { s with heap := h'.push { cls := .type "list", data := .seq (its.drop i).toArray }, toks := tk } :=
            I1.laid (t' := tk) (fun b u e => Heap.get?_push_of_some _ e) (Nat.le_refl _) ⟨by simp; omega, its.drop i, 0, (Vals.dr i rvs), Heap.get?_push_size _ rfl⟩
          have hf : H h'.objs.size = none := I1.hok.fresh (Nat.le_refl _)
          obtain ⟨P2, S2⟩ := S.push (o := .lst (ws.drop i)) (u := .lst (vs.drop i)) hf ⟨_, rfl, rv.drop i⟩
          refine h.run pins _ τ _ (vs.take i ++ [.ref h'.objs.size]) _ Q I2 ((Vals.tk i rvs).append (.cons (show RelV (.ref h'.objs.size) (.ref h'.objs.size) from rfl) .nil)) ⟨ws.take i ++ [.ref m.length], σ, m ++ [.lst (ws.drop i)], ρ ++ [h'.objs.size], S2, L.post S P2, ((rv.take i).post S P2).append (.cons (.ref (by rw [← S.len]; simp)) .nil), o.from P2 S S2⟩
        · exact o.elim
      · exact o.elim
  · exact o.elim
/-- target = e -/
def sAsg (f : DE) (h : W → Loc → Mem → R Loc) : DS := fun σ m => RS.of σ (f σ m) fun w m1 => RS.of σ (h w σ m1) fun σ' m2 => .nx σ' m2
theorem ss_asg {tg : Expr} {h : W → Loc → Mem → R Loc} {js : List Nat} (he : SE g X wx e fe) (hg : SG g X wx tg h js) (hs : swapsWithSole [tg] e pos.line X.env = pure false := by rfl) (hw : swappedStores [tg] e X.env = pure none := by rfl)
    (h1 : (assignEach [tg] X.env).map (·.2) = [assign tg X.env] := by rfl) : SS g X wx (.Assign [tg] e pos) (sAsg fe h) :=
  PS.conv (ps_asg he.pe hg hs hw h1) fun D τ H ⟨σ, m, ρ, S, L, oo⟩ => ⟨σ, m, ρ, S, L, (oo.of S L).imp fun w m1 ρ1 H1 P1 S1 o1 v r => ⟨w, σ, m1, ρ1, S1, L.post S P1, r, (o1.of S1 (L.post S P1)).imp fun σ2 m2 ρ2 H2 P2 S2 o2 τ' L' A' => o2 ρ2 H2 τ' Post.refl S2 L'⟩⟩

/-! ### stores into a list, append -/
/-- o[i] = e -/
def putAt (m : Mem) (x y w : W) : Option Mem := match x, y with
  | .ref n, .int i => match m[n]? with
    | some (.lst ws) => match ixN ws.length i with
      | some j => some (m.set n (.lst (ws.set j w)))
      | none => none
    | _ => none
  | _, _ => none
def sPut (fo fi fe : DE) : DS := fun σ m => RS.of σ (fe σ m) fun w m1 => RS.of σ (fo σ m1) fun x m2 => RS.of σ (fi σ m2) fun y m3 => match putAt m3 x y w with
  | some m4 => .nx σ m4
  | none => .bad
theorem ss_put {i : Expr} {fi : DE} {pos' : Pos} (ho : SE g X wx o fo) (hi : SE g X wx i fi) (he : SE g X wx e fe) (hs : swapsWithSole [.Subscript o i pos'] e pos.line X.env = pure false := by rfl) (hw : swappedStores [.Subscript o i pos'] e X.env = pure none := by rfl)
    (h1 : (assignEach [.Subscript o i pos'] X.env).map (·.2) = [assign (.Subscript o i pos') X.env] := by rfl)
    (ha : ∀ v, assign (.Subscript o i pos') X.env v = (do
      let ov ← holding [v] (eval o X.env)
      let iv ← holding [v, ov] (eval i X.env)
      standAt pos'
      holding [v, ov, iv] (setItem ov iv v)
      release [v, ov, iv] []) := by intro _; rfl) : SS g X wx (.Assign [.Subscript o i pos'] e pos) (sPut fo fi fe) :=
  PS.conv (ps_asg he.pe (pg_sub ho.pe hi.pe set_list ha) hs hw h1) fun D τ H ⟨σ, m, ρ, S, L, oo⟩ => ⟨σ, m, ρ, S, L, (oo.of S L).imp fun w m1 ρ1 H1 P1 S1 o1 v r =>
    ⟨σ, m1, ρ1, S1, L.post S P1, (o1.of S1 (L.post S P1)).imp fun x m2 ρ2 H2 P2 S2 o2 vx rx => ⟨σ, m2, ρ2, S2, (L.post S P1).post S1 P2, (o2.of S2 ((L.post S P1).post S1 P2)).imp fun y m3 ρ3 H3 P3 S3 o3 vy ry => by
      split at o3
      · rename_i m4 hput
        unfold putAt at hput
        split at hput
        · rename_i n i
          cases ry
          have rx3 := rx.post S2 P3
          cases rx3 with
          | @ref _ p hp =>
            split at hput
            · rename_i ws hm
              split at hput
              · rename_i j hj
                cases hput
                obtain ⟨vs, hv, rv⟩ := obj_lst S3 hp hm
                refine ⟨p, vs, i, j, rfl, rfl, hv, by rw [← rv.length]; exact hj, ?_⟩
                obtain ⟨P4, S4⟩ := S3.set (u := .lst (vs.set j v)) (o := .lst (ws.set j w)) hp ⟨_, rfl, rv.set ((r.post S1 P2).post S2 P3) j⟩
                exact o3 _ _ _ P4 S4 ((((L.post S P1).post S1 P2).post S2 P3).post S3 P4)
              · cases hput
            · cases hput
        · cases hput
      · exact o3.elim⟩⟩⟩
end
end Sh

namespace Sh
open PySem PySem.Spec L2
open PyProof.Rows (envOfC)

section
variable {g : G} {X : Cx} {wx : WX} {τ : L2.St} {ρ ρ' : List Addr} {H H' : Hp} {m m' : Mem} {e a b c o : Expr} {fa fb fc fo fe : DE} {fl : DL} {pos : Pos} {pins : List (Addr × Obj)} {s : Shared}
theorem VRs.inv0 {vs : List V} (r : VRs g ρ H [] vs) : vs = [] := by cases r; rfl

/-! ### len, abs, int, str -/
def lenW (x : W) (m : Mem) : Option Nat := match x with
  | .str l => if l.length ≤ 1000000 then some l.length else none
  | .tup ws => some ws.length
  | .frz ws => some ws.length
  | .ref n => match m[n]? with
    | some (.lst ws) => some ws.length
    | some (.dK kvs) => some kvs.length
    | _ => none
  | _ => none
def bLen (ws : List W) (m : Mem) : R W := match ws with
  | [x] => match lenW x m with | some n => .ok (.int (n : Int)) m | none => .bad
  | _ => .bad
theorem f_len (hK : X.K = g.K) : Fn g X wx (fun us => call (.builtin "len") us) bLen := Fn.ofR fun m ρ H τ xs vs Q S rx o => by
  unfold bLen at o
  split at o
  · rename_i x
    obtain ⟨v, rfl, r⟩ := rx.inv1
    split at o
    · rename_i n hn
      have fin : Q (.int (n : Int)) H := Out.ok0 S o (.int _)
      unfold lenW at hn
      split at hn
      · rename_i l
        cases r
        split at hn
        · rename_i hl
          cases hn
          exact ⟨_, call_len, _, _, rfl, ⟨by rw [S_len]; exact sizeM hl, rfl⟩, by rw [S_len]; exact fin⟩
        · cases hn
      · rename_i ws
        cases hn
        cases r with
        | tup h rv => exact ⟨_, call_len, _, _, rfl, .inr ⟨_, by rw [hK]; exact h, rv.length⟩, fin⟩
      · rename_i ws
        cases hn
        cases r with
        | frz h rv => exact ⟨_, call_len, _, _, rfl, .inl ⟨_, by rw [hK]; exact h.toL, rv.length⟩, fin⟩
      · rename_i k
        cases r with
        | @ref _ p hp =>
          split at hn
          · rename_i ws hm
            cases hn
            obtain ⟨vs, h1, rv⟩ := obj_lst S hp hm
            exact ⟨_, call_len, _, _, rfl, .inl ⟨_, SqL.of h1, rv.length⟩, fin⟩
          · rename_i kvs hm
            cases hn
            obtain ⟨u, h1, vs, e1, rv⟩ := S.obj _ p _ hp hm
            subst e1
            have hl : kvs.length = vs.length := Paired.length rv
            exact ⟨_, call_lenD, p, vs, rfl, h1, by rw [← hl]; exact fin⟩
          · cases hn
      · cases hn
    · exact o.elim
  · exact o.elim
/-- of a fresh list -/
def bLenL (ws : List W) (m : Mem) : R W := .ok (.int (ws.length : Int)) m
theorem f_lenL : FnL g X wx (fun u => call (.builtin "len") [u]) bLenL := FnL.ofR fun m ρ H τ p ws vs Q S hp hn r o => ⟨_, call_len, _, _, rfl, .inl ⟨vs, SqL.of hp, r.length⟩, Out.ok0 S o (.int _)⟩
def bAbs (ws : List W) (m : Mem) : R W := match ws with
  | [.int i] => .ok (.int (if i < 0 then -i else i)) m
  | _ => .bad
theorem f_abs : Fn g X wx (fun us => call (.builtin "abs") us) bAbs := Fn.ofR fun m ρ H τ xs vs Q S rx o => by
  unfold bAbs at o
  split at o
  · obtain ⟨v, rfl, r⟩ := rx.inv1
    cases r
    exact ⟨_, call_abs, _, rfl, Out.ok0 S o (.int _)⟩
  · exact o.elim
def b2 (b : Bool) : Int := if b = true then 1 else 0
def bInt (ws : List W) (m : Mem) : R W := match ws with
  | [.int i] => .ok (.int i) m
  | [.bl k] => .ok (.int (b2 k)) m
  | [.str l] => if l.length ≤ 640 then (match intText? (Sh.S l) with | some n => .ok (.int n) m | none => .bad) else .bad
  | _ => .bad
theorem f_int : Fn g X wx (fun us => call (.type "int") us) bInt := Fn.ofR fun m ρ H τ xs vs Q S rx o => by
  unfold bInt at o
  split at o
  · obtain ⟨v, rfl, r⟩ := rx.inv1
    cases r
    exact ⟨_, call_int1, .inl ⟨_, rfl, Out.ok0 S o (.int _)⟩⟩
  · obtain ⟨v, rfl, r⟩ := rx.inv1
    cases r
    exact ⟨_, call_int1, .inr ⟨_, rfl, Out.ok0 S o (.int _)⟩⟩
  · obtain ⟨v, rfl, r⟩ := rx.inv1
    cases r
    split at o
    · rename_i hl
      split at o
      · rename_i n hn
        exact ⟨_, call_int_str, _, n, rfl, hn, by rw [S_len]; exact hl, Out.ok0 S o (.int _)⟩
      · exact o.elim
    · exact o.elim
  · exact o.elim
/-- the signs of a number -/
def dec (i : Int) : List Nat := (Str.ofString (toString i)).cps.toList
def bStr (ws : List W) (m : Mem) : R W := match ws with
  | [.int i] => if i.natAbs.log2 < 1920 then .ok (.str (dec i)) m else .bad
  | [.str l] => .ok (.str l) m
  | _ => .bad
theorem f_str : Fn g X wx (fun us => call (.type "str") us) bStr := Fn.ofR fun m ρ H τ xs vs Q S rx o => by
  unfold bStr at o
  split at o
  · rename_i i
    obtain ⟨v, rfl, r⟩ := rx.inv1
    cases r
    split at o
    · rename_i h
      refine ⟨_, call_str_int, i, rfl, h, ?_⟩
      have := Out.ok0 S o (.str (dec i))
      unfold dec at this
      rw [S_of] at this
      exact this
    · exact o.elim
  · obtain ⟨v, rfl, r⟩ := rx.inv1
    cases r
    exact ⟨_, SkE.call_str_str, _, rfl, Out.ok0 S o (.str _)⟩
  · exact o.elim

/-! ### all, any, sum of a fresh list; tuple, list -/
def blsW : List W → Option (List Bool)
  | [] => some []
  | .bl b :: ws => (blsW ws).map (b :: ·)
  | _ :: _ => none
theorem bls_V : ∀ {ws : List W} {vs : List V} {bs : List Bool}, VRs g ρ H ws vs → blsW ws = some bs → vs = bs.map V.bl
  | _, _, _, .nil, h => by cases h; rfl
  | _, _, bs, .cons (w := w) r rr, h => by
    cases w with
    | bl b =>
      cases r
      simp only [blsW, Option.map_eq_some_iff] at h
      obtain ⟨cs, h1, rfl⟩ := h
      rw [bls_V rr h1]; rfl
    | _ => simp [blsW] at h
def bAll (ws : List W) (m : Mem) : R W := match blsW ws with | some bs => .ok (.bl (bs.all id)) m | none => .bad
def bAny (ws : List W) (m : Mem) : R W := match blsW ws with | some bs => .ok (.bl (bs.any id)) m | none => .bad
theorem f_all (hc : X.calm = true) : FnL g X wx (fun u => call (.builtin "all") [u]) bAll := FnL.ofR fun m ρ H τ p ws vs Q S hp hn r o => by
  unfold bAll at o
  split at o
  · rename_i bs h
    have e := bls_V r h
    subst e
    exact ⟨_, cr_all hc, p, bs, rfl, SqL.of hp, Out.ok0 S o (.bl _)⟩
  · exact o.elim
theorem f_any (hc : X.calm = true) : FnL g X wx (fun u => call (.builtin "any") [u]) bAny := FnL.ofR fun m ρ H τ p ws vs Q S hp hn r o => by
  unfold bAny at o
  split at o
  · rename_i bs h
    have e := bls_V r h
    subst e
    exact ⟨_, cr_any hc, p, bs, rfl, SqL.of hp, Out.ok0 S o (.bl _)⟩
  · exact o.elim
def intsW : List W → Option (List Int)
  | [] => some []
  | .int b :: ws => (intsW ws).map (b :: ·)
  | _ :: _ => none
theorem ints_V : ∀ {ws : List W} {vs : List V} {bs : List Int}, VRs g ρ H ws vs → intsW ws = some bs → vs = bs.map V.int
  | _, _, _, .nil, h => by cases h; rfl
  | _, _, bs, .cons (w := w) r rr, h => by
    cases w with
    | int b =>
      cases r
      simp only [intsW, Option.map_eq_some_iff] at h
      obtain ⟨cs, h1, rfl⟩ := h
      rw [ints_V rr h1]; rfl
    | _ => simp [intsW] at h
def bSum (ws : List W) (m : Mem) : R W := match intsW ws with | some bs => .ok (.int bs.sum) m | none => .bad
theorem f_sum (hc : X.calm = true) : FnL g X wx (fun u => call (.builtin "sum") [u]) bSum := FnL.ofR fun m ρ H τ p ws vs Q S hp hn r o => by
  unfold bSum at o
  split at o
  · rename_i bs h
    have e := ints_V r h
    subst e
    exact ⟨_, cr_sum hc, p, bs, rfl, SqL.of hp, Out.ok0 S o (.int _)⟩
  · exact o.elim
def bTupL (ws : List W) (m : Mem) : R W := .ok (.tup ws) m
theorem f_tupL : FnL g X wx (fun u => call (.type "tuple") [u]) bTupL := FnL.ofR fun m ρ H τ p ws vs Q S hp hn r o => ⟨_, call_tuple_of, p, vs, rfl, .inl ⟨SqL.of hp, fun l hl => by
  obtain ⟨P2, S2⟩ := S.junk (u := .tup vs) hl
  exact (o : Out g wx τ ρ H (R.ok (W.tup ws) m) _) ρ _ P2 S2 _ (.tup (SqT.of upd_same) (r.post S P2))⟩⟩
def bTup (ws : List W) (m : Mem) : R W := match ws with
  | [.tup ws] => .ok (.tup ws) m
  | [.ref n] => match m[n]? with
    | some (.lst ws) => .ok (.tup ws) m
    | _ => .bad
  | _ => .bad
theorem f_tup (hK : X.K = g.K) : Fn g X wx (fun us => call (.type "tuple") us) bTup := Fn.ofR fun m ρ H τ xs vs Q S rx o => by
  unfold bTup at o
  split at o
  · obtain ⟨v, rfl, r⟩ := rx.inv1
    cases r with
    | tup h rv => exact ⟨_, call_tuple_of, _, _, rfl, .inr ⟨by rw [hK]; exact h, Out.ok0 S o (.tup h rv)⟩⟩
  · obtain ⟨v, rfl, r⟩ := rx.inv1
    cases r with
    | @ref _ p hp =>
      split at o
      · rename_i ws hm
        obtain ⟨vs, h1, rv⟩ := obj_lst S hp hm
        refine ⟨_, call_tuple_of, p, vs, rfl, .inl ⟨SqL.of h1, fun l hl => ?_⟩⟩
        obtain ⟨P2, S2⟩ := S.junk (u := .tup vs) hl
        exact (o : Out g wx τ ρ H (R.ok (W.tup ws) m) _) ρ _ P2 S2 _ (.tup (SqT.of upd_same) (rv.post S P2))
      · exact o.elim
  · exact o.elim
def bList (ws : List W) (m : Mem) : R W := match ws with
  | [.tup ws] => .ok (.ref m.length) (m ++ [.lst ws])
  | [.ref n] => match m[n]? with
    | some (.lst ws) => .ok (.ref m.length) (m ++ [.lst ws])
    | _ => .bad
  | _ => .bad
theorem f_list (hK : X.K = g.K) : Fn g X wx (fun us => call (.type "list") us) bList := Fn.ofR fun m ρ H τ xs vs Q S rx o => by
  unfold bList at o
  have fin : ∀ (ws : List W) (vs : List V), VRs g ρ H ws vs → Out g wx τ ρ H (R.ok (W.ref m.length) (m ++ [.lst ws])) (fun w m' ρ' H' => ∀ v, VR g ρ' H' w v → Q v H') → ∀ l, H l = none → Q (.ref l) (upd H l (.lst vs)) := fun ws vs rv o l hl => by
    obtain ⟨P2, S2⟩ := S.push (o := .lst ws) (u := .lst vs) hl ⟨_, rfl, rv⟩
    exact o _ _ P2 S2 _ (.ref (by rw [← S.len]; simp))
  split at o
  · obtain ⟨v, rfl, r⟩ := rx.inv1
    cases r with
    | tup h rv => exact ⟨_, call_list_of, _, _, rfl, .inr (by rw [hK]; exact h), fin _ _ rv o⟩
  · obtain ⟨v, rfl, r⟩ := rx.inv1
    cases r with
    | @ref _ p hp =>
      split at o
      · rename_i ws hm
        obtain ⟨vs, h1, rv⟩ := obj_lst S hp hm
        exact ⟨_, call_list_of, p, vs, rfl, .inl (SqL.of h1), fin _ _ rv o⟩
      · exact o.elim
  · exact o.elim

/-! ### repr of data -/
def reprD (d : PyData) (m : Mem) : R W := if d.showable = true ∧ d.hasDict = false ∧ d.depth ≤ 40 ∧ d.shown.length ≤ 1000000 then .ok (.str d.shown.cps.toList) m else .bad
def bRepr (ws : List W) (m : Mem) : R W := match ws with
  | [.tup ws] => match dat m 30 (.tup ws) with | some d => reprD d m | none => .bad
  | [.ref n] => match dat m 30 (.ref n) with | some d => reprD d m | none => .bad
  | [.int i] => if i.natAbs.log2 < 1920 then .ok (.str (dec i)) m else .bad
  | _ => .bad
theorem reprD_cases {d : PyData} {m : Mem} : ((d.showable = true ∧ d.hasDict = false ∧ d.depth ≤ 40 ∧ d.shown.length ≤ 1000000) ∧ reprD d m = .ok (.str d.shown.cps.toList) m) ∨ reprD d m = .bad := by
  unfold reprD
  split
  · rename_i h; exact .inl ⟨h, rfl⟩
  · exact .inr rfl
theorem f_repr {k : Nat} (hK : X.K = g.K) (hr : Rm k X.A) : Fn g X wx (fun us => call (.builtin "repr") us) bRepr := by
  refine ⟨fun pins s m ρ H τ xs vs us Q I S rx ru o => ?_⟩
  have go : ∀ (x : W) (a : Addr), VR g ρ H x (.ref a) → xs = [x] → us = [.ref a] → Out g wx τ ρ H (match dat m 30 x with | some d => reprD d m | none => .bad) (fun w m' ρ' H' => ∀ v u s', Inv X pins τ H' s' → VR g ρ' H' w v → RelV v u → Q u s') → wpAny (model X.prog X.w) X.A (call (.builtin "repr") us) Q X.xe s := by
    intro x a r e1 e2 o
    subst e2
    split at o
    · rename_i d hd
      rcases reprD_cases (d := d) (m := m) with ⟨⟨h1, h2, h3, h4⟩, h5⟩ | h
      · rw [h5] at o
        obtain ⟨as, rd⟩ := Dp.reads I d _ (.ref a) (dat_ok hK S 30 x _ d r hd) rfl
        refine PySem.repr_of_reads' rd h1 (fun z => by rw [h2] at z; cases z) hr.g (by have := hr.r.units; omega) (fun _ _ q => q) (fun h' u tk hk => ?_) (by rw [sizeLine_eq]; omega)
        exact Out.here o S (.str d.shown) _ _ (I.kept hk) (by have := VR.str (g := g) (ρ := ρ) (H := H) d.shown.cps.toList; rw [S_of] at this; exact this) ⟨u, rfl⟩
      · rw [h] at o; exact o.elim
    · exact o.elim
  unfold bRepr at o
  split at o
  · rename_i ws
    obtain ⟨v, rfl, r⟩ := rx.inv1
    cases ru with
    | cons r1 r2 =>
      cases r2
      cases r with
      | tup h rv => cases r1; exact go _ _ (.tup h rv) rfl rfl o
  · obtain ⟨v, rfl, r⟩ := rx.inv1
    cases ru with
    | cons r1 r2 =>
      cases r2
      cases r with
      | ref h => cases r1; exact go _ _ (.ref h) rfl rfl o
  · rename_i i
    obtain ⟨v, rfl, r⟩ := rx.inv1
    cases r
    split at o
    · rename_i h
      refine thn (SkE.call_repr_int pins s τ H [.int i] us (fun v H' => ∀ u s', Inv X pins τ H' s' → RelV v u → Q u s') I ru ⟨i, rfl, h, fun u s' I' ru' => ?_⟩) fun u1 s1 ⟨v1, H1, I1, r1, q⟩ => q u1 s1 I1 r1
      refine Out.here o S _ u s' I' ?_ ru'
      have := VR.str (g := g) (ρ := ρ) (H := H) (dec i)
      unfold dec at this
      rw [S_of] at this
      exact this
    · exact o.elim
  · exact o.elim

/-! ### starred items -/
def itemsW (x : W) (m : Mem) : R (List W) := match x with
  | .tup ws => .ok ws m
  | .ref n => match m[n]? with
    | some (.lst ws) => .ok ws m
    | _ => .bad
  | _ => .bad
def aStar (f : DE) (r : DL) : DL := fun σ m => (f σ m).bind fun x m1 => (itemsW x m1).bind fun ws m2 => (r σ m2).bind fun xs m3 => .ok (ws ++ xs) m3
def aStarL (f : DL) (r : DL) : DL := fun σ m => (f σ m).bind fun ws m1 => (r σ m1).bind fun xs m3 => .ok (ws ++ xs) m3
theorem items_ok {x : W} {v : V} {u : Value} {Q : List W → Mem → List Addr → Hp → Prop} (hK : X.K = g.K) (S : Sim g ρ m H) (r : VR g ρ H x v) (ru : RelV v u) (o : Out g wx τ ρ H (itemsW x m) Q) :
    ∃ a ws vs, u = .ref a ∧ (SqT X.K H a vs ∨ SqL X.K H a vs) ∧ VRs g ρ H ws vs ∧ Q ws m ρ H := by
  unfold itemsW at o
  split at o
  · cases r with
    | tup h rv => cases ru; exact ⟨_, _, _, rfl, .inl (by rw [hK]; exact h), rv, Out.here o S⟩
  · cases r with
    | @ref _ p hp =>
      cases ru
      split at o
      · rename_i ws hm
        obtain ⟨vs, h1, rv⟩ := obj_lst S hp hm
        exact ⟨_, _, _, rfl, .inr (SqL.of h1), rv, Out.here o S⟩
      · exact o.elim
  · exact o.elim
theorem sa_star {es : List Expr} {fs : DL} {p : Pos} (hK : X.K = g.K) (he : SE g X wx e fe) (hr : SA g X wx es fs) (hs : starEach (.Starred e p :: es) X.env = (true, eval e X.env) :: starEach es X.env := by exact star2) : SA g X wx (.Starred e p :: es) (aStar fe fs) := by
  refine ⟨fun pos pins s σ m ρ H τ Q I S L o => ?_⟩
  refine PySem.W.items_star (he.run pins s σ m ρ H τ _ I S L ((o.bind S).imp fun x m1 ρ1 H1 P1 S1 o1 v u s1 I1 rv ru => ?_)) hs
  obtain ⟨a, ws, vs, rfl, hq, rvs, o2⟩ := items_ok hK S1 rv ru (o1.bind S1)
  refine StX.star_any I1 hq fun us s2 I2 rus => ?_
  refine hr.run pos pins s2 σ m1 ρ1 H1 τ _ I2 S1 (L.post S P1) ((o2.bind S1).imp fun xs m3 ρ3 H3 P3 S3 o3 ys us2 s3 I3 r3 ru3 => ?_)
  exact Out.here o3 S3 (vs ++ ys) (us ++ us2) s3 I3 ((rvs.post S1 P3).append r3) (rus.append ru3)
theorem sa_starL {es : List Expr} {fs : DL} {p : Pos} (he : SL g X wx e fl) (hr : SA g X wx es fs) (hs : starEach (.Starred e p :: es) X.env = (true, eval e X.env) :: starEach es X.env := by exact star2) : SA g X wx (.Starred e p :: es) (aStarL fl fs) := by
  refine ⟨fun pos pins s σ m ρ H τ Q I S L o => ?_⟩
  refine PySem.W.items_star (he.run pins s σ m ρ H τ _ I S L ((o.bind S).imp fun ws m1 ρ1 H1 P1 S1 o1 p vs s1 I1 h0 hp hn rvs => ?_)) hs
  refine StX.star_any I1 (.inr (SqL.of hp)) fun us s2 I2 rus => ?_
  refine hr.run pos pins s2 σ m1 ρ1 H1 τ _ I2 S1 (L.post S P1) ((o1.bind S1).imp fun xs m3 ρ3 H3 P3 S3 o3 ys us2 s3 I3 r3 ru3 => ?_)
  exact Out.here o3 S3 (vs ++ ys) (us ++ us2) s3 I3 ((rvs.post S1 P3).append r3) (rus.append ru3)

/-! ### methods of texts -/
def eM1 (fn : W → W → Mem → R W) (fo fe : DE) : DE := fun σ m => (fo σ m).bind fun x m1 => match x with
  | .str l => (fe σ m1).bind fun y m2 => fn (.str l) y m2
  | _ => .bad
def Mr1 (g : G) (wx : WX) (r : V → List V → Hp → VK → Prop) (fn : W → W → Mem → R W) : Prop := Rr2 g wx (fun v z H Q => r v [z] H Q) fn
theorem se_m1 {id : String} {name : Str} {apos pos : Pos} {r : V → List V → Hp → VK → Prop} {fn : W → W → Mem → R W} (slot : Slot "str" name id) (ty : typeOf (.builtin id) = pure (.type "method_descriptor")) (rule : MtR X id r) (hr : Mr1 g wx r fn) (ho : SE g X wx o fo) (he : SE g X wx e fe)
    (hs : starEach [e] X.env = [(false, eval e X.env)] := by rfl) (hbase : attributeBase o name X.env (eval o X.env) = eval o X.env := by rfl) (hline : (apos.endLine == pos.line) = true := by rfl) :
    SE g X wx (.Call (.Attribute o name apos) [e] [] pos) (eM1 fn fo fe) :=
  SE.ofPE (pe_m1 slot ty rule ho.pe he.pe hs hbase hline) fun σ m ρ H τ Q S L oo => ⟨σ, m, ρ, S, L, (oo.bind S).imp fun x m1 ρ1 H1 P1 S1 o1 v rv => by
    cases rv with
    | str l => exact ⟨⟨_, rfl⟩, σ, m1, ρ1, S1, L.post S P1, (o1.bind S1).imp fun y m2 ρ2 H2 P2 S2 o2 z rz => hr m2 ρ2 H2 τ (.str l) y _ z Q S2 (.str l) rz o2⟩
    | _ => exact o1.elim⟩
def strsW : List W → Option (List (List Nat))
  | [] => some []
  | .str b :: ws => (strsW ws).map (b :: ·)
  | _ :: _ => none
theorem strs_V : ∀ {ws : List W} {vs : List V} {bs : List (List Nat)}, VRs g ρ H ws vs → strsW ws = some bs → vs = (bs.map Sh.S).map V.str
  | _, _, _, .nil, h => by cases h; rfl
  | _, _, bs, .cons (w := w) r rr, h => by
    cases w with
    | str b =>
      cases r
      simp only [strsW, Option.map_eq_some_iff] at h
      obtain ⟨cs, h1, rfl⟩ := h
      rw [strs_V rr h1]; rfl
    | _ => simp [strsW] at h
def joinW (a : List Nat) (ws : List W) (m : Mem) : R W := match strsW ws with
  | some ys => if (ys.map (·.length)).sum + ys.length * a.length ≤ 1000000 then .ok (.str (TL.joinL a ys)) m else .bad
  | none => .bad
theorem joinW_out {a : List Nat} {ws : List W} {vs : List V} {Q : VK} (S : Sim g ρ m H) (r : VRs g ρ H ws vs) (o : Out g wx τ ρ H (joinW a ws m) (fun w m' ρ' H' => ∀ v, VR g ρ' H' w v → Q v H')) :
    ∃ ys : List Str, vs = ys.map V.str ∧ (ys.map (·.length)).sum + ys.length * (Sh.S a).length ≤ 16777216 ∧ Q (.str (Txt.join (Sh.S a) ys)) H := by
  unfold joinW at o
  split at o
  · rename_i ys h
    split at o
    · rename_i hl
      refine ⟨_, strs_V r h, ?_, ?_⟩
      · rw [SX.lens, List.length_map, S_len]; omega
      · rw [SX.join_S]; exact Out.ok0 S o (.str _)
    · exact o.elim
  · exact o.elim
/-- sep.join(fresh list) -/
def eJoinL (fo : DE) (fl : DL) : DE := fun σ m => (fo σ m).bind fun x m1 => match x with
  | .str a => (fl σ m1).bind fun ws m2 => joinW a ws m2
  | _ => .bad
theorem se_joinL {apos pos : Pos} (ho : SE g X wx o fo) (he : SL g X wx e fl) (hs : starEach [e] X.env = [(false, eval e X.env)] := by rfl) (hbase : attributeBase o "join" X.env (eval o X.env) = eval o X.env := by rfl) (hline : (apos.endLine == pos.line) = true := by rfl) :
    SE g X wx (.Call (.Attribute o "join" apos) [e] [] pos) (eJoinL fo fl) :=
  SE.ofPE (pe_join ho.pe he.pe hs hbase hline) fun σ m ρ H τ Q S L oo => ⟨σ, m, ρ, S, L, (oo.bind S).imp fun x m1 ρ1 H1 P1 S1 o1 v rv => by
    cases rv with
    | str a => exact ⟨⟨_, rfl⟩, σ, m1, ρ1, S1, L.post S P1, (o1.bind S1).imp fun ws m2 ρ2 H2 P2 S2 o2 p vs h0 hp hn r => by
        obtain ⟨ys, rfl, h2, h3⟩ := joinW_out S2 r o2
        exact ⟨_, p, ys, rfl, rfl, .inl (SqL.of hp), h2, h3⟩⟩
    | _ => exact o1.elim⟩
def wJoin (x y : W) (m : Mem) : R W := match x with
  | .str a => (itemsW y m).bind fun ws m1 => joinW a ws m1
  | _ => .bad
/-- a.split(b), as a fresh list -/
def splitW (x y : W) (m : Mem) : R (List W) := match x, y with
  | .str a, .str b => if b ≠ [] ∧ b.all (· < 256) = true ∧ a.length ≤ 1000000 then .ok ((TL.spl b 0 [] a).map W.str) m else .bad
  | _, _ => .bad
def lSplit (fo fe : DE) : DL := fun σ m => (fo σ m).bind fun x m1 => match x with
  | .str l => (fe σ m1).bind fun y m2 => splitW (.str l) y m2
  | _ => .bad
theorem strs_R : ∀ {ys : List (List Nat)}, VRs g ρ H (ys.map W.str) ((ys.map Sh.S).map V.str)
  | [] => .nil
  | y :: ys => .cons (.str y) strs_R
theorem SL.ofPE {f : DL} {t : TE} (he : PE X e t)
    (h : ∀ (σ : Loc) (m : Mem) (ρ : List Addr) (H : Hp) (τ : L2.St) (Q : VK), Sim g ρ m H → LR g ρ H σ τ → Out g wx τ ρ H (f σ m) (fun ws m' ρ' H' => ∀ p vs, H p = none → H' p = some (.lst vs) → p ∉ ρ' → VRs g ρ' H' ws vs → Q (.ref p) H') → t τ H Q) : SL g X wx e f := by
  refine ⟨fun pins s σ m ρ H τ Q I S L o => ?_⟩
  refine thn (he.run pins s τ H (fun v H' => ∀ u s', Inv X pins τ H' s' → RelV v u → Q u s') I (h σ m ρ H τ _ S L ?_)) fun u s1 ⟨v, H1, I1, r1, q⟩ => q u s1 I1 r1
  exact o.imp fun ws m' ρ' H' _ _ k p vs h0 hp hn r u s' I' ru => by cases ru; exact k p vs s' I' h0 hp hn r
theorem sl_split {apos pos : Pos} (ho : SE g X wx o fo) (he : SE g X wx e fe) (hs : starEach [e] X.env = [(false, eval e X.env)] := by rfl) (hbase : attributeBase o "split" X.env (eval o X.env) = eval o X.env := by rfl) (hline : (apos.endLine == pos.line) = true := by rfl) :
    SL g X wx (.Call (.Attribute o "split" apos) [e] [] pos) (lSplit fo fe) :=
  SL.ofPE (pe_split ho.pe he.pe hs hbase hline) fun σ m ρ H τ Q S L oo => ⟨σ, m, ρ, S, L, (oo.bind S).imp fun x m1 ρ1 H1 P1 S1 o1 v rv => by
    cases rv with
    | str a => exact ⟨⟨_, rfl⟩, σ, m1, ρ1, S1, L.post S P1, (o1.bind S1).imp fun y m2 ρ2 H2 P2 S2 o2 z rz => by
        unfold splitW at o2
        split at o2
        · rename_i a' b e1
          cases e1
          cases rz
          split at o2
          · rename_i hc
            refine ⟨_, _, rfl, rfl, ?_, by rw [S_len, sizeLine_eq]; omega, fun p hp => ?_⟩
            · rw [S_len]
              have := hc.1
              cases b with
              | nil => exact absurd rfl this
              | cons c r => rfl
            · rw [SX.split_S hc.1 hc.2.1]
              obtain ⟨P3, S3⟩ := S2.junk (u := .lst (((TL.spl b 0 [] a).map Sh.S).map V.str)) hp
              exact o2 _ _ P3 S3 p _ ((P1.then P2 S S1).back S S2 hp) upd_same (fun z => S2.isSm z hp) strs_R
          · exact o2.elim
        · exact o2.elim⟩
    | _ => exact o1.elim⟩
def wRmPre (x y : W) (m : Mem) : R W := match x, y with
  | .str a, .str b => if a.length ≤ 1000000 then .ok (.str (Txt.removeprefix (Sh.S a) (Sh.S b)).cps.toList) m else .bad
  | _, _ => .bad
theorem mr_rmPre : Mr1 g wx (fun x xs H Q => ∃ a b, x = .str a ∧ xs = [.str b] ∧ a.length ≤ sizeLine ∧ Q (.str (Txt.removeprefix a b)) H) wRmPre := by
  intro m ρ H τ x y v z Q S rx ry o
  unfold wRmPre at o
  split at o
  · rename_i a b
    cases rx; cases ry
    split at o
    · rename_i hl
      refine ⟨_, _, rfl, rfl, by rw [S_len]; exact sizeM hl, ?_⟩
      have := Out.ok0 S o (.str _)
      rw [S_of] at this
      exact this
    · exact o.elim
  · exact o.elim
theorem se_rmPre {apos pos : Pos} (ho : SE g X wx o fo) (he : SE g X wx e fe) (hs : starEach [e] X.env = [(false, eval e X.env)] := by rfl) (hbase : attributeBase o "removeprefix" X.env (eval o X.env) = eval o X.env := by rfl) (hline : (apos.endLine == pos.line) = true := by rfl) :
    SE g X wx (.Call (.Attribute o "removeprefix" apos) [e] [] pos) (eM1 wRmPre fo fe) := se_m1 PySem.F.slot_str_removeprefix PySem.F.type_str_removeprefix mt_removeprefix mr_rmPre ho he hs hbase hline
/-- xs.append(v) -/
def wApp (x y : W) (m : Mem) : R W := match x with
  | .ref n => match m[n]? with
    | some (.lst ws) => if ws.length < 1000000 then .ok .non (m.set n (.lst (ws ++ [y]))) else .bad
    | _ => .bad
  | _ => .bad
def isLst (m : Mem) (x : W) : Bool := match x with
  | .ref n => match m[n]? with | some (.lst _) => true | _ => false
  | _ => false
def eApp (fo : DE) (fs : DL) : DE := fun σ m => (fo σ m).bind fun x m1 => if isLst m1 x = true then (fs σ m1).bind fun ys m2 => match ys with | [y] => wApp x y m2 | _ => .bad else .bad
theorem isLst_V {x : W} {v : V} (S : Sim g ρ m H) (h : isLst m x = true) (r : VR g ρ H x v) : ∃ n p ws vs, x = .ref n ∧ v = .ref p ∧ ρ[n]? = some p ∧ m[n]? = some (.lst ws) ∧ H p = some (.lst vs) ∧ VRs g ρ H ws vs := by
  unfold isLst at h
  split at h
  · rename_i n
    split at h
    · rename_i ws hm
      cases r with
      | @ref _ p hp =>
        obtain ⟨vs, h1, rv⟩ := obj_lst S hp hm
        exact ⟨_, _, _, _, rfl, rfl, hp, hm, h1, rv⟩
    · cases h
  · cases h
theorem se_app {fs : DL} {apos pos : Pos} (ho : SE g X wx o fo) (ha : SA g X wx [e] fs) (hbase : attributeBase o "append" X.env (eval o X.env) = eval o X.env := by rfl)
    (hfew : ((backTo pos (starEach (e :: []) X.env)).all (fun x => !x.1) && (backToKw pos (keywordEach [] X.env)).all (fun x => x.1.isSome)
      && decide ((e :: []).length + ([] : List Keyword).length + (if ([] : List Keyword).isEmpty then 0 else 1) < 30)) = true := by rfl)
    (hline : (apos.endLine == pos.line) = true := by rfl) (hs : starEach (e :: []) X.env = (false, eval e X.env) :: starEach [] X.env := by exact star1 rfl) (hplain : (backTo pos (starEach [] X.env)).any (·.1) = false := by rfl) :
    SE g X wx (.Call (.Attribute o "append" apos) [e] [] pos) (eApp fo fs) :=
  SE.ofPE (pe_bm PySem.F.plainAttrs_list PySem.F.slot_list_append PySem.F.type_list_append mt_append ho.pe ha.pa hbase hfew hline hs hplain) fun σ m ρ H τ Q S L oo => ⟨σ, m, ρ, S, L, (oo.bind S).imp fun x m1 ρ1 H1 P1 S1 o1 v rv => by
    split at o1
    · rename_i hx
      obtain ⟨n, p, ws, vs, rfl, rfl, hp, hm, hH, rvs⟩ := isLst_V S1 hx rv
      refine ⟨.inl ⟨rfl, vs, SqL.of hH⟩, σ, m1, ρ1, S1, L.post S P1, (o1.bind S1).imp fun ys m2 ρ2 H2 P2 S2 o2 zs rz => ?_⟩
      split at o2
      · rename_i y
        obtain ⟨z, rfl, rz1⟩ := rz.inv1
        unfold wApp at o2
        simp only at o2
        split at o2
        · rename_i ws2 hm2
          split at o2
          · rename_i hl
            obtain ⟨vs2, h2, rv2⟩ := obj_lst S2 (P2.get hp) hm2
            refine ⟨p, vs2, z, rfl, rfl, h2, by rw [← rv2.length]; exact sizeM' (by omega), ?_⟩
            obtain ⟨P4, S4⟩ := S2.set (u := .lst (vs2 ++ [z])) (o := .lst (ws2 ++ [y])) (P2.get hp) ⟨_, rfl, rv2.append (.cons rz1 .nil)⟩
            exact o2 _ _ P4 S4 _ .non
          · exact o2.elim
        · exact o2.elim
      · exact o2.elim
    · exact o1.elim⟩
end
end Sh

namespace Sh
open PySem PySem.Spec L2
open PyProof.Rows (envOfC)

/-! ### types of values -/
inductive Tc where | bi (n : String) | own (c : String)
  deriving DecidableEq
def Tc.val (g : G) : Tc → Value | .bi n => .type n | .own c => .ref (g.cl c)
def tyc (x : W) (m : Mem) : Option Tc := match x with
  | .non => some (.bi "NoneType")
  | .bl _ => some (.bi "bool")
  | .int _ => some (.bi "int")
  | .str _ => some (.bi "str")
  | .tup _ => some (.bi "tuple")
  | .ref n => match m[n]? with
    | some (.lst _) => some (.bi "list")
    | some (.dK _) => some (.bi "dict")
    | some (.dT _) => some (.bi "dict")
    | some (.ins c _) => some (.own c)
    | _ => none
  | _ => none
/-- of a class: what isinstance reads -/
structure InsK (K : PySem.W.Frag) (C : Addr) : Prop where
  cl : Cls K C
  at_ : PySem.W.findIn K (.ref C) "__class__" = some (some (.builtin "object.__class__"))
  get : PySem.W.specialIn K (.builtin "object.__class__") "__get__" = some (some (.builtin "getset_descriptor.__get__"))
  tak : PySem.W.takesIn K (.builtin "object.__class__") = some true
  mro : PySem.W.mroIn K C (.type "object") = some true
section
variable {g : G} {X : Cx} {wx : WX} {τ : L2.St} {ρ ρ' : List Addr} {H H' : Hp} {m m' : Mem} {e a b c o : Expr} {fa fb fc fo fe : DE} {fl : DL} {pos : Pos} {pins : List (Addr × Obj)} {s : Shared}
theorem tyx_of {x : W} {v : V} {t : Tc} (hK : X.K = g.K) (S : Sim g ρ m H) (r : VR g ρ H x v) (e : tyc x m = some t) (hI : ∀ c, t = .own c → InsK X.K (g.cl c)) : TyX X.K H v (t.val g) := by
  unfold tyc at e
  split at e
  · cases e; cases r; exact .base .non
  · cases e; cases r; exact .base (.bl _)
  · cases e; cases r; exact .base (.int _)
  · cases e; cases r; exact .base (.str _)
  · cases e
    cases r with
    | tup h rv =>
      rw [← hK] at h
      rcases h with h | ⟨o, its, n, h1, h2, _⟩
      · rcases h with h | ⟨ob, h⟩
        · exact .base (.tup h)
        · exact .fTuple h
      · exact .kTuple h1 h2
  · cases r with
    | @ref n p hp =>
      split at e
      · rename_i ws hm
        cases e
        obtain ⟨vs, h1, _⟩ := obj_lst S hp hm
        exact .base (.lst h1)
      · rename_i kvs hm
        cases e
        obtain ⟨u, h1, vs, e1, _⟩ := S.obj _ p _ hp hm
        subst e1
        exact .base (.dK h1)
      · rename_i kvs hm
        cases e
        obtain ⟨u, h1, vs, e1, _⟩ := S.obj _ p _ hp hm
        subst e1
        exact .base (.dT h1)
      · rename_i c fs hm
        cases e
        obtain ⟨u, h1, dx, gs, e1, _⟩ := S.obj _ p _ hp hm
        subst e1
        have q := hI c rfl
        exact .base (.ins h1 q.cl q.at_ q.get q.tak q.mro)
      · cases e
  · cases e

/-! ### isinstance -/
structure IsiK (K : PySem.W.Frag) (g : G) (it : Tc → Tc → Option Bool) : Prop where
  ins : ∀ c d b, it (.own c) d = some b → InsK K (g.cl c)
  one : ∀ t d b, it t d = some b → PySem.W.kitOne K (t.val g) (d.val g) = some b
def clsT (x : W) : Option Tc := match x with | .cls c => some (.own c) | .ty n => some (.bi n) | _ => none
def isi1 (it : Tc → Tc → Option Bool) (x y : W) (m : Mem) : Option Bool := match tyc x m, clsT y with
  | some t, some d => it t d
  | _, _ => none
def bIsi (it : Tc → Tc → Option Bool) (ws : List W) (m : Mem) : R W := match ws with
  | [x, y] => match isi1 it x y m with | some b => .ok (.bl b) m | none => .bad
  | _ => .bad
theorem f_isi {it : Tc → Tc → Option Bool} (hK : X.K = g.K) (hI : IsiK X.K g it) : Fn g X wx (fun us => call (.builtin "isinstance") us) (bIsi it) := Fn.ofR fun m ρ H τ xs vs Q S rx o => by
  unfold bIsi at o
  split at o
  · rename_i x y
    obtain ⟨v, u, rfl, rv, ru⟩ := rx.inv2
    split at o
    · rename_i b hb
      unfold isi1 at hb
      split at hb
      · rename_i t d ht hd
        have hv : ClsV u (d.val g) := by
          unfold clsT at hd
          split at hd
          · cases hd; cases ru; exact .own _
          · cases hd; cases ru; exact .ty _
          · cases hd
        exact ⟨_, call_isi, v, u, t.val g, d.val g, b, rfl, hv, tyx_of hK S rv ht (fun c hc => by subst hc; exact hI.ins c d b hb), hI.one t d b hb, Out.ok0 S o (.bl _)⟩
      · cases hb
    · exact o.elim
  · exact o.elim

/-! ### == and != by an own __eq__ -/
structure EqK (P : Program) (w : World) (K : PySem.W.Frag) (mg : Str → Option Value) (base : Heap) (g : G) (c : String) (k : Nat) (F : DF) : Prop where
  ex : ∃ (ga : Addr) (fd : FuncData) (ps : List Str), Cls K (g.cl c) ∧ PySem.W.findIn K (.ref (g.cl c)) "__eq__" = some (some (.ref ga)) ∧ PySem.W.isFn K (.ref ga) = true ∧ Binds K fd ps [] ∧ Arity ps.length F ∧ FnG P w K mg base k ga fd ps (spOf g F ps.length)
  ne : PySem.W.findIn K (.ref (g.cl c)) "__ne__" = some (some (.builtin "object.__ne__"))
  mro : PySem.W.mroIn K (g.cl c) (.type "object") = some true
structure EqT (P : Program) (w : World) (K : PySem.W.Frag) (mg : Str → Option Value) (base : Heap) (g : G) (k : Nat) (tbl : String → Option DF) (nf : String → Tc → Bool) : Prop where
  eq : ∀ c F, tbl c = some F → EqK P w K mg base g c k F
  fst : ∀ c t, nf c t = true → PySem.W.notFirst K (g.cl c) (t.val g) = true
  ins : ∀ c d, nf c (.own d) = true → InsK K (g.cl d)
/-- what == answers: own __eq__ where x is an instance, else by data -/
def eqB (tbl : String → Option DF) (nf : String → Tc → Bool) (x y : W) (m : Mem) : R W := match insOf m x with
  | some (c, _) => match tbl c, tyc y m with
    | some F, some t => if nf c t = true then (F [x, y] m).nox.bind fun w m1 => match w with | .bl b => .ok (.bl b) m1 | _ => .bad else .bad
    | _, _ => .bad
  | none => wEq0 x y m
def neB (tbl : String → Option DF) (nf : String → Tc → Bool) (x y : W) (m : Mem) : R W := match insOf m x with
  | some (c, _) => match tbl c, tyc y m with
    | some F, some t => if nf c t = true then (F [x, y] m).nox.bind fun w m1 => match w with | .bl b => .ok (.bl (!b)) m1 | _ => .bad else .bad
    | _, _ => .bad
  | none => wNe0 x y m
section
variable {prog : Program} {w : World} {A : Around} {E : Value → Shared → Prop} {K : PySem.W.Frag} {x C f : Addr} {ox : Obj} {od : Option Obj} {b tb : Value}
open Builtin in
theorem ne_K {Q : Value → Shared → Prop} (hu : A.units + 1 < cLine) (KX : K.In s.heap) (I : PySem.W.InstAt s.heap x ox C od) (hb : PySem.W.Looks (model prog w) s.heap (typeOf b) tb) (hn : PySem.W.notFirst K C tb = true)
    (hne : PySem.W.findIn K (.ref C) "__ne__" = some (some (.builtin "object.__ne__"))) (hm : PySem.W.mroIn K C (.type "object") = some true)
    (hs : PySem.W.findIn K (.ref C) "__eq__" = some (some (.ref f))) (hf : PySem.W.isFn K (.ref f) = true)
    (h : wpAny (model prog w) A.in1 (call (.ref f) [.ref x, b]) (fun v s' => ∃ k, v = .bool k ∧ Q (.bool (!k)) s') E s) : wpAny (model prog w) A (richCompare .NotEq (.ref x) b) Q E s := by
  have entry : ∀ {R : Fin → Shared → Prop} {A : Around}, A.units < cLine → wpAny (model prog w) A (call (.ref f) [.ref x, b]) (fun v s' => ∃ k, v = .bool k ∧ R (.done (.ret (.bool (!k)))) s') E s → wpAny (model prog w) A (Builtin.«object.__ne__» ⟨[.ref x, b], []⟩) R E s := by
    intro R A hu h
    obtain ⟨hh, gg, dd, tt, oo⟩ := s
    unfold Builtin.«object.__ne__»
    refine wpAny_bind (wpAny_pure ?_)
    refine wpAny_bind (wpAny_cRoomFor hu ?_)
    refine wpAny_bind (m := callSpecialIfBound? (.ref x) (Str.ofString "__eq__") [b]) (PySem.W.ifBound_K KX I hs hf (wpAny_mono h (fun v s' hv => ?_) fun _ _ e => e))
    obtain ⟨k, rfl, hq⟩ := hv
    repeat (first | exact hq | exact wpAny_pure hq | exact wpAny_truthy_bool hq | (refine wpAny_bind (m := truthy (.bool _)) (wpAny_truthy_bool ?_)) | wp_step)
  have one : wpAny (model prog w) A (tryCompare (.ref x) (cmpInfo .NotEq).2.1 b) (fun r s' => ∃ v, r = some v ∧ Q v s') E s := by
    unfold tryCompare
    refine wpAny_bind ?_
    show wpAny (model prog w) A (callSpecialIfBound? (.ref x) "__ne__" [b]) _ E s
    simp only [callSpecialIfBound?, bindSpecialIfBound?]
    refine wpAny_holding (wpAny_bind (wpAny_bind (wpAny_bind (I.type.here ((PySem.W.looks_findIn KX hne).here ?_)))))
    have hcall : wpAny (model prog w) A (call (.builtin "object.__ne__") ([.ref x] ++ [b])) (fun v s' => ∃ k, v = .bool (!k) ∧ Q (.bool (!k)) s') E s := by
      refine wpAny_call (codeAny_call_builtin F.cmp_object.ne.plain F.cmpEntry_ne (PySem.W.check_slot F.cmpKind_ne F.cmpSplit_ne ?_ (F.cmpArgs_ne _ _) ?_))
      · exact (I.type).andThen (PySem.W.looks_subIn KX hm)
      · refine entry (A := A.in1) (by show A.units + 1 < cLine; exact hu) (wpAny_mono h (fun v s' hv => ?_) fun _ _ e => e)
        obtain ⟨k, rfl, hq⟩ := hv
        exact ⟨k, rfl, k, rfl, hq⟩
    have fin : wpAny (model prog w) A (call (.builtin "object.__ne__") ([.ref x] ++ [b]) >>= fun v => pure (some v)) (fun r s' => ∃ k, r = some (.bool (!k)) ∧ Q (.bool (!k)) s') E s :=
      wpAny_bind (wpAny_mono hcall (fun v s' ⟨k, e, h'⟩ => wpAny_pure ⟨k, by rw [e], h'⟩) fun _ _ h' => h')
    refine wpAny_bind (wpAny_askSetting (wpAny_ite ?_))
    simp only [F.cmp_object.ne.bind]
    split
    · exact wpAny_bind (wpAny_pure (wpAny_pure (wpAny_mono fin (fun r s' ⟨k, e, h'⟩ => by subst e; exact wpAny_pure ⟨_, rfl, h'⟩) fun _ _ e => e)))
    · exact wpAny_tryCatch (wpAny_bind (wpAny_pure (wpAny_pure (wpAny_mono fin (fun r s' ⟨k, e, h'⟩ => by subst e; exact wpAny_pure ⟨_, rfl, h'⟩) fun _ _ e => e))))
  unfold richCompare
  simp only [oneThing_ref]
  refine wpAny_holding (wpAny_bind (wpAny_cRoomFor (by omega) ?_))
  refine wpAny_bind (I.type.here (wpAny_bind (hb.here ?_)))
  split
  · rename_i q
    have e : PySem.W.subIn K tb (.ref C) = some false := by
      rcases Bool.or_eq_true_iff.mp hn with e | e
      · rw [beq_iff_eq.mp e] at q; simp at q
      · exact beq_iff_eq.mp e
    refine wpAny_bind ((PySem.W.looks_subIn KX e).here ?_)
    simp only [Bool.false_eq_true, if_false]
    refine wpAny_bind (wpAny_mono one (fun r s' z => ?_) fun _ _ e => e)
    obtain ⟨v, rfl, hq⟩ := z
    exact wpAny_pure hq
  · refine wpAny_bind (wpAny_pure ?_)
    simp only [Bool.false_eq_true, if_false]
    refine wpAny_bind (wpAny_mono one (fun r s' z => ?_) fun _ _ e => e)
    obtain ⟨v, rfl, hq⟩ := z
    exact wpAny_pure hq
end
theorem eq_run {k : Nat} {F : DF} {ga : Addr} {fd : FuncData} {ps : List Str} {A' : Around} {x y : W} {v z : V} {u t : Value} {Q : Value → Shared → Prop} {E : Value → Shared → Prop} {k' : W → Mem → R W} (FO : FnG X.prog X.w X.K X.mg X.base k ga fd ps (spOf g F ps.length)) (hb : Binds X.K fd ps []) (ar : Arity ps.length F)
    (hr : Rm k A') (e0 : Env0 X.prog X.w X.K X.mg X.base A' X.stack s H) (I : Inv X pins τ H s) (S : Sim g ρ m H) (rx : VR g ρ H x v) (ru : RelV v u) (ry : VR g ρ H y z) (rt : RelV z t)
    (o : Out g wx τ ρ H ((F [x, y] m).nox.bind fun w m1 => match w with | .bl b => k' (.bl b) m1 | _ => .bad) (fun w m' ρ' H' => ∀ v u s', Inv X pins τ H' s' → VR g ρ' H' w v → RelV v u → Q u s')) :
    wpAny (model X.prog X.w) A' (call (.ref ga) [u, t]) (fun r s' => ∃ b ρ1 m1 H1, r = .bool b ∧ Inv X pins τ H1 s' ∧ Sim g ρ1 m1 H1 ∧ Out g wx τ ρ1 H1 (k' (.bl b) m1) (fun w m' ρ' H' => ∀ v u s', Inv X pins τ H' s' → VR g ρ' H' w v → RelV v u → Q u s')) E s := by
  have hl : [x, y].length = ps.length := by
    rcases ar.or [x, y] m with h | h
    · exact h
    · rw [h] at o; exact o.elim
  have hl2 : ps.length = 2 := hl.symm
  have hbd := hb s [u, t] I.kIn (by rw [hl2]; rfl)
  rw [List.append_nil] at hbd
  refine wpAny_call (codeAny_mono (FO.run A' X.stack s H ⟨[u, t], []⟩ [u, t] [v, z] (fun v' H' => ∃ b ρ1 m1, v' = .bl b ∧ Sim g ρ1 m1 H' ∧ Out g wx τ ρ1 H' (k' (.bl b) m1) (fun w m' ρ' H' => ∀ v u s', Inv X pins τ H' s' → VR g ρ' H' w v → RelV v u → Q u s')) (fun _ _ _ => False) hr e0 hbd (.cons ru (.cons rt .nil)) ⟨by rw [hl2]; rfl, [x, y], m, ρ, S, .cons rx (.cons ry .nil), ?_⟩) fun r s' hq => ?_)
  · cases hF : F [x, y] m with
    | ok w m1 =>
      rw [hF] at o
      cases w with
      | bl b =>
        intro ρ' H' v' P' S' rv
        cases rv
        exact ⟨b, ρ', m1, rfl, S', Out.from (r := k' (.bl b) m1) o P' S S'⟩
      | _ => exact o.elim
    | exc c fs m1 => rw [hF] at o; exact o.elim
    | bad => rw [hF] at o; exact o.elim
  · cases r with
    | error er =>
      obtain ⟨_, _, _, _, _, _, _, _, _, _, _, _, z⟩ := hq
      exact z.elim
    | ok fl =>
      cases fl with
      | ret u' =>
        obtain ⟨v', H', I3, rv, b, ρ1, m1, e1, S1, o1⟩ := I.after hq
        subst e1
        exact ⟨b, ρ1, m1, H', rv, I3, S1, o1⟩
      | next => exact False.elim hq
      | brk => exact False.elim hq
      | cont => exact False.elim hq
theorem f_eq {k : Nat} {tbl : String → Option DF} {nf : String → Tc → Bool} (hK : X.K = g.K) (hr : Rm k X.A) (T : EqT X.prog X.w X.K X.mg X.base g k tbl nf) : F2 g X wx (compareOp .Eq) (eqB tbl nf) := by
  refine ⟨fun pins s m ρ H τ x y v z u t Q I S rx ru ry rt o => ?_⟩
  unfold eqB at o
  split at o
  · rename_i c fs hins
    split at o
    · rename_i F t' hF ht
      split at o
      · rename_i hnf
        obtain ⟨n, rfl, hm⟩ := insOf_some hins
        cases rx with
        | @ref _ p hp =>
          obtain rfl : u = Value.ref p := ru
          obtain ⟨u1, h1, dx, gs, e1, rf⟩ := S.obj n p _ hp hm
          subst e1
          obtain ⟨⟨ga, fd, ps, cl, hs, hf, hb, ar, FO⟩, hne, hmro⟩ := T.eq c F hF
          obtain ⟨mA, J, _⟩ := ins_get I.hok h1
          obtain ⟨od, J, _⟩ := J.look
          obtain ⟨mm, hF'⟩ := I.fr
          obtain ⟨P, Z, pz, _⟩ := kit_of I rt (tyx_of hK S ry ht fun d hd => by subst hd; exact T.ins c d hnf)
          refine PySem.W.cmp_K (op := .Eq) (tb := t'.val g) hr.r.units0 hF' I.ok.mod.kin J (Z.ty _ _ I.kIn pz) (T.fst c t' hnf) hs hf ?_
          refine wpAny_mono (eq_run (k' := fun w m1 => .ok w m1) (E := X.xe) FO hb ar hr I.env0 I S (.ref hp) rfl ry rt o) (fun r s' ⟨b, ρ1, m1, H1, e, I1, S1, o1⟩ => ?_) fun _ _ e => e
          subst e
          exact Out.here o1 S1 (.bl b) _ s' I1 (.bl b) rfl
      · exact o.elim
    · exact o.elim
  · exact (f_eq0 hK hr).run pins s m ρ H τ x y v z u t Q I S rx ru ry rt o
theorem f_ne {k : Nat} {tbl : String → Option DF} {nf : String → Tc → Bool} (hK : X.K = g.K) (hr : Rm (k + 1) X.A) (T : EqT X.prog X.w X.K X.mg X.base g k tbl nf) : F2 g X wx (compareOp .NotEq) (neB tbl nf) := by
  refine ⟨fun pins s m ρ H τ x y v z u t Q I S rx ru ry rt o => ?_⟩
  unfold neB at o
  split at o
  · rename_i c fs hins
    split at o
    · rename_i F t' hF ht
      split at o
      · rename_i hnf
        obtain ⟨n, rfl, hm⟩ := insOf_some hins
        cases rx with
        | @ref _ p hp =>
          obtain rfl : u = Value.ref p := ru
          obtain ⟨u1, h1, dx, gs, e1, rf⟩ := S.obj n p _ hp hm
          subst e1
          obtain ⟨⟨ga, fd, ps, cl, hs, hf, hb, ar, FO⟩, hne, hmro⟩ := T.eq c F hF
          obtain ⟨mA, J, _⟩ := ins_get I.hok h1
          obtain ⟨od, J, _⟩ := J.look
          obtain ⟨P, Z, pz, _⟩ := kit_of I rt (tyx_of hK S ry ht fun d hd => by subst hd; exact T.ins c d hnf)
          show wpAny _ _ (richCompare .NotEq (.ref p) t) _ _ s
          refine ne_K (by have := hr.r.units; omega) I.kIn J (Z.ty _ _ I.kIn pz) (T.fst c t' hnf) hne hmro hs hf ?_
          refine wpAny_mono (eq_run (wx := wx) (Q := Q) (k' := fun w m1 => match w with | .bl b => .ok (.bl (!b)) m1 | _ => .bad) (E := X.xe) FO hb ar hr.in1 I.env0.in1 I S (.ref hp) rfl ry rt ?_) (fun r s' ⟨b, ρ1, m1, H1, e, I1, S1, o1⟩ => ?_) fun _ _ e => e
          · have e : ((F [.ref n, y] m).nox.bind fun w m1 => match w with | .bl b => (match W.bl b with | .bl b => R.ok (W.bl (!b)) m1 | _ => .bad) | _ => .bad) = ((F [.ref n, y] m).nox.bind fun w m1 => match w with | .bl b => .ok (.bl (!b)) m1 | _ => .bad) := rfl
            exact o
          · subst e
            exact ⟨b, rfl, Out.here o1 S1 (.bl (!b)) _ s' I1 (.bl (!b)) rfl⟩
      · exact o.elim
    · exact o.elim
  · exact (f_ne0 hK hr).run pins s m ρ H τ x y v z u t Q I S rx ru ry rt o

/-! ### C.x, C.m(..) of a class -/
structure CConK (K : PySem.W.Frag) (g : G) (c : String) (f : Str) (x : W) : Prop where
  rd : PySem.W.readsIn K (g.cl c) (.type "type") = true
  ex : ∃ v u, PySem.W.findCls K (.ref (g.cl c)) (.type "type") f = some (.val u) ∧ PySem.W.handedIn u = true ∧ RelV v u ∧ ∀ ρ H, VR g ρ H x v
theorem se_ccon {o : Expr} {c : String} {f : Str} {x : W} {pos : Pos} (ho : SE g X wx o (eC (.cls c))) (C : CConK X.K g c f x) (hb : attributeBase o f X.env (eval o X.env) = eval o X.env := by rfl) : SE g X wx (.Attribute o f pos) (eC x) := by
  refine ⟨fun pins s σ m ρ H τ Q I S L oo => ?_⟩
  refine attr_of hb (ho.run pins s σ m ρ H τ _ I S L (fun ρ1 H1 P1 S1 v u s1 I1 rv ru => ?_))
  cases rv
  cases ru
  obtain ⟨v, u, hf, hh, r, q⟩ := C.ex
  exact PySem.W.cls_value I1.kIn C.rd hf hh (oo ρ1 H1 P1 S1 v u _ (I1.tok _) (q _ _) r)
structure CStK (P : Program) (w : World) (K : PySem.W.Frag) (mg : Str → Option Value) (base : Heap) (g : G) (c : String) (f : Str) (k : Nat) (F : DF) : Prop where
  rd : PySem.W.readsIn K (g.cl c) (.type "type") = true
  ga : PySem.W.specialIn K (.ref (g.cl c)) "__getattribute__" = some (some (.builtin "type.__getattribute__"))
  ex : ∃ (p fa : Addr) (rest : List Value) (fd : FuncData) (ps : List Str), PySem.W.findCls K (.ref (g.cl c)) (.type "type") f = some (.get (.builtin "staticmethod.__get__") (.ref p) .none (.ref (g.cl c))) ∧ PySem.W.recIn K p "staticmethod" = some (.ref fa :: rest) ∧
    PySem.W.keepIn K (.ref fa) = true ∧ Binds K fd ps [] ∧ Arity ps.length F ∧ FnG P w K mg base k fa fd ps (spOf g F ps.length)
theorem se_cstat {o : Expr} {c : String} {f : Str} {k : Nat} {F : DF} {es : List Expr} {fs : DL} {pos apos : Pos} {pl : Sem Bool} (tk : Takes X wx) (ho : SE g X wx o (eC (.cls c))) (C : CStK X.prog X.w X.K X.mg X.base g c f k F) (hr : Rm k X.A) (ha : SA g X wx (e :: es) fs)
    (hst : starEach (e :: es) X.env = (false, eval e X.env) :: starEach es X.env := by exact star1 rfl) (hpl : (backTo pos (starEach es X.env)).any (·.1) = false := by exact plain_ns rfl)
    (hev : eval (.Call (.Attribute o f apos) (e :: es) [] pos) X.env = (do
      let ov ← eval o X.env
      standAt apos.atName
      let (f, first) ← holding [ov] (getMethod ov f pl)
      callWith pos f first (backTo pos (starEach (e :: es) X.env)) (backToKw pos (keywordEach [] X.env))) := by rfl) : SE g X wx (.Call (.Attribute o f apos) (e :: es) [] pos) (eCall F fs) := by
  refine ⟨fun pins s σ m ρ H τ Q I S L oo => ?_⟩
  refine PySem.W.methodCall_KW (pl := pl) (ho.run pins s σ m ρ H τ _ I S L (fun ρ1 H1 P1 S1 v u s1 I1 rv ru => ?_)) hev
  cases rv
  cases ru
  obtain ⟨p, fa, rest, fd, ps, hf, hp, hk, hb, ar, FO⟩ := C.ex
  refine PySem.W.method_cls I1.kIn C.ga (PySem.W.cls_bind I1.kIn C.rd hf (wpAny_call (PySem.W.sm_get I1.kIn hp (PySem.W.handed_on rfl ?_))))
  have I2 := I1.tok (s1.toks + 1)
  refine PySem.W.callWith_K (first := []) (h₀ := X.base) I.ok.mod.kin hk (ha.run pos pins _ σ m ρ1 H1 τ _ I2 S1 (L.post S P1) (((oo.from P1 S S1).bind S1).imp fun ws m2 ρ2 H2 P2 S2 o2 vs us s2 I2 rvs rus => ⟨I2.kIn, ?_⟩)) hst hpl
  exact run_def tk FO hr hb (ar.or ws m2) I2 S2 rvs rus o2
end
end Sh

namespace Sh
open PySem PySem.Spec L2
open PyProof.Rows (envOfC)

/-! ### statements that the law never reaches; a try that runs through -/
def sBad : DS := fun _ _ => .bad
def sTry (f : DS) : DS := fun σ m => match f σ m with
  | .exc _ _ _ _ => .bad
  | r => r
section
variable {g : G} {X : Cx} {wx : WX} {τ : L2.St} {ρ ρ' : List Addr} {H H' : Hp} {m m' : Mem} {pos : Pos}
theorem ss_bad {st : Stmt} : SS g X wx st sBad := PS.conv ps_never fun D τ H ⟨σ, m, ρ, S, L, o⟩ => o
theorem ss_try {body : List Stmt} {h0 : ExceptHandler} {hs : List ExceptHandler} {f : DS} (hb : SSs g X.nox wx0 body f) : SS g X wx (.Try body (h0 :: hs) [] [] pos) (sTry f) :=
  PS.conv (ps_try_thru0 hb) fun D τ H ⟨σ, m, ρ, S, L, o⟩ => ⟨σ, m, ρ, S, L, by
    unfold sTry at o
    cases hr : f σ m with
    | exc c fs σ' m' => rw [hr] at o; exact o.elim
    | nx σ' m' => rw [hr] at o; exact o
    | rt w m' => rw [hr] at o; exact o
    | bk σ' m' => rw [hr] at o; exact o
    | ct σ' m' => rw [hr] at o; exact o
    | bad => rw [hr] at o; exact o⟩
end
def visB (sc : Scope) (x : Str) : Bool := match sc.names.lookup x with
  | some .local => true
  | some .cell => true
  | some .free => true
  | _ => false
theorem vis_of {sc : Scope} {x : Str} (h : visB sc x = true) : Vis sc x := by
  unfold visB at h
  split at h
  · rename_i q; exact .inl q
  · rename_i q; exact .inr (.inl q)
  · rename_i q; exact .inr (.inr q)
  · cases h
def locB (sc : Scope) (x : Str) : Bool := match sc.names.lookup x with
  | some .local => true
  | some .cell => true
  | _ => false
theorem loc_of {sc : Scope} {x : Str} (h : locB sc x = true) : L2.Loc sc x := by
  unfold locB at h
  split at h
  · rename_i q; exact .inl q
  · rename_i q; exact .inr q
  · cases h

/-! ### defs as they stand in the written part -/
structure FunAt (K : PySem.W.Frag) (mg : Str → Option Value) (x : Str) (st : Stmt) (ps : List Str) : Prop where
  ex : ∃ (f : Addr) (fd : FuncData), mg x = some (.ref f) ∧ Fun K x x st f fd ∧ Binds K fd ps []
section
variable {P : Program} {w : World} {K : PySem.W.Frag} {mg : Str → Option Value} {base : Heap} {g : G}
theorem FunAt.mk' {x : Str} {st : Stmt} {ps : List Str} {f : Addr} {oc : Value} {od an : Option Addr} {osl : Array (Option Value)} {kV doc pm cdv ct : Value} (hm : mg x = some (.ref f))
    (l : K.lookup f = some ⟨oc, od, .func (PySem.W.fnOf x x (defArgs st) (defBody st) (defScope st) .none kV doc pm an cdv ct), osl⟩) (c : PySem.W.codeIn K cdv x = true) (k : PySem.W.keepIn K (.ref f) = true)
    (hb : ∀ (kV doc pm : Value) (an : Option Addr) (cdv ct : Value) (us : List Value), us.length = ps.length → bindArgs (PySem.W.fnOf x x (defArgs st) (defBody st) (defScope st) .none kV doc pm an cdv ct) ⟨us, []⟩ = pure (ps.zip us)) : FunAt K mg x st ps :=
  ⟨f, _, hm, fun_mk l c k, (fun_mk (st := st) l c k).binds hb⟩
theorem def_of {x : Str} {st : Stmt} {N ps : List Str} {k : Nat} {b : DS} (A : FunAt K mg x st ps) (S : FnScope N ps (defScope st))
    (hb : ∀ (f : Addr) (cdv : Value) (A : Around) (outer : List Env) (s : Shared) (H : Hp) (E : XK), Rm k (A.deeper (envOfC x (defScope st) s.heap.objs.size f cdv)) →
      Takes (cxOf (CX P w) P w K mg base N x (defScope st) f cdv A outer s H E) (fun cls d _ H => E cls d H) →
      PassesOwn (model P w) (A.deeper (envOfC x (defScope st) s.heap.objs.size f cdv)) (envOfC x (defScope st) s.heap.objs.size f cdv) (cxOf (CX P w) P w K mg base N x (defScope st) f cdv A outer s H E).xe →
      SSs g (cxOf (CX P w) P w K mg base N x (defScope st) f cdv A outer s H E) (fun cls d _ H => E cls d H) (defBody st) b) :
    Def P w K mg base g x (k + 1) ps (defn ps.length N.length b) := by
  obtain ⟨f, fd, hm, F, hbd⟩ := A.ex
  exact ⟨f, fd, hm, F.kp, hbd, fn_ok F S (hb f)⟩
/-- a def at an address: a method, a getter -/
structure FunIn (K : PySem.W.Frag) (x qual : Str) (st : Stmt) (ps : List Str) (f : Addr) : Prop where
  ex : ∃ fd : FuncData, Fun K x qual st f fd ∧ Binds K fd ps []
theorem FunIn.mk' {x qual : Str} {st : Stmt} {ps : List Str} {f : Addr} {oc : Value} {od an : Option Addr} {osl : Array (Option Value)} {kV doc pm cdv ct : Value}
    (l : K.lookup f = some ⟨oc, od, .func (PySem.W.fnOf x qual (defArgs st) (defBody st) (defScope st) .none kV doc pm an cdv ct), osl⟩) (c : PySem.W.codeIn K cdv qual = true) (k : PySem.W.keepIn K (.ref f) = true)
    (hb : ∀ (kV doc pm : Value) (an : Option Addr) (cdv ct : Value) (us : List Value), us.length = ps.length → bindArgs (PySem.W.fnOf x qual (defArgs st) (defBody st) (defScope st) .none kV doc pm an cdv ct) ⟨us, []⟩ = pure (ps.zip us)) : FunIn K x qual st ps f :=
  ⟨_, fun_mk l c k, (fun_mk (st := st) l c k).binds hb⟩
/-- its promise -/
structure DefIn (P : Program) (w : World) (K : PySem.W.Frag) (mg : Str → Option Value) (base : Heap) (g : G) (f : Addr) (k : Nat) (ps : List Str) (F : DF) : Prop where
  ex : ∃ fd : FuncData, Binds K fd ps [] ∧ FnG P w K mg base k f fd ps (spOf g F ps.length)
theorem defIn_of {x qual : Str} {st : Stmt} {N ps : List Str} {k : Nat} {b : DS} {f : Addr} (A : FunIn K x qual st ps f) (S : FnScope N ps (defScope st))
    (hb : ∀ (cdv : Value) (A : Around) (outer : List Env) (s : Shared) (H : Hp) (E : XK), Rm k (A.deeper (envOfC qual (defScope st) s.heap.objs.size f cdv)) →
      Takes (cxOf (CX P w) P w K mg base N qual (defScope st) f cdv A outer s H E) (fun cls d _ H => E cls d H) →
      PassesOwn (model P w) (A.deeper (envOfC qual (defScope st) s.heap.objs.size f cdv)) (envOfC qual (defScope st) s.heap.objs.size f cdv) (cxOf (CX P w) P w K mg base N qual (defScope st) f cdv A outer s H E).xe →
      SSs g (cxOf (CX P w) P w K mg base N qual (defScope st) f cdv A outer s H E) (fun cls d _ H => E cls d H) (defBody st) b) :
    DefIn P w K mg base g f (k + 1) ps (defn ps.length N.length b) := by
  obtain ⟨fd, F, hbd⟩ := A.ex
  exact ⟨fd, hbd, fn_ok F S hb⟩

theorem DefIn.mono {f : Addr} {j k : Nat} {ps : List Str} {F : DF} (D : DefIn P w K mg base g f j ps F) (h : j ≤ k) : DefIn P w K mg base g f k ps F := by
  obtain ⟨fd, hb, FO⟩ := D.ex
  exact ⟨fd, hb, FO.mono h⟩
theorem attP {f : List Nat} {c : String} {k : Nat} {p ga : Addr} {F : DF} (cl : Cls K (g.cl c)) (hp : PropOf K (g.cl c) (Sh.S f) p ga) (D : DefIn P w K mg base g ga k ["self"] F) : AttK P w K mg base g f c k (some (.inl F)) := by
  obtain ⟨fd, hb, FO⟩ := D.ex
  exact .prop cl hp hb FO
theorem makeK {x : Str} {c : String} {k : Nat} {F : DF} {fi : Addr} {ps : List Str} (hm : mg x = some (.ref (g.cl c))) (M : Mk K (g.cl c) fi) (ar : Arity ps.length F) (D : DefIn P w K mg base g fi k ps F) : MakeK P w K mg base g x c k F := by
  obtain ⟨fd, hb, FO⟩ := D.ex
  exact ⟨fi, fd, ps, hm, M, hb, ar, FO⟩
theorem eqK {c : String} {k : Nat} {F : DF} {ga : Addr} {ps : List Str} (cl : Cls K (g.cl c)) (h1 : PySem.W.findIn K (.ref (g.cl c)) "__eq__" = some (some (.ref ga))) (h2 : PySem.W.isFn K (.ref ga) = true)
    (ne : PySem.W.findIn K (.ref (g.cl c)) "__ne__" = some (some (.builtin "object.__ne__"))) (mro : PySem.W.mroIn K (g.cl c) (.type "object") = some true) (ar : Arity ps.length F) (D : DefIn P w K mg base g ga k ps F) : EqK P w K mg base g c k F := by
  obtain ⟨fd, hb, FO⟩ := D.ex
  exact ⟨⟨ga, fd, ps, cl, h1, h2, hb, ar, FO⟩, ne, mro⟩
theorem cstK {c : String} {f : Str} {k : Nat} {F : DF} {p fa : Addr} {rest : List Value} {ps : List Str} (rd : PySem.W.readsIn K (g.cl c) (.type "type") = true) (ga : PySem.W.specialIn K (.ref (g.cl c)) "__getattribute__" = some (some (.builtin "type.__getattribute__")))
    (h1 : PySem.W.findCls K (.ref (g.cl c)) (.type "type") f = some (.get (.builtin "staticmethod.__get__") (.ref p) .none (.ref (g.cl c)))) (h2 : PySem.W.recIn K p "staticmethod" = some (.ref fa :: rest)) (h3 : PySem.W.keepIn K (.ref fa) = true)
    (ar : Arity ps.length F) (D : DefIn P w K mg base g fa k ps F) : CStK P w K mg base g c f k F := by
  obtain ⟨fd, hb, FO⟩ := D.ex
  exact ⟨rd, ga, p, fa, rest, fd, ps, h1, h2, h3, hb, ar, FO⟩
end

/-! ### the law's own head -/
section
variable {P : Program} {w : World} {K : PySem.W.Frag} {mg mb : Str → Option Value} {fa a : Addr} {vs : List Value} {ns : List Int} {s1 : Shared}
/-- the script among the tracked things: nothing, or one list that nobody writes -/
def scr (K : PySem.W.Frag) (a : Addr) (vs : List Value) (ns : List Int) : Hp := fun b => match K.lookup a with
  | some _ => none
  | none => if b = a then some (.frz { cls := .type "list", data := .seq vs.toArray } (.lst (ns.map V.int))) else none
theorem scr_k {o : Obj} (h : K.lookup a = some o) : scr K a vs ns = fun _ => none := by
  funext b; unfold scr; rw [h]
theorem scr_n (h : K.lookup a = none) : scr K a vs ns = fun b => if b = a then some (.frz { cls := .type "list", data := .seq vs.toArray } (.lst (ns.map V.int))) else none := by
  funext b; unfold scr; rw [h]
theorem scr_only {b : Addr} {u : HO} (h : scr K a vs ns b = some u) : b = a ∧ K.lookup a = none ∧ u = .frz { cls := .type "list", data := .seq vs.toArray } (.lst (ns.map V.int)) := by
  cases q : K.lookup a with
  | some o => rw [scr_k q] at h; cases h
  | none =>
    rw [scr_n q] at h
    by_cases e : b = a
    · have h' := (if_pos e).symm.trans h; cases h'; exact ⟨e, rfl, rfl⟩
    · have h' := (if_neg e).symm.trans h; cases h'
theorem scr_seq (KX : K.In s1.heap) (ha : s1.heap.get? a = some { cls := .type "list", data := .seq vs.toArray }) (hi : PyProof.Rows.IntsAre vs ns) (hl : ns.length ≤ sizeLine) : SqF K (scr K a vs ns) a (ns.map V.int) := by
  cases q : K.lookup a with
  | some o =>
    have e := KX a o q
    rw [ha] at e
    cases e
    exact .inr ⟨_, vs.toArray, 0, q, rfl, rfl, rfl, by rw [List.size_toArray, hi.length]; simpa using hl, by simpa using vals_ints hi⟩
  | none => exact .inl ⟨_, by rw [scr_n q]; exact if_pos rfl⟩
theorem scr_ok (ha : s1.heap.get? a = some { cls := .type "list", data := .seq vs.toArray }) (hi : PyProof.Rows.IntsAre vs ns) (hl : ns.length ≤ sizeLine) : HOk P w (scr K a vs ns) s1.heap := fun b u h => by
  obtain ⟨rfl, _, rfl⟩ := scr_only h
  exact ⟨ha, by rw [List.length_map]; exact hl, vs, _, vals_ints hi, ha⟩
theorem scr_free {b : Addr} {o : Obj} (KX : K.In s1.heap) (ha : s1.heap.get? a = some { cls := .type "list", data := .seq vs.toArray }) (h : K.lookup b = some o ∨ (s1.heap.get? b = some o ∧ ∃ es ep, o.data = .dict es ep)) : scr K a vs ns b = none := by
  cases q : scr K a vs ns b with
  | none => rfl
  | some u =>
    obtain ⟨rfl, h1, _⟩ := scr_only q
    rcases h with h | ⟨h, es, ep, d⟩
    · rw [h1] at h; cases h
    · rw [ha] at h; cases h; cases d
theorem script_call {g : G} {k : Nat} {fd : FuncData} {x : Str} {F : DF} {n : Nat} (hK : g.K = K) (KX : K.In s1.heap) (hns : s1.heap.Ns mainGlobals mg) (hbl : s1.heap.Ns builtinsNs mb) (hbb : ∀ x : Str, x ≠ "__name__" → mb x = bootBuiltins x) (hlim : s1.heap.NoLimit) (hg : s1.gens = #[])
    (ha : s1.heap.get? a = some { cls := .type "list", data := .seq vs.toArray }) (hi : PyProof.Rows.IntsAre vs ns) (hl : ns.length ≤ sizeLine) (hr : Room k callerA)
    (FO : ∀ base : Heap, K.In base → base.Ns mainGlobals mg → FnG P w K mg base k fa fd [x] (spOf g F 1)) (hbind : ∀ (s : Shared) (u : Value), BindsTo s fd ⟨[u], []⟩ [(x, u)])
    (hF : ∃ m, F [.frz (ns.map W.int)] [] = .ok (.bl true) m) :
    codeAny (model P w) callerA (.call (.ref fa) ⟨[.ref a], []⟩) (fun r s' => r = .ok (.ret (.bool true)) ∧ OldK s1.heap s'.heap ∧ s'.os = s1.os ∧ PyProof.Rows.AllBare s'.gens) s1 := by
  have names : ∀ {b : Addr} {mm : Str → Option Value}, s1.heap.Ns b mm → (hidT s1.heap (scr K a vs ns)).Ns b mm := by
    rintro b mm ⟨o, es, ep, e, d, r⟩
    exact ⟨o, es, ep, hidT_get e (scr_free KX ha (.inr ⟨e, es, ep, d⟩)), d, r⟩
  have KB : K.In (hidT s1.heap (scr K a vs ns)) := fun b o e => hidT_get (KX b o e) (scr_free KX ha (.inl e))
  obtain ⟨mc, l1, l2⟩ := hlim
  have E0 : Env0 P w K mg (hidT s1.heap (scr K a vs ns)) callerA [] s1 (scr K a vs ns) := {
    frames := rfl
    mod := ⟨KB, names hns, ⟨mb, names hbl, hbb⟩, ⟨mc, names l1, l2⟩⟩
    bs := fun b o e => of_hidT e
    bsz := Nat.le_of_eq (hidT_size _ _)
    funs := trivial
    frf := fun b hb => by cases hb
    hok := scr_ok ha hi hl
    bare := .of_eq hg }
  obtain ⟨m, hm⟩ := hF
  have S0 : Sim g [] [] (scr K a vs ns) := ⟨rfl, .nil, fun i b o h => by simp at h⟩
  have hints : ∀ (l : List Int), VRs g [] (scr K a vs ns) (l.map W.int) (l.map V.int) := fun l => by
    induction l with
    | nil => exact .nil
    | cons i l ih => exact .cons (.int i) ih
  have promise : spOf g F 1 [.ref a] (scr K a vs ns) (fun v _ => v = .bl true) (fun _ _ _ => False) := by
    refine ⟨rfl, [.frz (ns.map W.int)], [], [], S0, .cons (.frz (by rw [hK]; exact scr_seq KX ha hi hl) (hints ns)) .nil, ?_⟩
    rw [hm]
    exact fun ρ' H' v _ _ r => by cases r; rfl
  refine codeAny_mono ((FO _ KB (names hns)).run callerA [] s1 _ ⟨[.ref a], []⟩ [.ref a] [.ref a] _ _ (.caller hr) E0 (hbind s1 (.ref a)) (.cons rfl .nil) promise) fun r s' h => ?_
  cases r with
  | error e =>
    obtain ⟨_, _, _, _, _, _, _, _, _, _, _, _, z⟩ := h
    exact z.elim
  | ok fl =>
    cases fl with
    | ret u =>
      obtain ⟨v, H', os, bare, un, hok', rv, hv⟩ := h
      subst hv
      cases rv
      refine ⟨rfl, OldK.of_keep fun b o e => ?_, os, bare⟩
      cases q : scr K a vs ns b with
      | none => exact un.keep b o e q (fun z => by cases z) (fun z => by cases z)
      | some u =>
        obtain ⟨rfl, _, rfl⟩ := scr_only q
        obtain ⟨e2, _⟩ := hok' b _ (un.frzs b _ _ q)
        rw [ha] at e; cases e
        exact e2
    | next => exact False.elim h
    | brk => exact False.elim h
    | cont => exact False.elim h
end
theorem walk_sh {l : PySem.W.OpenLaw} {n k : Nat} {q : Program} {loose : List Str} {XP : (Str → Option Value) → Heap → Prop} {YP : World → Heap → Prop} {d : DefRec} {K : Params → PySem.W.Frag} {F : DF} {x : Str}
    (hn : l.most = some n) (hn2 : n ≤ sizeLine) (hdf : d.params.defaults = []) (hr : Room k callerA)
    (hY : ∀ (w : World) (h : Heap), YP w h → (K w.params).In h)
    (FO : ∀ (w : World) (mg : Str → Option Value) (fa : Addr) (h : Heap), (K w.params).In h → h.Ns mainGlobals mg → mg d.name = some (.ref fa) →
      ∃ (fd : FuncData) (cl : String → Addr), (∀ (s : Shared) (u : Value), BindsTo s fd ⟨[u], []⟩ [(x, u)]) ∧
        ∀ base : Heap, (K w.params).In base → base.Ns mainGlobals mg → FnG l.prog w (K w.params) mg base k fa fd [x] (spOf ⟨K w.params, cl⟩ F 1))
    (hF : ∀ ns : List Int, ns.length ≤ n → ∃ m, F [.frz (ns.map W.int)] [] = .ok (.bl true) m) :
    PySem.W.WalkO q loose XP YP l.row.toRowW d [] (fun f vs => PySem.call f vs) := by
  refine Att.attach_call hn hdf fun w s0 s1 mg mb fa o pm cd doc a vs ns Gr Y ho hd hcd hmg hobj hints hlen hg => ?_
  have KX := hY w _ Y
  obtain ⟨fd, cl, hb, hFO⟩ := FO w mg fa _ KX Gr.T.g hmg
  exact script_call (g := ⟨K w.params, cl⟩) (n := n) rfl KX Gr.T.g Gr.T.b Gr.T.builtins Gr.T.nolimit hg hobj hints (Nat.le_trans hlen hn2) hr hFO hb (hF ns hlen)
end Sh

namespace Sh
open PySem PySem.Spec L2
open PyProof.Rows (envOfC)
/-! ### constants -/
theorem rv_str {l : List Nat} {x : Str} {t : Tok} (h : x = Sh.S l) : RelV (.str (Sh.S l)) (.str x t) := by subst h; exact ⟨t, rfl⟩
theorem rv_int {i : Int} {t : Tok} : RelV (.int i) (.int i t) := ⟨t, rfl⟩
theorem rv_bl {b : Bool} : RelV (.bl b) (.bool b) := rfl
theorem rv_ref {a : Addr} : RelV (.ref a) (.ref a) := rfl
/-! ### isinstance by the written part's words -/
theorem kit_oo {K : PySem.W.Frag} {t : Value} {D : Addr} {cd : ClassData} {b : Bool} (h1 : PySem.W.clsIn K D = some cd) (h2 : PySem.W.typeIn K (.ref D) = some (.type "type")) (h3 : PySem.W.subIn K t (.ref D) = some b) (h4 : b = false → (t == .ref D) = false) : PySem.W.kitOne K t (.ref D) = some b := by
  unfold PySem.W.kitOne
  split
  · rename_i e
    cases b with
    | true => rfl
    | false => rw [h4 rfl] at e; cases e
  · unfold PySem.W.kitCls
    show (if ((PySem.W.clsIn K D).isSome && PySem.W.typeIn K (.ref D) == some (.type "type")) = true then PySem.W.subIn K t (.ref D) else none) = some b
    rw [h1, h2, h3]
    simp
theorem kit_bo {K : PySem.W.Frag} {T : String} {D : Addr} {cd : ClassData} (h1 : PySem.W.clsIn K D = some cd) (h2 : PySem.W.typeIn K (.ref D) = some (.type "type")) (h3 : PySem.W.subIn K (.type T) (.ref D) = some false) : PySem.W.kitOne K (.type T) (.ref D) = some false :=
  kit_oo h1 h2 h3 fun _ => rfl
theorem kit_of2 {K : PySem.W.Frag} {C D : Addr} {cd : ClassData} (h1 : PySem.W.clsIn K D = some cd) (h2 : PySem.W.typeIn K (.ref D) = some (.type "type")) (h3 : PySem.W.subIn K (.ref C) (.ref D) = some false) (h4 : PySem.W.subIn K (.ref C) (.ref C) = some true) : PySem.W.kitOne K (.ref C) (.ref D) = some false :=
  kit_oo h1 h2 h3 fun _ => by
    cases q : (Value.ref C == Value.ref D) with
    | false => rfl
    | true =>
      have e := eq_of_beq q
      cases e
      rw [h3] at h4; cases h4
theorem kit_ot {K : PySem.W.Frag} {C D : Addr} {cd : ClassData} (h1 : PySem.W.clsIn K D = some cd) (h2 : PySem.W.typeIn K (.ref D) = some (.type "type")) (h3 : PySem.W.subIn K (.ref C) (.ref D) = some true) : PySem.W.kitOne K (.ref C) (.ref D) = some true :=
  kit_oo h1 h2 h3 fun z => by cases z
theorem kit_ob {K : PySem.W.Frag} {C : Addr} {T : String} {b : Bool} (h1 : PySem.W.kitMeta T = true) (h2 : PySem.W.subIn K (.ref C) (.type T) = some b) : PySem.W.kitOne K (.ref C) (.type T) = some b := by
  show (if (Value.ref C == Value.type T) = true then some true else PySem.W.kitCls K (.ref C) (.type T)) = some b
  have : (Value.ref C == Value.type T) = false := rfl
  rw [this]
  show (if PySem.W.kitMeta T = true then PySem.W.subIn K (.ref C) (.type T) else none) = some b
  rw [if_pos h1, h2]
/-! ### comparisons as tests -/
section
variable {g : G} {X : Cx} {wx : WX} {a b e : Expr} {fa fb : DE} {pos : Pos}
theorem st_cmp {op : CmpOp} {fn : W → W → Mem → R W} (hf : F2 g X wx (compareOp op) fn) (ha : SE g X wx a fa) (hb : SE g X wx b fb)
    (h1 : behindInMarks op b = false := by first | exact nobehind _ (by decide) (by decide) | rfl) : ST g X wx (.Compare a [op] [b] pos) (tVal (eBin fn fa fb)) := by
  refine ⟨fun whole pins s σ m ρ H τ Q hw I S L o => ?_⟩
  rcases hw with rfl | ⟨_, _, _, z⟩
  · refine wpAny_isTrue_Compare1 (bin2 (Q := fun c s3 => wpAny (model X.prog X.w) X.A (truthy c) Q X.xe s3) ha hb hf I S L ((o.bind S).imp fun x m1 ρ1 H1 P1 S1 o1 v u s1 I1 rv ru => ?_)) h1
    cases x with
    | bl k => cases rv; cases ru; exact wpAny_truthy_bool (Out.here o1 S1 s1 I1)
    | _ => exact o1.elim
  · cases z
theorem ST.ofPT {f : DB} {t : TT} (ht : PT X e t) (h : ∀ (σ : Loc) (m : Mem) (ρ : List Addr) (H : Hp) (τ : L2.St) (Q : Bool → Hp → Prop), Sim g ρ m H → LR g ρ H σ τ → Out g wx τ ρ H (f σ m) (fun b m' ρ' H' => Q b H') → t τ H Q)
    (hn : ∀ op es pos, e ≠ .BoolOp op es pos := by intro _ _ _ z; cases z) : ST g X wx e f := by
  refine ⟨fun whole pins s σ m ρ H τ Q hw I S L o => ?_⟩
  rcases hw with rfl | ⟨op, es, pos, z⟩
  · refine thn (ht.run pins s τ H (fun k H' => ∀ s', Inv X pins τ H' s' → Q k s') I (h σ m ρ H τ _ S L o)) fun k s1 ⟨H1, I1, q⟩ => q s1 I1
  · exact absurd z (hn _ _ _)
theorem inT_ok {neg : Bool} {op : CmpOp} {fl : DL} (hK : X.K = g.K) (h1 : OpR X (compareOp op) (rIn X.K neg)) (ha : SE g X wx a fa) (hb : SL g X wx b fl) (hm : behindInMarks op b = false) : ST g X wx (.Compare a [op] [b] pos) (tVal (eInL neg fa fl)) :=
  ST.ofPT (pt_cmpR h1 ha.pe hb.pe hm) fun σ m ρ H τ Q S L o => ⟨σ, m, ρ, S, L, ((o.bind S).bind S).imp fun x m1 ρ1 H1 P1 S1 o1 v rv => ⟨σ, m1, ρ1, S1, L.post S P1, (o1.bind S1).imp fun ws m2 ρ2 H2 P2 S2 o2 p vs h0 hp hn r => by
    rcases inD_cases (x := x) (ws := ws) (m := m2) with ⟨e1, e2, e3⟩ | e
    · rw [e3] at o2
      have rv2 := rv.post S1 P2
      exact ⟨p, vs, rfl, .inl (SqL.of hp), flat_V rv2 e1, flats_V r e2, ⟨_, rfl, by rw [inW_V rv2 e1 r e2]; exact Out.here (Out.here o2 S2) S2⟩⟩
    · rw [e] at o2; exact o2.elim⟩⟩
theorem st_inL {fl : DL} (hK : X.K = g.K) (ha : SE g X wx a fa) (hb : SL g X wx b fl) (hm : behindInMarks .In b = false := by first | exact nobehind _ (by decide) (by decide) | rfl) : ST g X wx (.Compare a [.In] [b] pos) (tVal (eInL false fa fl)) := inT_ok hK op_in_seq ha hb hm
theorem st_notInL {fl : DL} (hK : X.K = g.K) (ha : SE g X wx a fa) (hb : SL g X wx b fl) (hm : behindInMarks .NotIn b = false := by first | exact nobehind _ (by decide) (by decide) | rfl) : ST g X wx (.Compare a [.NotIn] [b] pos) (tVal (eInL true fa fl)) := inT_ok hK op_notIn_seq ha hb hm
end
/-! ### an __init__ that begins with super().__init__(..), as it stands in the written part -/
structure SupAt (P : Program) (K : PySem.W.Frag) (mg : Str → Option Value) (C : Addr) (qual : Str) (st : Stmt) (ps : List Str) (f f2 : Addr) : Prop where
  ex : ∃ (cda cc D : Addr) (doc pm ct oc : Value) (an od : Option Addr) (osl : Array (Option Value)) (ccl : Value) (cdd : Option Addr) (vs : Array Value) (ccs : Array (Option Value)) (file : Str) (tf : Tok) (cl : Value) (cld : Option Addr) (csl : Array (Option Value)) (cdD : ClassData),
    K.lookup f = some ⟨oc, od, .func (PySem.W.ksFn "__init__" qual (defArgs st) (defBody st) (defScope st) .none .none doc pm an (.ref cda) ct cc), osl⟩ ∧ PySem.W.codeIn K (.ref cda) qual = true ∧
    K.lookup cda = some ⟨ccl, cdd, .fields vs, ccs⟩ ∧ vs[2]? = some (.str file tf) ∧ ((P.main.file : Str) == file) = true ∧
    K.lookup cc = some ⟨cl, cld, .cell (some (.ref D)), csl⟩ ∧ PySem.W.clsIn K D = some cdD ∧ PySem.W.mroIn K C (.ref D) = some true ∧
    PySem.W.ks_superIn K C D "__init__" = some (some (.ref f2)) ∧ PySem.W.typeIn K (.ref f2) = some (.type "function") ∧ PySem.W.fnIn K f2 = true
  sup : mg "super" = none
  stat : PySem.W.nsIn K PySem.cStatics "thirdparty.any" = some none
section
variable {P : Program} {w : World} {K : PySem.W.Frag} {mg : Str → Option Value} {base : Heap} {g : G}
theorem sup_of {cs : String} {qual : Str} {st : Stmt} {ps ps2 N : List Str} {f f2 : Addr} {k : Nat} {F : DF} {p0 p1 apos cpos epos : Pos} {e : Expr} {es : List Expr} {fa : DL} {b : DS} {rest : List Stmt} {ar : Arg} {pl : Sem Bool}
    (A : SupAt P K mg (g.cl cs) qual st ps f f2) (top : (P.main.scope.names.lookup ("super" : Str)).isSome = false) (ccl : Cls K (g.cl cs)) (D2 : DefIn P w K mg base g f2 k ps2 F) (ari : Arity ps2.length F)
    (hbody : defBody st = .Expr (.Call (.Attribute (.Call (.Name "super" p0) [] [] p1) "__init__" apos) (e :: es) [] cpos) epos :: rest)
    (S : ScopeS N ps (defScope st)) (hps : ps[0]? = some ar.arg) (hpar : ((defArgs st).posonlyargs ++ (defArgs st).args).head? = some ar)
    (hks : (defScope st).names.lookup ("super" : Str) = some .globalImplicit) (hkc : (defScope st).names.lookup ("__class__" : Str) = some .free)
    (hbd : ∀ (doc pm cd ct : Value) (an : Option Addr) (cc : Addr) (us : List Value), us.length = ps.length → bindArgs (PySem.W.ksFn "__init__" qual (defArgs st) (defBody st) (defScope st) .none .none doc pm an cd ct cc) ⟨us, []⟩ = pure (ps.zip us))
    (hev : ∀ env, eval (.Call (.Attribute (.Call (.Name "super" p0) [] [] p1) "__init__" apos) (e :: es) [] cpos) env = (do
      let ov ← attributeBase (.Call (.Name "super" p0) [] [] p1) "__init__" env (eval (.Call (.Name "super" p0) [] [] p1) env)
      standAt apos.atName
      let (f, first) ← holding [ov] (getMethod ov "__init__" pl)
      callWith cpos f first (backTo cpos (starEach (e :: es) env)) []))
    (hsw : ∀ env, swapsWith (.Call (.Attribute (.Call (.Name "super" p0) [] [] p1) "__init__" apos) (e :: es) [] cpos) none epos.line env = pure false)
    (hst : ∀ env, starEach (e :: es) env = (false, eval e env) :: starEach es env) (hpl : ∀ env, (backTo cpos (starEach es env)).any (·.1) = false)
    (hb : ∀ (f cda cc : Addr) (A : Around) (outer : List Env) (s : Shared) (H : Hp) (E : XK), Rm k (A.deeper (PySem.W.ksEnv qual (defScope st) s.heap.objs.size f (.ref cda) cc)) →
      Takes (cxS P w K mg base N qual (defScope st) f cda cc A outer s H E) (fun cls d _ H => E cls d H) →
      PassesOwn (model P w) (A.deeper (PySem.W.ksEnv qual (defScope st) s.heap.objs.size f (.ref cda) cc)) (PySem.W.ksEnv qual (defScope st) s.heap.objs.size f (.ref cda) cc) (cxS P w K mg base N qual (defScope st) f cda cc A outer s H E).xe →
      SA g (cxS P w K mg base N qual (defScope st) f cda cc A outer s H E) (fun cls d _ H => E cls d H) (e :: es) fa ∧
      SSs g (cxS P w K mg base N qual (defScope st) f cda cc A outer s H E) (fun cls d _ H => E cls d H) rest b) :
    DefIn P w K mg base g f (k + 1) ps (defn ps.length N.length (sSeq (sSuper cs F fa) b)) := by
  obtain ⟨cda, cc, D, doc, pm, ct, oc, an, od, osl, c2, cdd, vs, ccs, file, tf, cl, cld, csl, cdD, lk, hcd, h1, h2, h3, h4, h5, h6, h7, h8, h9⟩ := A.ex
  obtain ⟨fd2, hb2, FO⟩ := D2.ex
  have U : SupK P w K mg base g cda cc D cs k F := ⟨⟨c2, cdd, vs, ccs, file, tf, h1, h2, h3⟩, ⟨cl, cld, csl, h4⟩, ⟨cdD, h5⟩, A.sup, A.stat, top, ccl, h6, ⟨f2, fd2, ps2, h7, h8, h9, hb2, ari, FO⟩⟩
  refine ⟨_, .all (hbd doc pm (.ref cda) ct an cc), ?_⟩
  rw [hbody] at lk ⊢
  exact superG lk hcd S hps hpar hks hkc U hev hsw (fun A outer s H E => hb f cda cc A outer s H E) hst hpl
end
end Sh

namespace Sh
open PySem PySem.Spec L2

/-! ### plain rules: what the denotations compute. Rewriting goes from the left: a continuation is looked at when its value is known -/
theorem R.bind_congr {α β : Type} {r r' : R α} {k : α → Mem → R β} (h : r = r') : r.bind k = r'.bind k := by rw [h]
theorem RS.of_congr {β : Type} {σ : Loc} {r r' : R β} {k : β → Mem → RS} (h : r = r') : RS.of σ r k = RS.of σ r' k := by rw [h]
def RS.seq (r : RS) (b : DS) : RS := match r with
  | .nx σ m => b σ m
  | r => r
theorem RS.seq_congr {r r' : RS} {b : DS} (h : r = r') : RS.seq r b = RS.seq r' b := by rw [h]
def R.ofRS (r : RS) : R W := match r with
  | .rt w m' => .ok w m'
  | .nx _ m' => .ok .non m'
  | .exc c fs _ m' => .exc c fs m'
  | _ => .bad
def RS.trd (r : RS) : RS := match r with
  | .exc _ _ _ _ => .bad
  | r => r
/-- a call's value made one of an instance -/
def R.made (n : Nat) (r : R W) : R W := r.bind fun w m2 => match w with
  | .non => .ok (.ref n) m2
  | _ => .bad
section
variable {σ : Loc} {m : Mem} {a b c : DE} {f : DL} {t u : DB} {d e : DS} {x y w : W} {i : Nat}
theorem seq_nx {σ : Loc} {m : Mem} {b : DS} : RS.seq (.nx σ m) b = b σ m := rfl
theorem seq_rt {w : W} {m : Mem} {b : DS} : RS.seq (.rt w m) b = .rt w m := rfl
theorem seq_bad {b : DS} : RS.seq .bad b = .bad := rfl
theorem of_rt : R.ofRS (.rt w m) = .ok w m := rfl
theorem of_nx : R.ofRS (.nx σ m) = .ok .non m := rfl
theorem trd_rt : RS.trd (.rt w m) = .rt w m := rfl
theorem trd_nx : RS.trd (.nx σ m) = .nx σ m := rfl
theorem r_defn {n N : Nat} {ws : List W} {b : DS} : defn n N b ws m = if ws.length = n then R.ofRS (b (ws.map some ++ List.replicate (N - n) none) m) else .bad := rfl
theorem r_seq : sSeq d e σ m = RS.seq (d σ m) e := rfl
theorem r_try : sTry d σ m = RS.trd (d σ m) := rfl
theorem r_nil : sNil σ m = .nx σ m := rfl
theorem r_expr : sExpr a σ m = RS.of σ (a σ m) fun _ m1 => .nx σ m1 := rfl
theorem r_ret : sRet a σ m = RS.of σ (a σ m) fun w m1 => .rt w m1 := rfl
theorem r_if : sIf t d e σ m = RS.of σ (t σ m) fun k m1 => if k = true then d σ m1 else e σ m1 := rfl
theorem r_set : sSet i a σ m = RS.of σ (a σ m) fun w m1 => .nx (σ.set i (some w)) m1 := rfl
theorem r_asg {h : W → Loc → Mem → R Loc} : sAsg a h σ m = RS.of σ (a σ m) fun w m1 => RS.of σ (h w σ m1) fun σ' m2 => .nx σ' m2 := rfl
theorem r_put : sPut a b c σ m = RS.of σ (c σ m) fun w m1 => RS.of σ (a σ m1) fun x m2 => RS.of σ (b σ m2) fun y m3 => match putAt m3 x y w with | some m4 => .nx σ m4 | none => .bad := rfl
theorem r_attr {fl : List Nat} {ok : String → Bool} : sAttr fl ok a b σ m = RS.of σ (b σ m) fun w m1 => RS.of σ (a σ m1) fun x m2 => match x with
  | .ref n => match m2[n]? with
    | some (.ins c fs) => if ok c = true ∧ fs.length < 100 then .nx σ (m2.set n (.ins c (putW fl w fs))) else .bad
    | _ => .bad
  | _ => .bad := rfl
theorem r_var : eVar i σ m = match σ[i]? with | some (some w) => .ok w m | _ => .bad := rfl
theorem r_c : eC w σ m = .ok w m := rfl
theorem r_bin {fn : W → W → Mem → R W} : eBin fn a b σ m = (a σ m).bind fun x m1 => (b σ m1).bind fun y m2 => fn x y m2 := rfl
theorem r_un {fn : W → Mem → R W} : eUn fn a σ m = (a σ m).bind fun x m1 => fn x m1 := rfl
theorem r_fn {fn : List W → Mem → R W} : eFn fn f σ m = (f σ m).bind fn := rfl
theorem r_fnL {fn : List W → Mem → R W} : eFnL fn f σ m = (f σ m).bind fn := rfl
theorem r_call {F : DF} : eCall F f σ m = (f σ m).bind F := rfl
theorem r_make {k : String} {F : DF} : eMake k F f σ m = (f σ m).bind fun ws m1 => R.made m1.length (F (.ref m1.length :: ws) (m1 ++ [.ins k []])) := rfl
theorem made_ok {n : Nat} : R.made n (.ok .non m) = .ok (.ref n) m := rfl
theorem r_eattr {fl : List Nat} {tb : String → Option (Option (DF ⊕ W))} : eAttr fl tb a σ m = (a σ m).bind fun x m1 => attr fl tb x m1 := rfl
theorem r_ixL : eIxL f b σ m = (f σ m).bind fun ws m1 => (b σ m1).bind fun y m2 => match y with | .int i => atW ws i m2 | _ => .bad := rfl
theorem r_new : eNew f σ m = (f σ m).bind fun ws m1 => .ok (.ref m1.length) (m1 ++ [.lst ws]) := rfl
theorem r_tup : eTup f σ m = (f σ m).bind fun ws m1 => (few ws m1).bind fun ws m2 => .ok (.tup ws) m2 := rfl
theorem r_disp : lDisp f σ m = (f σ m).bind few := rfl
theorem r_few {ws : List W} : few ws m = if ws.length ≤ 1000000 then .ok ws m else .bad := rfl
theorem r_eif : eIf t a b σ m = (t σ m).bind fun x m1 => if x = true then a σ m1 else b σ m1 := rfl
theorem r_eand : eAnd a b σ m = (a σ m).bind fun x m1 => match x with | .bl true => b σ m1 | .bl false => .ok (.bl false) m1 | _ => .bad := rfl
theorem r_eor : eOr a b σ m = (a σ m).bind fun x m1 => match x with | .bl true => .ok (.bl true) m1 | .bl false => b σ m1 | _ => .bad := rfl
theorem r_enot : eNot a σ m = (a σ m).bind fun x m1 => match x with | .bl b => .ok (.bl (!b)) m1 | _ => .bad := rfl
theorem r_acons {g : DL} : aCons a g σ m = (a σ m).bind fun x m1 => (g σ m1).bind fun xs m2 => .ok (x :: xs) m2 := rfl
theorem r_anil : aNil σ m = .ok [] m := rfl
theorem r_astar {g : DL} : aStar a g σ m = (a σ m).bind fun x m1 => (itemsW x m1).bind fun ws m2 => (g σ m2).bind fun xs m3 => .ok (ws ++ xs) m3 := rfl
theorem r_astarL {g : DL} : aStarL f g σ m = (f σ m).bind fun ws m1 => (g σ m1).bind fun xs m3 => .ok (ws ++ xs) m3 := rfl
theorem r_val : tVal a σ m = (a σ m).bind fun x m1 => match x with | .bl b => .ok b m1 | _ => .bad := rfl
theorem r_tru : tTru a σ m = (a σ m).bind truth := rfl
theorem r_not : tNot t σ m = (t σ m).bind fun x m1 => .ok (!x) m1 := rfl
theorem r_and : tAnd t u σ m = (t σ m).bind fun x m1 => if x = true then u σ m1 else .ok false m1 := rfl
theorem r_or : tOr t u σ m = (t σ m).bind fun x m1 => if x = true then .ok true m1 else u σ m1 := rfl
theorem r_chain {f1 f2 : W → W → Mem → R W} : tChain f1 f2 a b c σ m = (a σ m).bind fun x m1 => (b σ m1).bind fun y m2 => (f1 x y m2).bind fun t m3 => match t with
  | .bl true => (c σ m3).bind fun z m4 => (f2 y z m4).bind fun w m5 => match w with | .bl k => .ok k m5 | _ => .bad
  | .bl false => .ok false m3
  | _ => .bad := rfl
theorem r_inL {neg : Bool} : eInL neg a f σ m = (a σ m).bind fun x m1 => (f σ m1).bind fun ws m2 => (inD x ws m2).bind fun b m3 => .ok (.bl (if neg then !b else b)) m3 := rfl
theorem r_m1 {fn : W → W → Mem → R W} : eM1 fn a b σ m = (a σ m).bind fun x m1 => match x with
  | .str l => (b σ m1).bind fun y m2 => fn (.str l) y m2
  | _ => .bad := rfl
theorem r_joinL : eJoinL a f σ m = (a σ m).bind fun x m1 => match x with
  | .str a => (f σ m1).bind fun ws m2 => joinW a ws m2
  | _ => .bad := rfl
theorem r_split : lSplit a b σ m = (a σ m).bind fun x m1 => match x with
  | .str l => (b σ m1).bind fun y m2 => splitW (.str l) y m2
  | _ => .bad := rfl
theorem r_sl {p q : DO} : eSl a p q σ m = (a σ m).bind fun x m1 => (p σ m1).bind fun l m2 => (q σ m2).bind fun h m3 => wSl x l h m3 := rfl
theorem r_pno : pNo σ m = .ok none m := rfl
theorem r_pat : pAt a σ m = (a σ m).bind fun w m1 => match w with | .int i => .ok (some i) m1 | _ => .bad := rfl
theorem r_sub {cs : String} {F : DF} {n : Nat} {fs : List (List Nat × W)} (h0 : σ[0]? = some (some (.ref n))) (h1 : m[n]? = some (.ins cs fs)) : sSuper cs F f σ m = RS.of σ (f σ m) fun ws m1 => RS.of σ (F (.ref n :: ws) m1) fun _ m2 => .nx σ m2 := by
  unfold sSuper
  rw [h0]
  simp only [h1, if_true]
/-! by the shapes of values -/
theorem v_add {i j : Int} : wAdd (.int i) (.int j) m = .ok (.int (i + j)) m := rfl
theorem v_sub {i j : Int} : wSub (.int i) (.int j) m = .ok (.int (i - j)) m := rfl
theorem v_mod {i j : Int} : wMod (.int i) (.int j) m = if 0 < j then .ok (.int (i % j)) m else .bad := rfl
theorem v_div {i j : Int} : wDiv (.int i) (.int j) m = if 0 < j ∧ j < 1073741824 then .ok (.int (i / j)) m else .bad := rfl
theorem v_pow {i j : Int} : wPow (.int i) (.int j) m = if 0 ≤ j ∧ j ≤ 1000 ∧ i.natAbs < 1000000 then .ok (.int (i ^ j.toNat)) m else .bad := rfl
theorem v_neg {i : Int} : wNeg (.int i) m = .ok (.int (-i)) m := rfl
theorem v_lt {i j : Int} : wLt (.int i) (.int j) m = .ok (.bl (decide (i < j))) m := rfl
theorem v_le {i j : Int} : wLe (.int i) (.int j) m = .ok (.bl (decide (i ≤ j))) m := rfl
theorem v_gt {i j : Int} : wGt (.int i) (.int j) m = .ok (.bl (decide (j < i))) m := rfl
theorem v_ge {i j : Int} : wGe (.int i) (.int j) m = .ok (.bl (decide (j ≤ i))) m := rfl
theorem v_isN : wIsN x .non m = .ok (.bl (isNon x)) m := rfl
theorem v_notN : wNotN x .non m = .ok (.bl (!isNon x)) m := rfl
theorem v_intI {i : Int} : bInt [.int i] m = .ok (.int i) m := rfl
theorem v_intB {k : Bool} : bInt [.bl k] m = .ok (.int (b2 k)) m := rfl
theorem v_abs {i : Int} : bAbs [.int i] m = .ok (.int (if i < 0 then -i else i)) m := rfl
theorem v_strS {l : List Nat} : bStr [.str l] m = .ok (.str l) m := rfl
theorem v_len : bLen [x] m = match lenW x m with | some n => .ok (.int (n : Int)) m | none => .bad := rfl
theorem v_ixT {ws : List W} {i : Int} : wIx (.tup ws) (.int i) m = atW ws i m := rfl
theorem v_ixF {ws : List W} {i : Int} : wIx (.frz ws) (.int i) m = atW ws i m := rfl
theorem v_ixR {n : Nat} {ws : List W} {i : Int} (h : m[n]? = some (.lst ws)) : wIx (.ref n) (.int i) m = atW ws i m := by
  show (match m[n]? with | some (.lst ws) => atW ws i m | _ => .bad) = _
  rw [h]
theorem v_eqI {i j : Int} : wEq0 (.int i) (.int j) m = .ok (.bl (decide (i = j))) m := rfl
theorem v_neI {i j : Int} : wNe0 (.int i) (.int j) m = .ok (.bl (!decide (i = j))) m := rfl
theorem v_eqS {i j : List Nat} : wEq0 (.str i) (.str j) m = .ok (.bl (decide (i = j))) m := rfl
theorem v_neS {i j : List Nat} : wNe0 (.str i) (.str j) m = .ok (.bl (!decide (i = j))) m := rfl
theorem v_at {ws : List W} {i : Int} (h : L2.atI ws i = some w) : atW ws i m = .ok w m := by unfold atW; rw [h]
theorem atI_nat {α : Type} {ws : List α} {k : Nat} {v : α} (h : ws[k]? = some v) : L2.atI ws (k : Int) = some v := by
  have hk := (List.getElem?_eq_some_iff.mp h).1
  unfold L2.atI L2.ixN
  rw [if_pos (by omega), if_pos (by omega)]
  simpa using h
end
theorem lt_big {i : Int} (h : i.natAbs < 2 ^ 400) : i.natAbs < big := Nat.lt_of_lt_of_le h (Nat.pow_le_pow_right (by decide) (by decide))
/-- the straight-line part of a run -/
theorem wMul_ok {i j : Int} {m : Mem} (h1 : i.natAbs < 2 ^ 400) (h2 : j.natAbs < 2 ^ 400) : wMul (.int i) (.int j) m = .ok (.int (i * j)) m := by
  unfold wMul; exact if_pos ⟨lt_big h1, lt_big h2⟩
theorem wMod_ok {i j : Int} {m : Mem} (h : 0 < j) : wMod (.int i) (.int j) m = .ok (.int (i % j)) m := if_pos h
theorem wDiv_ok {i j : Int} {m : Mem} (h : 0 < j) (h2 : j < 1073741824) : wDiv (.int i) (.int j) m = .ok (.int (i / j)) m := if_pos ⟨h, h2⟩
theorem wPow_ok {i j : Int} {m : Mem} (h : 0 ≤ j) (h2 : j ≤ 1000) (h3 : i.natAbs < 1000000) : wPow (.int i) (.int j) m = .ok (.int (i ^ j.toNat)) m := if_pos ⟨h, h2, h3⟩
theorem forLoop_nx {src : Src} {h : W → Loc → Mem → R Loc} {b : DS} {N : Nat} (I : Nat → Loc → Mem → Prop)
    (step : ∀ i σ m, i < N → I i σ m → ∃ w σ1 m1 σ2 m2, src i m = some (some w) ∧ h w σ m = .ok σ1 m1 ∧ b σ1 m1 = .nx σ2 m2 ∧ I (i + 1) σ2 m2)
    (stop : ∀ σ m, I N σ m → src N m = some none) :
    ∀ (k i : Nat) (σ : Loc) (m : Mem), i + k = N → I i σ m → ∃ σ' m', forLoop src h b (k + 1) i σ m = .nx σ' m' ∧ I N σ' m'
  | 0, i, σ, m, e, hI => by
    have e' : i = N := by omega
    subst e'
    refine ⟨σ, m, ?_, hI⟩
    unfold forLoop
    rw [stop σ m hI]
  | k + 1, i, σ, m, e, hI => by
    obtain ⟨w, σ1, m1, σ2, m2, h1, h2, h3, h4⟩ := step i σ m (by omega) hI
    obtain ⟨σ', m', h5, h6⟩ := forLoop_nx I step stop k (i + 1) σ2 m2 (by omega) h4
    refine ⟨σ', m', ?_, h6⟩
    unfold forLoop
    rw [h1]
    show RS.of σ (h w σ m) _ = _
    rw [h2]
    show (match b σ1 m1 with | .nx σ2 m2 => forLoop src h b (k + 1) (i + 1) σ2 m2 | .ct σ2 m2 => forLoop src h b (k + 1) (i + 1) σ2 m2 | .bk σ2 m2 => .nx σ2 m2 | r => r) = _
    rw [h3]
    exact h5
theorem compLoop_ok {src : Src} {h : W → Loc → Mem → R Loc} {t : DB} {e : DE} {σ : Loc} {N : Nat} (I : Nat → List W → Mem → Prop) (hN : N ≤ 1000000)
    (hlen : ∀ i acc m, I i acc m → acc.length ≤ i)
    (step : ∀ i acc m, i < N → I i acc m → ∃ w σ1 m1 m2 y m3, src i m = some (some w) ∧ h w σ m = .ok σ1 m1 ∧ t σ1 m1 = .ok true m2 ∧ e σ1 m2 = .ok y m3 ∧ I (i + 1) (acc ++ [y]) m3)
    (stop : ∀ acc m, I N acc m → src N m = some none) :
    ∀ (k i : Nat) (acc : List W) (m : Mem), i + k = N → I i acc m → ∃ ws m', compLoop src h t e σ (k + 1) i acc m = .ok ws m' ∧ I N ws m'
  | 0, i, acc, m, hk, hI => by
    have e' : i = N := by omega
    subst e'
    refine ⟨acc, m, ?_, hI⟩
    unfold compLoop
    rw [stop acc m hI]
  | k + 1, i, acc, m, hk, hI => by
    obtain ⟨w, σ1, m1, m2, y, m3, h1, h2, h3, h4, h5⟩ := step i acc m (by omega) hI
    obtain ⟨ws, m', h6, h7⟩ := compLoop_ok I hN hlen step stop k (i + 1) (acc ++ [y]) m3 (by omega) h5
    refine ⟨ws, m', ?_, h7⟩
    have hl := hlen i acc m hI
    unfold compLoop
    simp only [h1, h2, h3, h4, R.bind_ok, R.nox_ok, if_true]
    first
      | (rw [if_pos (by omega)]; exact h6)
      | exact h6
theorem comp_map {src : Src} {ws : List W} {m : Mem} {k : Nat} {e : DE} {σ : Loc} {f : W → W} (hl : ws.length ≤ 1000000) (hs : ∀ i, src i m = some ws[i]?) (he : ∀ w, w ∈ ws → e (σ.set k (some w)) m = .ok (f w) m) :
    compLoop src (gSet k) tYesB e σ (ws.length + 1) 0 [] m = .ok (ws.map f) m := by
  obtain ⟨xs, m', h1, h2, h3⟩ := compLoop_ok (src := src) (h := gSet k) (t := tYesB) (e := e) (σ := σ) (N := ws.length) (fun i acc m' => acc = (ws.take i).map f ∧ m' = m) hl
    (fun i acc m' ⟨h, _⟩ => by rw [h]; simp; omega)
    (fun i acc m' hi ⟨h, hm⟩ => by
      subst hm
      refine ⟨ws[i], σ.set k (some ws[i]), m', m', f ws[i], m', ?_, rfl, rfl, he _ (List.getElem_mem hi), ?_, rfl⟩
      · rw [hs]; simp [hi]
      · rw [h, List.take_succ_eq_append_getElem hi, List.map_append]; rfl)
    (fun acc m' ⟨_, hm⟩ => by subst hm; rw [hs]; simp) ws.length 0 [] m (by omega) ⟨by simp, rfl⟩
  rw [h1, h2, h3]
  simp
theorem strs_map : ∀ ys : List (List Nat), strsW (ys.map W.str) = some ys
  | [] => rfl
  | y :: ys => by simp [strsW, strs_map ys]
theorem joinW_ok {a : List Nat} {ys : List (List Nat)} {m : Mem} (h : (ys.map (·.length)).sum + ys.length * a.length ≤ 1000000) : joinW a (ys.map W.str) m = .ok (.str (TL.joinL a ys)) m := by
  unfold joinW
  rw [strs_map]
  exact if_pos h
section
variable {σ : Loc} {m : Mem} {a : DE} {f : DL} {t : DB} {x : W}
theorem r_lcomp {p : DP} {h : W → Loc → Mem → R Loc} {vs : List Nat} : lComp p h t a vs σ m = (p σ m).bind fun pl m1 => compLoop pl.src h t a (wipeW σ vs) (pl.n + 1) 0 [] m1 := rfl
theorem r_pval : pVal a σ m = (a σ m).bind planOf := rfl
theorem r_pseq : pSeq a σ m = (a σ m).bind planL := rfl
theorem r_plist : pList f σ m = (f σ m).bind fun ws m1 => .ok ⟨ws.length, srcFix ws⟩ m1 := rfl
theorem r_planT {ws : List W} : planOf (.tup ws) m = .ok ⟨ws.length, srcFix ws⟩ m := rfl
theorem r_planS {l : List Nat} : planOf (.str l) m = .ok ⟨l.length, srcStr l⟩ m := rfl
theorem planR {n : Nat} {ws : List W} (h : m[n]? = some (.lst ws)) : planOf (.ref n) m = .ok ⟨ws.length, srcLive n⟩ m := by
  show (match m[n]? with | some (.lst xs) => R.ok (⟨xs.length, srcLive n⟩ : Plan) m | _ => .bad) = _
  rw [h]
theorem planLR {n : Nat} {ws : List W} (h : m[n]? = some (.lst ws)) : planL (.ref n) m = .ok ⟨ws.length, srcLive n⟩ m := by
  show (match m[n]? with | some (.lst xs) => R.ok (⟨xs.length, srcLive n⟩ : Plan) m | _ => .bad) = _
  rw [h]
theorem live_at {n : Nat} {ws : List W} (h : m[n]? = some (.lst ws)) (i : Nat) : srcLive n i m = some ws[i]? := by
  show (match m[n]? with | some (.lst xs) => some xs[i]? | _ => none) = _
  rw [h]
end
theorem wAdd_lst {a b : Nat} {xs ys : List W} {m : Mem} (h1 : m[a]? = some (.lst xs)) (h2 : m[b]? = some (.lst ys)) (hl : xs.length + ys.length ≤ 1000000) : wAdd (.ref a) (.ref b) m = .ok (.ref m.length) (m ++ [.lst (xs ++ ys)]) := by
  show (match m[a]?, m[b]? with
    | some (.lst xs), some (.lst ys) => if xs.length + ys.length ≤ 1000000 then R.ok (W.ref m.length) (m ++ [O.lst (xs ++ ys)]) else .bad
    | _, _ => .bad) = _
  rw [h1, h2]
  exact if_pos hl
end Sh

namespace K01
open PySem PySem.Spec L2 Sh
open PyProof.Rows (envOfC)
/-! ### what the defs compute -/
def b__law_pile : DS := sSeq (sSet 2 (eC (.int 0))) (sSeq (sIf (tVal (eBin wLt (eVar 1) (eFn bLen (aCons (eVar 0) (aNil))))) (sSet 2 (eBin wIx (eVar 0) (eVar 1))) (sNil)) (sSeq (sSet 3 (eIxL (lDisp (aCons (eC (.int 0)) (aCons (eBin wMod (eFn bInt (aCons (eVar 2) (aNil))) (eBin wMul (eBin wMul (eBin wPow (eC (.int 10)) (eC (.int 50))) (eBin wPow (eC (.int 10)) (eC (.int 50)))) (eBin wPow (eC (.int 10)) (eC (.int 50))))) (aNil)))) (eFn bInt (aCons (eBin wGe (eFn bAbs (aCons (eVar 2) (aNil))) (eBin wPow (eC (.int 10)) (eC (.int 18)))) (aNil))))) (sRet (eNew (lDisp (aCons (eVar 3) (aCons (eBin wMod (eFn bInt (aCons (eVar 2) (aNil))) (eC (.int 2147483647))) (aCons (eBin wMul (eC (.int 97)) (eVar 1)) (aCons (eBin wLt (eVar 1) (eC (.int 2))) (aNil))))))))))
def d__law_pile : DF := defn 2 4 b__law_pile
def b__law_mixed : DS := sSeq (sSet 2 (eBin wMod (eFn bInt (aCons (eBin wAdd (eBin wAdd (eBin wMul (eBin wMod (eFn bInt (aCons (eVar 0) (aNil))) (eC (.int 2147483647))) (eC (.int 48271))) (eBin wMul (eVar 1) (eC (.int 69621)))) (eC (.int 11))) (aNil))) (eC (.int 2147483647)))) (sSeq (sSet 2 (eBin wMod (eFn bInt (aCons (eBin wMul (eVar 2) (eVar 2)) (aNil))) (eC (.int 2147483629)))) (sRet (eBin wDiv (eBin wMod (eFn bInt (aCons (eBin wMul (eVar 2) (eVar 2)) (aNil))) (eC (.int 2147483587))) (eC (.int 64)))))
def d__law_mixed : DF := defn 2 3 b__law_mixed
def b__law_take : DS := sSeq (sIf (tVal (eInL false (eBin wIx (eVar 0) (eC (.int 0))) (lDisp (aCons (eC (.int 0)) (aCons (eUn wNeg (eC (.int 1))) (aNil)))))) (sSeq (sPut (eVar 0) (eC (.int 2)) (eBin wAdd (eBin wIx (eVar 0) (eC (.int 2))) (eC (.int 1)))) (sRet (eBin wMod (eFn bInt (aCons (eCall d__law_mixed (aCons (eBin wIx (eVar 0) (eC (.int 1))) (aCons (eBin wIx (eVar 0) (eC (.int 2))) (aNil)))) (aNil))) (eVar 1)))) (sNil)) (sSeq (sSet 2 (eBin wMod (eFn bInt (aCons (eBin wIx (eVar 0) (eC (.int 0))) (aNil))) (eVar 1))) (sSeq (sPut (eVar 0) (eC (.int 0)) (eBin wDiv (eBin wIx (eVar 0) (eC (.int 0))) (eVar 1))) (sRet (eVar 2))))
def d__law_take : DF := defn 2 3 b__law_take
def b__law_drawn_word : DS := sSeq (sSet 1 (eNew (lDisp (aCons (eC (.str [97])) (aCons (eC (.str [98])) (aCons (eC (.str [120])) (aCons (eC (.str [115, 101, 116])) (aCons (eC (.str [97, 100, 100])) (aCons (eC (.str [110, 111, 110, 101])) (aCons (eC (.str [99, 111, 112, 121])) (aCons (eC (.str [105, 102])) (aCons (eC (.str [106, 107, 113, 118, 119, 120, 121, 122])) (aCons (eC (.str [114, 101, 97, 100])) (aCons (eC (.str [104])) (aCons (eC (.str [109, 117, 108])) (aNil)))))))))))))))) (sRet (eBin wIx (eVar 1) (eCall d__law_take (aCons (eVar 0) (aCons (eC (.int 12)) (aNil))))))
def d__law_drawn_word : DF := defn 1 2 b__law_drawn_word
def b__law_drawn_value : DS := sSeq (sSet 1 (eIxL (lDisp (aCons (eC (.int 0)) (aCons (eC (.int 1)) (aCons (eUn wNeg (eC (.int 1))) (aCons (eC (.int 7)) (aCons (eC (.int 999999)) (aCons (eUn wNeg (eC (.int 999999))) (aCons (eBin wSub (eCall d__law_take (aCons (eVar 0) (aCons (eC (.int 1999999)) (aNil)))) (eC (.int 999999))) (aNil))))))))) (eCall d__law_take (aCons (eVar 0) (aCons (eC (.int 7)) (aNil)))))) (sRet (eIxL (lDisp (aCons (eCall d__law_drawn_word (aCons (eVar 0) (aNil))) (aCons (eVar 1) (aNil)))) (eCall d__law_take (aCons (eVar 0) (aCons (eC (.int 2)) (aNil))))))
def d__law_drawn_value : DF := defn 1 2 b__law_drawn_value
def b__law_any_statement : DS := sSeq (sSet 1 (eCall d__law_take (aCons (eVar 0) (aCons (eC (.int 4)) (aNil))))) (sSeq (sIf (tVal (eBin wEq0 (eVar 1) (eC (.int 0)))) (sSeq (sSet 2 (eIxL (lDisp (aCons (eC (.str [97, 100, 100])) (aCons (eC (.str [115, 117, 98])) (aCons (eC (.str [109, 117, 108])) (aNil))))) (eCall d__law_take (aCons (eVar 0) (aCons (eC (.int 3)) (aNil)))))) (sRet (eTup (aCons (eC (.str [115, 101, 116])) (aCons (eCall d__law_drawn_word (aCons (eVar 0) (aNil))) (aCons (eCall d__law_drawn_value (aCons (eVar 0) (aNil))) (aCons (eVar 2) (aCons (eCall d__law_drawn_value (aCons (eVar 0) (aNil))) (aNil))))))))) (sNil)) (sSeq (sIf (tVal (eBin wEq0 (eVar 1) (eC (.int 1)))) (sRet (eTup (aCons (eC (.str [99, 111, 112, 121])) (aCons (eCall d__law_drawn_word (aCons (eVar 0) (aNil))) (aCons (eCall d__law_drawn_value (aCons (eVar 0) (aNil))) (aNil)))))) (sNil)) (sSeq (sIf (tVal (eBin wEq0 (eVar 1) (eC (.int 2)))) (sRet (eTup (aCons (eC (.str [114, 101, 97, 100])) (aCons (eCall d__law_drawn_word (aCons (eVar 0) (aNil))) (aNil))))) (sNil)) (sRet (eTup (aCons (eC (.str [119, 114, 105, 116, 101])) (aCons (eCall d__law_drawn_value (aCons (eVar 0) (aNil))) (aNil))))))))
def d__law_any_statement : DF := defn 1 3 b__law_any_statement
def isiL : List ((Tc × Tc) × Bool) := [((.bi "NoneType", .bi "bool"), false), ((.bi "NoneType", .bi "int"), false), ((.bi "NoneType", .bi "str"), false), ((.bi "NoneType", .own "Assign"), false), ((.bi "NoneType", .own "Copy"), false), ((.bi "NoneType", .own "Read"), false), ((.bi "NoneType", .own "Set"), false), ((.bi "NoneType", .own "Statement"), false), ((.bi "NoneType", .own "Write"), false), ((.bi "bool", .bi "bool"), true), ((.bi "bool", .bi "int"), true), ((.bi "bool", .bi "str"), false), ((.bi "bool", .own "Assign"), false), ((.bi "bool", .own "Copy"), false), ((.bi "bool", .own "Read"), false), ((.bi "bool", .own "Set"), false), ((.bi "bool", .own "Statement"), false), ((.bi "bool", .own "Write"), false), ((.bi "int", .bi "bool"), false), ((.bi "int", .bi "int"), true), ((.bi "int", .bi "str"), false), ((.bi "int", .own "Assign"), false), ((.bi "int", .own "Copy"), false), ((.bi "int", .own "Read"), false), ((.bi "int", .own "Set"), false), ((.bi "int", .own "Statement"), false), ((.bi "int", .own "Write"), false), ((.bi "str", .bi "bool"), false), ((.bi "str", .bi "int"), false), ((.bi "str", .bi "str"), true), ((.bi "str", .own "Assign"), false), ((.bi "str", .own "Copy"), false), ((.bi "str", .own "Read"), false), ((.bi "str", .own "Set"), false), ((.bi "str", .own "Statement"), false), ((.bi "str", .own "Write"), false), ((.bi "tuple", .bi "bool"), false), ((.bi "tuple", .bi "int"), false), ((.bi "tuple", .bi "str"), false), ((.bi "tuple", .own "Assign"), false), ((.bi "tuple", .own "Copy"), false), ((.bi "tuple", .own "Read"), false), ((.bi "tuple", .own "Set"), false), ((.bi "tuple", .own "Statement"), false), ((.bi "tuple", .own "Write"), false), ((.bi "list", .bi "bool"), false), ((.bi "list", .bi "int"), false), ((.bi "list", .bi "str"), false), ((.bi "list", .own "Assign"), false), ((.bi "list", .own "Copy"), false), ((.bi "list", .own "Read"), false), ((.bi "list", .own "Set"), false), ((.bi "list", .own "Statement"), false), ((.bi "list", .own "Write"), false), ((.own "Set", .bi "bool"), false), ((.own "Set", .bi "int"), false), ((.own "Set", .bi "str"), false), ((.own "Set", .own "Assign"), true), ((.own "Set", .own "Copy"), false), ((.own "Set", .own "Read"), false), ((.own "Set", .own "Set"), true), ((.own "Set", .own "Statement"), true), ((.own "Set", .own "Write"), false), ((.own "Copy", .bi "bool"), false), ((.own "Copy", .bi "int"), false), ((.own "Copy", .bi "str"), false), ((.own "Copy", .own "Assign"), true), ((.own "Copy", .own "Copy"), true), ((.own "Copy", .own "Read"), false), ((.own "Copy", .own "Set"), false), ((.own "Copy", .own "Statement"), true), ((.own "Copy", .own "Write"), false), ((.own "Read", .bi "bool"), false), ((.own "Read", .bi "int"), false), ((.own "Read", .bi "str"), false), ((.own "Read", .own "Assign"), true), ((.own "Read", .own "Copy"), false), ((.own "Read", .own "Read"), true), ((.own "Read", .own "Set"), false), ((.own "Read", .own "Statement"), true), ((.own "Read", .own "Write"), false), ((.own "Write", .bi "bool"), false), ((.own "Write", .bi "int"), false), ((.own "Write", .bi "str"), false), ((.own "Write", .own "Assign"), false), ((.own "Write", .own "Copy"), false), ((.own "Write", .own "Read"), false), ((.own "Write", .own "Set"), false), ((.own "Write", .own "Statement"), true), ((.own "Write", .own "Write"), true)]
def isiT : Tc → Tc → Option Bool := fun t d => isiL.lookup (t, d)
def b_is_name : DS := sSeq (sIf (tOr (tNot (tVal (eFn (bIsi isiT) (aCons (eVar 0) (aCons (eC (.ty "str")) (aNil)))))) (tNot (tChain wLe wLe (eC (.int 1)) (eFn bLen (aCons (eVar 0) (aNil))) (eC (.int 8))))) (sRet (eC (.bl false))) (sNil)) (sRet (eFnL bAll (lComp (pVal (eVar 0)) (gSet 1) (tYesB) (eBin wIn (eVar 1) (eC (.str [97, 98, 99, 100, 101, 102, 103, 104, 105, 106, 107, 108, 109, 110, 111, 112, 113, 114, 115, 116, 117, 118, 119, 120, 121, 122]))) [1])))
def d_is_name : DF := defn 1 2 b_is_name
def b_must_be_name : DS := sIf (tNot (tVal (eCall d_is_name (aCons (eVar 0) (aNil))))) (sBad) (sNil)
def d_must_be_name : DF := defn 1 1 b_must_be_name
def okc_Assign_target : String → Bool := fun c => c == "Set" || c == "Copy" || c == "Read"
def b_Assign___init__ : DS := sSeq (sExpr (eCall d_must_be_name (aCons (eVar 1) (aNil)))) (sAttr [116, 97, 114, 103, 101, 116] okc_Assign_target (eVar 0) (eVar 1))
def d_Assign___init__ : DF := defn 2 2 b_Assign___init__
def b_is_integer : DS := sRet (eAnd (eFn (bIsi isiT) (aCons (eVar 0) (aCons (eC (.ty "int")) (aNil)))) (eNot (eFn (bIsi isiT) (aCons (eVar 0) (aCons (eC (.ty "bool")) (aNil))))))
def d_is_integer : DF := defn 1 1 b_is_integer
def b_is_value : DS := sSeq (sIf (tVal (eCall d_is_integer (aCons (eVar 0) (aNil)))) (sRet (eBin wLe (eFn bAbs (aCons (eVar 0) (aNil))) (eC (.int 999999)))) (sNil)) (sRet (eCall d_is_name (aCons (eVar 0) (aNil))))
def d_is_value : DF := defn 1 1 b_is_value
def b_must_be_value : DS := sIf (tNot (tVal (eCall d_is_value (aCons (eVar 0) (aNil))))) (sBad) (sNil)
def d_must_be_value : DF := defn 1 1 b_must_be_value
def tb_OPERATORS : String → Option (Option (DF ⊕ W)) := fun c => if c = "Set" then some (some (.inr (.tup [.str [97, 100, 100], .str [115, 117, 98], .str [109, 117, 108]]))) else if c = "Copy" then some (some (.inr (.tup [.str [97, 100, 100], .str [115, 117, 98], .str [109, 117, 108]]))) else if c = "Read" then some (some (.inr (.tup [.str [97, 100, 100], .str [115, 117, 98], .str [109, 117, 108]]))) else if c = "Write" then some (some (.inr (.tup [.str [97, 100, 100], .str [115, 117, 98], .str [109, 117, 108]]))) else none
def okc_Set_left : String → Bool := fun c => c == "Set"
def okc_Set_op : String → Bool := fun c => c == "Set"
def okc_Set_right : String → Bool := fun c => c == "Set"
def b_Set___init__ : DS := sSeq (sExpr (eCall d_must_be_value (aCons (eVar 2) (aNil)))) (sSeq (sIf (tOr (tNot (tVal (eFn (bIsi isiT) (aCons (eVar 3) (aCons (eC (.ty "str")) (aNil)))))) (tVal (eBin wNotIn (eVar 3) (eAttr [79, 80, 69, 82, 65, 84, 79, 82, 83] tb_OPERATORS (eVar 0))))) (sBad) (sNil)) (sSeq (sExpr (eCall d_must_be_value (aCons (eVar 4) (aNil)))) (sSeq (sAttr [108, 101, 102, 116] okc_Set_left (eVar 0) (eVar 2)) (sSeq (sAttr [111, 112] okc_Set_op (eVar 0) (eVar 3)) (sAttr [114, 105, 103, 104, 116] okc_Set_right (eVar 0) (eVar 4))))))
def d_Set___init__ : DF := defn 5 5 (sSeq (sSuper "Set" d_Assign___init__ (aCons (eVar 1) (aNil))) b_Set___init__)
def okc_Copy_value : String → Bool := fun c => c == "Copy"
def b_Copy___init__ : DS := sSeq (sExpr (eCall d_must_be_value (aCons (eVar 2) (aNil)))) (sAttr [118, 97, 108, 117, 101] okc_Copy_value (eVar 0) (eVar 2))
def d_Copy___init__ : DF := defn 3 3 (sSeq (sSuper "Copy" d_Assign___init__ (aCons (eVar 1) (aNil))) b_Copy___init__)
def okc_Write_value : String → Bool := fun c => c == "Write"
def b_Write___init__ : DS := sSeq (sExpr (eCall d_must_be_value (aCons (eVar 1) (aNil)))) (sAttr [118, 97, 108, 117, 101] okc_Write_value (eVar 0) (eVar 1))
def d_Write___init__ : DF := defn 2 2 b_Write___init__
def b__law_made : DS := sSeq (sIf (tVal (eBin wIsN (eVar 0) (eC .non))) (sRet (eC .non)) (sNil)) (sSeq (sIf (tVal (eBin wEq0 (eBin wIx (eVar 0) (eC (.int 0))) (eC (.str [115, 101, 116])))) (sRet (eMake "Set" d_Set___init__ (aCons (eBin wIx (eVar 0) (eC (.int 1))) (aCons (eBin wIx (eVar 0) (eC (.int 2))) (aCons (eBin wIx (eVar 0) (eC (.int 3))) (aCons (eBin wIx (eVar 0) (eC (.int 4))) (aNil))))))) (sNil)) (sSeq (sIf (tVal (eBin wEq0 (eBin wIx (eVar 0) (eC (.int 0))) (eC (.str [99, 111, 112, 121])))) (sRet (eMake "Copy" d_Copy___init__ (aCons (eBin wIx (eVar 0) (eC (.int 1))) (aCons (eBin wIx (eVar 0) (eC (.int 2))) (aNil))))) (sNil)) (sSeq (sIf (tVal (eBin wEq0 (eBin wIx (eVar 0) (eC (.int 0))) (eC (.str [114, 101, 97, 100])))) (sRet (eMake "Read" d_Assign___init__ (aCons (eBin wIx (eVar 0) (eC (.int 1))) (aNil)))) (sNil)) (sRet (eMake "Write" d_Write___init__ (aCons (eBin wIx (eVar 0) (eC (.int 1))) (aNil)))))))
def d__law_made : DF := defn 1 1 b__law_made
def b__law_statement_text : DS := sSeq (sIf (tVal (eBin wIsN (eVar 0) (eC .non))) (sRet (eC (.str [110, 111, 110, 101]))) (sNil)) (sRet (eJoinL (eC (.str [32])) (lComp (pVal (eVar 0)) (gSet 1) (tYesB) (eFn bStr (aCons (eVar 1) (aNil))) [1])))
def d__law_statement_text : DF := defn 1 2 b__law_statement_text
def tb_right : String → Option (Option (DF ⊕ W)) := fun c => if c = "Set" then some none else none
def tb_op : String → Option (Option (DF ⊕ W)) := fun c => if c = "Set" then some none else none
def tb_left : String → Option (Option (DF ⊕ W)) := fun c => if c = "Set" then some none else none
def tb_target : String → Option (Option (DF ⊕ W)) := fun c => if c = "Set" then some none else if c = "Copy" then some none else if c = "Read" then some none else none
def b_Set_words : DS := sRet (eNew (lDisp (aCons (eAttr [116, 97, 114, 103, 101, 116] tb_target (eVar 0)) (aCons (eAttr [108, 101, 102, 116] tb_left (eVar 0)) (aCons (eAttr [111, 112] tb_op (eVar 0)) (aCons (eAttr [114, 105, 103, 104, 116] tb_right (eVar 0)) (aNil)))))))
def d_Set_words : DF := defn 1 1 b_Set_words
def tb_value : String → Option (Option (DF ⊕ W)) := fun c => if c = "Copy" then some none else if c = "Write" then some none else none
def b_Copy_words : DS := sRet (eNew (lDisp (aCons (eAttr [116, 97, 114, 103, 101, 116] tb_target (eVar 0)) (aCons (eAttr [118, 97, 108, 117, 101] tb_value (eVar 0)) (aNil)))))
def d_Copy_words : DF := defn 1 1 b_Copy_words
def b_Read_words : DS := sRet (eNew (lDisp (aCons (eAttr [116, 97, 114, 103, 101, 116] tb_target (eVar 0)) (aNil))))
def d_Read_words : DF := defn 1 1 b_Read_words
def b_Write_words : DS := sRet (eNew (lDisp (aCons (eAttr [118, 97, 108, 117, 101] tb_value (eVar 0)) (aNil))))
def d_Write_words : DF := defn 1 1 b_Write_words
def tb_words : String → Option (Option (DF ⊕ W)) := fun c => if c = "Set" then some (some (.inl d_Set_words)) else if c = "Copy" then some (some (.inl d_Copy_words)) else if c = "Read" then some (some (.inl d_Read_words)) else if c = "Write" then some (some (.inl d_Write_words)) else none
def tb_WORD : String → Option (Option (DF ⊕ W)) := fun c => if c = "Set" then some (some (.inr (.str [115, 101, 116]))) else if c = "Copy" then some (some (.inr (.str [99, 111, 112, 121]))) else if c = "Read" then some (some (.inr (.str [114, 101, 97, 100]))) else if c = "Write" then some (some (.inr (.str [119, 114, 105, 116, 101]))) else none
def b_Statement_text : DS := sRet (eJoinL (eC (.str [32])) (lDisp (aCons (eAttr [87, 79, 82, 68] tb_WORD (eVar 0)) (aStarL (lComp (pVal (eAttr [119, 111, 114, 100, 115] tb_words (eVar 0))) (gSet 1) (tYesB) (eFn bStr (aCons (eVar 1) (aNil))) [1]) (aNil)))))
def d_Statement_text : DF := defn 1 2 b_Statement_text
def tb_text : String → Option (Option (DF ⊕ W)) := fun c => if c = "Set" then some (some (.inl d_Statement_text)) else if c = "Copy" then some (some (.inl d_Statement_text)) else if c = "Read" then some (some (.inl d_Statement_text)) else if c = "Write" then some (some (.inl d_Statement_text)) else none
def b__law_alike : DS := sRet (eBin wEq0 (eFn bRepr (aCons (eVar 0) (aNil))) (eFn bRepr (aCons (eVar 1) (aNil))))
def d__law_alike : DF := defn 2 2 b__law_alike
def b__law_attributes : DS := sSeq (sIf (tVal (eBin wEq0 (eVar 0) (eC (.str [115, 101, 116])))) (sRet (eTup (aCons (eVar 0) (aCons (eAttr [116, 97, 114, 103, 101, 116] tb_target (eVar 1)) (aCons (eAttr [108, 101, 102, 116] tb_left (eVar 1)) (aCons (eAttr [111, 112] tb_op (eVar 1)) (aCons (eAttr [114, 105, 103, 104, 116] tb_right (eVar 1)) (aNil)))))))) (sNil)) (sSeq (sIf (tVal (eBin wEq0 (eVar 0) (eC (.str [99, 111, 112, 121])))) (sRet (eTup (aCons (eVar 0) (aCons (eAttr [116, 97, 114, 103, 101, 116] tb_target (eVar 1)) (aCons (eAttr [118, 97, 108, 117, 101] tb_value (eVar 1)) (aNil)))))) (sNil)) (sSeq (sIf (tVal (eBin wEq0 (eVar 0) (eC (.str [114, 101, 97, 100])))) (sRet (eTup (aCons (eVar 0) (aCons (eAttr [116, 97, 114, 103, 101, 116] tb_target (eVar 1)) (aNil))))) (sNil)) (sRet (eTup (aCons (eVar 0) (aCons (eAttr [118, 97, 108, 117, 101] tb_value (eVar 1)) (aNil)))))))
def d__law_attributes : DF := defn 2 2 b__law_attributes
def b_value_of : DS := sSeq (sSet 1 (eM1 wRmPre (eVar 0) (eC (.str [45])))) (sSeq (sIf (tAnd (tChain wLe wLe (eC (.int 1)) (eFn bLen (aCons (eVar 1) (aNil))) (eC (.int 6))) (tVal (eFnL bAll (lComp (pVal (eVar 1)) (gSet 2) (tYesB) (eBin wIn (eVar 2) (eC (.str [48, 49, 50, 51, 52, 53, 54, 55, 56, 57]))) [2])))) (sRet (eFn bInt (aCons (eVar 0) (aNil)))) (sNil)) (sRet (eVar 0)))
def d_value_of : DF := defn 1 3 b_value_of
def b_statement_in : DS := sSeq (sAsg (eNew (lSplit (eVar 0) (eC (.str [32])))) (gStar [gSet 1, gSet 2] 1)) (sSeq (sTry (sSeq (sIf (tAnd (tVal (eBin wEq0 (eVar 1) (eC (.str [115, 101, 116])))) (tVal (eBin wEq0 (eFn bLen (aCons (eVar 2) (aNil))) (eC (.int 4))))) (sSeq (sAsg (eVar 2) (gSeq [gSet 3, gSet 4, gSet 5, gSet 6])) (sRet (eMake "Set" d_Set___init__ (aCons (eVar 3) (aCons (eCall d_value_of (aCons (eVar 4) (aNil))) (aCons (eVar 5) (aCons (eCall d_value_of (aCons (eVar 6) (aNil))) (aNil)))))))) (sNil)) (sSeq (sIf (tAnd (tVal (eBin wEq0 (eVar 1) (eC (.str [99, 111, 112, 121])))) (tVal (eBin wEq0 (eFn bLen (aCons (eVar 2) (aNil))) (eC (.int 2))))) (sRet (eMake "Copy" d_Copy___init__ (aCons (eBin wIx (eVar 2) (eC (.int 0))) (aCons (eCall d_value_of (aCons (eBin wIx (eVar 2) (eC (.int 1))) (aNil))) (aNil))))) (sNil)) (sSeq (sIf (tAnd (tVal (eBin wEq0 (eVar 1) (eC (.str [114, 101, 97, 100])))) (tVal (eBin wEq0 (eFn bLen (aCons (eVar 2) (aNil))) (eC (.int 1))))) (sRet (eMake "Read" d_Assign___init__ (aCons (eBin wIx (eVar 2) (eC (.int 0))) (aNil)))) (sNil)) (sIf (tAnd (tVal (eBin wEq0 (eVar 1) (eC (.str [119, 114, 105, 116, 101])))) (tVal (eBin wEq0 (eFn bLen (aCons (eVar 2) (aNil))) (eC (.int 1))))) (sRet (eMake "Write" d_Write___init__ (aCons (eCall d_value_of (aCons (eBin wIx (eVar 2) (eC (.int 0))) (aNil))) (aNil)))) (sNil)))))) (sRet (eC .non)))
def d_statement_in : DF := defn 1 7 b_statement_in
def b_Statement_read : DS := sSeq (sSet 1 (eIf (tVal (eFn (bIsi isiT) (aCons (eVar 0) (aCons (eC (.ty "str")) (aNil))))) (eCall d_statement_in (aCons (eVar 0) (aNil))) (eC .non))) (sSeq (sIf (tOr (tVal (eBin wIsN (eVar 1) (eC .non))) (tVal (eBin wNe0 (eAttr [116, 101, 120, 116] tb_text (eVar 1)) (eVar 0)))) (sBad) (sNil)) (sRet (eVar 1)))
def d_Statement_read : DF := defn 1 2 b_Statement_read
def b__law_classes : DS := sSeq (sSet 1 (eNew (lDisp (aCons (eFn (bIsi isiT) (aCons (eVar 0) (aCons (eC (.cls "Statement")) (aNil)))) (aCons (eFn (bIsi isiT) (aCons (eVar 0) (aCons (eC (.cls "Assign")) (aNil)))) (aCons (eFn (bIsi isiT) (aCons (eVar 0) (aCons (eC (.cls "Set")) (aNil)))) (aCons (eFn (bIsi isiT) (aCons (eVar 0) (aCons (eC (.cls "Copy")) (aNil)))) (aNil)))))))) (sRet (eBin wAdd (eVar 1) (eNew (lDisp (aCons (eFn (bIsi isiT) (aCons (eVar 0) (aCons (eC (.cls "Read")) (aNil)))) (aCons (eFn (bIsi isiT) (aCons (eVar 0) (aCons (eC (.cls "Write")) (aNil)))) (aNil)))))))
def d__law_classes : DF := defn 1 2 b__law_classes
def b__law_due : DS := sSeq (sSet 1 (eBin wIx (eVar 0) (eC (.int 0)))) (sRet (eNew (lDisp (aCons (eC (.bl true)) (aCons (eBin wNe0 (eVar 1) (eC (.str [119, 114, 105, 116, 101]))) (aCons (eBin wEq0 (eVar 1) (eC (.str [115, 101, 116]))) (aCons (eBin wEq0 (eVar 1) (eC (.str [99, 111, 112, 121]))) (aCons (eBin wEq0 (eVar 1) (eC (.str [114, 101, 97, 100]))) (aCons (eBin wEq0 (eVar 1) (eC (.str [119, 114, 105, 116, 101]))) (aNil))))))))))
def d__law_due : DF := defn 1 2 b__law_due
def b_Statement___eq__ : DS := sRet (eAnd (eFn (bIsi isiT) (aCons (eVar 1) (aCons (eC (.cls "Statement")) (aNil)))) (eBin wEq0 (eAttr [116, 101, 120, 116] tb_text (eVar 0)) (eAttr [116, 101, 120, 116] tb_text (eVar 1))))
def d_Statement___eq__ : DF := defn 2 2 b_Statement___eq__
def eqT : String → Option DF := fun c => if c = "Set" then some d_Statement___eq__ else if c = "Copy" then some d_Statement___eq__ else if c = "Read" then some d_Statement___eq__ else if c = "Write" then some d_Statement___eq__ else none
def nfL : List (String × Tc) := [("Set", .bi "NoneType"), ("Set", .bi "int"), ("Set", .bi "str"), ("Set", .own "Set"), ("Set", .own "Copy"), ("Set", .own "Read"), ("Set", .own "Write"), ("Copy", .bi "NoneType"), ("Copy", .bi "int"), ("Copy", .bi "str"), ("Copy", .own "Set"), ("Copy", .own "Copy"), ("Copy", .own "Read"), ("Copy", .own "Write"), ("Read", .bi "NoneType"), ("Read", .bi "int"), ("Read", .bi "str"), ("Read", .own "Set"), ("Read", .own "Copy"), ("Read", .own "Read"), ("Read", .own "Write"), ("Write", .bi "NoneType"), ("Write", .bi "int"), ("Write", .bi "str"), ("Write", .own "Set"), ("Write", .own "Copy"), ("Write", .own "Read"), ("Write", .own "Write")]
def nfB : String → Tc → Bool := fun c t => decide ((c, t) ∈ nfL)
def b_Set_expression : DS := sRet (eTup (aCons (eAttr [108, 101, 102, 116] tb_left (eVar 0)) (aCons (eAttr [111, 112] tb_op (eVar 0)) (aCons (eAttr [114, 105, 103, 104, 116] tb_right (eVar 0)) (aNil)))))
def d_Set_expression : DF := defn 1 1 b_Set_expression
def tb_expression : String → Option (Option (DF ⊕ W)) := fun c => if c = "Set" then some (some (.inl d_Set_expression)) else none
def b_law : DS := sSeq (sIf (tVal (eBin wNe0 (eC (.tup [.str [97, 100, 100], .str [115, 117, 98], .str [109, 117, 108]])) (eTup (aCons (eC (.str [97, 100, 100])) (aCons (eC (.str [115, 117, 98])) (aCons (eC (.str [109, 117, 108])) (aNil))))))) (sRet (eC (.bl false))) (sNil)) (sSeq (sFor (pRange1 (aCons (eC (.int 24)) (aNil))) (gSet 1) (sSeq (sSet 2 (eCall d__law_pile (aCons (eVar 0) (aCons (eVar 1) (aNil))))) (sSeq (sSet 3 (eNew (lComp (pRange1 (aCons (eC (.int 3)) (aNil))) (gSet 9) (tYesB) (eCall d__law_any_statement (aCons (eVar 2) (aNil))) [9]))) (sSeq (sSet 4 (eNew (lComp (pVal (eVar 3)) (gSet 5) (tYesB) (eCall d__law_made (aCons (eVar 5) (aNil))) [5]))) (sFor (pZip (pSeq (eVar 3)) (pSeq (eVar 4))) (gSeq [gSet 5, gSet 6]) (sSeq (sSet 7 (eCall d__law_statement_text (aCons (eVar 5) (aNil)))) (sSeq (sIf (tOr (tVal (eBin wNe0 (eAttr [116, 101, 120, 116] tb_text (eVar 6)) (eVar 7))) (tNot (tVal (eCall d__law_alike (aCons (eCall d__law_attributes (aCons (eBin wIx (eVar 5) (eC (.int 0))) (aCons (eVar 6) (aNil)))) (aCons (eVar 5) (aNil))))))) (sRet (eC (.bl false))) (sNil)) (sSeq (sSet 8 (eCall d_Statement_read (aCons (eVar 7) (aNil)))) (sSeq (sIf (tOr (tVal (eBin wNe0 (eCall d__law_classes (aCons (eVar 6) (aNil))) (eCall d__law_due (aCons (eVar 5) (aNil))))) (tVal (eBin wNe0 (eCall d__law_classes (aCons (eVar 8) (aNil))) (eCall d__law_due (aCons (eVar 5) (aNil)))))) (sRet (eC (.bl false))) (sNil)) (sSeq (sIf (tOr (tVal (eBin (neB eqT nfB) (eVar 8) (eVar 6))) (tNot (tVal (eCall d__law_alike (aCons (eCall d__law_attributes (aCons (eBin wIx (eVar 5) (eC (.int 0))) (aCons (eVar 8) (aNil)))) (aCons (eVar 5) (aNil))))))) (sRet (eC (.bl false))) (sNil)) (sSeq (sIf (tAnd (tVal (eBin wEq0 (eBin wIx (eVar 5) (eC (.int 0))) (eC (.str [115, 101, 116])))) (tNot (tVal (eCall d__law_alike (aCons (eAttr [101, 120, 112, 114, 101, 115, 115, 105, 111, 110] tb_expression (eVar 6)) (aCons (eSl (eVar 5) (pAt (eC (.int 2))) (pNo)) (aNil))))))) (sRet (eC (.bl false))) (sNil)) (sSeq (sIf (tOr (tVal (eBin (eqB eqT nfB) (eVar 6) (eVar 7))) (tOr (tVal (eBin (eqB eqT nfB) (eVar 6) (eC (.int 0)))) (tVal (eBin wIsN (eVar 6) (eC .non))))) (sRet (eC (.bl false))) (sNil)) (sFor (pZip (pSeq (eVar 3)) (pSeq (eVar 4))) (gSeq [gSet 10, gSet 11]) (sSeq (sSet 12 (eBin wEq0 (eVar 7) (eCall d__law_statement_text (aCons (eVar 10) (aNil))))) (sIf (tOr (tVal (eBin wNe0 (eBin (eqB eqT nfB) (eVar 6) (eVar 11)) (eVar 12))) (tVal (eBin wEq0 (eBin (neB eqT nfB) (eVar 6) (eVar 11)) (eVar 12)))) (sRet (eC (.bl false))) (sNil)))))))))))))))) (sRet (eC (.bl true))))
def d_law : DF := defn 1 13 b_law
end K01

namespace K01
open PySem PySem.Spec L2 Sh
open PyProof.Rows (envOfC)
/-! ### the text by places -/
def top (i : Nat) : Stmt := PySem.Challenge.pw_placedonce_k01_statements_made.main.body.getD i (.Pass ⟨0, 0, 0, 0⟩)
abbrev st_is_integer : Stmt := (top 13)
abbrev st_is_name : Stmt := (top 14)
abbrev st_is_value : Stmt := (top 15)
abbrev st_must_be_name : Stmt := (top 16)
abbrev st_must_be_value : Stmt := (top 17)
abbrev st_Statement_text : Stmt := (inClass (top 18) 3)
abbrev st_Statement___eq__ : Stmt := (inClass (top 18) 5)
abbrev st_Statement_read : Stmt := (inClass (top 18) 8)
abbrev st_Assign___init__ : Stmt := (inClass (top 19) 0)
abbrev st_Set___init__ : Stmt := (inClass (top 20) 1)
abbrev st_Set_words : Stmt := (inClass (top 20) 2)
abbrev st_Set_expression : Stmt := (inClass (top 20) 4)
abbrev st_Copy___init__ : Stmt := (inClass (top 21) 1)
abbrev st_Copy_words : Stmt := (inClass (top 21) 2)
abbrev st_Read_words : Stmt := (inClass (top 22) 1)
abbrev st_Write___init__ : Stmt := (inClass (top 23) 1)
abbrev st_Write_words : Stmt := (inClass (top 23) 2)
abbrev st_value_of : Stmt := (top 24)
abbrev st_statement_in : Stmt := (top 25)
abbrev st__law_mixed : Stmt := (top 27)
abbrev st__law_pile : Stmt := (top 28)
abbrev st__law_take : Stmt := (top 29)
abbrev st__law_made : Stmt := (top 30)
abbrev st__law_statement_text : Stmt := (top 31)
abbrev st__law_alike : Stmt := (top 32)
abbrev st__law_drawn_word : Stmt := (top 33)
abbrev st__law_drawn_value : Stmt := (top 34)
abbrev st__law_any_statement : Stmt := (top 35)
abbrev st__law_classes : Stmt := (top 36)
abbrev st__law_due : Stmt := (top 37)
abbrev st__law_attributes : Stmt := (top 38)
abbrev st_law : Stmt := (top 39)
/-! ### what the walk asks of the text -/
structure Txt (P : Program) (K : PySem.W.Frag) (mg : Str → Option Value) (cl : String → Addr) : Prop where
  m_Statement : mg "Statement" = some (.ref (cl "Statement"))
  ccon_Statement_OPERATORS : CConK K (⟨K, cl⟩ : G) "Statement" "OPERATORS" (.tup [.str [97, 100, 100], .str [115, 117, 98], .str [109, 117, 108]])
  none_range : mg "range" = none
  none_len : mg "len" = none
  none_int : mg "int" = none
  none_abs : mg "abs" = none
  fun__law_pile : FunAt K mg "_law_pile" st__law_pile ["_law_script", "_law_k"]
  fun__law_mixed : FunAt K mg "_law_mixed" st__law_mixed ["_law_cell", "_law_k"]
  fun__law_take : FunAt K mg "_law_take" st__law_take ["_law_pile_here", "_law_many"]
  fun__law_drawn_word : FunAt K mg "_law_drawn_word" st__law_drawn_word ["_law_pile_here"]
  fun__law_drawn_value : FunAt K mg "_law_drawn_value" st__law_drawn_value ["_law_pile_here"]
  fun__law_any_statement : FunAt K mg "_law_any_statement" st__law_any_statement ["_law_pile_here"]
  m_Assign : mg "Assign" = some (.ref (cl "Assign"))
  isi_NoneType_Assign : PySem.W.kitOne K (.type "NoneType") (.ref (cl "Assign")) = some false
  m_Copy : mg "Copy" = some (.ref (cl "Copy"))
  isi_NoneType_Copy : PySem.W.kitOne K (.type "NoneType") (.ref (cl "Copy")) = some false
  m_Read : mg "Read" = some (.ref (cl "Read"))
  isi_NoneType_Read : PySem.W.kitOne K (.type "NoneType") (.ref (cl "Read")) = some false
  m_Set : mg "Set" = some (.ref (cl "Set"))
  isi_NoneType_Set : PySem.W.kitOne K (.type "NoneType") (.ref (cl "Set")) = some false
  isi_NoneType_Statement : PySem.W.kitOne K (.type "NoneType") (.ref (cl "Statement")) = some false
  m_Write : mg "Write" = some (.ref (cl "Write"))
  isi_NoneType_Write : PySem.W.kitOne K (.type "NoneType") (.ref (cl "Write")) = some false
  isi_bool_Assign : PySem.W.kitOne K (.type "bool") (.ref (cl "Assign")) = some false
  isi_bool_Copy : PySem.W.kitOne K (.type "bool") (.ref (cl "Copy")) = some false
  isi_bool_Read : PySem.W.kitOne K (.type "bool") (.ref (cl "Read")) = some false
  isi_bool_Set : PySem.W.kitOne K (.type "bool") (.ref (cl "Set")) = some false
  isi_bool_Statement : PySem.W.kitOne K (.type "bool") (.ref (cl "Statement")) = some false
  isi_bool_Write : PySem.W.kitOne K (.type "bool") (.ref (cl "Write")) = some false
  isi_int_Assign : PySem.W.kitOne K (.type "int") (.ref (cl "Assign")) = some false
  isi_int_Copy : PySem.W.kitOne K (.type "int") (.ref (cl "Copy")) = some false
  isi_int_Read : PySem.W.kitOne K (.type "int") (.ref (cl "Read")) = some false
  isi_int_Set : PySem.W.kitOne K (.type "int") (.ref (cl "Set")) = some false
  isi_int_Statement : PySem.W.kitOne K (.type "int") (.ref (cl "Statement")) = some false
  isi_int_Write : PySem.W.kitOne K (.type "int") (.ref (cl "Write")) = some false
  isi_str_Assign : PySem.W.kitOne K (.type "str") (.ref (cl "Assign")) = some false
  isi_str_Copy : PySem.W.kitOne K (.type "str") (.ref (cl "Copy")) = some false
  isi_str_Read : PySem.W.kitOne K (.type "str") (.ref (cl "Read")) = some false
  isi_str_Set : PySem.W.kitOne K (.type "str") (.ref (cl "Set")) = some false
  isi_str_Statement : PySem.W.kitOne K (.type "str") (.ref (cl "Statement")) = some false
  isi_str_Write : PySem.W.kitOne K (.type "str") (.ref (cl "Write")) = some false
  isi_tuple_Assign : PySem.W.kitOne K (.type "tuple") (.ref (cl "Assign")) = some false
  isi_tuple_Copy : PySem.W.kitOne K (.type "tuple") (.ref (cl "Copy")) = some false
  isi_tuple_Read : PySem.W.kitOne K (.type "tuple") (.ref (cl "Read")) = some false
  isi_tuple_Set : PySem.W.kitOne K (.type "tuple") (.ref (cl "Set")) = some false
  isi_tuple_Statement : PySem.W.kitOne K (.type "tuple") (.ref (cl "Statement")) = some false
  isi_tuple_Write : PySem.W.kitOne K (.type "tuple") (.ref (cl "Write")) = some false
  isi_list_Assign : PySem.W.kitOne K (.type "list") (.ref (cl "Assign")) = some false
  isi_list_Copy : PySem.W.kitOne K (.type "list") (.ref (cl "Copy")) = some false
  isi_list_Read : PySem.W.kitOne K (.type "list") (.ref (cl "Read")) = some false
  isi_list_Set : PySem.W.kitOne K (.type "list") (.ref (cl "Set")) = some false
  isi_list_Statement : PySem.W.kitOne K (.type "list") (.ref (cl "Statement")) = some false
  isi_list_Write : PySem.W.kitOne K (.type "list") (.ref (cl "Write")) = some false
  cls_Set : Cls K (cl "Set")
  ins_Set : InsK K (cl "Set")
  isi_Set_bool : PySem.W.kitOne K (.ref (cl "Set")) (.type "bool") = some false
  isi_Set_int : PySem.W.kitOne K (.ref (cl "Set")) (.type "int") = some false
  isi_Set_str : PySem.W.kitOne K (.ref (cl "Set")) (.type "str") = some false
  isi_Set_Assign : PySem.W.kitOne K (.ref (cl "Set")) (.ref (cl "Assign")) = some true
  isi_Set_Copy : PySem.W.kitOne K (.ref (cl "Set")) (.ref (cl "Copy")) = some false
  isi_Set_Read : PySem.W.kitOne K (.ref (cl "Set")) (.ref (cl "Read")) = some false
  isi_Set_Set : PySem.W.kitOne K (.ref (cl "Set")) (.ref (cl "Set")) = some true
  isi_Set_Statement : PySem.W.kitOne K (.ref (cl "Set")) (.ref (cl "Statement")) = some true
  isi_Set_Write : PySem.W.kitOne K (.ref (cl "Set")) (.ref (cl "Write")) = some false
  cls_Copy : Cls K (cl "Copy")
  ins_Copy : InsK K (cl "Copy")
  isi_Copy_bool : PySem.W.kitOne K (.ref (cl "Copy")) (.type "bool") = some false
  isi_Copy_int : PySem.W.kitOne K (.ref (cl "Copy")) (.type "int") = some false
  isi_Copy_str : PySem.W.kitOne K (.ref (cl "Copy")) (.type "str") = some false
  isi_Copy_Assign : PySem.W.kitOne K (.ref (cl "Copy")) (.ref (cl "Assign")) = some true
  isi_Copy_Copy : PySem.W.kitOne K (.ref (cl "Copy")) (.ref (cl "Copy")) = some true
  isi_Copy_Read : PySem.W.kitOne K (.ref (cl "Copy")) (.ref (cl "Read")) = some false
  isi_Copy_Set : PySem.W.kitOne K (.ref (cl "Copy")) (.ref (cl "Set")) = some false
  isi_Copy_Statement : PySem.W.kitOne K (.ref (cl "Copy")) (.ref (cl "Statement")) = some true
  isi_Copy_Write : PySem.W.kitOne K (.ref (cl "Copy")) (.ref (cl "Write")) = some false
  cls_Read : Cls K (cl "Read")
  ins_Read : InsK K (cl "Read")
  isi_Read_bool : PySem.W.kitOne K (.ref (cl "Read")) (.type "bool") = some false
  isi_Read_int : PySem.W.kitOne K (.ref (cl "Read")) (.type "int") = some false
  isi_Read_str : PySem.W.kitOne K (.ref (cl "Read")) (.type "str") = some false
  isi_Read_Assign : PySem.W.kitOne K (.ref (cl "Read")) (.ref (cl "Assign")) = some true
  isi_Read_Copy : PySem.W.kitOne K (.ref (cl "Read")) (.ref (cl "Copy")) = some false
  isi_Read_Read : PySem.W.kitOne K (.ref (cl "Read")) (.ref (cl "Read")) = some true
  isi_Read_Set : PySem.W.kitOne K (.ref (cl "Read")) (.ref (cl "Set")) = some false
  isi_Read_Statement : PySem.W.kitOne K (.ref (cl "Read")) (.ref (cl "Statement")) = some true
  isi_Read_Write : PySem.W.kitOne K (.ref (cl "Read")) (.ref (cl "Write")) = some false
  cls_Write : Cls K (cl "Write")
  ins_Write : InsK K (cl "Write")
  isi_Write_bool : PySem.W.kitOne K (.ref (cl "Write")) (.type "bool") = some false
  isi_Write_int : PySem.W.kitOne K (.ref (cl "Write")) (.type "int") = some false
  isi_Write_str : PySem.W.kitOne K (.ref (cl "Write")) (.type "str") = some false
  isi_Write_Assign : PySem.W.kitOne K (.ref (cl "Write")) (.ref (cl "Assign")) = some false
  isi_Write_Copy : PySem.W.kitOne K (.ref (cl "Write")) (.ref (cl "Copy")) = some false
  isi_Write_Read : PySem.W.kitOne K (.ref (cl "Write")) (.ref (cl "Read")) = some false
  isi_Write_Set : PySem.W.kitOne K (.ref (cl "Write")) (.ref (cl "Set")) = some false
  isi_Write_Statement : PySem.W.kitOne K (.ref (cl "Write")) (.ref (cl "Statement")) = some true
  isi_Write_Write : PySem.W.kitOne K (.ref (cl "Write")) (.ref (cl "Write")) = some true
  none_isinstance : mg "isinstance" = none
  none_str : mg "str" = none
  val_MOST_LETTERS : ∃ u, mg "MOST_LETTERS" = some u ∧ ∃ v, RelV v u ∧ ∀ ρ H, VR (⟨K, cl⟩ : G) ρ H (.int 8) v
  none_all : mg "all" = none
  val_LETTERS : ∃ u, mg "LETTERS" = some u ∧ ∃ v, RelV v u ∧ ∀ ρ H, VR (⟨K, cl⟩ : G) ρ H (.str [97, 98, 99, 100, 101, 102, 103, 104, 105, 106, 107, 108, 109, 110, 111, 112, 113, 114, 115, 116, 117, 118, 119, 120, 121, 122]) v
  fun_is_name : FunAt K mg "is_name" st_is_name ["thing"]
  fun_must_be_name : FunAt K mg "must_be_name" st_must_be_name ["thing"]
  noa_Set_target : NoAttr K (cl "Set") "target"
  noa_Copy_target : NoAttr K (cl "Copy") "target"
  noa_Read_target : NoAttr K (cl "Read") "target"
  none_bool : mg "bool" = none
  fun_is_integer : FunAt K mg "is_integer" st_is_integer ["thing"]
  val_MOST_VALUE : ∃ u, mg "MOST_VALUE" = some u ∧ ∃ v, RelV v u ∧ ∀ ρ H, VR (⟨K, cl⟩ : G) ρ H (.int 999999) v
  fun_is_value : FunAt K mg "is_value" st_is_value ["thing"]
  fun_must_be_value : FunAt K mg "must_be_value" st_must_be_value ["thing"]
  con_Set_OPERATORS : ∃ v u, Con K (cl "Set") "OPERATORS" v u ∧ ∀ ρ H, VR (⟨K, cl⟩ : G) ρ H (.tup [.str [97, 100, 100], .str [115, 117, 98], .str [109, 117, 108]]) v
  con_Copy_OPERATORS : ∃ v u, Con K (cl "Copy") "OPERATORS" v u ∧ ∀ ρ H, VR (⟨K, cl⟩ : G) ρ H (.tup [.str [97, 100, 100], .str [115, 117, 98], .str [109, 117, 108]]) v
  con_Read_OPERATORS : ∃ v u, Con K (cl "Read") "OPERATORS" v u ∧ ∀ ρ H, VR (⟨K, cl⟩ : G) ρ H (.tup [.str [97, 100, 100], .str [115, 117, 98], .str [109, 117, 108]]) v
  con_Write_OPERATORS : ∃ v u, Con K (cl "Write") "OPERATORS" v u ∧ ∀ ρ H, VR (⟨K, cl⟩ : G) ρ H (.tup [.str [97, 100, 100], .str [115, 117, 98], .str [109, 117, 108]]) v
  noa_Set_left : NoAttr K (cl "Set") "left"
  noa_Set_op : NoAttr K (cl "Set") "op"
  noa_Set_right : NoAttr K (cl "Set") "right"
  none_super : mg "super" = none
  ztop : (P.main.scope.names.lookup ("super" : Str)).isSome = false
  mk_Set : ∃ fi f2, Mk K (cl "Set") fi ∧ SupAt P K mg (cl "Set") "Set.__init__" st_Set___init__ ["self", "target", "left", "op", "right"] fi f2 ∧ FunIn K "__init__" "Assign.__init__" st_Assign___init__ ["self", "target"] f2
  noa_Copy_value : NoAttr K (cl "Copy") "value"
  mk_Copy : ∃ fi f2, Mk K (cl "Copy") fi ∧ SupAt P K mg (cl "Copy") "Copy.__init__" st_Copy___init__ ["self", "target", "value"] fi f2 ∧ FunIn K "__init__" "Assign.__init__" st_Assign___init__ ["self", "target"] f2
  mk_Read : ∃ fi, Mk K (cl "Read") fi ∧ FunIn K "__init__" "Assign.__init__" st_Assign___init__ ["self", "target"] fi
  noa_Write_value : NoAttr K (cl "Write") "value"
  mk_Write : ∃ fi, Mk K (cl "Write") fi ∧ FunIn K "__init__" "Write.__init__" st_Write___init__ ["self", "value"] fi
  fun__law_made : FunAt K mg "_law_made" st__law_made ["_law_statement"]
  none_zip : mg "zip" = none
  fun__law_statement_text : FunAt K mg "_law_statement_text" st__law_statement_text ["_law_statement"]
  prop_Set_words : ∃ p ga, PropOf K (cl "Set") "words" p ga ∧ FunIn K "words" "Set.words" st_Set_words ["self"] ga
  prop_Copy_words : ∃ p ga, PropOf K (cl "Copy") "words" p ga ∧ FunIn K "words" "Copy.words" st_Copy_words ["self"] ga
  prop_Read_words : ∃ p ga, PropOf K (cl "Read") "words" p ga ∧ FunIn K "words" "Read.words" st_Read_words ["self"] ga
  prop_Write_words : ∃ p ga, PropOf K (cl "Write") "words" p ga ∧ FunIn K "words" "Write.words" st_Write_words ["self"] ga
  con_Set_WORD : ∃ v u, Con K (cl "Set") "WORD" v u ∧ ∀ ρ H, VR (⟨K, cl⟩ : G) ρ H (.str [115, 101, 116]) v
  con_Copy_WORD : ∃ v u, Con K (cl "Copy") "WORD" v u ∧ ∀ ρ H, VR (⟨K, cl⟩ : G) ρ H (.str [99, 111, 112, 121]) v
  con_Read_WORD : ∃ v u, Con K (cl "Read") "WORD" v u ∧ ∀ ρ H, VR (⟨K, cl⟩ : G) ρ H (.str [114, 101, 97, 100]) v
  con_Write_WORD : ∃ v u, Con K (cl "Write") "WORD" v u ∧ ∀ ρ H, VR (⟨K, cl⟩ : G) ρ H (.str [119, 114, 105, 116, 101]) v
  prop_Set_text : ∃ p ga, PropOf K (cl "Set") "text" p ga ∧ FunIn K "text" "Statement.text" st_Statement_text ["self"] ga
  prop_Copy_text : ∃ p ga, PropOf K (cl "Copy") "text" p ga ∧ FunIn K "text" "Statement.text" st_Statement_text ["self"] ga
  prop_Read_text : ∃ p ga, PropOf K (cl "Read") "text" p ga ∧ FunIn K "text" "Statement.text" st_Statement_text ["self"] ga
  prop_Write_text : ∃ p ga, PropOf K (cl "Write") "text" p ga ∧ FunIn K "text" "Statement.text" st_Statement_text ["self"] ga
  none_repr : mg "repr" = none
  fun__law_alike : FunAt K mg "_law_alike" st__law_alike ["_law_one", "_law_other"]
  fun__law_attributes : FunAt K mg "_law_attributes" st__law_attributes ["_law_word", "_law_made_here"]
  val_MOST_DIGITS : ∃ u, mg "MOST_DIGITS" = some u ∧ ∃ v, RelV v u ∧ ∀ ρ H, VR (⟨K, cl⟩ : G) ρ H (.int 6) v
  val_DIGITS : ∃ u, mg "DIGITS" = some u ∧ ∃ v, RelV v u ∧ ∀ ρ H, VR (⟨K, cl⟩ : G) ρ H (.str [48, 49, 50, 51, 52, 53, 54, 55, 56, 57]) v
  fun_value_of : FunAt K mg "value_of" st_value_of ["word"]
  fun_statement_in : FunAt K mg "statement_in" st_statement_in ["text"]
  st_Statement_read : PySem.W.readsIn K (cl "Statement") (.type "type") = true ∧ PySem.W.specialIn K (.ref (cl "Statement")) "__getattribute__" = some (some (.builtin "type.__getattribute__")) ∧ ∃ (p fa : Addr) (rest : List Value), PySem.W.findCls K (.ref (cl "Statement")) (.type "type") "read" = some (.get (.builtin "staticmethod.__get__") (.ref p) .none (.ref (cl "Statement"))) ∧ PySem.W.recIn K p "staticmethod" = some (.ref fa :: rest) ∧ PySem.W.keepIn K (.ref fa) = true ∧ FunIn K "read" "Statement.read" st_Statement_read ["text"] fa
  fun__law_classes : FunAt K mg "_law_classes" st__law_classes ["_law_made_here"]
  fun__law_due : FunAt K mg "_law_due" st__law_due ["_law_statement"]
  eq_Set : ∃ ga, PySem.W.findIn K (.ref (cl "Set")) "__eq__" = some (some (.ref ga)) ∧ PySem.W.isFn K (.ref ga) = true ∧ PySem.W.findIn K (.ref (cl "Set")) "__ne__" = some (some (.builtin "object.__ne__")) ∧ FunIn K "__eq__" "Statement.__eq__" st_Statement___eq__ ["self", "other"] ga
  eq_Copy : ∃ ga, PySem.W.findIn K (.ref (cl "Copy")) "__eq__" = some (some (.ref ga)) ∧ PySem.W.isFn K (.ref ga) = true ∧ PySem.W.findIn K (.ref (cl "Copy")) "__ne__" = some (some (.builtin "object.__ne__")) ∧ FunIn K "__eq__" "Statement.__eq__" st_Statement___eq__ ["self", "other"] ga
  eq_Read : ∃ ga, PySem.W.findIn K (.ref (cl "Read")) "__eq__" = some (some (.ref ga)) ∧ PySem.W.isFn K (.ref ga) = true ∧ PySem.W.findIn K (.ref (cl "Read")) "__ne__" = some (some (.builtin "object.__ne__")) ∧ FunIn K "__eq__" "Statement.__eq__" st_Statement___eq__ ["self", "other"] ga
  eq_Write : ∃ ga, PySem.W.findIn K (.ref (cl "Write")) "__eq__" = some (some (.ref ga)) ∧ PySem.W.isFn K (.ref ga) = true ∧ PySem.W.findIn K (.ref (cl "Write")) "__ne__" = some (some (.builtin "object.__ne__")) ∧ FunIn K "__eq__" "Statement.__eq__" st_Statement___eq__ ["self", "other"] ga
  nf_Set_NoneType : PySem.W.notFirst K (cl "Set") (.type "NoneType") = true
  nf_Set_int : PySem.W.notFirst K (cl "Set") (.type "int") = true
  nf_Set_str : PySem.W.notFirst K (cl "Set") (.type "str") = true
  nf_Set_Set : PySem.W.notFirst K (cl "Set") (.ref (cl "Set")) = true
  nf_Set_Copy : PySem.W.notFirst K (cl "Set") (.ref (cl "Copy")) = true
  nf_Set_Read : PySem.W.notFirst K (cl "Set") (.ref (cl "Read")) = true
  nf_Set_Write : PySem.W.notFirst K (cl "Set") (.ref (cl "Write")) = true
  nf_Copy_NoneType : PySem.W.notFirst K (cl "Copy") (.type "NoneType") = true
  nf_Copy_int : PySem.W.notFirst K (cl "Copy") (.type "int") = true
  nf_Copy_str : PySem.W.notFirst K (cl "Copy") (.type "str") = true
  nf_Copy_Set : PySem.W.notFirst K (cl "Copy") (.ref (cl "Set")) = true
  nf_Copy_Copy : PySem.W.notFirst K (cl "Copy") (.ref (cl "Copy")) = true
  nf_Copy_Read : PySem.W.notFirst K (cl "Copy") (.ref (cl "Read")) = true
  nf_Copy_Write : PySem.W.notFirst K (cl "Copy") (.ref (cl "Write")) = true
  nf_Read_NoneType : PySem.W.notFirst K (cl "Read") (.type "NoneType") = true
  nf_Read_int : PySem.W.notFirst K (cl "Read") (.type "int") = true
  nf_Read_str : PySem.W.notFirst K (cl "Read") (.type "str") = true
  nf_Read_Set : PySem.W.notFirst K (cl "Read") (.ref (cl "Set")) = true
  nf_Read_Copy : PySem.W.notFirst K (cl "Read") (.ref (cl "Copy")) = true
  nf_Read_Read : PySem.W.notFirst K (cl "Read") (.ref (cl "Read")) = true
  nf_Read_Write : PySem.W.notFirst K (cl "Read") (.ref (cl "Write")) = true
  nf_Write_NoneType : PySem.W.notFirst K (cl "Write") (.type "NoneType") = true
  nf_Write_int : PySem.W.notFirst K (cl "Write") (.type "int") = true
  nf_Write_str : PySem.W.notFirst K (cl "Write") (.type "str") = true
  nf_Write_Set : PySem.W.notFirst K (cl "Write") (.ref (cl "Set")) = true
  nf_Write_Copy : PySem.W.notFirst K (cl "Write") (.ref (cl "Copy")) = true
  nf_Write_Read : PySem.W.notFirst K (cl "Write") (.ref (cl "Read")) = true
  nf_Write_Write : PySem.W.notFirst K (cl "Write") (.ref (cl "Write")) = true
  prop_Set_expression : ∃ p ga, PropOf K (cl "Set") "expression" p ga ∧ FunIn K "expression" "Set.expression" st_Set_expression ["self"] ga
  fun_law : FunAt K mg "law" st_law ["_law_script"]
/-! ### the walk -/
section
variable {P : Program} {w : World} {K : PySem.W.Frag} {mg : Str → Option Value} {base : Heap} {cl : String → Addr}
theorem se_globx {g : G} {X : Cx} {wx : WX} {x : Str} {w : W} {pos : Pos} (hg : Gl X x) (h : ∃ u, X.mg x = some u ∧ ∃ v, RelV v u ∧ ∀ ρ H, VR g ρ H w v) (hd : (x == ("__debug__" : Str)) = false := by decide) : SE g X wx (.Name x pos) (eC w) := by
  obtain ⟨u, hm, hv⟩ := h
  exact se_glob hg hm hv hd
theorem sc__law_pile : FnScope ["_law_script", "_law_k", "_law_cell", "_law_digits"] ["_law_script", "_law_k"] (defScope st__law_pile) := ⟨rfl, rfl, rfl, by decide +kernel, rfl, by decide +kernel, by decide +kernel⟩
theorem ok__law_pile (T : Txt P K mg cl) : Def P w K mg base (⟨K, cl⟩ : G) "_law_pile" 1 ["_law_script", "_law_k"] d__law_pile :=
  def_of (k := 0) T.fun__law_pile sc__law_pile fun f cdv A outer s H E hr tk hp =>
  ss_cons (ss_set (i := 2) sc__law_pile.nd rfl (loc_of rfl) (se_int)) (
  ss_cons (ss_if (st_cmp f_lt (se_var (i := 1) rfl (vis_of rfl)) (se_blt (f_len rfl) rfl T.none_len (by first | rfl | decide +kernel) (sa_cons (se_var (i := 0) rfl (vis_of rfl)) (sa_nil)))) (ss_one (ss_set (i := 2) sc__law_pile.nd rfl (loc_of rfl) (se_ix rfl (se_var (i := 0) rfl (vis_of rfl)) (se_var (i := 1) rfl (vis_of rfl))))) (ss_nil)) (
  ss_cons (ss_set (i := 3) sc__law_pile.nd rfl (loc_of rfl) (se_ixL rfl (sl_disp (sa_cons (se_int) (sa_cons (se_bin f_mod (se_typ (f_int) rfl T.none_int (by first | rfl | decide +kernel) (sa_cons (se_var (i := 2) rfl (vis_of rfl)) (sa_nil))) (se_bin f_mul (se_bin f_mul (se_bin f_pow (se_int) (se_int)) (se_bin f_pow (se_int) (se_int))) (se_bin f_pow (se_int) (se_int)))) (sa_nil)))) (se_typ (f_int) rfl T.none_int (by first | rfl | decide +kernel) (sa_cons (se_cmp f_ge (se_blt (f_abs) rfl T.none_abs (by first | rfl | decide +kernel) (sa_cons (se_var (i := 2) rfl (vis_of rfl)) (sa_nil))) (se_bin f_pow (se_int) (se_int))) (sa_nil))))) (
  ss_one (ss_ret (se_new (sl_disp (sa_cons (se_var (i := 3) rfl (vis_of rfl)) (sa_cons (se_bin f_mod (se_typ (f_int) rfl T.none_int (by first | rfl | decide +kernel) (sa_cons (se_var (i := 2) rfl (vis_of rfl)) (sa_nil))) (se_int)) (sa_cons (se_bin f_mul (se_int) (se_var (i := 1) rfl (vis_of rfl))) (sa_cons (se_cmp f_lt (se_var (i := 1) rfl (vis_of rfl)) (se_int)) (sa_nil)))))))))))
theorem sc__law_mixed : FnScope ["_law_cell", "_law_k", "_law_figure"] ["_law_cell", "_law_k"] (defScope st__law_mixed) := ⟨rfl, rfl, rfl, by decide +kernel, rfl, by decide +kernel, by decide +kernel⟩
theorem ok__law_mixed (T : Txt P K mg cl) : Def P w K mg base (⟨K, cl⟩ : G) "_law_mixed" 1 ["_law_cell", "_law_k"] d__law_mixed :=
  def_of (k := 0) T.fun__law_mixed sc__law_mixed fun f cdv A outer s H E hr tk hp =>
  ss_cons (ss_set (i := 2) sc__law_mixed.nd rfl (loc_of rfl) (se_bin f_mod (se_typ (f_int) rfl T.none_int (by first | rfl | decide +kernel) (sa_cons (se_bin (f_add rfl) (se_bin (f_add rfl) (se_bin f_mul (se_bin f_mod (se_typ (f_int) rfl T.none_int (by first | rfl | decide +kernel) (sa_cons (se_var (i := 0) rfl (vis_of rfl)) (sa_nil))) (se_int)) (se_int)) (se_bin f_mul (se_var (i := 1) rfl (vis_of rfl)) (se_int))) (se_int)) (sa_nil))) (se_int))) (
  ss_cons (ss_set (i := 2) sc__law_mixed.nd rfl (loc_of rfl) (se_bin f_mod (se_typ (f_int) rfl T.none_int (by first | rfl | decide +kernel) (sa_cons (se_bin f_mul (se_var (i := 2) rfl (vis_of rfl)) (se_var (i := 2) rfl (vis_of rfl))) (sa_nil))) (se_int))) (
  ss_one (ss_ret (se_bin f_div (se_bin f_mod (se_typ (f_int) rfl T.none_int (by first | rfl | decide +kernel) (sa_cons (se_bin f_mul (se_var (i := 2) rfl (vis_of rfl)) (se_var (i := 2) rfl (vis_of rfl))) (sa_nil))) (se_int)) (se_int)))))
theorem sc__law_take : FnScope ["_law_pile_here", "_law_many", "_law_digit"] ["_law_pile_here", "_law_many"] (defScope st__law_take) := ⟨rfl, rfl, rfl, by decide +kernel, rfl, by decide +kernel, by decide +kernel⟩
theorem ok__law_take (T : Txt P K mg cl) : Def P w K mg base (⟨K, cl⟩ : G) "_law_take" 2 ["_law_pile_here", "_law_many"] d__law_take :=
  def_of (k := 1) T.fun__law_take sc__law_take fun f cdv A outer s H E hr tk hp =>
  ss_cons (ss_if (st_inL rfl (se_ix rfl (se_var (i := 0) rfl (vis_of rfl)) (se_int)) (sl_disp (sa_cons (se_int) (sa_cons (se_un f_neg (se_int)) (sa_nil))))) (ss_cons (ss_put (se_var (i := 0) rfl (vis_of rfl)) (se_int) (se_bin (f_add rfl) (se_ix rfl (se_var (i := 0) rfl (vis_of rfl)) (se_int)) (se_int))) (
  ss_one (ss_ret (se_bin f_mod (se_typ (f_int) rfl T.none_int (by first | rfl | decide +kernel) (sa_cons (se_call tk (ok__law_mixed T) arity_defn (hr.mono (by decide)) rfl (sa_cons (se_ix rfl (se_var (i := 0) rfl (vis_of rfl)) (se_int)) (sa_cons (se_ix rfl (se_var (i := 0) rfl (vis_of rfl)) (se_int)) (sa_nil)))) (sa_nil))) (se_var (i := 1) rfl (vis_of rfl)))))) (ss_nil)) (
  ss_cons (ss_set (i := 2) sc__law_take.nd rfl (loc_of rfl) (se_bin f_mod (se_typ (f_int) rfl T.none_int (by first | rfl | decide +kernel) (sa_cons (se_ix rfl (se_var (i := 0) rfl (vis_of rfl)) (se_int)) (sa_nil))) (se_var (i := 1) rfl (vis_of rfl)))) (
  ss_cons (ss_put (se_var (i := 0) rfl (vis_of rfl)) (se_int) (se_bin f_div (se_ix rfl (se_var (i := 0) rfl (vis_of rfl)) (se_int)) (se_var (i := 1) rfl (vis_of rfl)))) (
  ss_one (ss_ret (se_var (i := 2) rfl (vis_of rfl))))))
theorem sc__law_drawn_word : FnScope ["_law_pile_here", "_law_menu"] ["_law_pile_here"] (defScope st__law_drawn_word) := ⟨rfl, rfl, rfl, by decide +kernel, rfl, by decide +kernel, by decide +kernel⟩
theorem ok__law_drawn_word (T : Txt P K mg cl) : Def P w K mg base (⟨K, cl⟩ : G) "_law_drawn_word" 3 ["_law_pile_here"] d__law_drawn_word :=
  def_of (k := 2) T.fun__law_drawn_word sc__law_drawn_word fun f cdv A outer s H E hr tk hp =>
  ss_cons (ss_set (i := 1) sc__law_drawn_word.nd rfl (loc_of rfl) (se_new (sl_disp (sa_cons (se_str (l := [97]) (by decide +kernel)) (sa_cons (se_str (l := [98]) (by decide +kernel)) (sa_cons (se_str (l := [120]) (by decide +kernel)) (sa_cons (se_str (l := [115, 101, 116]) (by decide +kernel)) (sa_cons (se_str (l := [97, 100, 100]) (by decide +kernel)) (sa_cons (se_str (l := [110, 111, 110, 101]) (by decide +kernel)) (sa_cons (se_str (l := [99, 111, 112, 121]) (by decide +kernel)) (sa_cons (se_str (l := [105, 102]) (by decide +kernel)) (sa_cons (se_str (l := [106, 107, 113, 118, 119, 120, 121, 122]) (by decide +kernel)) (sa_cons (se_str (l := [114, 101, 97, 100]) (by decide +kernel)) (sa_cons (se_str (l := [104]) (by decide +kernel)) (sa_cons (se_str (l := [109, 117, 108]) (by decide +kernel)) (sa_nil)))))))))))))))) (
  ss_one (ss_ret (se_ix rfl (se_var (i := 1) rfl (vis_of rfl)) (se_call tk (ok__law_take T) arity_defn (hr.mono (by decide)) rfl (sa_cons (se_var (i := 0) rfl (vis_of rfl)) (sa_cons (se_int) (sa_nil)))))))
theorem sc__law_drawn_value : FnScope ["_law_pile_here", "_law_number"] ["_law_pile_here"] (defScope st__law_drawn_value) := ⟨rfl, rfl, rfl, by decide +kernel, rfl, by decide +kernel, by decide +kernel⟩
theorem ok__law_drawn_value (T : Txt P K mg cl) : Def P w K mg base (⟨K, cl⟩ : G) "_law_drawn_value" 4 ["_law_pile_here"] d__law_drawn_value :=
  def_of (k := 3) T.fun__law_drawn_value sc__law_drawn_value fun f cdv A outer s H E hr tk hp =>
  ss_cons (ss_set (i := 1) sc__law_drawn_value.nd rfl (loc_of rfl) (se_ixL rfl (sl_disp (sa_cons (se_int) (sa_cons (se_int) (sa_cons (se_un f_neg (se_int)) (sa_cons (se_int) (sa_cons (se_int) (sa_cons (se_un f_neg (se_int)) (sa_cons (se_bin f_sub (se_call tk (ok__law_take T) arity_defn (hr.mono (by decide)) rfl (sa_cons (se_var (i := 0) rfl (vis_of rfl)) (sa_cons (se_int) (sa_nil)))) (se_int)) (sa_nil))))))))) (se_call tk (ok__law_take T) arity_defn (hr.mono (by decide)) rfl (sa_cons (se_var (i := 0) rfl (vis_of rfl)) (sa_cons (se_int) (sa_nil)))))) (
  ss_one (ss_ret (se_ixL rfl (sl_disp (sa_cons (se_call tk (ok__law_drawn_word T) arity_defn (hr.mono (by decide)) rfl (sa_cons (se_var (i := 0) rfl (vis_of rfl)) (sa_nil))) (sa_cons (se_var (i := 1) rfl (vis_of rfl)) (sa_nil)))) (se_call tk (ok__law_take T) arity_defn (hr.mono (by decide)) rfl (sa_cons (se_var (i := 0) rfl (vis_of rfl)) (sa_cons (se_int) (sa_nil)))))))
theorem sc__law_any_statement : FnScope ["_law_pile_here", "_law_kind", "_law_op"] ["_law_pile_here"] (defScope st__law_any_statement) := ⟨rfl, rfl, rfl, by decide +kernel, rfl, by decide +kernel, by decide +kernel⟩
theorem ok__law_any_statement (T : Txt P K mg cl) : Def P w K mg base (⟨K, cl⟩ : G) "_law_any_statement" 5 ["_law_pile_here"] d__law_any_statement :=
  def_of (k := 4) T.fun__law_any_statement sc__law_any_statement fun f cdv A outer s H E hr tk hp =>
  ss_cons (ss_set (i := 1) sc__law_any_statement.nd rfl (loc_of rfl) (se_call tk (ok__law_take T) arity_defn (hr.mono (by decide)) rfl (sa_cons (se_var (i := 0) rfl (vis_of rfl)) (sa_cons (se_int) (sa_nil))))) (
  ss_cons (ss_if (st_cmp (f_eq0 rfl hr) (se_var (i := 1) rfl (vis_of rfl)) (se_int)) (ss_cons (ss_set (i := 2) sc__law_any_statement.nd rfl (loc_of rfl) (se_ixL rfl (sl_disp (sa_cons (se_str (l := [97, 100, 100]) (by decide +kernel)) (sa_cons (se_str (l := [115, 117, 98]) (by decide +kernel)) (sa_cons (se_str (l := [109, 117, 108]) (by decide +kernel)) (sa_nil))))) (se_call tk (ok__law_take T) arity_defn (hr.mono (by decide)) rfl (sa_cons (se_var (i := 0) rfl (vis_of rfl)) (sa_cons (se_int) (sa_nil)))))) (
  ss_one (ss_ret (se_tup (sa_cons (se_str (l := [115, 101, 116]) (by decide +kernel)) (sa_cons (se_call tk (ok__law_drawn_word T) arity_defn (hr.mono (by decide)) rfl (sa_cons (se_var (i := 0) rfl (vis_of rfl)) (sa_nil))) (sa_cons (se_call tk (ok__law_drawn_value T) arity_defn (hr.mono (by decide)) rfl (sa_cons (se_var (i := 0) rfl (vis_of rfl)) (sa_nil))) (sa_cons (se_var (i := 2) rfl (vis_of rfl)) (sa_cons (se_call tk (ok__law_drawn_value T) arity_defn (hr.mono (by decide)) rfl (sa_cons (se_var (i := 0) rfl (vis_of rfl)) (sa_nil))) (sa_nil)))))))))) (ss_nil)) (
  ss_cons (ss_if (st_cmp (f_eq0 rfl hr) (se_var (i := 1) rfl (vis_of rfl)) (se_int)) (ss_one (ss_ret (se_tup (sa_cons (se_str (l := [99, 111, 112, 121]) (by decide +kernel)) (sa_cons (se_call tk (ok__law_drawn_word T) arity_defn (hr.mono (by decide)) rfl (sa_cons (se_var (i := 0) rfl (vis_of rfl)) (sa_nil))) (sa_cons (se_call tk (ok__law_drawn_value T) arity_defn (hr.mono (by decide)) rfl (sa_cons (se_var (i := 0) rfl (vis_of rfl)) (sa_nil))) (sa_nil))))))) (ss_nil)) (
  ss_cons (ss_if (st_cmp (f_eq0 rfl hr) (se_var (i := 1) rfl (vis_of rfl)) (se_int)) (ss_one (ss_ret (se_tup (sa_cons (se_str (l := [114, 101, 97, 100]) (by decide +kernel)) (sa_cons (se_call tk (ok__law_drawn_word T) arity_defn (hr.mono (by decide)) rfl (sa_cons (se_var (i := 0) rfl (vis_of rfl)) (sa_nil))) (sa_nil)))))) (ss_nil)) (
  ss_one (ss_ret (se_tup (sa_cons (se_str (l := [119, 114, 105, 116, 101]) (by decide +kernel)) (sa_cons (se_call tk (ok__law_drawn_value T) arity_defn (hr.mono (by decide)) rfl (sa_cons (se_var (i := 0) rfl (vis_of rfl)) (sa_nil))) (sa_nil)))))))))
theorem isiL_ok (T : Txt P K mg cl) : ∀ p ∈ isiL, PySem.W.kitOne K (p.1.1.val (⟨K, cl⟩ : G)) (p.1.2.val (⟨K, cl⟩ : G)) = some p.2 := by
  unfold isiL
  simp only [List.forall_mem_cons]
  exact ⟨(L2.kit_ty (by decide +kernel)), (L2.kit_ty (by decide +kernel)), (L2.kit_ty (by decide +kernel)), (T.isi_NoneType_Assign), (T.isi_NoneType_Copy), (T.isi_NoneType_Read), (T.isi_NoneType_Set), (T.isi_NoneType_Statement), (T.isi_NoneType_Write), (L2.kit_ty (by decide +kernel)), (L2.kit_ty (by decide +kernel)), (L2.kit_ty (by decide +kernel)), (T.isi_bool_Assign), (T.isi_bool_Copy), (T.isi_bool_Read), (T.isi_bool_Set), (T.isi_bool_Statement), (T.isi_bool_Write), (L2.kit_ty (by decide +kernel)), (L2.kit_ty (by decide +kernel)), (L2.kit_ty (by decide +kernel)), (T.isi_int_Assign), (T.isi_int_Copy), (T.isi_int_Read), (T.isi_int_Set), (T.isi_int_Statement), (T.isi_int_Write), (L2.kit_ty (by decide +kernel)), (L2.kit_ty (by decide +kernel)), (L2.kit_ty (by decide +kernel)), (T.isi_str_Assign), (T.isi_str_Copy), (T.isi_str_Read), (T.isi_str_Set), (T.isi_str_Statement), (T.isi_str_Write), (L2.kit_ty (by decide +kernel)), (L2.kit_ty (by decide +kernel)), (L2.kit_ty (by decide +kernel)), (T.isi_tuple_Assign), (T.isi_tuple_Copy), (T.isi_tuple_Read), (T.isi_tuple_Set), (T.isi_tuple_Statement), (T.isi_tuple_Write), (L2.kit_ty (by decide +kernel)), (L2.kit_ty (by decide +kernel)), (L2.kit_ty (by decide +kernel)), (T.isi_list_Assign), (T.isi_list_Copy), (T.isi_list_Read), (T.isi_list_Set), (T.isi_list_Statement), (T.isi_list_Write), (T.isi_Set_bool), (T.isi_Set_int), (T.isi_Set_str), (T.isi_Set_Assign), (T.isi_Set_Copy), (T.isi_Set_Read), (T.isi_Set_Set), (T.isi_Set_Statement), (T.isi_Set_Write), (T.isi_Copy_bool), (T.isi_Copy_int), (T.isi_Copy_str), (T.isi_Copy_Assign), (T.isi_Copy_Copy), (T.isi_Copy_Read), (T.isi_Copy_Set), (T.isi_Copy_Statement), (T.isi_Copy_Write), (T.isi_Read_bool), (T.isi_Read_int), (T.isi_Read_str), (T.isi_Read_Assign), (T.isi_Read_Copy), (T.isi_Read_Read), (T.isi_Read_Set), (T.isi_Read_Statement), (T.isi_Read_Write), (T.isi_Write_bool), (T.isi_Write_int), (T.isi_Write_str), (T.isi_Write_Assign), (T.isi_Write_Copy), (T.isi_Write_Read), (T.isi_Write_Set), (T.isi_Write_Statement), (T.isi_Write_Write), by simp⟩
theorem lookup_mem {α β : Type} [BEq α] [LawfulBEq α] {l : List (α × β)} {a : α} {b : β} (h : l.lookup a = some b) : (a, b) ∈ l := by
  induction l with
  | nil => cases h
  | cons p l ih =>
    obtain ⟨x, y⟩ := p
    by_cases e : a = x
    · subst e; simp at h; subst h; exact List.mem_cons_self
    · have e2 : (a == x) = false := beq_eq_false_iff_ne.mpr e
      simp only [List.lookup_cons, e2] at h
      exact List.mem_cons_of_mem _ (ih h)
theorem isi_ok (T : Txt P K mg cl) : IsiK K (⟨K, cl⟩ : G) isiT := by
  refine ⟨fun c d b h => ?_, fun t d b h => isiL_ok T ((t, d), b) (lookup_mem h)⟩
  have h1 := lookup_mem h
  have h2 : ∀ p ∈ isiL, p.1.1 = .own c → c = "Set" ∨ c = "Copy" ∨ c = "Read" ∨ c = "Write" := by
    unfold isiL
    simp only [List.forall_mem_cons]
    simp
    repeat' apply And.intro
    all_goals (intro e; subst e; simp)
  have h3 := h2 _ h1 rfl
  rcases h3 with rfl | rfl | rfl | rfl
  · exact T.ins_Set
  · exact T.ins_Copy
  · exact T.ins_Read
  · exact T.ins_Write
theorem sc_is_name : FnScope ["thing", "sign"] ["thing"] (defScope st_is_name) := ⟨rfl, rfl, rfl, by decide +kernel, rfl, by decide +kernel, by decide +kernel⟩
theorem ok_is_name (T : Txt P K mg cl) : Def P w K mg base (⟨K, cl⟩ : G) "is_name" 1 ["thing"] d_is_name :=
  def_of (k := 0) T.fun_is_name sc_is_name fun f cdv A outer s H E hr tk hp =>
  ss_cons (ss_if (st_or (st_not (st_val (se_blt (f_isi rfl (isi_ok T)) rfl T.none_isinstance (by first | rfl | decide +kernel) (sa_cons (se_var (i := 0) rfl (vis_of rfl)) (sa_cons (se_bltn rfl T.none_str (by first | rfl | decide +kernel)) (sa_nil)))))) (st_or1 (st_not (st_chain f_le f_le (se_int) (se_blt (f_len rfl) rfl T.none_len (by first | rfl | decide +kernel) (sa_cons (se_var (i := 0) rfl (vis_of rfl)) (sa_nil))) (se_globx rfl T.val_MOST_LETTERS))))) (ss_one (ss_ret (se_bl))) (ss_nil)) (
  ss_one (ss_ret (se_bltL (f_all rfl) rfl T.none_all (by first | rfl | decide +kernel) (sl_comp (own := [("sign", 1)]) (h := gSet 1) (t := tYesB) (fe := eBin wIn (eVar 1) (eC (.str [97, 98, 99, 100, 101, 102, 103, 104, 105, 106, 107, 108, 109, 110, 111, 112, 113, 114, 115, 116, 117, 118, 119, 120, 121, 122]))) rfl sc_is_name.nd (si_val rfl (se_var (i := 0) rfl (vis_of rfl))) (blkOk_by rfl) (fun _ _ _ _ _ => sg_name (i := 1) sc_is_name.nd rfl (loc_of rfl)) (fun _ _ _ _ _ => sts_nil) (fun _ _ _ _ _ => se_cmp (f_in rfl) (se_var (i := 1) rfl (vis_of rfl)) (se_globx rfl T.val_LETTERS))))))
theorem sc_must_be_name : FnScope ["thing"] ["thing"] (defScope st_must_be_name) := ⟨rfl, rfl, rfl, by decide +kernel, rfl, by decide +kernel, by decide +kernel⟩
theorem ok_must_be_name (T : Txt P K mg cl) : Def P w K mg base (⟨K, cl⟩ : G) "must_be_name" 2 ["thing"] d_must_be_name :=
  def_of (k := 1) T.fun_must_be_name sc_must_be_name fun f cdv A outer s H E hr tk hp =>
  ss_one (ss_if (st_not (st_val (se_call tk (ok_is_name T) arity_defn (hr.mono (by decide)) rfl (sa_cons (se_var (i := 0) rfl (vis_of rfl)) (sa_nil))))) (ss_one (ss_bad)) (ss_nil))
theorem okc_Assign_target_ok (T : Txt P K mg cl) : ∀ c, okc_Assign_target c = true → Cls K (cl c) ∧ NoAttr K (cl c) (Sh.S [116, 97, 114, 103, 101, 116]) := by
  intro c h
  simp only [okc_Assign_target, Bool.or_eq_true, beq_iff_eq] at h
  rcases h with ((rfl | rfl) | rfl)
  · exact ⟨T.cls_Set, T.noa_Set_target⟩
  · exact ⟨T.cls_Copy, T.noa_Copy_target⟩
  · exact ⟨T.cls_Read, T.noa_Read_target⟩
theorem sc_Assign___init__ : FnScope ["self", "target"] ["self", "target"] (defScope st_Assign___init__) := ⟨rfl, rfl, rfl, by decide +kernel, rfl, by decide +kernel, by decide +kernel⟩
theorem ok_Assign___init__ (T : Txt P K mg cl) {f : Addr} (A : FunIn K "__init__" "Assign.__init__" st_Assign___init__ ["self", "target"] f) : DefIn P w K mg base (⟨K, cl⟩ : G) f 3 ["self", "target"] d_Assign___init__ :=
  defIn_of (k := 2) A sc_Assign___init__ fun cdv A outer s H E hr tk hp =>
  ss_cons (ss_expr (se_call tk (ok_must_be_name T) arity_defn (hr.mono (by decide)) rfl (sa_cons (se_var (i := 1) rfl (vis_of rfl)) (sa_nil)))) (
  ss_one (ss_attr (okc := okc_Assign_target) (se_var (i := 0) rfl (vis_of rfl)) (se_var (i := 1) rfl (vis_of rfl)) (okc_Assign_target_ok T) (by decide +kernel)))
theorem sc_is_integer : FnScope ["thing"] ["thing"] (defScope st_is_integer) := ⟨rfl, rfl, rfl, by decide +kernel, rfl, by decide +kernel, by decide +kernel⟩
theorem ok_is_integer (T : Txt P K mg cl) : Def P w K mg base (⟨K, cl⟩ : G) "is_integer" 1 ["thing"] d_is_integer :=
  def_of (k := 0) T.fun_is_integer sc_is_integer fun f cdv A outer s H E hr tk hp =>
  ss_one (ss_ret (se_and (se_blt (f_isi rfl (isi_ok T)) rfl T.none_isinstance (by first | rfl | decide +kernel) (sa_cons (se_var (i := 0) rfl (vis_of rfl)) (sa_cons (se_bltn rfl T.none_int (by first | rfl | decide +kernel)) (sa_nil)))) (se_one (se_not (se_blt (f_isi rfl (isi_ok T)) rfl T.none_isinstance (by first | rfl | decide +kernel) (sa_cons (se_var (i := 0) rfl (vis_of rfl)) (sa_cons (se_bltn rfl T.none_bool (by first | rfl | decide +kernel)) (sa_nil))))))))
theorem sc_is_value : FnScope ["thing"] ["thing"] (defScope st_is_value) := ⟨rfl, rfl, rfl, by decide +kernel, rfl, by decide +kernel, by decide +kernel⟩
theorem ok_is_value (T : Txt P K mg cl) : Def P w K mg base (⟨K, cl⟩ : G) "is_value" 2 ["thing"] d_is_value :=
  def_of (k := 1) T.fun_is_value sc_is_value fun f cdv A outer s H E hr tk hp =>
  ss_cons (ss_if (st_val (se_call tk (ok_is_integer T) arity_defn (hr.mono (by decide)) rfl (sa_cons (se_var (i := 0) rfl (vis_of rfl)) (sa_nil)))) (ss_one (ss_ret (se_cmp f_le (se_blt (f_abs) rfl T.none_abs (by first | rfl | decide +kernel) (sa_cons (se_var (i := 0) rfl (vis_of rfl)) (sa_nil))) (se_globx rfl T.val_MOST_VALUE)))) (ss_nil)) (
  ss_one (ss_ret (se_call tk (ok_is_name T) arity_defn (hr.mono (by decide)) rfl (sa_cons (se_var (i := 0) rfl (vis_of rfl)) (sa_nil)))))
theorem sc_must_be_value : FnScope ["thing"] ["thing"] (defScope st_must_be_value) := ⟨rfl, rfl, rfl, by decide +kernel, rfl, by decide +kernel, by decide +kernel⟩
theorem ok_must_be_value (T : Txt P K mg cl) : Def P w K mg base (⟨K, cl⟩ : G) "must_be_value" 3 ["thing"] d_must_be_value :=
  def_of (k := 2) T.fun_must_be_value sc_must_be_value fun f cdv A outer s H E hr tk hp =>
  ss_one (ss_if (st_not (st_val (se_call tk (ok_is_value T) arity_defn (hr.mono (by decide)) rfl (sa_cons (se_var (i := 0) rfl (vis_of rfl)) (sa_nil))))) (ss_one (ss_bad)) (ss_nil))
theorem tb_OPERATORS_ok (T : Txt P K mg cl) : ∀ c x, tb_OPERATORS c = some x → AttK P w K mg base (⟨K, cl⟩ : G) [79, 80, 69, 82, 65, 84, 79, 82, 83] c 0 x := by
  intro c x h
  unfold tb_OPERATORS at h
  by_cases e_Set : c = "Set"
  · subst e_Set; rw [if_pos rfl] at h; obtain rfl := Option.some.inj h; exact (by obtain ⟨v, u, h, r⟩ := T.con_Set_OPERATORS; exact .con T.cls_Set h r)
  rw [if_neg e_Set] at h
  by_cases e_Copy : c = "Copy"
  · subst e_Copy; rw [if_pos rfl] at h; obtain rfl := Option.some.inj h; exact (by obtain ⟨v, u, h, r⟩ := T.con_Copy_OPERATORS; exact .con T.cls_Copy h r)
  rw [if_neg e_Copy] at h
  by_cases e_Read : c = "Read"
  · subst e_Read; rw [if_pos rfl] at h; obtain rfl := Option.some.inj h; exact (by obtain ⟨v, u, h, r⟩ := T.con_Read_OPERATORS; exact .con T.cls_Read h r)
  rw [if_neg e_Read] at h
  by_cases e_Write : c = "Write"
  · subst e_Write; rw [if_pos rfl] at h; obtain rfl := Option.some.inj h; exact (by obtain ⟨v, u, h, r⟩ := T.con_Write_OPERATORS; exact .con T.cls_Write h r)
  rw [if_neg e_Write] at h
  cases h
theorem okc_Set_left_ok (T : Txt P K mg cl) : ∀ c, okc_Set_left c = true → Cls K (cl c) ∧ NoAttr K (cl c) (Sh.S [108, 101, 102, 116]) := by
  intro c h
  simp only [okc_Set_left, Bool.or_eq_true, beq_iff_eq] at h
  rcases h with rfl
  · exact ⟨T.cls_Set, T.noa_Set_left⟩
theorem okc_Set_op_ok (T : Txt P K mg cl) : ∀ c, okc_Set_op c = true → Cls K (cl c) ∧ NoAttr K (cl c) (Sh.S [111, 112]) := by
  intro c h
  simp only [okc_Set_op, Bool.or_eq_true, beq_iff_eq] at h
  rcases h with rfl
  · exact ⟨T.cls_Set, T.noa_Set_op⟩
theorem okc_Set_right_ok (T : Txt P K mg cl) : ∀ c, okc_Set_right c = true → Cls K (cl c) ∧ NoAttr K (cl c) (Sh.S [114, 105, 103, 104, 116]) := by
  intro c h
  simp only [okc_Set_right, Bool.or_eq_true, beq_iff_eq] at h
  rcases h with rfl
  · exact ⟨T.cls_Set, T.noa_Set_right⟩
theorem sc_Set___init__ : ScopeS ["self", "target", "left", "op", "right"] ["self", "target", "left", "op", "right"] (defScope st_Set___init__) := ⟨rfl, rfl, rfl, by decide +kernel, rfl, by decide +kernel, by decide +kernel, by decide +kernel⟩
theorem ok_Set___init__ (T : Txt P K mg cl) {f f2 : Addr} (A : SupAt P K mg (cl "Set") "Set.__init__" st_Set___init__ ["self", "target", "left", "op", "right"] f f2) (top : (P.main.scope.names.lookup ("super" : Str)).isSome = false) (F2 : FunIn K "__init__" "Assign.__init__" st_Assign___init__ ["self", "target"] f2) : DefIn P w K mg base (⟨K, cl⟩ : G) f 4 ["self", "target", "left", "op", "right"] d_Set___init__ :=
  sup_of (k := 3) A top T.cls_Set ((ok_Assign___init__ T F2).mono (by decide)) arity_defn rfl sc_Set___init__ rfl rfl rfl rfl (fun _ _ _ _ _ _ us hl => match us, hl with | [_, _, _, _, _], _ => rfl) (fun _ => rfl) (fun _ => rfl) (fun _ => rfl) (fun _ => rfl)
    fun f cda cc A outer s H E hr tk hp => ⟨sa_cons (se_var (i := 1) rfl (vis_of rfl)) (sa_nil),
  ss_cons (ss_expr (se_call tk (ok_must_be_value T) arity_defn (hr.mono (by decide)) rfl (sa_cons (se_var (i := 2) rfl (vis_of rfl)) (sa_nil)))) (
  ss_cons (ss_if (st_or (st_not (st_val (se_blt (f_isi rfl (isi_ok T)) rfl T.none_isinstance (by first | rfl | decide +kernel) (sa_cons (se_var (i := 3) rfl (vis_of rfl)) (sa_cons (se_bltn rfl T.none_str (by first | rfl | decide +kernel)) (sa_nil)))))) (st_or1 (st_cmp (f_notIn rfl) (se_var (i := 3) rfl (vis_of rfl)) (se_attr (k := 0) (se_var (i := 0) rfl (vis_of rfl)) (tb_OPERATORS_ok T) (hr.mono (by decide)) (by decide +kernel))))) (ss_one (ss_bad)) (ss_nil)) (
  ss_cons (ss_expr (se_call tk (ok_must_be_value T) arity_defn (hr.mono (by decide)) rfl (sa_cons (se_var (i := 4) rfl (vis_of rfl)) (sa_nil)))) (
  ss_cons (ss_attr (okc := okc_Set_left) (se_var (i := 0) rfl (vis_of rfl)) (se_var (i := 2) rfl (vis_of rfl)) (okc_Set_left_ok T) (by decide +kernel)) (
  ss_cons (ss_attr (okc := okc_Set_op) (se_var (i := 0) rfl (vis_of rfl)) (se_var (i := 3) rfl (vis_of rfl)) (okc_Set_op_ok T) (by decide +kernel)) (
  ss_one (ss_attr (okc := okc_Set_right) (se_var (i := 0) rfl (vis_of rfl)) (se_var (i := 4) rfl (vis_of rfl)) (okc_Set_right_ok T) (by decide +kernel)))))))⟩
theorem make_Set (T : Txt P K mg cl) : MakeK P w K mg base (⟨K, cl⟩ : G) "Set" "Set" 4 d_Set___init__ := by obtain ⟨fi, f2, M, A, F⟩ := T.mk_Set; exact makeK T.m_Set M arity_defn (ok_Set___init__ T A T.ztop F)
theorem okc_Copy_value_ok (T : Txt P K mg cl) : ∀ c, okc_Copy_value c = true → Cls K (cl c) ∧ NoAttr K (cl c) (Sh.S [118, 97, 108, 117, 101]) := by
  intro c h
  simp only [okc_Copy_value, Bool.or_eq_true, beq_iff_eq] at h
  rcases h with rfl
  · exact ⟨T.cls_Copy, T.noa_Copy_value⟩
theorem sc_Copy___init__ : ScopeS ["self", "target", "value"] ["self", "target", "value"] (defScope st_Copy___init__) := ⟨rfl, rfl, rfl, by decide +kernel, rfl, by decide +kernel, by decide +kernel, by decide +kernel⟩
theorem ok_Copy___init__ (T : Txt P K mg cl) {f f2 : Addr} (A : SupAt P K mg (cl "Copy") "Copy.__init__" st_Copy___init__ ["self", "target", "value"] f f2) (top : (P.main.scope.names.lookup ("super" : Str)).isSome = false) (F2 : FunIn K "__init__" "Assign.__init__" st_Assign___init__ ["self", "target"] f2) : DefIn P w K mg base (⟨K, cl⟩ : G) f 4 ["self", "target", "value"] d_Copy___init__ :=
  sup_of (k := 3) A top T.cls_Copy ((ok_Assign___init__ T F2).mono (by decide)) arity_defn rfl sc_Copy___init__ rfl rfl rfl rfl (fun _ _ _ _ _ _ us hl => match us, hl with | [_, _, _], _ => rfl) (fun _ => rfl) (fun _ => rfl) (fun _ => rfl) (fun _ => rfl)
    fun f cda cc A outer s H E hr tk hp => ⟨sa_cons (se_var (i := 1) rfl (vis_of rfl)) (sa_nil),
  ss_cons (ss_expr (se_call tk (ok_must_be_value T) arity_defn (hr.mono (by decide)) rfl (sa_cons (se_var (i := 2) rfl (vis_of rfl)) (sa_nil)))) (
  ss_one (ss_attr (okc := okc_Copy_value) (se_var (i := 0) rfl (vis_of rfl)) (se_var (i := 2) rfl (vis_of rfl)) (okc_Copy_value_ok T) (by decide +kernel)))⟩
theorem make_Copy (T : Txt P K mg cl) : MakeK P w K mg base (⟨K, cl⟩ : G) "Copy" "Copy" 4 d_Copy___init__ := by obtain ⟨fi, f2, M, A, F⟩ := T.mk_Copy; exact makeK T.m_Copy M arity_defn (ok_Copy___init__ T A T.ztop F)
theorem make_Read (T : Txt P K mg cl) : MakeK P w K mg base (⟨K, cl⟩ : G) "Read" "Read" 3 d_Assign___init__ := by obtain ⟨fi, M, F⟩ := T.mk_Read; exact makeK T.m_Read M arity_defn (ok_Assign___init__ T F)
theorem okc_Write_value_ok (T : Txt P K mg cl) : ∀ c, okc_Write_value c = true → Cls K (cl c) ∧ NoAttr K (cl c) (Sh.S [118, 97, 108, 117, 101]) := by
  intro c h
  simp only [okc_Write_value, Bool.or_eq_true, beq_iff_eq] at h
  rcases h with rfl
  · exact ⟨T.cls_Write, T.noa_Write_value⟩
theorem sc_Write___init__ : FnScope ["self", "value"] ["self", "value"] (defScope st_Write___init__) := ⟨rfl, rfl, rfl, by decide +kernel, rfl, by decide +kernel, by decide +kernel⟩
theorem ok_Write___init__ (T : Txt P K mg cl) {f : Addr} (A : FunIn K "__init__" "Write.__init__" st_Write___init__ ["self", "value"] f) : DefIn P w K mg base (⟨K, cl⟩ : G) f 4 ["self", "value"] d_Write___init__ :=
  defIn_of (k := 3) A sc_Write___init__ fun cdv A outer s H E hr tk hp =>
  ss_cons (ss_expr (se_call tk (ok_must_be_value T) arity_defn (hr.mono (by decide)) rfl (sa_cons (se_var (i := 1) rfl (vis_of rfl)) (sa_nil)))) (
  ss_one (ss_attr (okc := okc_Write_value) (se_var (i := 0) rfl (vis_of rfl)) (se_var (i := 1) rfl (vis_of rfl)) (okc_Write_value_ok T) (by decide +kernel)))
theorem make_Write (T : Txt P K mg cl) : MakeK P w K mg base (⟨K, cl⟩ : G) "Write" "Write" 4 d_Write___init__ := by obtain ⟨fi, M, F⟩ := T.mk_Write; exact makeK T.m_Write M arity_defn (ok_Write___init__ T F)
theorem sc__law_made : FnScope ["_law_statement"] ["_law_statement"] (defScope st__law_made) := ⟨rfl, rfl, rfl, by decide +kernel, rfl, by decide +kernel, by decide +kernel⟩
theorem ok__law_made (T : Txt P K mg cl) : Def P w K mg base (⟨K, cl⟩ : G) "_law_made" 6 ["_law_statement"] d__law_made :=
  def_of (k := 5) T.fun__law_made sc__law_made fun f cdv A outer s H E hr tk hp =>
  ss_cons (ss_if (st_cmp f_isN (se_var (i := 0) rfl (vis_of rfl)) (se_non)) (ss_one (ss_ret (se_non))) (ss_nil)) (
  ss_cons (ss_if (st_cmp (f_eq0 rfl hr) (se_ix rfl (se_var (i := 0) rfl (vis_of rfl)) (se_int)) (se_str (l := [115, 101, 116]) (by decide +kernel))) (ss_one (ss_ret (se_make tk (make_Set T) (hr.mono (by decide)) rfl (sa_cons (se_ix rfl (se_var (i := 0) rfl (vis_of rfl)) (se_int)) (sa_cons (se_ix rfl (se_var (i := 0) rfl (vis_of rfl)) (se_int)) (sa_cons (se_ix rfl (se_var (i := 0) rfl (vis_of rfl)) (se_int)) (sa_cons (se_ix rfl (se_var (i := 0) rfl (vis_of rfl)) (se_int)) (sa_nil)))))))) (ss_nil)) (
  ss_cons (ss_if (st_cmp (f_eq0 rfl hr) (se_ix rfl (se_var (i := 0) rfl (vis_of rfl)) (se_int)) (se_str (l := [99, 111, 112, 121]) (by decide +kernel))) (ss_one (ss_ret (se_make tk (make_Copy T) (hr.mono (by decide)) rfl (sa_cons (se_ix rfl (se_var (i := 0) rfl (vis_of rfl)) (se_int)) (sa_cons (se_ix rfl (se_var (i := 0) rfl (vis_of rfl)) (se_int)) (sa_nil)))))) (ss_nil)) (
  ss_cons (ss_if (st_cmp (f_eq0 rfl hr) (se_ix rfl (se_var (i := 0) rfl (vis_of rfl)) (se_int)) (se_str (l := [114, 101, 97, 100]) (by decide +kernel))) (ss_one (ss_ret (se_make tk (make_Read T) (hr.mono (by decide)) rfl (sa_cons (se_ix rfl (se_var (i := 0) rfl (vis_of rfl)) (se_int)) (sa_nil))))) (ss_nil)) (
  ss_one (ss_ret (se_make tk (make_Write T) (hr.mono (by decide)) rfl (sa_cons (se_ix rfl (se_var (i := 0) rfl (vis_of rfl)) (se_int)) (sa_nil))))))))
theorem sc__law_statement_text : FnScope ["_law_statement", "_law_word"] ["_law_statement"] (defScope st__law_statement_text) := ⟨rfl, rfl, rfl, by decide +kernel, rfl, by decide +kernel, by decide +kernel⟩
theorem ok__law_statement_text (T : Txt P K mg cl) : Def P w K mg base (⟨K, cl⟩ : G) "_law_statement_text" 1 ["_law_statement"] d__law_statement_text :=
  def_of (k := 0) T.fun__law_statement_text sc__law_statement_text fun f cdv A outer s H E hr tk hp =>
  ss_cons (ss_if (st_cmp f_isN (se_var (i := 0) rfl (vis_of rfl)) (se_non)) (ss_one (ss_ret (se_str (l := [110, 111, 110, 101]) (by decide +kernel)))) (ss_nil)) (
  ss_one (ss_ret (se_joinL (se_str (l := [32]) (by decide +kernel)) (sl_comp (own := [("_law_word", 1)]) (h := gSet 1) (t := tYesB) (fe := eFn bStr (aCons (eVar 1) (aNil))) rfl sc__law_statement_text.nd (si_val rfl (se_var (i := 0) rfl (vis_of rfl))) (blkOk_by rfl) (fun _ _ _ _ _ => sg_name (i := 1) sc__law_statement_text.nd rfl (loc_of rfl)) (fun _ _ _ _ _ => sts_nil) (fun _ _ _ _ _ => se_typ (f_str) rfl T.none_str (by first | rfl | decide +kernel) (sa_cons (se_var (i := 1) rfl (vis_of rfl)) (sa_nil)))))))
theorem tb_right_ok (T : Txt P K mg cl) : ∀ c x, tb_right c = some x → AttK P w K mg base (⟨K, cl⟩ : G) [114, 105, 103, 104, 116] c 0 x := by
  intro c x h
  unfold tb_right at h
  by_cases e_Set : c = "Set"
  · subst e_Set; rw [if_pos rfl] at h; obtain rfl := Option.some.inj h; exact (.fld T.cls_Set T.noa_Set_right)
  rw [if_neg e_Set] at h
  cases h
theorem tb_op_ok (T : Txt P K mg cl) : ∀ c x, tb_op c = some x → AttK P w K mg base (⟨K, cl⟩ : G) [111, 112] c 0 x := by
  intro c x h
  unfold tb_op at h
  by_cases e_Set : c = "Set"
  · subst e_Set; rw [if_pos rfl] at h; obtain rfl := Option.some.inj h; exact (.fld T.cls_Set T.noa_Set_op)
  rw [if_neg e_Set] at h
  cases h
theorem tb_left_ok (T : Txt P K mg cl) : ∀ c x, tb_left c = some x → AttK P w K mg base (⟨K, cl⟩ : G) [108, 101, 102, 116] c 0 x := by
  intro c x h
  unfold tb_left at h
  by_cases e_Set : c = "Set"
  · subst e_Set; rw [if_pos rfl] at h; obtain rfl := Option.some.inj h; exact (.fld T.cls_Set T.noa_Set_left)
  rw [if_neg e_Set] at h
  cases h
theorem tb_target_ok (T : Txt P K mg cl) : ∀ c x, tb_target c = some x → AttK P w K mg base (⟨K, cl⟩ : G) [116, 97, 114, 103, 101, 116] c 0 x := by
  intro c x h
  unfold tb_target at h
  by_cases e_Set : c = "Set"
  · subst e_Set; rw [if_pos rfl] at h; obtain rfl := Option.some.inj h; exact (.fld T.cls_Set T.noa_Set_target)
  rw [if_neg e_Set] at h
  by_cases e_Copy : c = "Copy"
  · subst e_Copy; rw [if_pos rfl] at h; obtain rfl := Option.some.inj h; exact (.fld T.cls_Copy T.noa_Copy_target)
  rw [if_neg e_Copy] at h
  by_cases e_Read : c = "Read"
  · subst e_Read; rw [if_pos rfl] at h; obtain rfl := Option.some.inj h; exact (.fld T.cls_Read T.noa_Read_target)
  rw [if_neg e_Read] at h
  cases h
theorem sc_Set_words : FnScope ["self"] ["self"] (defScope st_Set_words) := ⟨rfl, rfl, rfl, by decide +kernel, rfl, by decide +kernel, by decide +kernel⟩
theorem ok_Set_words (T : Txt P K mg cl) {f : Addr} (A : FunIn K "words" "Set.words" st_Set_words ["self"] f) : DefIn P w K mg base (⟨K, cl⟩ : G) f 2 ["self"] d_Set_words :=
  defIn_of (k := 1) A sc_Set_words fun cdv A outer s H E hr tk hp =>
  ss_one (ss_ret (se_new (sl_disp (sa_cons (se_attr (k := 0) (se_var (i := 0) rfl (vis_of rfl)) (tb_target_ok T) (hr.mono (by decide)) (by decide +kernel)) (sa_cons (se_attr (k := 0) (se_var (i := 0) rfl (vis_of rfl)) (tb_left_ok T) (hr.mono (by decide)) (by decide +kernel)) (sa_cons (se_attr (k := 0) (se_var (i := 0) rfl (vis_of rfl)) (tb_op_ok T) (hr.mono (by decide)) (by decide +kernel)) (sa_cons (se_attr (k := 0) (se_var (i := 0) rfl (vis_of rfl)) (tb_right_ok T) (hr.mono (by decide)) (by decide +kernel)) (sa_nil))))))))
theorem tb_value_ok (T : Txt P K mg cl) : ∀ c x, tb_value c = some x → AttK P w K mg base (⟨K, cl⟩ : G) [118, 97, 108, 117, 101] c 0 x := by
  intro c x h
  unfold tb_value at h
  by_cases e_Copy : c = "Copy"
  · subst e_Copy; rw [if_pos rfl] at h; obtain rfl := Option.some.inj h; exact (.fld T.cls_Copy T.noa_Copy_value)
  rw [if_neg e_Copy] at h
  by_cases e_Write : c = "Write"
  · subst e_Write; rw [if_pos rfl] at h; obtain rfl := Option.some.inj h; exact (.fld T.cls_Write T.noa_Write_value)
  rw [if_neg e_Write] at h
  cases h
theorem sc_Copy_words : FnScope ["self"] ["self"] (defScope st_Copy_words) := ⟨rfl, rfl, rfl, by decide +kernel, rfl, by decide +kernel, by decide +kernel⟩
theorem ok_Copy_words (T : Txt P K mg cl) {f : Addr} (A : FunIn K "words" "Copy.words" st_Copy_words ["self"] f) : DefIn P w K mg base (⟨K, cl⟩ : G) f 2 ["self"] d_Copy_words :=
  defIn_of (k := 1) A sc_Copy_words fun cdv A outer s H E hr tk hp =>
  ss_one (ss_ret (se_new (sl_disp (sa_cons (se_attr (k := 0) (se_var (i := 0) rfl (vis_of rfl)) (tb_target_ok T) (hr.mono (by decide)) (by decide +kernel)) (sa_cons (se_attr (k := 0) (se_var (i := 0) rfl (vis_of rfl)) (tb_value_ok T) (hr.mono (by decide)) (by decide +kernel)) (sa_nil))))))
theorem sc_Read_words : FnScope ["self"] ["self"] (defScope st_Read_words) := ⟨rfl, rfl, rfl, by decide +kernel, rfl, by decide +kernel, by decide +kernel⟩
theorem ok_Read_words (T : Txt P K mg cl) {f : Addr} (A : FunIn K "words" "Read.words" st_Read_words ["self"] f) : DefIn P w K mg base (⟨K, cl⟩ : G) f 2 ["self"] d_Read_words :=
  defIn_of (k := 1) A sc_Read_words fun cdv A outer s H E hr tk hp =>
  ss_one (ss_ret (se_new (sl_disp (sa_cons (se_attr (k := 0) (se_var (i := 0) rfl (vis_of rfl)) (tb_target_ok T) (hr.mono (by decide)) (by decide +kernel)) (sa_nil)))))
theorem sc_Write_words : FnScope ["self"] ["self"] (defScope st_Write_words) := ⟨rfl, rfl, rfl, by decide +kernel, rfl, by decide +kernel, by decide +kernel⟩
theorem ok_Write_words (T : Txt P K mg cl) {f : Addr} (A : FunIn K "words" "Write.words" st_Write_words ["self"] f) : DefIn P w K mg base (⟨K, cl⟩ : G) f 2 ["self"] d_Write_words :=
  defIn_of (k := 1) A sc_Write_words fun cdv A outer s H E hr tk hp =>
  ss_one (ss_ret (se_new (sl_disp (sa_cons (se_attr (k := 0) (se_var (i := 0) rfl (vis_of rfl)) (tb_value_ok T) (hr.mono (by decide)) (by decide +kernel)) (sa_nil)))))
theorem tb_words_ok (T : Txt P K mg cl) : ∀ c x, tb_words c = some x → AttK P w K mg base (⟨K, cl⟩ : G) [119, 111, 114, 100, 115] c 2 x := by
  intro c x h
  unfold tb_words at h
  by_cases e_Set : c = "Set"
  · subst e_Set; rw [if_pos rfl] at h; obtain rfl := Option.some.inj h; exact (by obtain ⟨p, ga, hp, F⟩ := T.prop_Set_words; exact attP T.cls_Set hp ((ok_Set_words T F).mono (by decide)))
  rw [if_neg e_Set] at h
  by_cases e_Copy : c = "Copy"
  · subst e_Copy; rw [if_pos rfl] at h; obtain rfl := Option.some.inj h; exact (by obtain ⟨p, ga, hp, F⟩ := T.prop_Copy_words; exact attP T.cls_Copy hp ((ok_Copy_words T F).mono (by decide)))
  rw [if_neg e_Copy] at h
  by_cases e_Read : c = "Read"
  · subst e_Read; rw [if_pos rfl] at h; obtain rfl := Option.some.inj h; exact (by obtain ⟨p, ga, hp, F⟩ := T.prop_Read_words; exact attP T.cls_Read hp ((ok_Read_words T F).mono (by decide)))
  rw [if_neg e_Read] at h
  by_cases e_Write : c = "Write"
  · subst e_Write; rw [if_pos rfl] at h; obtain rfl := Option.some.inj h; exact (by obtain ⟨p, ga, hp, F⟩ := T.prop_Write_words; exact attP T.cls_Write hp ((ok_Write_words T F).mono (by decide)))
  rw [if_neg e_Write] at h
  cases h
theorem tb_WORD_ok (T : Txt P K mg cl) : ∀ c x, tb_WORD c = some x → AttK P w K mg base (⟨K, cl⟩ : G) [87, 79, 82, 68] c 0 x := by
  intro c x h
  unfold tb_WORD at h
  by_cases e_Set : c = "Set"
  · subst e_Set; rw [if_pos rfl] at h; obtain rfl := Option.some.inj h; exact (by obtain ⟨v, u, h, r⟩ := T.con_Set_WORD; exact .con T.cls_Set h r)
  rw [if_neg e_Set] at h
  by_cases e_Copy : c = "Copy"
  · subst e_Copy; rw [if_pos rfl] at h; obtain rfl := Option.some.inj h; exact (by obtain ⟨v, u, h, r⟩ := T.con_Copy_WORD; exact .con T.cls_Copy h r)
  rw [if_neg e_Copy] at h
  by_cases e_Read : c = "Read"
  · subst e_Read; rw [if_pos rfl] at h; obtain rfl := Option.some.inj h; exact (by obtain ⟨v, u, h, r⟩ := T.con_Read_WORD; exact .con T.cls_Read h r)
  rw [if_neg e_Read] at h
  by_cases e_Write : c = "Write"
  · subst e_Write; rw [if_pos rfl] at h; obtain rfl := Option.some.inj h; exact (by obtain ⟨v, u, h, r⟩ := T.con_Write_WORD; exact .con T.cls_Write h r)
  rw [if_neg e_Write] at h
  cases h
theorem sc_Statement_text : FnScope ["self", "word"] ["self"] (defScope st_Statement_text) := ⟨rfl, rfl, rfl, by decide +kernel, rfl, by decide +kernel, by decide +kernel⟩
theorem ok_Statement_text (T : Txt P K mg cl) {f : Addr} (A : FunIn K "text" "Statement.text" st_Statement_text ["self"] f) : DefIn P w K mg base (⟨K, cl⟩ : G) f 4 ["self"] d_Statement_text :=
  defIn_of (k := 3) A sc_Statement_text fun cdv A outer s H E hr tk hp =>
  ss_one (ss_ret (se_joinL (se_str (l := [32]) (by decide +kernel)) (sl_disp (sa_cons (se_attr (k := 0) (se_var (i := 0) rfl (vis_of rfl)) (tb_WORD_ok T) (hr.mono (by decide)) (by decide +kernel)) (sa_starL (sl_comp (own := [("word", 1)]) (h := gSet 1) (t := tYesB) (fe := eFn bStr (aCons (eVar 1) (aNil))) rfl sc_Statement_text.nd (si_val rfl (se_attr (k := 2) (se_var (i := 0) rfl (vis_of rfl)) (tb_words_ok T) (hr.mono (by decide)) (by decide +kernel))) (blkOk_by rfl) (fun _ _ _ _ _ => sg_name (i := 1) sc_Statement_text.nd rfl (loc_of rfl)) (fun _ _ _ _ _ => sts_nil) (fun _ _ _ _ _ => se_typ (f_str) rfl T.none_str (by first | rfl | decide +kernel) (sa_cons (se_var (i := 1) rfl (vis_of rfl)) (sa_nil)))) (sa_nil))))))
theorem tb_text_ok (T : Txt P K mg cl) : ∀ c x, tb_text c = some x → AttK P w K mg base (⟨K, cl⟩ : G) [116, 101, 120, 116] c 4 x := by
  intro c x h
  unfold tb_text at h
  by_cases e_Set : c = "Set"
  · subst e_Set; rw [if_pos rfl] at h; obtain rfl := Option.some.inj h; exact (by obtain ⟨p, ga, hp, F⟩ := T.prop_Set_text; exact attP T.cls_Set hp ((ok_Statement_text T F).mono (by decide)))
  rw [if_neg e_Set] at h
  by_cases e_Copy : c = "Copy"
  · subst e_Copy; rw [if_pos rfl] at h; obtain rfl := Option.some.inj h; exact (by obtain ⟨p, ga, hp, F⟩ := T.prop_Copy_text; exact attP T.cls_Copy hp ((ok_Statement_text T F).mono (by decide)))
  rw [if_neg e_Copy] at h
  by_cases e_Read : c = "Read"
  · subst e_Read; rw [if_pos rfl] at h; obtain rfl := Option.some.inj h; exact (by obtain ⟨p, ga, hp, F⟩ := T.prop_Read_text; exact attP T.cls_Read hp ((ok_Statement_text T F).mono (by decide)))
  rw [if_neg e_Read] at h
  by_cases e_Write : c = "Write"
  · subst e_Write; rw [if_pos rfl] at h; obtain rfl := Option.some.inj h; exact (by obtain ⟨p, ga, hp, F⟩ := T.prop_Write_text; exact attP T.cls_Write hp ((ok_Statement_text T F).mono (by decide)))
  rw [if_neg e_Write] at h
  cases h
theorem sc__law_alike : FnScope ["_law_one", "_law_other"] ["_law_one", "_law_other"] (defScope st__law_alike) := ⟨rfl, rfl, rfl, by decide +kernel, rfl, by decide +kernel, by decide +kernel⟩
theorem ok__law_alike (T : Txt P K mg cl) : Def P w K mg base (⟨K, cl⟩ : G) "_law_alike" 1 ["_law_one", "_law_other"] d__law_alike :=
  def_of (k := 0) T.fun__law_alike sc__law_alike fun f cdv A outer s H E hr tk hp =>
  ss_one (ss_ret (se_cmp (f_eq0 rfl hr) (se_blt (f_repr rfl hr) rfl T.none_repr (by first | rfl | decide +kernel) (sa_cons (se_var (i := 0) rfl (vis_of rfl)) (sa_nil))) (se_blt (f_repr rfl hr) rfl T.none_repr (by first | rfl | decide +kernel) (sa_cons (se_var (i := 1) rfl (vis_of rfl)) (sa_nil)))))
theorem sc__law_attributes : FnScope ["_law_word", "_law_made_here"] ["_law_word", "_law_made_here"] (defScope st__law_attributes) := ⟨rfl, rfl, rfl, by decide +kernel, rfl, by decide +kernel, by decide +kernel⟩
theorem ok__law_attributes (T : Txt P K mg cl) : Def P w K mg base (⟨K, cl⟩ : G) "_law_attributes" 2 ["_law_word", "_law_made_here"] d__law_attributes :=
  def_of (k := 1) T.fun__law_attributes sc__law_attributes fun f cdv A outer s H E hr tk hp =>
  ss_cons (ss_if (st_cmp (f_eq0 rfl hr) (se_var (i := 0) rfl (vis_of rfl)) (se_str (l := [115, 101, 116]) (by decide +kernel))) (ss_one (ss_ret (se_tup (sa_cons (se_var (i := 0) rfl (vis_of rfl)) (sa_cons (se_attr (k := 0) (se_var (i := 1) rfl (vis_of rfl)) (tb_target_ok T) (hr.mono (by decide)) (by decide +kernel)) (sa_cons (se_attr (k := 0) (se_var (i := 1) rfl (vis_of rfl)) (tb_left_ok T) (hr.mono (by decide)) (by decide +kernel)) (sa_cons (se_attr (k := 0) (se_var (i := 1) rfl (vis_of rfl)) (tb_op_ok T) (hr.mono (by decide)) (by decide +kernel)) (sa_cons (se_attr (k := 0) (se_var (i := 1) rfl (vis_of rfl)) (tb_right_ok T) (hr.mono (by decide)) (by decide +kernel)) (sa_nil))))))))) (ss_nil)) (
  ss_cons (ss_if (st_cmp (f_eq0 rfl hr) (se_var (i := 0) rfl (vis_of rfl)) (se_str (l := [99, 111, 112, 121]) (by decide +kernel))) (ss_one (ss_ret (se_tup (sa_cons (se_var (i := 0) rfl (vis_of rfl)) (sa_cons (se_attr (k := 0) (se_var (i := 1) rfl (vis_of rfl)) (tb_target_ok T) (hr.mono (by decide)) (by decide +kernel)) (sa_cons (se_attr (k := 0) (se_var (i := 1) rfl (vis_of rfl)) (tb_value_ok T) (hr.mono (by decide)) (by decide +kernel)) (sa_nil))))))) (ss_nil)) (
  ss_cons (ss_if (st_cmp (f_eq0 rfl hr) (se_var (i := 0) rfl (vis_of rfl)) (se_str (l := [114, 101, 97, 100]) (by decide +kernel))) (ss_one (ss_ret (se_tup (sa_cons (se_var (i := 0) rfl (vis_of rfl)) (sa_cons (se_attr (k := 0) (se_var (i := 1) rfl (vis_of rfl)) (tb_target_ok T) (hr.mono (by decide)) (by decide +kernel)) (sa_nil)))))) (ss_nil)) (
  ss_one (ss_ret (se_tup (sa_cons (se_var (i := 0) rfl (vis_of rfl)) (sa_cons (se_attr (k := 0) (se_var (i := 1) rfl (vis_of rfl)) (tb_value_ok T) (hr.mono (by decide)) (by decide +kernel)) (sa_nil))))))))
theorem sc_value_of : FnScope ["word", "figures", "sign"] ["word"] (defScope st_value_of) := ⟨rfl, rfl, rfl, by decide +kernel, rfl, by decide +kernel, by decide +kernel⟩
theorem ok_value_of (T : Txt P K mg cl) : Def P w K mg base (⟨K, cl⟩ : G) "value_of" 1 ["word"] d_value_of :=
  def_of (k := 0) T.fun_value_of sc_value_of fun f cdv A outer s H E hr tk hp =>
  ss_cons (ss_set (i := 1) sc_value_of.nd rfl (loc_of rfl) (se_rmPre (se_var (i := 0) rfl (vis_of rfl)) (se_str (l := [45]) (by decide +kernel)))) (
  ss_cons (ss_if (st_and (st_chain f_le f_le (se_int) (se_blt (f_len rfl) rfl T.none_len (by first | rfl | decide +kernel) (sa_cons (se_var (i := 1) rfl (vis_of rfl)) (sa_nil))) (se_globx rfl T.val_MOST_DIGITS)) (st_and1 (st_val (se_bltL (f_all rfl) rfl T.none_all (by first | rfl | decide +kernel) (sl_comp (own := [("sign", 2)]) (h := gSet 2) (t := tYesB) (fe := eBin wIn (eVar 2) (eC (.str [48, 49, 50, 51, 52, 53, 54, 55, 56, 57]))) rfl sc_value_of.nd (si_val rfl (se_var (i := 1) rfl (vis_of rfl))) (blkOk_by rfl) (fun _ _ _ _ _ => sg_name (i := 2) sc_value_of.nd rfl (loc_of rfl)) (fun _ _ _ _ _ => sts_nil) (fun _ _ _ _ _ => se_cmp (f_in rfl) (se_var (i := 2) rfl (vis_of rfl)) (se_globx rfl T.val_DIGITS))))))) (ss_one (ss_ret (se_typ (f_int) rfl T.none_int (by first | rfl | decide +kernel) (sa_cons (se_var (i := 0) rfl (vis_of rfl)) (sa_nil))))) (ss_nil)) (
  ss_one (ss_ret (se_var (i := 0) rfl (vis_of rfl)))))
theorem sc_statement_in : FnScope ["text", "word", "things", "target", "left", "op", "right"] ["text"] (defScope st_statement_in) := ⟨rfl, rfl, rfl, by decide +kernel, rfl, by decide +kernel, by decide +kernel⟩
theorem ok_statement_in (T : Txt P K mg cl) : Def P w K mg base (⟨K, cl⟩ : G) "statement_in" 6 ["text"] d_statement_in :=
  def_of (k := 5) T.fun_statement_in sc_statement_in fun f cdv A outer s H E hr tk hp =>
  ss_cons (ss_asg (se_new (sl_split (se_var (i := 0) rfl (vis_of rfl)) (se_str (l := [32]) (by decide +kernel)))) (sg_star rfl rfl (sgs_cons (sg_name (i := 1) sc_statement_in.nd rfl (loc_of rfl)) (sgs_star (sg_name (i := 2) sc_statement_in.nd rfl (loc_of rfl)))))) (
  ss_cons (ss_try (ss_cons (ss_if (st_and (st_cmp (f_eq0 rfl hr) (se_var (i := 1) rfl (vis_of rfl)) (se_str (l := [115, 101, 116]) (by decide +kernel))) (st_and1 (st_cmp (f_eq0 rfl hr) (se_blt (f_len rfl) rfl T.none_len (by first | rfl | decide +kernel) (sa_cons (se_var (i := 2) rfl (vis_of rfl)) (sa_nil))) (se_int)))) (ss_cons (ss_asg (se_var (i := 2) rfl (vis_of rfl)) (sg_seq rfl rfl (sgs_cons (sg_name (i := 3) sc_statement_in.nd rfl (loc_of rfl)) (sgs_cons (sg_name (i := 4) sc_statement_in.nd rfl (loc_of rfl)) (sgs_cons (sg_name (i := 5) sc_statement_in.nd rfl (loc_of rfl)) (sgs_cons (sg_name (i := 6) sc_statement_in.nd rfl (loc_of rfl)) (sgs_nil))))))) (
  ss_one (ss_ret (se_make Sh.takes0 (make_Set T) (hr.mono (by decide)) rfl (sa_cons (se_var (i := 3) rfl (vis_of rfl)) (sa_cons (se_call Sh.takes0 (ok_value_of T) arity_defn (hr.mono (by decide)) rfl (sa_cons (se_var (i := 4) rfl (vis_of rfl)) (sa_nil))) (sa_cons (se_var (i := 5) rfl (vis_of rfl)) (sa_cons (se_call Sh.takes0 (ok_value_of T) arity_defn (hr.mono (by decide)) rfl (sa_cons (se_var (i := 6) rfl (vis_of rfl)) (sa_nil))) (sa_nil))))))))) (ss_nil)) (
  ss_cons (ss_if (st_and (st_cmp (f_eq0 rfl hr) (se_var (i := 1) rfl (vis_of rfl)) (se_str (l := [99, 111, 112, 121]) (by decide +kernel))) (st_and1 (st_cmp (f_eq0 rfl hr) (se_blt (f_len rfl) rfl T.none_len (by first | rfl | decide +kernel) (sa_cons (se_var (i := 2) rfl (vis_of rfl)) (sa_nil))) (se_int)))) (ss_one (ss_ret (se_make Sh.takes0 (make_Copy T) (hr.mono (by decide)) rfl (sa_cons (se_ix rfl (se_var (i := 2) rfl (vis_of rfl)) (se_int)) (sa_cons (se_call Sh.takes0 (ok_value_of T) arity_defn (hr.mono (by decide)) rfl (sa_cons (se_ix rfl (se_var (i := 2) rfl (vis_of rfl)) (se_int)) (sa_nil))) (sa_nil)))))) (ss_nil)) (
  ss_cons (ss_if (st_and (st_cmp (f_eq0 rfl hr) (se_var (i := 1) rfl (vis_of rfl)) (se_str (l := [114, 101, 97, 100]) (by decide +kernel))) (st_and1 (st_cmp (f_eq0 rfl hr) (se_blt (f_len rfl) rfl T.none_len (by first | rfl | decide +kernel) (sa_cons (se_var (i := 2) rfl (vis_of rfl)) (sa_nil))) (se_int)))) (ss_one (ss_ret (se_make Sh.takes0 (make_Read T) (hr.mono (by decide)) rfl (sa_cons (se_ix rfl (se_var (i := 2) rfl (vis_of rfl)) (se_int)) (sa_nil))))) (ss_nil)) (
  ss_one (ss_if (st_and (st_cmp (f_eq0 rfl hr) (se_var (i := 1) rfl (vis_of rfl)) (se_str (l := [119, 114, 105, 116, 101]) (by decide +kernel))) (st_and1 (st_cmp (f_eq0 rfl hr) (se_blt (f_len rfl) rfl T.none_len (by first | rfl | decide +kernel) (sa_cons (se_var (i := 2) rfl (vis_of rfl)) (sa_nil))) (se_int)))) (ss_one (ss_ret (se_make Sh.takes0 (make_Write T) (hr.mono (by decide)) rfl (sa_cons (se_call Sh.takes0 (ok_value_of T) arity_defn (hr.mono (by decide)) rfl (sa_cons (se_ix rfl (se_var (i := 2) rfl (vis_of rfl)) (se_int)) (sa_nil))) (sa_nil))))) (ss_nil))))))) (
  ss_one (ss_ret (se_non))))
theorem sc_Statement_read : FnScope ["text", "found"] ["text"] (defScope st_Statement_read) := ⟨rfl, rfl, rfl, by decide +kernel, rfl, by decide +kernel, by decide +kernel⟩
theorem ok_Statement_read (T : Txt P K mg cl) {f : Addr} (A : FunIn K "read" "Statement.read" st_Statement_read ["text"] f) : DefIn P w K mg base (⟨K, cl⟩ : G) f 7 ["text"] d_Statement_read :=
  defIn_of (k := 6) A sc_Statement_read fun cdv A outer s H E hr tk hp =>
  ss_cons (ss_set (i := 1) sc_Statement_read.nd rfl (loc_of rfl) (se_if (st_val (se_blt (f_isi rfl (isi_ok T)) rfl T.none_isinstance (by first | rfl | decide +kernel) (sa_cons (se_var (i := 0) rfl (vis_of rfl)) (sa_cons (se_bltn rfl T.none_str (by first | rfl | decide +kernel)) (sa_nil))))) (se_call tk (ok_statement_in T) arity_defn (hr.mono (by decide)) rfl (sa_cons (se_var (i := 0) rfl (vis_of rfl)) (sa_nil))) (se_non))) (
  ss_cons (ss_if (st_or (st_cmp f_isN (se_var (i := 1) rfl (vis_of rfl)) (se_non)) (st_or1 (st_cmp (f_ne0 rfl hr) (se_attr (k := 4) (se_var (i := 1) rfl (vis_of rfl)) (tb_text_ok T) (hr.mono (by decide)) (by decide +kernel)) (se_var (i := 0) rfl (vis_of rfl))))) (ss_one (ss_bad)) (ss_nil)) (
  ss_one (ss_ret (se_var (i := 1) rfl (vis_of rfl)))))
theorem stat_Statement_read (T : Txt P K mg cl) : CStK P w K mg base (⟨K, cl⟩ : G) "Statement" "read" 7 d_Statement_read := by
  obtain ⟨h1, h2, p, fa, rest, h3, h4, h5, F⟩ := T.st_Statement_read
  exact cstK h1 h2 h3 h4 h5 arity_defn (ok_Statement_read T F)
theorem sc__law_classes : FnScope ["_law_made_here", "_law_told"] ["_law_made_here"] (defScope st__law_classes) := ⟨rfl, rfl, rfl, by decide +kernel, rfl, by decide +kernel, by decide +kernel⟩
theorem ok__law_classes (T : Txt P K mg cl) : Def P w K mg base (⟨K, cl⟩ : G) "_law_classes" 1 ["_law_made_here"] d__law_classes :=
  def_of (k := 0) T.fun__law_classes sc__law_classes fun f cdv A outer s H E hr tk hp =>
  ss_cons (ss_set (i := 1) sc__law_classes.nd rfl (loc_of rfl) (se_new (sl_disp (sa_cons (se_blt (f_isi rfl (isi_ok T)) rfl T.none_isinstance (by first | rfl | decide +kernel) (sa_cons (se_var (i := 0) rfl (vis_of rfl)) (sa_cons (se_glob rfl T.m_Statement ⟨.ref _, rfl, fun _ _ => .cls "Statement"⟩) (sa_nil)))) (sa_cons (se_blt (f_isi rfl (isi_ok T)) rfl T.none_isinstance (by first | rfl | decide +kernel) (sa_cons (se_var (i := 0) rfl (vis_of rfl)) (sa_cons (se_glob rfl T.m_Assign ⟨.ref _, rfl, fun _ _ => .cls "Assign"⟩) (sa_nil)))) (sa_cons (se_blt (f_isi rfl (isi_ok T)) rfl T.none_isinstance (by first | rfl | decide +kernel) (sa_cons (se_var (i := 0) rfl (vis_of rfl)) (sa_cons (se_glob rfl T.m_Set ⟨.ref _, rfl, fun _ _ => .cls "Set"⟩) (sa_nil)))) (sa_cons (se_blt (f_isi rfl (isi_ok T)) rfl T.none_isinstance (by first | rfl | decide +kernel) (sa_cons (se_var (i := 0) rfl (vis_of rfl)) (sa_cons (se_glob rfl T.m_Copy ⟨.ref _, rfl, fun _ _ => .cls "Copy"⟩) (sa_nil)))) (sa_nil)))))))) (
  ss_one (ss_ret (se_bin (f_add rfl) (se_var (i := 1) rfl (vis_of rfl)) (se_new (sl_disp (sa_cons (se_blt (f_isi rfl (isi_ok T)) rfl T.none_isinstance (by first | rfl | decide +kernel) (sa_cons (se_var (i := 0) rfl (vis_of rfl)) (sa_cons (se_glob rfl T.m_Read ⟨.ref _, rfl, fun _ _ => .cls "Read"⟩) (sa_nil)))) (sa_cons (se_blt (f_isi rfl (isi_ok T)) rfl T.none_isinstance (by first | rfl | decide +kernel) (sa_cons (se_var (i := 0) rfl (vis_of rfl)) (sa_cons (se_glob rfl T.m_Write ⟨.ref _, rfl, fun _ _ => .cls "Write"⟩) (sa_nil)))) (sa_nil))))))))
theorem sc__law_due : FnScope ["_law_statement", "_law_word"] ["_law_statement"] (defScope st__law_due) := ⟨rfl, rfl, rfl, by decide +kernel, rfl, by decide +kernel, by decide +kernel⟩
theorem ok__law_due (T : Txt P K mg cl) : Def P w K mg base (⟨K, cl⟩ : G) "_law_due" 1 ["_law_statement"] d__law_due :=
  def_of (k := 0) T.fun__law_due sc__law_due fun f cdv A outer s H E hr tk hp =>
  ss_cons (ss_set (i := 1) sc__law_due.nd rfl (loc_of rfl) (se_ix rfl (se_var (i := 0) rfl (vis_of rfl)) (se_int))) (
  ss_one (ss_ret (se_new (sl_disp (sa_cons (se_bl) (sa_cons (se_cmp (f_ne0 rfl hr) (se_var (i := 1) rfl (vis_of rfl)) (se_str (l := [119, 114, 105, 116, 101]) (by decide +kernel))) (sa_cons (se_cmp (f_eq0 rfl hr) (se_var (i := 1) rfl (vis_of rfl)) (se_str (l := [115, 101, 116]) (by decide +kernel))) (sa_cons (se_cmp (f_eq0 rfl hr) (se_var (i := 1) rfl (vis_of rfl)) (se_str (l := [99, 111, 112, 121]) (by decide +kernel))) (sa_cons (se_cmp (f_eq0 rfl hr) (se_var (i := 1) rfl (vis_of rfl)) (se_str (l := [114, 101, 97, 100]) (by decide +kernel))) (sa_cons (se_cmp (f_eq0 rfl hr) (se_var (i := 1) rfl (vis_of rfl)) (se_str (l := [119, 114, 105, 116, 101]) (by decide +kernel))) (sa_nil)))))))))))
theorem sc_Statement___eq__ : FnScope ["self", "other"] ["self", "other"] (defScope st_Statement___eq__) := ⟨rfl, rfl, rfl, by decide +kernel, rfl, by decide +kernel, by decide +kernel⟩
theorem ok_Statement___eq__ (T : Txt P K mg cl) {f : Addr} (A : FunIn K "__eq__" "Statement.__eq__" st_Statement___eq__ ["self", "other"] f) : DefIn P w K mg base (⟨K, cl⟩ : G) f 6 ["self", "other"] d_Statement___eq__ :=
  defIn_of (k := 5) A sc_Statement___eq__ fun cdv A outer s H E hr tk hp =>
  ss_one (ss_ret (se_and (se_blt (f_isi rfl (isi_ok T)) rfl T.none_isinstance (by first | rfl | decide +kernel) (sa_cons (se_var (i := 1) rfl (vis_of rfl)) (sa_cons (se_glob rfl T.m_Statement ⟨.ref _, rfl, fun _ _ => .cls "Statement"⟩) (sa_nil)))) (se_one (se_cmp (f_eq0 rfl hr) (se_attr (k := 4) (se_var (i := 0) rfl (vis_of rfl)) (tb_text_ok T) (hr.mono (by decide)) (by decide +kernel)) (se_attr (k := 4) (se_var (i := 1) rfl (vis_of rfl)) (tb_text_ok T) (hr.mono (by decide)) (by decide +kernel))))))
theorem eqT_ok (T : Txt P K mg cl) : ∀ c F, eqT c = some F → EqK P w K mg base (⟨K, cl⟩ : G) c 6 F := by
  intro c F h
  unfold eqT at h
  by_cases e_Set : c = "Set"
  · subst e_Set; rw [if_pos rfl] at h; obtain rfl := Option.some.inj h; exact (by obtain ⟨ga, h1, h2, h3, F⟩ := T.eq_Set; exact eqK T.cls_Set h1 h2 h3 T.ins_Set.mro arity_defn ((ok_Statement___eq__ T F).mono (by decide)))
  rw [if_neg e_Set] at h
  by_cases e_Copy : c = "Copy"
  · subst e_Copy; rw [if_pos rfl] at h; obtain rfl := Option.some.inj h; exact (by obtain ⟨ga, h1, h2, h3, F⟩ := T.eq_Copy; exact eqK T.cls_Copy h1 h2 h3 T.ins_Copy.mro arity_defn ((ok_Statement___eq__ T F).mono (by decide)))
  rw [if_neg e_Copy] at h
  by_cases e_Read : c = "Read"
  · subst e_Read; rw [if_pos rfl] at h; obtain rfl := Option.some.inj h; exact (by obtain ⟨ga, h1, h2, h3, F⟩ := T.eq_Read; exact eqK T.cls_Read h1 h2 h3 T.ins_Read.mro arity_defn ((ok_Statement___eq__ T F).mono (by decide)))
  rw [if_neg e_Read] at h
  by_cases e_Write : c = "Write"
  · subst e_Write; rw [if_pos rfl] at h; obtain rfl := Option.some.inj h; exact (by obtain ⟨ga, h1, h2, h3, F⟩ := T.eq_Write; exact eqK T.cls_Write h1 h2 h3 T.ins_Write.mro arity_defn ((ok_Statement___eq__ T F).mono (by decide)))
  rw [if_neg e_Write] at h
  cases h
theorem nfL_ok (T : Txt P K mg cl) : ∀ p ∈ nfL, PySem.W.notFirst K (cl p.1) (p.2.val (⟨K, cl⟩ : G)) = true := by
  unfold nfL
  simp only [List.forall_mem_cons]
  exact ⟨T.nf_Set_NoneType, T.nf_Set_int, T.nf_Set_str, T.nf_Set_Set, T.nf_Set_Copy, T.nf_Set_Read, T.nf_Set_Write, T.nf_Copy_NoneType, T.nf_Copy_int, T.nf_Copy_str, T.nf_Copy_Set, T.nf_Copy_Copy, T.nf_Copy_Read, T.nf_Copy_Write, T.nf_Read_NoneType, T.nf_Read_int, T.nf_Read_str, T.nf_Read_Set, T.nf_Read_Copy, T.nf_Read_Read, T.nf_Read_Write, T.nf_Write_NoneType, T.nf_Write_int, T.nf_Write_str, T.nf_Write_Set, T.nf_Write_Copy, T.nf_Write_Read, T.nf_Write_Write, by simp⟩
theorem eqt_ok (T : Txt P K mg cl) : EqT P w K mg base (⟨K, cl⟩ : G) 6 eqT nfB := by
  refine ⟨eqT_ok T, fun c t h => nfL_ok T (c, t) (of_decide_eq_true h), fun c d h => ?_⟩
  have h1 := of_decide_eq_true h
  have h2 : ∀ p ∈ nfL, p.2 = .own d → d = "Set" ∨ d = "Copy" ∨ d = "Read" ∨ d = "Write" := by
    unfold nfL
    simp only [List.forall_mem_cons]
    simp
    repeat' apply And.intro
    all_goals (intro e; subst e; simp)
  have h3 := h2 _ h1 rfl
  rcases h3 with rfl | rfl | rfl | rfl
  · exact T.ins_Set
  · exact T.ins_Copy
  · exact T.ins_Read
  · exact T.ins_Write
theorem sc_Set_expression : FnScope ["self"] ["self"] (defScope st_Set_expression) := ⟨rfl, rfl, rfl, by decide +kernel, rfl, by decide +kernel, by decide +kernel⟩
theorem ok_Set_expression (T : Txt P K mg cl) {f : Addr} (A : FunIn K "expression" "Set.expression" st_Set_expression ["self"] f) : DefIn P w K mg base (⟨K, cl⟩ : G) f 2 ["self"] d_Set_expression :=
  defIn_of (k := 1) A sc_Set_expression fun cdv A outer s H E hr tk hp =>
  ss_one (ss_ret (se_tup (sa_cons (se_attr (k := 0) (se_var (i := 0) rfl (vis_of rfl)) (tb_left_ok T) (hr.mono (by decide)) (by decide +kernel)) (sa_cons (se_attr (k := 0) (se_var (i := 0) rfl (vis_of rfl)) (tb_op_ok T) (hr.mono (by decide)) (by decide +kernel)) (sa_cons (se_attr (k := 0) (se_var (i := 0) rfl (vis_of rfl)) (tb_right_ok T) (hr.mono (by decide)) (by decide +kernel)) (sa_nil))))))
theorem tb_expression_ok (T : Txt P K mg cl) : ∀ c x, tb_expression c = some x → AttK P w K mg base (⟨K, cl⟩ : G) [101, 120, 112, 114, 101, 115, 115, 105, 111, 110] c 2 x := by
  intro c x h
  unfold tb_expression at h
  by_cases e_Set : c = "Set"
  · subst e_Set; rw [if_pos rfl] at h; obtain rfl := Option.some.inj h; exact (by obtain ⟨p, ga, hp, F⟩ := T.prop_Set_expression; exact attP T.cls_Set hp ((ok_Set_expression T F).mono (by decide)))
  rw [if_neg e_Set] at h
  cases h
theorem sc_law : FnScope ["_law_script", "_law_k", "_law_pile_here", "_law_some", "_law_mades", "_law_statement", "_law_made_here", "_law_text", "_law_again", "_law_turn", "_law_other", "_law_other_made", "_law_same"] ["_law_script"] (defScope st_law) := ⟨rfl, rfl, rfl, by decide +kernel, rfl, by decide +kernel, by decide +kernel⟩
theorem run_law (T : Txt P K mg cl) {f : Addr} {fd : FuncData} (F : Fun K "law" "law" st_law f fd) : FnG P w K mg base 8 f fd ["_law_script"] (spOf (⟨K, cl⟩ : G) d_law 1) :=
  fn_ok (k := 7) F sc_law fun cdv A outer s H E hr tk hp =>
  ss_cons (ss_if (st_cmp (f_ne0 rfl hr) (se_ccon (se_glob rfl T.m_Statement ⟨.ref _, rfl, fun _ _ => .cls "Statement"⟩) T.ccon_Statement_OPERATORS) (se_tup (sa_cons (se_str (l := [97, 100, 100]) (by decide +kernel)) (sa_cons (se_str (l := [115, 117, 98]) (by decide +kernel)) (sa_cons (se_str (l := [109, 117, 108]) (by decide +kernel)) (sa_nil)))))) (ss_one (ss_ret (se_bl))) (ss_nil)) (
  ss_cons (ss_for hp rfl (si_range1 rfl T.none_range (sa_cons (se_int) (sa_nil))) (sg_name (i := 1) sc_law.nd rfl (loc_of rfl)) (ss_cons (ss_set (i := 2) sc_law.nd rfl (loc_of rfl) (se_call tk (ok__law_pile T) arity_defn (hr.mono (by decide)) rfl (sa_cons (se_var (i := 0) rfl (vis_of rfl)) (sa_cons (se_var (i := 1) rfl (vis_of rfl)) (sa_nil))))) (
  ss_cons (ss_setLc (i := 3) (own := [("_law_turn", 9)]) (h := gSet 9) (t := tYesB) (fe := eCall d__law_any_statement (aCons (eVar 2) (aNil))) rfl sc_law.nd rfl rfl rfl (si_range1 rfl T.none_range (sa_cons (se_int) (sa_nil))) (blkOk_by rfl) (fun _ _ _ _ _ => sg_name (i := 9) sc_law.nd rfl (loc_of rfl)) (fun _ _ _ _ _ => sts_nil) (fun _ _ _ _ _ => se_call Sh.takes0 (ok__law_any_statement T) arity_defn (hr.mono (by decide)) rfl (sa_cons (se_var (i := 2) rfl (vis_of rfl)) (sa_nil)))) (
  ss_cons (ss_setLc (i := 4) (own := [("_law_statement", 5)]) (h := gSet 5) (t := tYesB) (fe := eCall d__law_made (aCons (eVar 5) (aNil))) rfl sc_law.nd rfl rfl rfl (si_val rfl (se_var (i := 3) rfl (vis_of rfl))) (blkOk_by rfl) (fun _ _ _ _ _ => sg_name (i := 5) sc_law.nd rfl (loc_of rfl)) (fun _ _ _ _ _ => sts_nil) (fun _ _ _ _ _ => se_call Sh.takes0 (ok__law_made T) arity_defn (hr.mono (by decide)) rfl (sa_cons (se_var (i := 5) rfl (vis_of rfl)) (sa_nil)))) (
  ss_one (ss_for hp rfl (si_zip rfl T.none_zip (sq_val rfl (se_var (i := 3) rfl (vis_of rfl))) (sq_val rfl (se_var (i := 4) rfl (vis_of rfl)))) (sg_seq rfl rfl (sgs_cons (sg_name (i := 5) sc_law.nd rfl (loc_of rfl)) (sgs_cons (sg_name (i := 6) sc_law.nd rfl (loc_of rfl)) (sgs_nil)))) (ss_cons (ss_set (i := 7) sc_law.nd rfl (loc_of rfl) (se_call tk (ok__law_statement_text T) arity_defn (hr.mono (by decide)) rfl (sa_cons (se_var (i := 5) rfl (vis_of rfl)) (sa_nil)))) (
  ss_cons (ss_if (st_or (st_cmp (f_ne0 rfl hr) (se_attr (k := 4) (se_var (i := 6) rfl (vis_of rfl)) (tb_text_ok T) (hr.mono (by decide)) (by decide +kernel)) (se_var (i := 7) rfl (vis_of rfl))) (st_or1 (st_not (st_val (se_call tk (ok__law_alike T) arity_defn (hr.mono (by decide)) rfl (sa_cons (se_call tk (ok__law_attributes T) arity_defn (hr.mono (by decide)) rfl (sa_cons (se_ix rfl (se_var (i := 5) rfl (vis_of rfl)) (se_int)) (sa_cons (se_var (i := 6) rfl (vis_of rfl)) (sa_nil)))) (sa_cons (se_var (i := 5) rfl (vis_of rfl)) (sa_nil)))))))) (ss_one (ss_ret (se_bl))) (ss_nil)) (
  ss_cons (ss_set (i := 8) sc_law.nd rfl (loc_of rfl) (se_cstat tk (se_glob rfl T.m_Statement ⟨.ref _, rfl, fun _ _ => .cls "Statement"⟩) (stat_Statement_read T) (hr.mono (by decide)) (sa_cons (se_var (i := 7) rfl (vis_of rfl)) (sa_nil)))) (
  ss_cons (ss_if (st_or (st_cmp (f_ne0 rfl hr) (se_call tk (ok__law_classes T) arity_defn (hr.mono (by decide)) rfl (sa_cons (se_var (i := 6) rfl (vis_of rfl)) (sa_nil))) (se_call tk (ok__law_due T) arity_defn (hr.mono (by decide)) rfl (sa_cons (se_var (i := 5) rfl (vis_of rfl)) (sa_nil)))) (st_or1 (st_cmp (f_ne0 rfl hr) (se_call tk (ok__law_classes T) arity_defn (hr.mono (by decide)) rfl (sa_cons (se_var (i := 8) rfl (vis_of rfl)) (sa_nil))) (se_call tk (ok__law_due T) arity_defn (hr.mono (by decide)) rfl (sa_cons (se_var (i := 5) rfl (vis_of rfl)) (sa_nil)))))) (ss_one (ss_ret (se_bl))) (ss_nil)) (
  ss_cons (ss_if (st_or (st_cmp (f_ne (k := 6) rfl (hr.mono (by decide)) (eqt_ok T)) (se_var (i := 8) rfl (vis_of rfl)) (se_var (i := 6) rfl (vis_of rfl))) (st_or1 (st_not (st_val (se_call tk (ok__law_alike T) arity_defn (hr.mono (by decide)) rfl (sa_cons (se_call tk (ok__law_attributes T) arity_defn (hr.mono (by decide)) rfl (sa_cons (se_ix rfl (se_var (i := 5) rfl (vis_of rfl)) (se_int)) (sa_cons (se_var (i := 8) rfl (vis_of rfl)) (sa_nil)))) (sa_cons (se_var (i := 5) rfl (vis_of rfl)) (sa_nil)))))))) (ss_one (ss_ret (se_bl))) (ss_nil)) (
  ss_cons (ss_if (st_and (st_cmp (f_eq0 rfl hr) (se_ix rfl (se_var (i := 5) rfl (vis_of rfl)) (se_int)) (se_str (l := [115, 101, 116]) (by decide +kernel))) (st_and1 (st_not (st_val (se_call tk (ok__law_alike T) arity_defn (hr.mono (by decide)) rfl (sa_cons (se_attr (k := 2) (se_var (i := 6) rfl (vis_of rfl)) (tb_expression_ok T) (hr.mono (by decide)) (by decide +kernel)) (sa_cons (se_sl rfl (se_var (i := 5) rfl (vis_of rfl)) (so_some (se_int)) (so_none)) (sa_nil)))))))) (ss_one (ss_ret (se_bl))) (ss_nil)) (
  ss_cons (ss_if (st_or (st_cmp (f_eq (k := 6) rfl (hr.mono (by decide)) (eqt_ok T)) (se_var (i := 6) rfl (vis_of rfl)) (se_var (i := 7) rfl (vis_of rfl))) (st_or (st_cmp (f_eq (k := 6) rfl (hr.mono (by decide)) (eqt_ok T)) (se_var (i := 6) rfl (vis_of rfl)) (se_int)) (st_or1 (st_cmp f_isN (se_var (i := 6) rfl (vis_of rfl)) (se_non))))) (ss_one (ss_ret (se_bl))) (ss_nil)) (
  ss_one (ss_for hp rfl (si_zip rfl T.none_zip (sq_val rfl (se_var (i := 3) rfl (vis_of rfl))) (sq_val rfl (se_var (i := 4) rfl (vis_of rfl)))) (sg_seq rfl rfl (sgs_cons (sg_name (i := 10) sc_law.nd rfl (loc_of rfl)) (sgs_cons (sg_name (i := 11) sc_law.nd rfl (loc_of rfl)) (sgs_nil)))) (ss_cons (ss_set (i := 12) sc_law.nd rfl (loc_of rfl) (se_cmp (f_eq0 rfl hr) (se_var (i := 7) rfl (vis_of rfl)) (se_call tk (ok__law_statement_text T) arity_defn (hr.mono (by decide)) rfl (sa_cons (se_var (i := 10) rfl (vis_of rfl)) (sa_nil))))) (
  ss_one (ss_if (st_or (st_cmp (f_ne0 rfl hr) (se_cmp (f_eq (k := 6) rfl (hr.mono (by decide)) (eqt_ok T)) (se_var (i := 6) rfl (vis_of rfl)) (se_var (i := 11) rfl (vis_of rfl))) (se_var (i := 12) rfl (vis_of rfl))) (st_or1 (st_cmp (f_eq0 rfl hr) (se_cmp (f_ne (k := 6) rfl (hr.mono (by decide)) (eqt_ok T)) (se_var (i := 6) rfl (vis_of rfl)) (se_var (i := 11) rfl (vis_of rfl))) (se_var (i := 12) rfl (vis_of rfl))))) (ss_one (ss_ret (se_bl))) (ss_nil))))))))))))))))))) (
  ss_one (ss_ret (se_bl))))
end
theorem all_mk {P : Program} {w : World} {K : PySem.W.Frag} {h : Heap} {mg : Str → Option Value} {fa : Addr} (X : K.In h) (Gn : h.Ns mainGlobals mg) (hfa : mg "law" = some (.ref fa))
    {C_Statement a_Statement_OPERATORS f__law_pile f__law_mixed f__law_take f__law_drawn_word f__law_drawn_value f__law_any_statement C_Assign C_Copy C_Read C_Set C_Write f_is_name f_must_be_name f_is_integer f_is_value f_must_be_value f_Set___init__ f_Assign___init__ cda_Set___init__ cc_Set___init__ D_Set___init__ f_Copy___init__ cda_Copy___init__ cc_Copy___init__ D_Copy___init__ f_Write___init__ f__law_made f__law_statement_text f_Set_words p_Set_words f_Copy_words p_Copy_words f_Read_words p_Read_words f_Write_words p_Write_words f_Statement_text p_Statement_text f__law_alike f__law_attributes f_value_of f_statement_in f_Statement_read p_Statement_read f__law_classes f__law_due f_Statement___eq__ f_Set_expression p_Set_expression f_law : Addr} {t_Statement_OPERATORS_0 t_Statement_OPERATORS_1 t_Statement_OPERATORS_2 t_M_MOST_LETTERS t_M_LETTERS t_M_MOST_VALUE tf_Set___init__ tf_Copy___init__ t_Set_WORD t_Copy_WORD t_Read_WORD t_Write_WORD t_M_MOST_DIGITS t_M_DIGITS : Tok} {dd_Statement_OPERATORS od__law_pile an__law_pile od__law_mixed an__law_mixed od__law_take an__law_take od__law_drawn_word an__law_drawn_word od__law_drawn_value an__law_drawn_value od__law_any_statement an__law_any_statement od_is_name an_is_name od_must_be_name an_must_be_name od_is_integer an_is_integer od_is_value an_is_value od_must_be_value an_must_be_value od_Assign___init__ an_Assign___init__ od_Set___init__ an_Set___init__ cdd_Set___init__ eld_Set___init__ od_Copy___init__ an_Copy___init__ cdd_Copy___init__ eld_Copy___init__ od_Write___init__ an_Write___init__ od__law_made an__law_made od__law_statement_text an__law_statement_text od_Set_words an_Set_words od_Copy_words an_Copy_words od_Read_words an_Read_words od_Write_words an_Write_words od_Statement_text an_Statement_text od__law_alike an__law_alike od__law_attributes an__law_attributes od_value_of an_value_of od_statement_in an_statement_in od_Statement_read an_Statement_read od__law_classes an__law_classes od__law_due an__law_due od_Statement___eq__ an_Statement___eq__ od_Set_expression an_Set_expression od_law an_law : Option Addr} {nn_Statement_OPERATORS : Nat} {sl_Statement_OPERATORS sl__law_pile sl__law_mixed sl__law_take sl__law_drawn_word sl__law_drawn_value sl__law_any_statement sl_is_name sl_must_be_name sl_is_integer sl_is_value sl_must_be_value sl_Assign___init__ sl_Set___init__ ccs_Set___init__ esl_Set___init__ sl_Copy___init__ ccs_Copy___init__ esl_Copy___init__ sl_Write___init__ sl__law_made sl__law_statement_text sl_Set_words sl_Copy_words sl_Read_words sl_Write_words sl_Statement_text sl__law_alike sl__law_attributes sl_value_of sl_statement_in sl_Statement_read sl__law_classes sl__law_due sl_Statement___eq__ sl_Set_expression sl_law : Array (Option Value)} {oc__law_pile kV__law_pile dc__law_pile pm__law_pile cd__law_pile ct__law_pile oc__law_mixed kV__law_mixed dc__law_mixed pm__law_mixed cd__law_mixed ct__law_mixed oc__law_take kV__law_take dc__law_take pm__law_take cd__law_take ct__law_take oc__law_drawn_word kV__law_drawn_word dc__law_drawn_word pm__law_drawn_word cd__law_drawn_word ct__law_drawn_word oc__law_drawn_value kV__law_drawn_value dc__law_drawn_value pm__law_drawn_value cd__law_drawn_value ct__law_drawn_value oc__law_any_statement kV__law_any_statement dc__law_any_statement pm__law_any_statement cd__law_any_statement ct__law_any_statement oc_is_name kV_is_name dc_is_name pm_is_name cd_is_name ct_is_name oc_must_be_name kV_must_be_name dc_must_be_name pm_must_be_name cd_must_be_name ct_must_be_name oc_is_integer kV_is_integer dc_is_integer pm_is_integer cd_is_integer ct_is_integer oc_is_value kV_is_value dc_is_value pm_is_value cd_is_value ct_is_value oc_must_be_value kV_must_be_value dc_must_be_value pm_must_be_value cd_must_be_value ct_must_be_value oc_Assign___init__ kV_Assign___init__ dc_Assign___init__ pm_Assign___init__ cd_Assign___init__ ct_Assign___init__ oc_Set___init__ dc_Set___init__ pm_Set___init__ ct_Set___init__ ccl_Set___init__ el_Set___init__ oc_Copy___init__ dc_Copy___init__ pm_Copy___init__ ct_Copy___init__ ccl_Copy___init__ el_Copy___init__ oc_Write___init__ kV_Write___init__ dc_Write___init__ pm_Write___init__ cd_Write___init__ ct_Write___init__ oc__law_made kV__law_made dc__law_made pm__law_made cd__law_made ct__law_made oc__law_statement_text kV__law_statement_text dc__law_statement_text pm__law_statement_text cd__law_statement_text ct__law_statement_text oc_Set_words kV_Set_words dc_Set_words pm_Set_words cd_Set_words ct_Set_words oc_Copy_words kV_Copy_words dc_Copy_words pm_Copy_words cd_Copy_words ct_Copy_words oc_Read_words kV_Read_words dc_Read_words pm_Read_words cd_Read_words ct_Read_words oc_Write_words kV_Write_words dc_Write_words pm_Write_words cd_Write_words ct_Write_words oc_Statement_text kV_Statement_text dc_Statement_text pm_Statement_text cd_Statement_text ct_Statement_text oc__law_alike kV__law_alike dc__law_alike pm__law_alike cd__law_alike ct__law_alike oc__law_attributes kV__law_attributes dc__law_attributes pm__law_attributes cd__law_attributes ct__law_attributes oc_value_of kV_value_of dc_value_of pm_value_of cd_value_of ct_value_of oc_statement_in kV_statement_in dc_statement_in pm_statement_in cd_statement_in ct_statement_in oc_Statement_read kV_Statement_read dc_Statement_read pm_Statement_read cd_Statement_read ct_Statement_read oc__law_classes kV__law_classes dc__law_classes pm__law_classes cd__law_classes ct__law_classes oc__law_due kV__law_due dc__law_due pm__law_due cd__law_due ct__law_due oc_Statement___eq__ kV_Statement___eq__ dc_Statement___eq__ pm_Statement___eq__ cd_Statement___eq__ ct_Statement___eq__ oc_Set_expression kV_Set_expression dc_Set_expression pm_Set_expression cd_Set_expression ct_Set_expression oc_law kV_law dc_law pm_law cd_law ct_law : Value} {kd_Assign kd_Copy kd_Read kd_Set kd_Statement kd_Write cdD_Set___init__ cdD_Copy___init__ : ClassData} {vs_Set___init__ vs_Copy___init__ : Array Value} {fi_Set___init__ fi_Copy___init__ : Str} {pr_Set_words pr_Copy_words pr_Read_words pr_Write_words pr_Statement_text pr_Statement_read pr_Set_expression : List Value}
    (a_Statement : PySem.W.nsIn K mainGlobals "Statement" = some (some (.ref C_Statement)))
    (rd_Statement : PySem.W.readsIn K C_Statement (.type "type") = true)
    (cc_Statement_OPERATORS : PySem.W.findCls K (.ref C_Statement) (.type "type") "OPERATORS" = some (.val (.ref a_Statement_OPERATORS)))
    (z_range : PySem.W.nsIn K mainGlobals "range" = some none)
    (z_len : PySem.W.nsIn K mainGlobals "len" = some none)
    (z_int : PySem.W.nsIn K mainGlobals "int" = some none)
    (z_abs : PySem.W.nsIn K mainGlobals "abs" = some none)
    (a__law_pile : PySem.W.nsIn K mainGlobals "_law_pile" = some (some (.ref f__law_pile)))
    (l__law_pile : K.lookup f__law_pile = some ⟨oc__law_pile, od__law_pile, .func (PySem.W.fnOf "_law_pile" "_law_pile" (defArgs st__law_pile) (defBody st__law_pile) (defScope st__law_pile) .none kV__law_pile dc__law_pile pm__law_pile an__law_pile cd__law_pile ct__law_pile), sl__law_pile⟩)
    (c__law_pile : PySem.W.codeIn K cd__law_pile "_law_pile" = true)
    (k__law_pile : PySem.W.keepIn K (.ref f__law_pile) = true)
    (a__law_mixed : PySem.W.nsIn K mainGlobals "_law_mixed" = some (some (.ref f__law_mixed)))
    (l__law_mixed : K.lookup f__law_mixed = some ⟨oc__law_mixed, od__law_mixed, .func (PySem.W.fnOf "_law_mixed" "_law_mixed" (defArgs st__law_mixed) (defBody st__law_mixed) (defScope st__law_mixed) .none kV__law_mixed dc__law_mixed pm__law_mixed an__law_mixed cd__law_mixed ct__law_mixed), sl__law_mixed⟩)
    (c__law_mixed : PySem.W.codeIn K cd__law_mixed "_law_mixed" = true)
    (k__law_mixed : PySem.W.keepIn K (.ref f__law_mixed) = true)
    (a__law_take : PySem.W.nsIn K mainGlobals "_law_take" = some (some (.ref f__law_take)))
    (l__law_take : K.lookup f__law_take = some ⟨oc__law_take, od__law_take, .func (PySem.W.fnOf "_law_take" "_law_take" (defArgs st__law_take) (defBody st__law_take) (defScope st__law_take) .none kV__law_take dc__law_take pm__law_take an__law_take cd__law_take ct__law_take), sl__law_take⟩)
    (c__law_take : PySem.W.codeIn K cd__law_take "_law_take" = true)
    (k__law_take : PySem.W.keepIn K (.ref f__law_take) = true)
    (a__law_drawn_word : PySem.W.nsIn K mainGlobals "_law_drawn_word" = some (some (.ref f__law_drawn_word)))
    (l__law_drawn_word : K.lookup f__law_drawn_word = some ⟨oc__law_drawn_word, od__law_drawn_word, .func (PySem.W.fnOf "_law_drawn_word" "_law_drawn_word" (defArgs st__law_drawn_word) (defBody st__law_drawn_word) (defScope st__law_drawn_word) .none kV__law_drawn_word dc__law_drawn_word pm__law_drawn_word an__law_drawn_word cd__law_drawn_word ct__law_drawn_word), sl__law_drawn_word⟩)
    (c__law_drawn_word : PySem.W.codeIn K cd__law_drawn_word "_law_drawn_word" = true)
    (k__law_drawn_word : PySem.W.keepIn K (.ref f__law_drawn_word) = true)
    (a__law_drawn_value : PySem.W.nsIn K mainGlobals "_law_drawn_value" = some (some (.ref f__law_drawn_value)))
    (l__law_drawn_value : K.lookup f__law_drawn_value = some ⟨oc__law_drawn_value, od__law_drawn_value, .func (PySem.W.fnOf "_law_drawn_value" "_law_drawn_value" (defArgs st__law_drawn_value) (defBody st__law_drawn_value) (defScope st__law_drawn_value) .none kV__law_drawn_value dc__law_drawn_value pm__law_drawn_value an__law_drawn_value cd__law_drawn_value ct__law_drawn_value), sl__law_drawn_value⟩)
    (c__law_drawn_value : PySem.W.codeIn K cd__law_drawn_value "_law_drawn_value" = true)
    (k__law_drawn_value : PySem.W.keepIn K (.ref f__law_drawn_value) = true)
    (a__law_any_statement : PySem.W.nsIn K mainGlobals "_law_any_statement" = some (some (.ref f__law_any_statement)))
    (l__law_any_statement : K.lookup f__law_any_statement = some ⟨oc__law_any_statement, od__law_any_statement, .func (PySem.W.fnOf "_law_any_statement" "_law_any_statement" (defArgs st__law_any_statement) (defBody st__law_any_statement) (defScope st__law_any_statement) .none kV__law_any_statement dc__law_any_statement pm__law_any_statement an__law_any_statement cd__law_any_statement ct__law_any_statement), sl__law_any_statement⟩)
    (c__law_any_statement : PySem.W.codeIn K cd__law_any_statement "_law_any_statement" = true)
    (k__law_any_statement : PySem.W.keepIn K (.ref f__law_any_statement) = true)
    (a_Assign : PySem.W.nsIn K mainGlobals "Assign" = some (some (.ref C_Assign)))
    (cd_Assign : PySem.W.clsIn K C_Assign = some kd_Assign)
    (ct_Assign : PySem.W.typeIn K (.ref C_Assign) = some (.type "type"))
    (is_NoneType_Assign : PySem.W.subIn K (.type "NoneType") (.ref C_Assign) = some false)
    (a_Copy : PySem.W.nsIn K mainGlobals "Copy" = some (some (.ref C_Copy)))
    (cd_Copy : PySem.W.clsIn K C_Copy = some kd_Copy)
    (ct_Copy : PySem.W.typeIn K (.ref C_Copy) = some (.type "type"))
    (is_NoneType_Copy : PySem.W.subIn K (.type "NoneType") (.ref C_Copy) = some false)
    (a_Read : PySem.W.nsIn K mainGlobals "Read" = some (some (.ref C_Read)))
    (cd_Read : PySem.W.clsIn K C_Read = some kd_Read)
    (ct_Read : PySem.W.typeIn K (.ref C_Read) = some (.type "type"))
    (is_NoneType_Read : PySem.W.subIn K (.type "NoneType") (.ref C_Read) = some false)
    (a_Set : PySem.W.nsIn K mainGlobals "Set" = some (some (.ref C_Set)))
    (cd_Set : PySem.W.clsIn K C_Set = some kd_Set)
    (ct_Set : PySem.W.typeIn K (.ref C_Set) = some (.type "type"))
    (is_NoneType_Set : PySem.W.subIn K (.type "NoneType") (.ref C_Set) = some false)
    (cd_Statement : PySem.W.clsIn K C_Statement = some kd_Statement)
    (ct_Statement : PySem.W.typeIn K (.ref C_Statement) = some (.type "type"))
    (is_NoneType_Statement : PySem.W.subIn K (.type "NoneType") (.ref C_Statement) = some false)
    (a_Write : PySem.W.nsIn K mainGlobals "Write" = some (some (.ref C_Write)))
    (cd_Write : PySem.W.clsIn K C_Write = some kd_Write)
    (ct_Write : PySem.W.typeIn K (.ref C_Write) = some (.type "type"))
    (is_NoneType_Write : PySem.W.subIn K (.type "NoneType") (.ref C_Write) = some false)
    (is_bool_Assign : PySem.W.subIn K (.type "bool") (.ref C_Assign) = some false)
    (is_bool_Copy : PySem.W.subIn K (.type "bool") (.ref C_Copy) = some false)
    (is_bool_Read : PySem.W.subIn K (.type "bool") (.ref C_Read) = some false)
    (is_bool_Set : PySem.W.subIn K (.type "bool") (.ref C_Set) = some false)
    (is_bool_Statement : PySem.W.subIn K (.type "bool") (.ref C_Statement) = some false)
    (is_bool_Write : PySem.W.subIn K (.type "bool") (.ref C_Write) = some false)
    (is_int_Assign : PySem.W.subIn K (.type "int") (.ref C_Assign) = some false)
    (is_int_Copy : PySem.W.subIn K (.type "int") (.ref C_Copy) = some false)
    (is_int_Read : PySem.W.subIn K (.type "int") (.ref C_Read) = some false)
    (is_int_Set : PySem.W.subIn K (.type "int") (.ref C_Set) = some false)
    (is_int_Statement : PySem.W.subIn K (.type "int") (.ref C_Statement) = some false)
    (is_int_Write : PySem.W.subIn K (.type "int") (.ref C_Write) = some false)
    (is_str_Assign : PySem.W.subIn K (.type "str") (.ref C_Assign) = some false)
    (is_str_Copy : PySem.W.subIn K (.type "str") (.ref C_Copy) = some false)
    (is_str_Read : PySem.W.subIn K (.type "str") (.ref C_Read) = some false)
    (is_str_Set : PySem.W.subIn K (.type "str") (.ref C_Set) = some false)
    (is_str_Statement : PySem.W.subIn K (.type "str") (.ref C_Statement) = some false)
    (is_str_Write : PySem.W.subIn K (.type "str") (.ref C_Write) = some false)
    (is_tuple_Assign : PySem.W.subIn K (.type "tuple") (.ref C_Assign) = some false)
    (is_tuple_Copy : PySem.W.subIn K (.type "tuple") (.ref C_Copy) = some false)
    (is_tuple_Read : PySem.W.subIn K (.type "tuple") (.ref C_Read) = some false)
    (is_tuple_Set : PySem.W.subIn K (.type "tuple") (.ref C_Set) = some false)
    (is_tuple_Statement : PySem.W.subIn K (.type "tuple") (.ref C_Statement) = some false)
    (is_tuple_Write : PySem.W.subIn K (.type "tuple") (.ref C_Write) = some false)
    (is_list_Assign : PySem.W.subIn K (.type "list") (.ref C_Assign) = some false)
    (is_list_Copy : PySem.W.subIn K (.type "list") (.ref C_Copy) = some false)
    (is_list_Read : PySem.W.subIn K (.type "list") (.ref C_Read) = some false)
    (is_list_Set : PySem.W.subIn K (.type "list") (.ref C_Set) = some false)
    (is_list_Statement : PySem.W.subIn K (.type "list") (.ref C_Statement) = some false)
    (is_list_Write : PySem.W.subIn K (.type "list") (.ref C_Write) = some false)
    (pg_Set : PySem.W.plainGet K C_Set Str.empty = true)
    (hd_Set : PySem.W.hasDictIn K C_Set = true)
    (po_Set : PySem.W.plainOver K C_Set = true)
    (sa_Set : PySem.W.findIn K (.ref C_Set) "__setattr__" = some (some (.builtin "object.__setattr__")))
    (ia_Set : PySem.W.findIn K (.ref C_Set) "__class__" = some (some (.builtin "object.__class__")))
    (ig : PySem.W.specialIn K (.builtin "object.__class__") "__get__" = some (some (.builtin "getset_descriptor.__get__")))
    (it : PySem.W.takesIn K (.builtin "object.__class__") = some true)
    (im_Set : PySem.W.mroIn K C_Set (.type "object") = some true)
    (is_Set_bool : PySem.W.subIn K (.ref C_Set) (.type "bool") = some false)
    (is_Set_int : PySem.W.subIn K (.ref C_Set) (.type "int") = some false)
    (is_Set_str : PySem.W.subIn K (.ref C_Set) (.type "str") = some false)
    (is_Set_Set : PySem.W.subIn K (.ref C_Set) (.ref C_Set) = some true)
    (is_Set_Assign : PySem.W.subIn K (.ref C_Set) (.ref C_Assign) = some true)
    (is_Set_Copy : PySem.W.subIn K (.ref C_Set) (.ref C_Copy) = some false)
    (is_Set_Read : PySem.W.subIn K (.ref C_Set) (.ref C_Read) = some false)
    (is_Set_Statement : PySem.W.subIn K (.ref C_Set) (.ref C_Statement) = some true)
    (is_Set_Write : PySem.W.subIn K (.ref C_Set) (.ref C_Write) = some false)
    (pg_Copy : PySem.W.plainGet K C_Copy Str.empty = true)
    (hd_Copy : PySem.W.hasDictIn K C_Copy = true)
    (po_Copy : PySem.W.plainOver K C_Copy = true)
    (sa_Copy : PySem.W.findIn K (.ref C_Copy) "__setattr__" = some (some (.builtin "object.__setattr__")))
    (ia_Copy : PySem.W.findIn K (.ref C_Copy) "__class__" = some (some (.builtin "object.__class__")))
    (im_Copy : PySem.W.mroIn K C_Copy (.type "object") = some true)
    (is_Copy_bool : PySem.W.subIn K (.ref C_Copy) (.type "bool") = some false)
    (is_Copy_int : PySem.W.subIn K (.ref C_Copy) (.type "int") = some false)
    (is_Copy_str : PySem.W.subIn K (.ref C_Copy) (.type "str") = some false)
    (is_Copy_Copy : PySem.W.subIn K (.ref C_Copy) (.ref C_Copy) = some true)
    (is_Copy_Assign : PySem.W.subIn K (.ref C_Copy) (.ref C_Assign) = some true)
    (is_Copy_Read : PySem.W.subIn K (.ref C_Copy) (.ref C_Read) = some false)
    (is_Copy_Set : PySem.W.subIn K (.ref C_Copy) (.ref C_Set) = some false)
    (is_Copy_Statement : PySem.W.subIn K (.ref C_Copy) (.ref C_Statement) = some true)
    (is_Copy_Write : PySem.W.subIn K (.ref C_Copy) (.ref C_Write) = some false)
    (pg_Read : PySem.W.plainGet K C_Read Str.empty = true)
    (hd_Read : PySem.W.hasDictIn K C_Read = true)
    (po_Read : PySem.W.plainOver K C_Read = true)
    (sa_Read : PySem.W.findIn K (.ref C_Read) "__setattr__" = some (some (.builtin "object.__setattr__")))
    (ia_Read : PySem.W.findIn K (.ref C_Read) "__class__" = some (some (.builtin "object.__class__")))
    (im_Read : PySem.W.mroIn K C_Read (.type "object") = some true)
    (is_Read_bool : PySem.W.subIn K (.ref C_Read) (.type "bool") = some false)
    (is_Read_int : PySem.W.subIn K (.ref C_Read) (.type "int") = some false)
    (is_Read_str : PySem.W.subIn K (.ref C_Read) (.type "str") = some false)
    (is_Read_Read : PySem.W.subIn K (.ref C_Read) (.ref C_Read) = some true)
    (is_Read_Assign : PySem.W.subIn K (.ref C_Read) (.ref C_Assign) = some true)
    (is_Read_Copy : PySem.W.subIn K (.ref C_Read) (.ref C_Copy) = some false)
    (is_Read_Set : PySem.W.subIn K (.ref C_Read) (.ref C_Set) = some false)
    (is_Read_Statement : PySem.W.subIn K (.ref C_Read) (.ref C_Statement) = some true)
    (is_Read_Write : PySem.W.subIn K (.ref C_Read) (.ref C_Write) = some false)
    (pg_Write : PySem.W.plainGet K C_Write Str.empty = true)
    (hd_Write : PySem.W.hasDictIn K C_Write = true)
    (po_Write : PySem.W.plainOver K C_Write = true)
    (sa_Write : PySem.W.findIn K (.ref C_Write) "__setattr__" = some (some (.builtin "object.__setattr__")))
    (ia_Write : PySem.W.findIn K (.ref C_Write) "__class__" = some (some (.builtin "object.__class__")))
    (im_Write : PySem.W.mroIn K C_Write (.type "object") = some true)
    (is_Write_bool : PySem.W.subIn K (.ref C_Write) (.type "bool") = some false)
    (is_Write_int : PySem.W.subIn K (.ref C_Write) (.type "int") = some false)
    (is_Write_str : PySem.W.subIn K (.ref C_Write) (.type "str") = some false)
    (is_Write_Write : PySem.W.subIn K (.ref C_Write) (.ref C_Write) = some true)
    (is_Write_Assign : PySem.W.subIn K (.ref C_Write) (.ref C_Assign) = some false)
    (is_Write_Copy : PySem.W.subIn K (.ref C_Write) (.ref C_Copy) = some false)
    (is_Write_Read : PySem.W.subIn K (.ref C_Write) (.ref C_Read) = some false)
    (is_Write_Set : PySem.W.subIn K (.ref C_Write) (.ref C_Set) = some false)
    (is_Write_Statement : PySem.W.subIn K (.ref C_Write) (.ref C_Statement) = some true)
    (z_isinstance : PySem.W.nsIn K mainGlobals "isinstance" = some none)
    (z_str : PySem.W.nsIn K mainGlobals "str" = some none)
    (v_MOST_LETTERS : PySem.W.nsIn K mainGlobals "MOST_LETTERS" = some (some (.int 8 t_M_MOST_LETTERS)))
    (z_all : PySem.W.nsIn K mainGlobals "all" = some none)
    (v_LETTERS : PySem.W.nsIn K mainGlobals "LETTERS" = some (some (.str "abcdefghijklmnopqrstuvwxyz" t_M_LETTERS)))
    (a_is_name : PySem.W.nsIn K mainGlobals "is_name" = some (some (.ref f_is_name)))
    (l_is_name : K.lookup f_is_name = some ⟨oc_is_name, od_is_name, .func (PySem.W.fnOf "is_name" "is_name" (defArgs st_is_name) (defBody st_is_name) (defScope st_is_name) .none kV_is_name dc_is_name pm_is_name an_is_name cd_is_name ct_is_name), sl_is_name⟩)
    (c_is_name : PySem.W.codeIn K cd_is_name "is_name" = true)
    (k_is_name : PySem.W.keepIn K (.ref f_is_name) = true)
    (a_must_be_name : PySem.W.nsIn K mainGlobals "must_be_name" = some (some (.ref f_must_be_name)))
    (l_must_be_name : K.lookup f_must_be_name = some ⟨oc_must_be_name, od_must_be_name, .func (PySem.W.fnOf "must_be_name" "must_be_name" (defArgs st_must_be_name) (defBody st_must_be_name) (defScope st_must_be_name) .none kV_must_be_name dc_must_be_name pm_must_be_name an_must_be_name cd_must_be_name ct_must_be_name), sl_must_be_name⟩)
    (c_must_be_name : PySem.W.codeIn K cd_must_be_name "must_be_name" = true)
    (k_must_be_name : PySem.W.keepIn K (.ref f_must_be_name) = true)
    (n_Set_target : PySem.W.findIn K (.ref C_Set) "target" = some none)
    (n_Copy_target : PySem.W.findIn K (.ref C_Copy) "target" = some none)
    (n_Read_target : PySem.W.findIn K (.ref C_Read) "target" = some none)
    (z_bool : PySem.W.nsIn K mainGlobals "bool" = some none)
    (a_is_integer : PySem.W.nsIn K mainGlobals "is_integer" = some (some (.ref f_is_integer)))
    (l_is_integer : K.lookup f_is_integer = some ⟨oc_is_integer, od_is_integer, .func (PySem.W.fnOf "is_integer" "is_integer" (defArgs st_is_integer) (defBody st_is_integer) (defScope st_is_integer) .none kV_is_integer dc_is_integer pm_is_integer an_is_integer cd_is_integer ct_is_integer), sl_is_integer⟩)
    (c_is_integer : PySem.W.codeIn K cd_is_integer "is_integer" = true)
    (k_is_integer : PySem.W.keepIn K (.ref f_is_integer) = true)
    (v_MOST_VALUE : PySem.W.nsIn K mainGlobals "MOST_VALUE" = some (some (.int 999999 t_M_MOST_VALUE)))
    (a_is_value : PySem.W.nsIn K mainGlobals "is_value" = some (some (.ref f_is_value)))
    (l_is_value : K.lookup f_is_value = some ⟨oc_is_value, od_is_value, .func (PySem.W.fnOf "is_value" "is_value" (defArgs st_is_value) (defBody st_is_value) (defScope st_is_value) .none kV_is_value dc_is_value pm_is_value an_is_value cd_is_value ct_is_value), sl_is_value⟩)
    (c_is_value : PySem.W.codeIn K cd_is_value "is_value" = true)
    (k_is_value : PySem.W.keepIn K (.ref f_is_value) = true)
    (a_must_be_value : PySem.W.nsIn K mainGlobals "must_be_value" = some (some (.ref f_must_be_value)))
    (l_must_be_value : K.lookup f_must_be_value = some ⟨oc_must_be_value, od_must_be_value, .func (PySem.W.fnOf "must_be_value" "must_be_value" (defArgs st_must_be_value) (defBody st_must_be_value) (defScope st_must_be_value) .none kV_must_be_value dc_must_be_value pm_must_be_value an_must_be_value cd_must_be_value ct_must_be_value), sl_must_be_value⟩)
    (c_must_be_value : PySem.W.codeIn K cd_must_be_value "must_be_value" = true)
    (k_must_be_value : PySem.W.keepIn K (.ref f_must_be_value) = true)
    (co_Set_OPERATORS : PySem.W.findIn K (.ref C_Set) "OPERATORS" = some (some (.ref a_Statement_OPERATORS)))
    (cg_Statement_OPERATORS : PySem.W.specialIn K (.ref a_Statement_OPERATORS) "__get__" = some none)
    (co_Copy_OPERATORS : PySem.W.findIn K (.ref C_Copy) "OPERATORS" = some (some (.ref a_Statement_OPERATORS)))
    (co_Read_OPERATORS : PySem.W.findIn K (.ref C_Read) "OPERATORS" = some (some (.ref a_Statement_OPERATORS)))
    (co_Write_OPERATORS : PySem.W.findIn K (.ref C_Write) "OPERATORS" = some (some (.ref a_Statement_OPERATORS)))
    (n_Set_left : PySem.W.findIn K (.ref C_Set) "left" = some none)
    (n_Set_op : PySem.W.findIn K (.ref C_Set) "op" = some none)
    (n_Set_right : PySem.W.findIn K (.ref C_Set) "right" = some none)
    (mk_Set : PySem.W.makesIn K C_Set = true)
    (kc_Set : PySem.W.keepIn K (.ref C_Set) = true)
    (mi_Set : PySem.W.findIn K (.ref C_Set) "__init__" = some (some (.ref f_Set___init__)))
    (mf_Set___init__ : PySem.W.isFn K (.ref f_Set___init__) = true)
    (l_Set___init__ : K.lookup f_Set___init__ = some ⟨oc_Set___init__, od_Set___init__, .func (PySem.W.ksFn "__init__" "Set.__init__" (defArgs st_Set___init__) (defBody st_Set___init__) (defScope st_Set___init__) .none .none dc_Set___init__ pm_Set___init__ an_Set___init__ (.ref cda_Set___init__) ct_Set___init__ cc_Set___init__), sl_Set___init__⟩)
    (c_Set___init__ : PySem.W.codeIn K (.ref cda_Set___init__) "Set.__init__" = true)
    (sc1_Set___init__ : K.lookup cda_Set___init__ = some ⟨ccl_Set___init__, cdd_Set___init__, .fields vs_Set___init__, ccs_Set___init__⟩)
    (sc2_Set___init__ : vs_Set___init__[2]? = some (.str fi_Set___init__ tf_Set___init__))
    (sc3_Set___init__ : ((P.main.file : Str) == fi_Set___init__) = true)
    (sc4_Set___init__ : K.lookup cc_Set___init__ = some ⟨el_Set___init__, eld_Set___init__, .cell (some (.ref D_Set___init__)), esl_Set___init__⟩)
    (sc5_Set___init__ : PySem.W.clsIn K D_Set___init__ = some cdD_Set___init__)
    (sc6_Set : PySem.W.mroIn K C_Set (.ref D_Set___init__) = some true)
    (sc7_Set : PySem.W.ks_superIn K C_Set D_Set___init__ "__init__" = some (some (.ref f_Assign___init__)))
    (sc8_Assign___init__ : PySem.W.typeIn K (.ref f_Assign___init__) = some (.type "function"))
    (sc9_Assign___init__ : PySem.W.fnIn K f_Assign___init__ = true)
    (z_super : PySem.W.nsIn K mainGlobals "super" = some none)
    (zst : PySem.W.nsIn K PySem.cStatics "thirdparty.any" = some none)
    (ztop : (P.main.scope.names.lookup ("super" : Str)).isSome = false)
    (n_Copy_value : PySem.W.findIn K (.ref C_Copy) "value" = some none)
    (mk_Copy : PySem.W.makesIn K C_Copy = true)
    (kc_Copy : PySem.W.keepIn K (.ref C_Copy) = true)
    (mi_Copy : PySem.W.findIn K (.ref C_Copy) "__init__" = some (some (.ref f_Copy___init__)))
    (mf_Copy___init__ : PySem.W.isFn K (.ref f_Copy___init__) = true)
    (l_Copy___init__ : K.lookup f_Copy___init__ = some ⟨oc_Copy___init__, od_Copy___init__, .func (PySem.W.ksFn "__init__" "Copy.__init__" (defArgs st_Copy___init__) (defBody st_Copy___init__) (defScope st_Copy___init__) .none .none dc_Copy___init__ pm_Copy___init__ an_Copy___init__ (.ref cda_Copy___init__) ct_Copy___init__ cc_Copy___init__), sl_Copy___init__⟩)
    (c_Copy___init__ : PySem.W.codeIn K (.ref cda_Copy___init__) "Copy.__init__" = true)
    (sc1_Copy___init__ : K.lookup cda_Copy___init__ = some ⟨ccl_Copy___init__, cdd_Copy___init__, .fields vs_Copy___init__, ccs_Copy___init__⟩)
    (sc2_Copy___init__ : vs_Copy___init__[2]? = some (.str fi_Copy___init__ tf_Copy___init__))
    (sc3_Copy___init__ : ((P.main.file : Str) == fi_Copy___init__) = true)
    (sc4_Copy___init__ : K.lookup cc_Copy___init__ = some ⟨el_Copy___init__, eld_Copy___init__, .cell (some (.ref D_Copy___init__)), esl_Copy___init__⟩)
    (sc5_Copy___init__ : PySem.W.clsIn K D_Copy___init__ = some cdD_Copy___init__)
    (sc6_Copy : PySem.W.mroIn K C_Copy (.ref D_Copy___init__) = some true)
    (sc7_Copy : PySem.W.ks_superIn K C_Copy D_Copy___init__ "__init__" = some (some (.ref f_Assign___init__)))
    (mk_Read : PySem.W.makesIn K C_Read = true)
    (kc_Read : PySem.W.keepIn K (.ref C_Read) = true)
    (mi_Read : PySem.W.findIn K (.ref C_Read) "__init__" = some (some (.ref f_Assign___init__)))
    (mf_Assign___init__ : PySem.W.isFn K (.ref f_Assign___init__) = true)
    (n_Write_value : PySem.W.findIn K (.ref C_Write) "value" = some none)
    (mk_Write : PySem.W.makesIn K C_Write = true)
    (kc_Write : PySem.W.keepIn K (.ref C_Write) = true)
    (mi_Write : PySem.W.findIn K (.ref C_Write) "__init__" = some (some (.ref f_Write___init__)))
    (mf_Write___init__ : PySem.W.isFn K (.ref f_Write___init__) = true)
    (l_Write___init__ : K.lookup f_Write___init__ = some ⟨oc_Write___init__, od_Write___init__, .func (PySem.W.fnOf "__init__" "Write.__init__" (defArgs st_Write___init__) (defBody st_Write___init__) (defScope st_Write___init__) .none kV_Write___init__ dc_Write___init__ pm_Write___init__ an_Write___init__ cd_Write___init__ ct_Write___init__), sl_Write___init__⟩)
    (c_Write___init__ : PySem.W.codeIn K cd_Write___init__ "Write.__init__" = true)
    (k_Write___init__ : PySem.W.keepIn K (.ref f_Write___init__) = true)
    (a__law_made : PySem.W.nsIn K mainGlobals "_law_made" = some (some (.ref f__law_made)))
    (l__law_made : K.lookup f__law_made = some ⟨oc__law_made, od__law_made, .func (PySem.W.fnOf "_law_made" "_law_made" (defArgs st__law_made) (defBody st__law_made) (defScope st__law_made) .none kV__law_made dc__law_made pm__law_made an__law_made cd__law_made ct__law_made), sl__law_made⟩)
    (c__law_made : PySem.W.codeIn K cd__law_made "_law_made" = true)
    (k__law_made : PySem.W.keepIn K (.ref f__law_made) = true)
    (z_zip : PySem.W.nsIn K mainGlobals "zip" = some none)
    (a__law_statement_text : PySem.W.nsIn K mainGlobals "_law_statement_text" = some (some (.ref f__law_statement_text)))
    (l__law_statement_text : K.lookup f__law_statement_text = some ⟨oc__law_statement_text, od__law_statement_text, .func (PySem.W.fnOf "_law_statement_text" "_law_statement_text" (defArgs st__law_statement_text) (defBody st__law_statement_text) (defScope st__law_statement_text) .none kV__law_statement_text dc__law_statement_text pm__law_statement_text an__law_statement_text cd__law_statement_text ct__law_statement_text), sl__law_statement_text⟩)
    (c__law_statement_text : PySem.W.codeIn K cd__law_statement_text "_law_statement_text" = true)
    (k__law_statement_text : PySem.W.keepIn K (.ref f__law_statement_text) = true)
    (pa_Set_words : PySem.W.findIn K (.ref C_Set) "words" = some (some (.ref p_Set_words)))
    (pg_Set_words : PySem.W.specialIn K (.ref p_Set_words) "__get__" = some (some (.builtin "property.__get__")))
    (pt_Set_words : PySem.W.takesIn K (.ref p_Set_words) = some true)
    (pr_Set_words_ : PySem.W.recIn K p_Set_words "property" = some (.ref f_Set_words :: pr_Set_words))
    (pa_Copy_words : PySem.W.findIn K (.ref C_Copy) "words" = some (some (.ref p_Copy_words)))
    (pg_Copy_words : PySem.W.specialIn K (.ref p_Copy_words) "__get__" = some (some (.builtin "property.__get__")))
    (pt_Copy_words : PySem.W.takesIn K (.ref p_Copy_words) = some true)
    (pr_Copy_words_ : PySem.W.recIn K p_Copy_words "property" = some (.ref f_Copy_words :: pr_Copy_words))
    (pa_Read_words : PySem.W.findIn K (.ref C_Read) "words" = some (some (.ref p_Read_words)))
    (pg_Read_words : PySem.W.specialIn K (.ref p_Read_words) "__get__" = some (some (.builtin "property.__get__")))
    (pt_Read_words : PySem.W.takesIn K (.ref p_Read_words) = some true)
    (pr_Read_words_ : PySem.W.recIn K p_Read_words "property" = some (.ref f_Read_words :: pr_Read_words))
    (pa_Write_words : PySem.W.findIn K (.ref C_Write) "words" = some (some (.ref p_Write_words)))
    (pg_Write_words : PySem.W.specialIn K (.ref p_Write_words) "__get__" = some (some (.builtin "property.__get__")))
    (pt_Write_words : PySem.W.takesIn K (.ref p_Write_words) = some true)
    (pr_Write_words_ : PySem.W.recIn K p_Write_words "property" = some (.ref f_Write_words :: pr_Write_words))
    (co_Set_WORD : PySem.W.findIn K (.ref C_Set) "WORD" = some (some (.str "set" t_Set_WORD)))
    (cg_Set_WORD : PySem.W.specialIn K (.str "set" t_Set_WORD) "__get__" = some none)
    (co_Copy_WORD : PySem.W.findIn K (.ref C_Copy) "WORD" = some (some (.str "copy" t_Copy_WORD)))
    (cg_Copy_WORD : PySem.W.specialIn K (.str "copy" t_Copy_WORD) "__get__" = some none)
    (co_Read_WORD : PySem.W.findIn K (.ref C_Read) "WORD" = some (some (.str "read" t_Read_WORD)))
    (cg_Read_WORD : PySem.W.specialIn K (.str "read" t_Read_WORD) "__get__" = some none)
    (co_Write_WORD : PySem.W.findIn K (.ref C_Write) "WORD" = some (some (.str "write" t_Write_WORD)))
    (cg_Write_WORD : PySem.W.specialIn K (.str "write" t_Write_WORD) "__get__" = some none)
    (pa_Set_text : PySem.W.findIn K (.ref C_Set) "text" = some (some (.ref p_Statement_text)))
    (pg_Statement_text : PySem.W.specialIn K (.ref p_Statement_text) "__get__" = some (some (.builtin "property.__get__")))
    (pt_Statement_text : PySem.W.takesIn K (.ref p_Statement_text) = some true)
    (pr_Statement_text_ : PySem.W.recIn K p_Statement_text "property" = some (.ref f_Statement_text :: pr_Statement_text))
    (pa_Copy_text : PySem.W.findIn K (.ref C_Copy) "text" = some (some (.ref p_Statement_text)))
    (pa_Read_text : PySem.W.findIn K (.ref C_Read) "text" = some (some (.ref p_Statement_text)))
    (pa_Write_text : PySem.W.findIn K (.ref C_Write) "text" = some (some (.ref p_Statement_text)))
    (z_repr : PySem.W.nsIn K mainGlobals "repr" = some none)
    (a__law_alike : PySem.W.nsIn K mainGlobals "_law_alike" = some (some (.ref f__law_alike)))
    (l__law_alike : K.lookup f__law_alike = some ⟨oc__law_alike, od__law_alike, .func (PySem.W.fnOf "_law_alike" "_law_alike" (defArgs st__law_alike) (defBody st__law_alike) (defScope st__law_alike) .none kV__law_alike dc__law_alike pm__law_alike an__law_alike cd__law_alike ct__law_alike), sl__law_alike⟩)
    (c__law_alike : PySem.W.codeIn K cd__law_alike "_law_alike" = true)
    (k__law_alike : PySem.W.keepIn K (.ref f__law_alike) = true)
    (a__law_attributes : PySem.W.nsIn K mainGlobals "_law_attributes" = some (some (.ref f__law_attributes)))
    (l__law_attributes : K.lookup f__law_attributes = some ⟨oc__law_attributes, od__law_attributes, .func (PySem.W.fnOf "_law_attributes" "_law_attributes" (defArgs st__law_attributes) (defBody st__law_attributes) (defScope st__law_attributes) .none kV__law_attributes dc__law_attributes pm__law_attributes an__law_attributes cd__law_attributes ct__law_attributes), sl__law_attributes⟩)
    (c__law_attributes : PySem.W.codeIn K cd__law_attributes "_law_attributes" = true)
    (k__law_attributes : PySem.W.keepIn K (.ref f__law_attributes) = true)
    (v_MOST_DIGITS : PySem.W.nsIn K mainGlobals "MOST_DIGITS" = some (some (.int 6 t_M_MOST_DIGITS)))
    (v_DIGITS : PySem.W.nsIn K mainGlobals "DIGITS" = some (some (.str "0123456789" t_M_DIGITS)))
    (a_value_of : PySem.W.nsIn K mainGlobals "value_of" = some (some (.ref f_value_of)))
    (l_value_of : K.lookup f_value_of = some ⟨oc_value_of, od_value_of, .func (PySem.W.fnOf "value_of" "value_of" (defArgs st_value_of) (defBody st_value_of) (defScope st_value_of) .none kV_value_of dc_value_of pm_value_of an_value_of cd_value_of ct_value_of), sl_value_of⟩)
    (c_value_of : PySem.W.codeIn K cd_value_of "value_of" = true)
    (k_value_of : PySem.W.keepIn K (.ref f_value_of) = true)
    (a_statement_in : PySem.W.nsIn K mainGlobals "statement_in" = some (some (.ref f_statement_in)))
    (l_statement_in : K.lookup f_statement_in = some ⟨oc_statement_in, od_statement_in, .func (PySem.W.fnOf "statement_in" "statement_in" (defArgs st_statement_in) (defBody st_statement_in) (defScope st_statement_in) .none kV_statement_in dc_statement_in pm_statement_in an_statement_in cd_statement_in ct_statement_in), sl_statement_in⟩)
    (c_statement_in : PySem.W.codeIn K cd_statement_in "statement_in" = true)
    (k_statement_in : PySem.W.keepIn K (.ref f_statement_in) = true)
    (ga_Statement : PySem.W.specialIn K (.ref C_Statement) "__getattribute__" = some (some (.builtin "type.__getattribute__")))
    (st1_Statement_read : PySem.W.findCls K (.ref C_Statement) (.type "type") "read" = some (.get (.builtin "staticmethod.__get__") (.ref p_Statement_read) .none (.ref C_Statement)))
    (st2_Statement_read : PySem.W.recIn K p_Statement_read "staticmethod" = some (.ref f_Statement_read :: pr_Statement_read))
    (a__law_classes : PySem.W.nsIn K mainGlobals "_law_classes" = some (some (.ref f__law_classes)))
    (l__law_classes : K.lookup f__law_classes = some ⟨oc__law_classes, od__law_classes, .func (PySem.W.fnOf "_law_classes" "_law_classes" (defArgs st__law_classes) (defBody st__law_classes) (defScope st__law_classes) .none kV__law_classes dc__law_classes pm__law_classes an__law_classes cd__law_classes ct__law_classes), sl__law_classes⟩)
    (c__law_classes : PySem.W.codeIn K cd__law_classes "_law_classes" = true)
    (k__law_classes : PySem.W.keepIn K (.ref f__law_classes) = true)
    (a__law_due : PySem.W.nsIn K mainGlobals "_law_due" = some (some (.ref f__law_due)))
    (l__law_due : K.lookup f__law_due = some ⟨oc__law_due, od__law_due, .func (PySem.W.fnOf "_law_due" "_law_due" (defArgs st__law_due) (defBody st__law_due) (defScope st__law_due) .none kV__law_due dc__law_due pm__law_due an__law_due cd__law_due ct__law_due), sl__law_due⟩)
    (c__law_due : PySem.W.codeIn K cd__law_due "_law_due" = true)
    (k__law_due : PySem.W.keepIn K (.ref f__law_due) = true)
    (eq_Set : PySem.W.findIn K (.ref C_Set) "__eq__" = some (some (.ref f_Statement___eq__)))
    (ef_Statement___eq__ : PySem.W.isFn K (.ref f_Statement___eq__) = true)
    (ne_Set : PySem.W.findIn K (.ref C_Set) "__ne__" = some (some (.builtin "object.__ne__")))
    (eq_Copy : PySem.W.findIn K (.ref C_Copy) "__eq__" = some (some (.ref f_Statement___eq__)))
    (ne_Copy : PySem.W.findIn K (.ref C_Copy) "__ne__" = some (some (.builtin "object.__ne__")))
    (eq_Read : PySem.W.findIn K (.ref C_Read) "__eq__" = some (some (.ref f_Statement___eq__)))
    (ne_Read : PySem.W.findIn K (.ref C_Read) "__ne__" = some (some (.builtin "object.__ne__")))
    (eq_Write : PySem.W.findIn K (.ref C_Write) "__eq__" = some (some (.ref f_Statement___eq__)))
    (ne_Write : PySem.W.findIn K (.ref C_Write) "__ne__" = some (some (.builtin "object.__ne__")))
    (nf_Set_NoneType : PySem.W.notFirst K C_Set (.type "NoneType") = true)
    (nf_Set_int : PySem.W.notFirst K C_Set (.type "int") = true)
    (nf_Set_str : PySem.W.notFirst K C_Set (.type "str") = true)
    (nf_Set_Set : PySem.W.notFirst K C_Set (.ref C_Set) = true)
    (nf_Set_Copy : PySem.W.notFirst K C_Set (.ref C_Copy) = true)
    (nf_Set_Read : PySem.W.notFirst K C_Set (.ref C_Read) = true)
    (nf_Set_Write : PySem.W.notFirst K C_Set (.ref C_Write) = true)
    (nf_Copy_NoneType : PySem.W.notFirst K C_Copy (.type "NoneType") = true)
    (nf_Copy_int : PySem.W.notFirst K C_Copy (.type "int") = true)
    (nf_Copy_str : PySem.W.notFirst K C_Copy (.type "str") = true)
    (nf_Copy_Set : PySem.W.notFirst K C_Copy (.ref C_Set) = true)
    (nf_Copy_Copy : PySem.W.notFirst K C_Copy (.ref C_Copy) = true)
    (nf_Copy_Read : PySem.W.notFirst K C_Copy (.ref C_Read) = true)
    (nf_Copy_Write : PySem.W.notFirst K C_Copy (.ref C_Write) = true)
    (nf_Read_NoneType : PySem.W.notFirst K C_Read (.type "NoneType") = true)
    (nf_Read_int : PySem.W.notFirst K C_Read (.type "int") = true)
    (nf_Read_str : PySem.W.notFirst K C_Read (.type "str") = true)
    (nf_Read_Set : PySem.W.notFirst K C_Read (.ref C_Set) = true)
    (nf_Read_Copy : PySem.W.notFirst K C_Read (.ref C_Copy) = true)
    (nf_Read_Read : PySem.W.notFirst K C_Read (.ref C_Read) = true)
    (nf_Read_Write : PySem.W.notFirst K C_Read (.ref C_Write) = true)
    (nf_Write_NoneType : PySem.W.notFirst K C_Write (.type "NoneType") = true)
    (nf_Write_int : PySem.W.notFirst K C_Write (.type "int") = true)
    (nf_Write_str : PySem.W.notFirst K C_Write (.type "str") = true)
    (nf_Write_Set : PySem.W.notFirst K C_Write (.ref C_Set) = true)
    (nf_Write_Copy : PySem.W.notFirst K C_Write (.ref C_Copy) = true)
    (nf_Write_Read : PySem.W.notFirst K C_Write (.ref C_Read) = true)
    (nf_Write_Write : PySem.W.notFirst K C_Write (.ref C_Write) = true)
    (pa_Set_expression : PySem.W.findIn K (.ref C_Set) "expression" = some (some (.ref p_Set_expression)))
    (pg_Set_expression : PySem.W.specialIn K (.ref p_Set_expression) "__get__" = some (some (.builtin "property.__get__")))
    (pt_Set_expression : PySem.W.takesIn K (.ref p_Set_expression) = some true)
    (pr_Set_expression_ : PySem.W.recIn K p_Set_expression "property" = some (.ref f_Set_expression :: pr_Set_expression))
    (a_law : PySem.W.nsIn K mainGlobals "law" = some (some (.ref f_law)))
    (l_law : K.lookup f_law = some ⟨oc_law, od_law, .func (PySem.W.fnOf "law" "law" (defArgs st_law) (defBody st_law) (defScope st_law) .none kV_law dc_law pm_law an_law cd_law ct_law), sl_law⟩)
    (c_law : PySem.W.codeIn K cd_law "law" = true)
    (k_law : PySem.W.keepIn K (.ref f_law) = true)
    (tl_Statement_OPERATORS : K.lookup a_Statement_OPERATORS = some ⟨.type "tuple", dd_Statement_OPERATORS, .seq #[.str "add" t_Statement_OPERATORS_0, .str "sub" t_Statement_OPERATORS_1, .str "mul" t_Statement_OPERATORS_2] nn_Statement_OPERATORS, sl_Statement_OPERATORS⟩)
    (l_Assign___init__ : K.lookup f_Assign___init__ = some ⟨oc_Assign___init__, od_Assign___init__, .func (PySem.W.fnOf "__init__" "Assign.__init__" (defArgs st_Assign___init__) (defBody st_Assign___init__) (defScope st_Assign___init__) .none kV_Assign___init__ dc_Assign___init__ pm_Assign___init__ an_Assign___init__ cd_Assign___init__ ct_Assign___init__), sl_Assign___init__⟩)
    (c_Assign___init__ : PySem.W.codeIn K cd_Assign___init__ "Assign.__init__" = true)
    (k_Assign___init__ : PySem.W.keepIn K (.ref f_Assign___init__) = true)
    (l_Set_words : K.lookup f_Set_words = some ⟨oc_Set_words, od_Set_words, .func (PySem.W.fnOf "words" "Set.words" (defArgs st_Set_words) (defBody st_Set_words) (defScope st_Set_words) .none kV_Set_words dc_Set_words pm_Set_words an_Set_words cd_Set_words ct_Set_words), sl_Set_words⟩)
    (c_Set_words : PySem.W.codeIn K cd_Set_words "Set.words" = true)
    (k_Set_words : PySem.W.keepIn K (.ref f_Set_words) = true)
    (l_Copy_words : K.lookup f_Copy_words = some ⟨oc_Copy_words, od_Copy_words, .func (PySem.W.fnOf "words" "Copy.words" (defArgs st_Copy_words) (defBody st_Copy_words) (defScope st_Copy_words) .none kV_Copy_words dc_Copy_words pm_Copy_words an_Copy_words cd_Copy_words ct_Copy_words), sl_Copy_words⟩)
    (c_Copy_words : PySem.W.codeIn K cd_Copy_words "Copy.words" = true)
    (k_Copy_words : PySem.W.keepIn K (.ref f_Copy_words) = true)
    (l_Read_words : K.lookup f_Read_words = some ⟨oc_Read_words, od_Read_words, .func (PySem.W.fnOf "words" "Read.words" (defArgs st_Read_words) (defBody st_Read_words) (defScope st_Read_words) .none kV_Read_words dc_Read_words pm_Read_words an_Read_words cd_Read_words ct_Read_words), sl_Read_words⟩)
    (c_Read_words : PySem.W.codeIn K cd_Read_words "Read.words" = true)
    (k_Read_words : PySem.W.keepIn K (.ref f_Read_words) = true)
    (l_Write_words : K.lookup f_Write_words = some ⟨oc_Write_words, od_Write_words, .func (PySem.W.fnOf "words" "Write.words" (defArgs st_Write_words) (defBody st_Write_words) (defScope st_Write_words) .none kV_Write_words dc_Write_words pm_Write_words an_Write_words cd_Write_words ct_Write_words), sl_Write_words⟩)
    (c_Write_words : PySem.W.codeIn K cd_Write_words "Write.words" = true)
    (k_Write_words : PySem.W.keepIn K (.ref f_Write_words) = true)
    (l_Statement_text : K.lookup f_Statement_text = some ⟨oc_Statement_text, od_Statement_text, .func (PySem.W.fnOf "text" "Statement.text" (defArgs st_Statement_text) (defBody st_Statement_text) (defScope st_Statement_text) .none kV_Statement_text dc_Statement_text pm_Statement_text an_Statement_text cd_Statement_text ct_Statement_text), sl_Statement_text⟩)
    (c_Statement_text : PySem.W.codeIn K cd_Statement_text "Statement.text" = true)
    (k_Statement_text : PySem.W.keepIn K (.ref f_Statement_text) = true)
    (l_Statement_read : K.lookup f_Statement_read = some ⟨oc_Statement_read, od_Statement_read, .func (PySem.W.fnOf "read" "Statement.read" (defArgs st_Statement_read) (defBody st_Statement_read) (defScope st_Statement_read) .none kV_Statement_read dc_Statement_read pm_Statement_read an_Statement_read cd_Statement_read ct_Statement_read), sl_Statement_read⟩)
    (c_Statement_read : PySem.W.codeIn K cd_Statement_read "Statement.read" = true)
    (k_Statement_read : PySem.W.keepIn K (.ref f_Statement_read) = true)
    (l_Statement___eq__ : K.lookup f_Statement___eq__ = some ⟨oc_Statement___eq__, od_Statement___eq__, .func (PySem.W.fnOf "__eq__" "Statement.__eq__" (defArgs st_Statement___eq__) (defBody st_Statement___eq__) (defScope st_Statement___eq__) .none kV_Statement___eq__ dc_Statement___eq__ pm_Statement___eq__ an_Statement___eq__ cd_Statement___eq__ ct_Statement___eq__), sl_Statement___eq__⟩)
    (c_Statement___eq__ : PySem.W.codeIn K cd_Statement___eq__ "Statement.__eq__" = true)
    (k_Statement___eq__ : PySem.W.keepIn K (.ref f_Statement___eq__) = true)
    (l_Set_expression : K.lookup f_Set_expression = some ⟨oc_Set_expression, od_Set_expression, .func (PySem.W.fnOf "expression" "Set.expression" (defArgs st_Set_expression) (defBody st_Set_expression) (defScope st_Set_expression) .none kV_Set_expression dc_Set_expression pm_Set_expression an_Set_expression cd_Set_expression ct_Set_expression), sl_Set_expression⟩)
    (c_Set_expression : PySem.W.codeIn K cd_Set_expression "Set.expression" = true)
    (k_Set_expression : PySem.W.keepIn K (.ref f_Set_expression) = true) :
    ∃ (fd : FuncData) (cl : String → Addr), (∀ (s : Shared) (v : Value), BindsTo s fd ⟨[v], []⟩ [("_law_script", v)]) ∧ ∀ base : Heap, K.In base → base.Ns mainGlobals mg → FnG P w K mg base 8 fa fd ["_law_script"] (spOf (⟨K, cl⟩ : G) d_law 1) := by
  have e := hfa.symm.trans (PySem.W.mg_of X Gn a_law)
  cases e
  let cl : String → Addr := fun c => if c = "Statement" then C_Statement else if c = "Assign" then C_Assign else if c = "Copy" then C_Copy else if c = "Read" then C_Read else if c = "Set" then C_Set else if c = "Write" then C_Write else 0
  have T : Txt P K mg cl := {
    m_Statement := PySem.W.mg_of X Gn a_Statement
    ccon_Statement_OPERATORS := ⟨rd_Statement, .ref a_Statement_OPERATORS, _, cc_Statement_OPERATORS, rfl, rv_ref, fun _ _ => .tup (.inr ⟨_, _, _, tl_Statement_OPERATORS, rfl, rfl, (by show 3 ≤ sizeLine; decide), .cons (rv_str (l := [97, 100, 100]) (by decide +kernel)) (.cons (rv_str (l := [115, 117, 98]) (by decide +kernel)) (.cons (rv_str (l := [109, 117, 108]) (by decide +kernel)) (.nil)))⟩) (.cons (.str [97, 100, 100]) (.cons (.str [115, 117, 98]) (.cons (.str [109, 117, 108]) (.nil))))⟩
    none_range := PySem.W.mg_none_of X Gn z_range
    none_len := PySem.W.mg_none_of X Gn z_len
    none_int := PySem.W.mg_none_of X Gn z_int
    none_abs := PySem.W.mg_none_of X Gn z_abs
    fun__law_pile := .mk' (PySem.W.mg_of X Gn a__law_pile) l__law_pile c__law_pile k__law_pile (fun _ _ _ _ _ _ us hl => match us, hl with | [_, _], _ => rfl)
    fun__law_mixed := .mk' (PySem.W.mg_of X Gn a__law_mixed) l__law_mixed c__law_mixed k__law_mixed (fun _ _ _ _ _ _ us hl => match us, hl with | [_, _], _ => rfl)
    fun__law_take := .mk' (PySem.W.mg_of X Gn a__law_take) l__law_take c__law_take k__law_take (fun _ _ _ _ _ _ us hl => match us, hl with | [_, _], _ => rfl)
    fun__law_drawn_word := .mk' (PySem.W.mg_of X Gn a__law_drawn_word) l__law_drawn_word c__law_drawn_word k__law_drawn_word (fun _ _ _ _ _ _ us hl => match us, hl with | [_], _ => rfl)
    fun__law_drawn_value := .mk' (PySem.W.mg_of X Gn a__law_drawn_value) l__law_drawn_value c__law_drawn_value k__law_drawn_value (fun _ _ _ _ _ _ us hl => match us, hl with | [_], _ => rfl)
    fun__law_any_statement := .mk' (PySem.W.mg_of X Gn a__law_any_statement) l__law_any_statement c__law_any_statement k__law_any_statement (fun _ _ _ _ _ _ us hl => match us, hl with | [_], _ => rfl)
    m_Assign := PySem.W.mg_of X Gn a_Assign
    isi_NoneType_Assign := kit_bo cd_Assign ct_Assign is_NoneType_Assign
    m_Copy := PySem.W.mg_of X Gn a_Copy
    isi_NoneType_Copy := kit_bo cd_Copy ct_Copy is_NoneType_Copy
    m_Read := PySem.W.mg_of X Gn a_Read
    isi_NoneType_Read := kit_bo cd_Read ct_Read is_NoneType_Read
    m_Set := PySem.W.mg_of X Gn a_Set
    isi_NoneType_Set := kit_bo cd_Set ct_Set is_NoneType_Set
    isi_NoneType_Statement := kit_bo cd_Statement ct_Statement is_NoneType_Statement
    m_Write := PySem.W.mg_of X Gn a_Write
    isi_NoneType_Write := kit_bo cd_Write ct_Write is_NoneType_Write
    isi_bool_Assign := kit_bo cd_Assign ct_Assign is_bool_Assign
    isi_bool_Copy := kit_bo cd_Copy ct_Copy is_bool_Copy
    isi_bool_Read := kit_bo cd_Read ct_Read is_bool_Read
    isi_bool_Set := kit_bo cd_Set ct_Set is_bool_Set
    isi_bool_Statement := kit_bo cd_Statement ct_Statement is_bool_Statement
    isi_bool_Write := kit_bo cd_Write ct_Write is_bool_Write
    isi_int_Assign := kit_bo cd_Assign ct_Assign is_int_Assign
    isi_int_Copy := kit_bo cd_Copy ct_Copy is_int_Copy
    isi_int_Read := kit_bo cd_Read ct_Read is_int_Read
    isi_int_Set := kit_bo cd_Set ct_Set is_int_Set
    isi_int_Statement := kit_bo cd_Statement ct_Statement is_int_Statement
    isi_int_Write := kit_bo cd_Write ct_Write is_int_Write
    isi_str_Assign := kit_bo cd_Assign ct_Assign is_str_Assign
    isi_str_Copy := kit_bo cd_Copy ct_Copy is_str_Copy
    isi_str_Read := kit_bo cd_Read ct_Read is_str_Read
    isi_str_Set := kit_bo cd_Set ct_Set is_str_Set
    isi_str_Statement := kit_bo cd_Statement ct_Statement is_str_Statement
    isi_str_Write := kit_bo cd_Write ct_Write is_str_Write
    isi_tuple_Assign := kit_bo cd_Assign ct_Assign is_tuple_Assign
    isi_tuple_Copy := kit_bo cd_Copy ct_Copy is_tuple_Copy
    isi_tuple_Read := kit_bo cd_Read ct_Read is_tuple_Read
    isi_tuple_Set := kit_bo cd_Set ct_Set is_tuple_Set
    isi_tuple_Statement := kit_bo cd_Statement ct_Statement is_tuple_Statement
    isi_tuple_Write := kit_bo cd_Write ct_Write is_tuple_Write
    isi_list_Assign := kit_bo cd_Assign ct_Assign is_list_Assign
    isi_list_Copy := kit_bo cd_Copy ct_Copy is_list_Copy
    isi_list_Read := kit_bo cd_Read ct_Read is_list_Read
    isi_list_Set := kit_bo cd_Set ct_Set is_list_Set
    isi_list_Statement := kit_bo cd_Statement ct_Statement is_list_Statement
    isi_list_Write := kit_bo cd_Write ct_Write is_list_Write
    cls_Set := ⟨pg_Set, hd_Set, po_Set, sa_Set⟩
    ins_Set := ⟨⟨pg_Set, hd_Set, po_Set, sa_Set⟩, ia_Set, ig, it, im_Set⟩
    isi_Set_bool := kit_ob (by decide +kernel) is_Set_bool
    isi_Set_int := kit_ob (by decide +kernel) is_Set_int
    isi_Set_str := kit_ob (by decide +kernel) is_Set_str
    isi_Set_Assign := kit_ot cd_Assign ct_Assign is_Set_Assign
    isi_Set_Copy := kit_of2 cd_Copy ct_Copy is_Set_Copy is_Set_Set
    isi_Set_Read := kit_of2 cd_Read ct_Read is_Set_Read is_Set_Set
    isi_Set_Set := kit_ot cd_Set ct_Set is_Set_Set
    isi_Set_Statement := kit_ot cd_Statement ct_Statement is_Set_Statement
    isi_Set_Write := kit_of2 cd_Write ct_Write is_Set_Write is_Set_Set
    cls_Copy := ⟨pg_Copy, hd_Copy, po_Copy, sa_Copy⟩
    ins_Copy := ⟨⟨pg_Copy, hd_Copy, po_Copy, sa_Copy⟩, ia_Copy, ig, it, im_Copy⟩
    isi_Copy_bool := kit_ob (by decide +kernel) is_Copy_bool
    isi_Copy_int := kit_ob (by decide +kernel) is_Copy_int
    isi_Copy_str := kit_ob (by decide +kernel) is_Copy_str
    isi_Copy_Assign := kit_ot cd_Assign ct_Assign is_Copy_Assign
    isi_Copy_Copy := kit_ot cd_Copy ct_Copy is_Copy_Copy
    isi_Copy_Read := kit_of2 cd_Read ct_Read is_Copy_Read is_Copy_Copy
    isi_Copy_Set := kit_of2 cd_Set ct_Set is_Copy_Set is_Copy_Copy
    isi_Copy_Statement := kit_ot cd_Statement ct_Statement is_Copy_Statement
    isi_Copy_Write := kit_of2 cd_Write ct_Write is_Copy_Write is_Copy_Copy
    cls_Read := ⟨pg_Read, hd_Read, po_Read, sa_Read⟩
    ins_Read := ⟨⟨pg_Read, hd_Read, po_Read, sa_Read⟩, ia_Read, ig, it, im_Read⟩
    isi_Read_bool := kit_ob (by decide +kernel) is_Read_bool
    isi_Read_int := kit_ob (by decide +kernel) is_Read_int
    isi_Read_str := kit_ob (by decide +kernel) is_Read_str
    isi_Read_Assign := kit_ot cd_Assign ct_Assign is_Read_Assign
    isi_Read_Copy := kit_of2 cd_Copy ct_Copy is_Read_Copy is_Read_Read
    isi_Read_Read := kit_ot cd_Read ct_Read is_Read_Read
    isi_Read_Set := kit_of2 cd_Set ct_Set is_Read_Set is_Read_Read
    isi_Read_Statement := kit_ot cd_Statement ct_Statement is_Read_Statement
    isi_Read_Write := kit_of2 cd_Write ct_Write is_Read_Write is_Read_Read
    cls_Write := ⟨pg_Write, hd_Write, po_Write, sa_Write⟩
    ins_Write := ⟨⟨pg_Write, hd_Write, po_Write, sa_Write⟩, ia_Write, ig, it, im_Write⟩
    isi_Write_bool := kit_ob (by decide +kernel) is_Write_bool
    isi_Write_int := kit_ob (by decide +kernel) is_Write_int
    isi_Write_str := kit_ob (by decide +kernel) is_Write_str
    isi_Write_Assign := kit_of2 cd_Assign ct_Assign is_Write_Assign is_Write_Write
    isi_Write_Copy := kit_of2 cd_Copy ct_Copy is_Write_Copy is_Write_Write
    isi_Write_Read := kit_of2 cd_Read ct_Read is_Write_Read is_Write_Write
    isi_Write_Set := kit_of2 cd_Set ct_Set is_Write_Set is_Write_Write
    isi_Write_Statement := kit_ot cd_Statement ct_Statement is_Write_Statement
    isi_Write_Write := kit_ot cd_Write ct_Write is_Write_Write
    none_isinstance := PySem.W.mg_none_of X Gn z_isinstance
    none_str := PySem.W.mg_none_of X Gn z_str
    val_MOST_LETTERS := ⟨_, PySem.W.mg_of X Gn v_MOST_LETTERS, .int 8, rv_int, fun _ _ => .int _⟩
    none_all := PySem.W.mg_none_of X Gn z_all
    val_LETTERS := ⟨_, PySem.W.mg_of X Gn v_LETTERS, .str (Sh.S [97, 98, 99, 100, 101, 102, 103, 104, 105, 106, 107, 108, 109, 110, 111, 112, 113, 114, 115, 116, 117, 118, 119, 120, 121, 122]), rv_str (by decide +kernel), fun _ _ => .str [97, 98, 99, 100, 101, 102, 103, 104, 105, 106, 107, 108, 109, 110, 111, 112, 113, 114, 115, 116, 117, 118, 119, 120, 121, 122]⟩
    fun_is_name := .mk' (PySem.W.mg_of X Gn a_is_name) l_is_name c_is_name k_is_name (fun _ _ _ _ _ _ us hl => match us, hl with | [_], _ => rfl)
    fun_must_be_name := .mk' (PySem.W.mg_of X Gn a_must_be_name) l_must_be_name c_must_be_name k_must_be_name (fun _ _ _ _ _ _ us hl => match us, hl with | [_], _ => rfl)
    noa_Set_target := n_Set_target
    noa_Copy_target := n_Copy_target
    noa_Read_target := n_Read_target
    none_bool := PySem.W.mg_none_of X Gn z_bool
    fun_is_integer := .mk' (PySem.W.mg_of X Gn a_is_integer) l_is_integer c_is_integer k_is_integer (fun _ _ _ _ _ _ us hl => match us, hl with | [_], _ => rfl)
    val_MOST_VALUE := ⟨_, PySem.W.mg_of X Gn v_MOST_VALUE, .int 999999, rv_int, fun _ _ => .int _⟩
    fun_is_value := .mk' (PySem.W.mg_of X Gn a_is_value) l_is_value c_is_value k_is_value (fun _ _ _ _ _ _ us hl => match us, hl with | [_], _ => rfl)
    fun_must_be_value := .mk' (PySem.W.mg_of X Gn a_must_be_value) l_must_be_value c_must_be_value k_must_be_value (fun _ _ _ _ _ _ us hl => match us, hl with | [_], _ => rfl)
    con_Set_OPERATORS := ⟨.ref a_Statement_OPERATORS, _, ⟨co_Set_OPERATORS, rv_ref, cg_Statement_OPERATORS, by decide +kernel⟩, fun _ _ => .tup (.inr ⟨_, _, _, tl_Statement_OPERATORS, rfl, rfl, (by show 3 ≤ sizeLine; decide), .cons (rv_str (l := [97, 100, 100]) (by decide +kernel)) (.cons (rv_str (l := [115, 117, 98]) (by decide +kernel)) (.cons (rv_str (l := [109, 117, 108]) (by decide +kernel)) (.nil)))⟩) (.cons (.str [97, 100, 100]) (.cons (.str [115, 117, 98]) (.cons (.str [109, 117, 108]) (.nil))))⟩
    con_Copy_OPERATORS := ⟨.ref a_Statement_OPERATORS, _, ⟨co_Copy_OPERATORS, rv_ref, cg_Statement_OPERATORS, by decide +kernel⟩, fun _ _ => .tup (.inr ⟨_, _, _, tl_Statement_OPERATORS, rfl, rfl, (by show 3 ≤ sizeLine; decide), .cons (rv_str (l := [97, 100, 100]) (by decide +kernel)) (.cons (rv_str (l := [115, 117, 98]) (by decide +kernel)) (.cons (rv_str (l := [109, 117, 108]) (by decide +kernel)) (.nil)))⟩) (.cons (.str [97, 100, 100]) (.cons (.str [115, 117, 98]) (.cons (.str [109, 117, 108]) (.nil))))⟩
    con_Read_OPERATORS := ⟨.ref a_Statement_OPERATORS, _, ⟨co_Read_OPERATORS, rv_ref, cg_Statement_OPERATORS, by decide +kernel⟩, fun _ _ => .tup (.inr ⟨_, _, _, tl_Statement_OPERATORS, rfl, rfl, (by show 3 ≤ sizeLine; decide), .cons (rv_str (l := [97, 100, 100]) (by decide +kernel)) (.cons (rv_str (l := [115, 117, 98]) (by decide +kernel)) (.cons (rv_str (l := [109, 117, 108]) (by decide +kernel)) (.nil)))⟩) (.cons (.str [97, 100, 100]) (.cons (.str [115, 117, 98]) (.cons (.str [109, 117, 108]) (.nil))))⟩
    con_Write_OPERATORS := ⟨.ref a_Statement_OPERATORS, _, ⟨co_Write_OPERATORS, rv_ref, cg_Statement_OPERATORS, by decide +kernel⟩, fun _ _ => .tup (.inr ⟨_, _, _, tl_Statement_OPERATORS, rfl, rfl, (by show 3 ≤ sizeLine; decide), .cons (rv_str (l := [97, 100, 100]) (by decide +kernel)) (.cons (rv_str (l := [115, 117, 98]) (by decide +kernel)) (.cons (rv_str (l := [109, 117, 108]) (by decide +kernel)) (.nil)))⟩) (.cons (.str [97, 100, 100]) (.cons (.str [115, 117, 98]) (.cons (.str [109, 117, 108]) (.nil))))⟩
    noa_Set_left := n_Set_left
    noa_Set_op := n_Set_op
    noa_Set_right := n_Set_right
    none_super := PySem.W.mg_none_of X Gn z_super
    ztop := ztop
    mk_Set := ⟨_, _, ⟨mk_Set, mi_Set, mf_Set___init__, kc_Set⟩, ⟨⟨cda_Set___init__, cc_Set___init__, D_Set___init__, dc_Set___init__, pm_Set___init__, ct_Set___init__, oc_Set___init__, an_Set___init__, od_Set___init__, sl_Set___init__, ccl_Set___init__, cdd_Set___init__, vs_Set___init__, ccs_Set___init__, fi_Set___init__, tf_Set___init__, el_Set___init__, eld_Set___init__, esl_Set___init__, cdD_Set___init__, l_Set___init__, c_Set___init__, sc1_Set___init__, sc2_Set___init__, sc3_Set___init__, sc4_Set___init__, sc5_Set___init__, sc6_Set, sc7_Set, sc8_Assign___init__, sc9_Assign___init__⟩, PySem.W.mg_none_of X Gn z_super, zst⟩, FunIn.mk' l_Assign___init__ c_Assign___init__ k_Assign___init__ (fun _ _ _ _ _ _ us hl => match us, hl with | [_, _], _ => rfl)⟩
    noa_Copy_value := n_Copy_value
    mk_Copy := ⟨_, _, ⟨mk_Copy, mi_Copy, mf_Copy___init__, kc_Copy⟩, ⟨⟨cda_Copy___init__, cc_Copy___init__, D_Copy___init__, dc_Copy___init__, pm_Copy___init__, ct_Copy___init__, oc_Copy___init__, an_Copy___init__, od_Copy___init__, sl_Copy___init__, ccl_Copy___init__, cdd_Copy___init__, vs_Copy___init__, ccs_Copy___init__, fi_Copy___init__, tf_Copy___init__, el_Copy___init__, eld_Copy___init__, esl_Copy___init__, cdD_Copy___init__, l_Copy___init__, c_Copy___init__, sc1_Copy___init__, sc2_Copy___init__, sc3_Copy___init__, sc4_Copy___init__, sc5_Copy___init__, sc6_Copy, sc7_Copy, sc8_Assign___init__, sc9_Assign___init__⟩, PySem.W.mg_none_of X Gn z_super, zst⟩, FunIn.mk' l_Assign___init__ c_Assign___init__ k_Assign___init__ (fun _ _ _ _ _ _ us hl => match us, hl with | [_, _], _ => rfl)⟩
    mk_Read := ⟨_, ⟨mk_Read, mi_Read, mf_Assign___init__, kc_Read⟩, FunIn.mk' l_Assign___init__ c_Assign___init__ k_Assign___init__ (fun _ _ _ _ _ _ us hl => match us, hl with | [_, _], _ => rfl)⟩
    noa_Write_value := n_Write_value
    mk_Write := ⟨_, ⟨mk_Write, mi_Write, mf_Write___init__, kc_Write⟩, FunIn.mk' l_Write___init__ c_Write___init__ k_Write___init__ (fun _ _ _ _ _ _ us hl => match us, hl with | [_, _], _ => rfl)⟩
    fun__law_made := .mk' (PySem.W.mg_of X Gn a__law_made) l__law_made c__law_made k__law_made (fun _ _ _ _ _ _ us hl => match us, hl with | [_], _ => rfl)
    none_zip := PySem.W.mg_none_of X Gn z_zip
    fun__law_statement_text := .mk' (PySem.W.mg_of X Gn a__law_statement_text) l__law_statement_text c__law_statement_text k__law_statement_text (fun _ _ _ _ _ _ us hl => match us, hl with | [_], _ => rfl)
    prop_Set_words := ⟨_, _, ⟨pa_Set_words, pg_Set_words, pt_Set_words, ⟨_, pr_Set_words_⟩⟩, FunIn.mk' l_Set_words c_Set_words k_Set_words (fun _ _ _ _ _ _ us hl => match us, hl with | [_], _ => rfl)⟩
    prop_Copy_words := ⟨_, _, ⟨pa_Copy_words, pg_Copy_words, pt_Copy_words, ⟨_, pr_Copy_words_⟩⟩, FunIn.mk' l_Copy_words c_Copy_words k_Copy_words (fun _ _ _ _ _ _ us hl => match us, hl with | [_], _ => rfl)⟩
    prop_Read_words := ⟨_, _, ⟨pa_Read_words, pg_Read_words, pt_Read_words, ⟨_, pr_Read_words_⟩⟩, FunIn.mk' l_Read_words c_Read_words k_Read_words (fun _ _ _ _ _ _ us hl => match us, hl with | [_], _ => rfl)⟩
    prop_Write_words := ⟨_, _, ⟨pa_Write_words, pg_Write_words, pt_Write_words, ⟨_, pr_Write_words_⟩⟩, FunIn.mk' l_Write_words c_Write_words k_Write_words (fun _ _ _ _ _ _ us hl => match us, hl with | [_], _ => rfl)⟩
    con_Set_WORD := ⟨.str (Sh.S [115, 101, 116]), _, ⟨co_Set_WORD, rv_str (by decide +kernel), cg_Set_WORD, by decide +kernel⟩, fun _ _ => .str [115, 101, 116]⟩
    con_Copy_WORD := ⟨.str (Sh.S [99, 111, 112, 121]), _, ⟨co_Copy_WORD, rv_str (by decide +kernel), cg_Copy_WORD, by decide +kernel⟩, fun _ _ => .str [99, 111, 112, 121]⟩
    con_Read_WORD := ⟨.str (Sh.S [114, 101, 97, 100]), _, ⟨co_Read_WORD, rv_str (by decide +kernel), cg_Read_WORD, by decide +kernel⟩, fun _ _ => .str [114, 101, 97, 100]⟩
    con_Write_WORD := ⟨.str (Sh.S [119, 114, 105, 116, 101]), _, ⟨co_Write_WORD, rv_str (by decide +kernel), cg_Write_WORD, by decide +kernel⟩, fun _ _ => .str [119, 114, 105, 116, 101]⟩
    prop_Set_text := ⟨_, _, ⟨pa_Set_text, pg_Statement_text, pt_Statement_text, ⟨_, pr_Statement_text_⟩⟩, FunIn.mk' l_Statement_text c_Statement_text k_Statement_text (fun _ _ _ _ _ _ us hl => match us, hl with | [_], _ => rfl)⟩
    prop_Copy_text := ⟨_, _, ⟨pa_Copy_text, pg_Statement_text, pt_Statement_text, ⟨_, pr_Statement_text_⟩⟩, FunIn.mk' l_Statement_text c_Statement_text k_Statement_text (fun _ _ _ _ _ _ us hl => match us, hl with | [_], _ => rfl)⟩
    prop_Read_text := ⟨_, _, ⟨pa_Read_text, pg_Statement_text, pt_Statement_text, ⟨_, pr_Statement_text_⟩⟩, FunIn.mk' l_Statement_text c_Statement_text k_Statement_text (fun _ _ _ _ _ _ us hl => match us, hl with | [_], _ => rfl)⟩
    prop_Write_text := ⟨_, _, ⟨pa_Write_text, pg_Statement_text, pt_Statement_text, ⟨_, pr_Statement_text_⟩⟩, FunIn.mk' l_Statement_text c_Statement_text k_Statement_text (fun _ _ _ _ _ _ us hl => match us, hl with | [_], _ => rfl)⟩
    none_repr := PySem.W.mg_none_of X Gn z_repr
    fun__law_alike := .mk' (PySem.W.mg_of X Gn a__law_alike) l__law_alike c__law_alike k__law_alike (fun _ _ _ _ _ _ us hl => match us, hl with | [_, _], _ => rfl)
    fun__law_attributes := .mk' (PySem.W.mg_of X Gn a__law_attributes) l__law_attributes c__law_attributes k__law_attributes (fun _ _ _ _ _ _ us hl => match us, hl with | [_, _], _ => rfl)
    val_MOST_DIGITS := ⟨_, PySem.W.mg_of X Gn v_MOST_DIGITS, .int 6, rv_int, fun _ _ => .int _⟩
    val_DIGITS := ⟨_, PySem.W.mg_of X Gn v_DIGITS, .str (Sh.S [48, 49, 50, 51, 52, 53, 54, 55, 56, 57]), rv_str (by decide +kernel), fun _ _ => .str [48, 49, 50, 51, 52, 53, 54, 55, 56, 57]⟩
    fun_value_of := .mk' (PySem.W.mg_of X Gn a_value_of) l_value_of c_value_of k_value_of (fun _ _ _ _ _ _ us hl => match us, hl with | [_], _ => rfl)
    fun_statement_in := .mk' (PySem.W.mg_of X Gn a_statement_in) l_statement_in c_statement_in k_statement_in (fun _ _ _ _ _ _ us hl => match us, hl with | [_], _ => rfl)
    st_Statement_read := ⟨rd_Statement, ga_Statement, _, _, _, st1_Statement_read, st2_Statement_read, k_Statement_read, FunIn.mk' l_Statement_read c_Statement_read k_Statement_read (fun _ _ _ _ _ _ us hl => match us, hl with | [_], _ => rfl)⟩
    fun__law_classes := .mk' (PySem.W.mg_of X Gn a__law_classes) l__law_classes c__law_classes k__law_classes (fun _ _ _ _ _ _ us hl => match us, hl with | [_], _ => rfl)
    fun__law_due := .mk' (PySem.W.mg_of X Gn a__law_due) l__law_due c__law_due k__law_due (fun _ _ _ _ _ _ us hl => match us, hl with | [_], _ => rfl)
    eq_Set := ⟨_, eq_Set, ef_Statement___eq__, ne_Set, FunIn.mk' l_Statement___eq__ c_Statement___eq__ k_Statement___eq__ (fun _ _ _ _ _ _ us hl => match us, hl with | [_, _], _ => rfl)⟩
    eq_Copy := ⟨_, eq_Copy, ef_Statement___eq__, ne_Copy, FunIn.mk' l_Statement___eq__ c_Statement___eq__ k_Statement___eq__ (fun _ _ _ _ _ _ us hl => match us, hl with | [_, _], _ => rfl)⟩
    eq_Read := ⟨_, eq_Read, ef_Statement___eq__, ne_Read, FunIn.mk' l_Statement___eq__ c_Statement___eq__ k_Statement___eq__ (fun _ _ _ _ _ _ us hl => match us, hl with | [_, _], _ => rfl)⟩
    eq_Write := ⟨_, eq_Write, ef_Statement___eq__, ne_Write, FunIn.mk' l_Statement___eq__ c_Statement___eq__ k_Statement___eq__ (fun _ _ _ _ _ _ us hl => match us, hl with | [_, _], _ => rfl)⟩
    nf_Set_NoneType := nf_Set_NoneType
    nf_Set_int := nf_Set_int
    nf_Set_str := nf_Set_str
    nf_Set_Set := nf_Set_Set
    nf_Set_Copy := nf_Set_Copy
    nf_Set_Read := nf_Set_Read
    nf_Set_Write := nf_Set_Write
    nf_Copy_NoneType := nf_Copy_NoneType
    nf_Copy_int := nf_Copy_int
    nf_Copy_str := nf_Copy_str
    nf_Copy_Set := nf_Copy_Set
    nf_Copy_Copy := nf_Copy_Copy
    nf_Copy_Read := nf_Copy_Read
    nf_Copy_Write := nf_Copy_Write
    nf_Read_NoneType := nf_Read_NoneType
    nf_Read_int := nf_Read_int
    nf_Read_str := nf_Read_str
    nf_Read_Set := nf_Read_Set
    nf_Read_Copy := nf_Read_Copy
    nf_Read_Read := nf_Read_Read
    nf_Read_Write := nf_Read_Write
    nf_Write_NoneType := nf_Write_NoneType
    nf_Write_int := nf_Write_int
    nf_Write_str := nf_Write_str
    nf_Write_Set := nf_Write_Set
    nf_Write_Copy := nf_Write_Copy
    nf_Write_Read := nf_Write_Read
    nf_Write_Write := nf_Write_Write
    prop_Set_expression := ⟨_, _, ⟨pa_Set_expression, pg_Set_expression, pt_Set_expression, ⟨_, pr_Set_expression_⟩⟩, FunIn.mk' l_Set_expression c_Set_expression k_Set_expression (fun _ _ _ _ _ _ us hl => match us, hl with | [_], _ => rfl)⟩
    fun_law := .mk' (PySem.W.mg_of X Gn a_law) l_law c_law k_law (fun _ _ _ _ _ _ us hl => match us, hl with | [_], _ => rfl) }
  refine ⟨PySem.W.fnOf "law" "law" (defArgs st_law) (defBody st_law) (defScope st_law) .none kV_law dc_law pm_law an_law cd_law ct_law, cl, fun s v => .of_eq rfl, fun base _ _ => ?_⟩
  exact run_law T (fun_mk (st := st_law) l_law c_law k_law)
end K01

namespace K01
open PySem Sh
/-- the pile: digits left, a cell, a counter, a truth -/
def pileO (d c k : Int) (b : Bool) : O := .lst [.int d, .int c, .int k, .bl b]
theorem mod_abs {i j : Int} (h : 0 < j) : (i % j).natAbs < j.natAbs := by
  have h1 := Int.emod_nonneg i (by omega : j ≠ 0)
  have h2 := Int.emod_lt_of_pos i h
  omega
theorem mul_lt {i j : Int} {a b n : Nat} (h1 : i.natAbs < 2 ^ a) (h2 : j.natAbs < 2 ^ b) (h3 : a + b ≤ n) : (i * j).natAbs < 2 ^ n := by
  rw [Int.natAbs_mul]
  refine Nat.lt_of_lt_of_le (Nat.mul_lt_mul'' h1 h2) ?_
  rw [← Nat.pow_add]
  exact Nat.pow_le_pow_right (by decide) h3
theorem up {i : Int} {n : Nat} (h : i.natAbs < 2 ^ n) (hn : n ≤ 400) : i.natAbs < 2 ^ 400 := Nat.lt_of_lt_of_le h (Nat.pow_le_pow_right (by decide) hn)
theorem m31 (i j : Int) (h : j = 2147483647 ∨ j = 2147483629 ∨ j = 2147483587) : (i % j).natAbs < 2 ^ 31 := by
  have := mod_abs (i := i) (j := j) (by omega)
  have e31 : (2 : Nat) ^ 31 = 2147483648 := by decide
  omega
theorem mixed_ok (c k : Int) (m : Mem) (hk : k.natAbs < 2 ^ 60) : ∃ r : Int, d__law_mixed [.int c, .int k] m = .ok (.int r) m := by
  unfold d__law_mixed b__law_mixed
  have h1 := fun m => wMul_ok (m := m) (up (m31 c 2147483647 (.inl rfl)) (by decide)) (show (48271 : Int).natAbs < 2 ^ 400 by decide)
  have h2 := fun m => wMul_ok (m := m) (up hk (by decide)) (show (69621 : Int).natAbs < 2 ^ 400 by decide)
  have h3 := fun y m => wMul_ok (m := m) (up (m31 y 2147483647 (.inl rfl)) (by decide)) (up (m31 y 2147483647 (.inl rfl)) (by decide))
  have h4 := fun z m => wMul_ok (m := m) (up (m31 z 2147483629 (.inr (.inl rfl))) (by decide)) (up (m31 z 2147483629 (.inr (.inl rfl))) (by decide))
  simp only [List.length_cons, List.length_nil, Nat.reduceAdd, Nat.reduceEqDiff, if_true, List.map_cons, List.map_nil, Nat.reduceSub, List.replicate, List.cons_append, List.nil_append, R.bind_ok, R.bind_bad, R.nox_ok, RS.of_ok, List.getElem?_cons_zero, List.getElem?_cons_succ, List.set_cons_zero, List.set_cons_succ, Bool.not_true, Bool.not_false, Bool.false_eq_true, if_false, isNon, gSet, Int.reduceLT, Int.reduceLE, Int.reduceNeg, and_self, Nat.reduceLeDiff, Nat.reduceMul, decide_true, decide_false, Int.reduceEq, eq_self, reduceCtorEq, seq_nx, seq_rt, seq_bad, of_rt, of_nx, trd_rt, trd_nx, r_defn, r_seq, r_try, r_nil, r_expr, r_ret, r_if, r_set, r_asg, r_put, r_attr, r_var, r_c, r_bin, r_un, r_fn, r_fnL, r_call, r_make, made_ok, r_eattr, r_ixL, r_new, r_tup, r_disp, r_few, r_eif, r_eand, r_eor, r_enot, r_acons, r_anil, r_astar, r_astarL, r_val, r_tru, r_not, r_and, r_or, r_chain, r_inL, r_m1, r_joinL, r_sl, r_pno, r_pat, v_add, v_sub, v_mod, v_div, v_neg, v_lt, v_le, v_gt, v_ge, v_isN, v_notN, v_intI, v_intB, v_abs, v_strS, v_len, v_ixT, v_ixF, v_eqI, v_neI, v_eqS, v_neS, r_lcomp, r_pval, r_pseq, r_plist, r_planT, r_planS, h1, h2, h3, h4]
  exact ⟨_, rfl⟩
theorem p50 (m : Mem) : wPow (.int 10) (.int 50) m = .ok (.int (10 ^ 50)) m := wPow_ok (by decide) (by decide) (by decide)
theorem p18 (m : Mem) : wPow (.int 10) (.int 18) m = .ok (.int (10 ^ 18)) m := wPow_ok (by decide) (by decide) (by decide)
theorem p100 (m : Mem) : wMul (.int (10 ^ 50)) (.int (10 ^ 50)) m = .ok (.int (10 ^ 50 * 10 ^ 50)) m := wMul_ok (by decide) (by decide)
theorem p150 (m : Mem) : wMul (.int (10 ^ 50 * 10 ^ 50)) (.int (10 ^ 50)) m = .ok (.int (10 ^ 50 * 10 ^ 50 * 10 ^ 50)) m := wMul_ok (by decide) (by decide)
theorem at_ints {ns : List Int} {k : Int} {m : Mem} (h0 : 0 ≤ k) (h : k < (ns.length : Int)) : ∃ c, atW (ns.map W.int) k m = .ok (.int c) m := by
  have hk : k.toNat < ns.length := by omega
  have q := v_at (m := m) (atI_nat (ws := ns.map W.int) (k := k.toNat) (v := .int ns[k.toNat]) (by simp [hk]))
  have e : ((k.toNat : Nat) : Int) = k := by omega
  rw [e] at q
  exact ⟨_, q⟩
theorem at_b2 (i j : Int) (q : Bool) (m : Mem) : atW [.int i, .int j] (b2 q) m = .ok (.int (if q = true then j else i)) m := by
  cases q
  · exact v_at (atI_nat (k := 0) rfl)
  · exact v_at (atI_nat (k := 1) rfl)
theorem pos150 : (0 : Int) < 10 ^ 50 * 10 ^ 50 * 10 ^ 50 := by decide
theorem pile_ok (ns : List Int) (k : Int) (m : Mem) (h0 : 0 ≤ k) (hk : k < 1000000) : ∃ d c : Int, ∃ b : Bool, d__law_pile [.frz (ns.map .int), .int k] m = .ok (.ref m.length) (m ++ [pileO d c (97 * k) b]) := by
  unfold d__law_pile b__law_pile
  have hk30 : k.natAbs < 2 ^ 30 := by
    have : (2 : Nat) ^ 30 = 1073741824 := by decide
    omega
  have h97 : ∀ m, wMul (.int 97) (.int k) m = .ok (.int (97 * k)) m := fun m => wMul_ok (by decide) (up hk30 (by decide))
  by_cases hlt : k < (ns.length : Int)
  · obtain ⟨c, hc⟩ := at_ints (m := m) h0 hlt
    simp only [List.length_cons, List.length_nil, Nat.reduceAdd, Nat.reduceEqDiff, if_true, List.map_cons, List.map_nil, Nat.reduceSub, List.replicate, List.cons_append, List.nil_append, R.bind_ok, R.bind_bad, R.nox_ok, RS.of_ok, List.getElem?_cons_zero, List.getElem?_cons_succ, List.set_cons_zero, List.set_cons_succ, Bool.not_true, Bool.not_false, Bool.false_eq_true, if_false, isNon, gSet, Int.reduceLT, Int.reduceLE, Int.reduceNeg, and_self, Nat.reduceLeDiff, Nat.reduceMul, decide_true, decide_false, Int.reduceEq, eq_self, reduceCtorEq, seq_nx, seq_rt, seq_bad, of_rt, of_nx, trd_rt, trd_nx, r_defn, r_seq, r_try, r_nil, r_expr, r_ret, r_if, r_set, r_asg, r_put, r_attr, r_var, r_c, r_bin, r_un, r_fn, r_fnL, r_call, r_make, made_ok, r_eattr, r_ixL, r_new, r_tup, r_disp, r_few, r_eif, r_eand, r_eor, r_enot, r_acons, r_anil, r_astar, r_astarL, r_val, r_tru, r_not, r_and, r_or, r_chain, r_inL, r_m1, r_joinL, r_sl, r_pno, r_pat, v_add, v_sub, v_mod, v_div, v_neg, v_lt, v_le, v_gt, v_ge, v_isN, v_notN, v_intI, v_intB, v_abs, v_strS, v_len, v_ixT, v_ixF, v_eqI, v_neI, v_eqS, v_neS, r_lcomp, r_pval, r_pseq, r_plist, r_planT, r_planS, lenW, List.length_map, hlt, decide_true, hc, p50, p100, p150, p18, pos150, h97, at_b2]
    exact ⟨_, _, _, rfl⟩
  · simp only [List.length_cons, List.length_nil, Nat.reduceAdd, Nat.reduceEqDiff, if_true, List.map_cons, List.map_nil, Nat.reduceSub, List.replicate, List.cons_append, List.nil_append, R.bind_ok, R.bind_bad, R.nox_ok, RS.of_ok, List.getElem?_cons_zero, List.getElem?_cons_succ, List.set_cons_zero, List.set_cons_succ, Bool.not_true, Bool.not_false, Bool.false_eq_true, if_false, isNon, gSet, Int.reduceLT, Int.reduceLE, Int.reduceNeg, and_self, Nat.reduceLeDiff, Nat.reduceMul, decide_true, decide_false, Int.reduceEq, eq_self, reduceCtorEq, seq_nx, seq_rt, seq_bad, of_rt, of_nx, trd_rt, trd_nx, r_defn, r_seq, r_try, r_nil, r_expr, r_ret, r_if, r_set, r_asg, r_put, r_attr, r_var, r_c, r_bin, r_un, r_fn, r_fnL, r_call, r_make, made_ok, r_eattr, r_ixL, r_new, r_tup, r_disp, r_few, r_eif, r_eand, r_eor, r_enot, r_acons, r_anil, r_astar, r_astarL, r_val, r_tru, r_not, r_and, r_or, r_chain, r_inL, r_m1, r_joinL, r_sl, r_pno, r_pat, v_add, v_sub, v_mod, v_div, v_neg, v_lt, v_le, v_gt, v_ge, v_isN, v_notN, v_intI, v_intB, v_abs, v_strS, v_len, v_ixT, v_ixF, v_eqI, v_neI, v_eqS, v_neS, r_lcomp, r_pval, r_pseq, r_plist, r_planT, r_planS, lenW, List.length_map, hlt, decide_false, p50, p100, p150, p18, pos150, h97, at_b2]
    exact ⟨_, _, _, rfl⟩
/-- memory grows; of the old only the pile at p is written -/
structure Keep (p : Nat) (m m' : Mem) : Prop where
  le : m.length ≤ m'.length
  at_ : ∀ i o, i ≠ p → m[i]? = some o → m'[i]? = some o
  pile : ∃ d c k b, m'[p]? = some (pileO d c k b) ∧ 0 ≤ k ∧ k < 2 ^ 50
def PileAt (p : Nat) (m : Mem) (n : Int) : Prop := ∃ d c k b, m[p]? = some (pileO d c k b) ∧ 0 ≤ k ∧ k ≤ n
theorem take_ok (p : Nat) (m : Mem) (n z : Int) (h : PileAt p m z) (hz : z < 2 ^ 50) (h0 : 0 < n) (h1 : n < 1073741824) : ∃ (r : Int) (o : O), d__law_take [.ref p, .int n] m = .ok (.int r) (m.set p o) ∧ 0 ≤ r ∧ r < n ∧ PileAt p (m.set p o) (z + 1) := by
  obtain ⟨d, c, k, b, hm, hk0, hk⟩ := h
  have hp := (List.getElem?_eq_some_iff.mp hm).1
  unfold d__law_take b__law_take
  have i0 : wIx (.ref p) (.int 0) m = .ok (.int d) m := (v_ixR hm).trans (v_at (atI_nat (k := 0) rfl))
  have i2 : wIx (.ref p) (.int 2) m = .ok (.int k) m := (v_ixR hm).trans (v_at (atI_nat (k := 2) rfl))
  have hset : ∀ (j : Nat) (w : W), j < 4 → putAt m (.ref p) (.int (j : Int)) w = some (m.set p (.lst ([W.int d, .int c, .int k, .bl b].set j w))) := fun j w hj => by
    have e : L2.ixN 4 (j : Int) = some j := by
      unfold L2.ixN
      rw [if_pos (by omega), if_pos (by omega)]
      simp
    show (match m[p]? with | some (.lst ws) => (match L2.ixN ws.length (j : Int) with | some j => some (m.set p (.lst (ws.set j w))) | none => none) | _ => none) = _
    rw [hm]
    show (match L2.ixN 4 (j : Int) with | some j => some (m.set p (.lst ([W.int d, .int c, .int k, .bl b].set j w))) | none => none) = _
    rw [e]
  have s0 := hset 0 (.int (d / n)) (by decide)
  have s2 := hset 2 (.int (k + 1)) (by decide)
  by_cases hin : inW (.int d) [.int 0, .int (-1)] = true
  · have g1 : wIx (.ref p) (.int 1) (m.set p (.lst [.int d, .int c, .int (k + 1), .bl b])) = .ok (.int c) (m.set p (.lst [.int d, .int c, .int (k + 1), .bl b])) := (v_ixR (List.getElem?_set_self hp)).trans (v_at (atI_nat (k := 1) rfl))
    have g2 : wIx (.ref p) (.int 2) (m.set p (.lst [.int d, .int c, .int (k + 1), .bl b])) = .ok (.int (k + 1)) (m.set p (.lst [.int d, .int c, .int (k + 1), .bl b])) := (v_ixR (List.getElem?_set_self hp)).trans (v_at (atI_nat (k := 2) rfl))
    have e50 : (2 : Int) ^ 50 = 1125899906842624 := by decide
    have e60 : (2 : Nat) ^ 60 = 1152921504606846976 := by decide
    obtain ⟨y, hy⟩ := mixed_ok c (k + 1) (m.set p (.lst [.int d, .int c, .int (k + 1), .bl b])) (by omega)
    refine ⟨y % n, .lst [.int d, .int c, .int (k + 1), .bl b], ?_, Int.emod_nonneg _ (by omega), Int.emod_lt_of_pos _ h0, d, c, k + 1, b, List.getElem?_set_self hp, by omega, by omega⟩
    simp only [List.length_cons, List.length_nil, Nat.reduceAdd, Nat.reduceEqDiff, if_true, List.map_cons, List.map_nil, Nat.reduceSub, List.replicate, List.cons_append, List.nil_append, R.bind_ok, R.bind_bad, R.nox_ok, RS.of_ok, List.getElem?_cons_zero, List.getElem?_cons_succ, List.set_cons_zero, List.set_cons_succ, Bool.not_true, Bool.not_false, Bool.false_eq_true, if_false, isNon, gSet, Int.reduceLT, Int.reduceLE, Int.reduceNeg, and_self, Nat.reduceLeDiff, Nat.reduceMul, decide_true, decide_false, Int.reduceEq, eq_self, reduceCtorEq, seq_nx, seq_rt, seq_bad, of_rt, of_nx, trd_rt, trd_nx, r_defn, r_seq, r_try, r_nil, r_expr, r_ret, r_if, r_set, r_asg, r_put, r_attr, r_var, r_c, r_bin, r_un, r_fn, r_fnL, r_call, r_make, made_ok, r_eattr, r_ixL, r_new, r_tup, r_disp, r_few, r_eif, r_eand, r_eor, r_enot, r_acons, r_anil, r_astar, r_astarL, r_val, r_tru, r_not, r_and, r_or, r_chain, r_inL, r_m1, r_joinL, r_sl, r_pno, r_pat, v_add, v_sub, v_mod, v_div, v_neg, v_lt, v_le, v_gt, v_ge, v_isN, v_notN, v_intI, v_intB, v_abs, v_strS, v_len, v_ixT, v_ixF, v_eqI, v_neI, v_eqS, v_neS, r_lcomp, r_pval, r_pseq, r_plist, r_planT, r_planS, i0, i2, inD, flatW, List.all_cons, List.all_nil, Bool.and_self, hin]
    have s2' : putAt m (.ref p) (.int 2) (.int (k + 1)) = some (m.set p (.lst [.int d, .int c, .int (k + 1), .bl b])) := s2
    simp only [s2', List.length_cons, List.length_nil, Nat.reduceAdd, Nat.reduceEqDiff, if_true, List.map_cons, List.map_nil, Nat.reduceSub, List.replicate, List.cons_append, List.nil_append, R.bind_ok, R.bind_bad, R.nox_ok, RS.of_ok, List.getElem?_cons_zero, List.getElem?_cons_succ, List.set_cons_zero, List.set_cons_succ, Bool.not_true, Bool.not_false, Bool.false_eq_true, if_false, isNon, gSet, Int.reduceLT, Int.reduceLE, Int.reduceNeg, and_self, Nat.reduceLeDiff, Nat.reduceMul, decide_true, decide_false, Int.reduceEq, eq_self, reduceCtorEq, seq_nx, seq_rt, seq_bad, of_rt, of_nx, trd_rt, trd_nx, r_defn, r_seq, r_try, r_nil, r_expr, r_ret, r_if, r_set, r_asg, r_put, r_attr, r_var, r_c, r_bin, r_un, r_fn, r_fnL, r_call, r_make, made_ok, r_eattr, r_ixL, r_new, r_tup, r_disp, r_few, r_eif, r_eand, r_eor, r_enot, r_acons, r_anil, r_astar, r_astarL, r_val, r_tru, r_not, r_and, r_or, r_chain, r_inL, r_m1, r_joinL, r_sl, r_pno, r_pat, v_add, v_sub, v_mod, v_div, v_neg, v_lt, v_le, v_gt, v_ge, v_isN, v_notN, v_intI, v_intB, v_abs, v_strS, v_len, v_ixT, v_ixF, v_eqI, v_neI, v_eqS, v_neS, r_lcomp, r_pval, r_pseq, r_plist, r_planT, r_planS, g1, g2, hy, h0]
  · refine ⟨d % n, .lst [.int (d / n), .int c, .int k, .bl b], ?_, Int.emod_nonneg _ (by omega), Int.emod_lt_of_pos _ h0, d / n, c, k, b, List.getElem?_set_self hp, by omega, by omega⟩
    have s0' : putAt m (.ref p) (.int 0) (.int (d / n)) = some (m.set p (.lst [.int (d / n), .int c, .int k, .bl b])) := s0
    simp only [List.length_cons, List.length_nil, Nat.reduceAdd, Nat.reduceEqDiff, if_true, List.map_cons, List.map_nil, Nat.reduceSub, List.replicate, List.cons_append, List.nil_append, R.bind_ok, R.bind_bad, R.nox_ok, RS.of_ok, List.getElem?_cons_zero, List.getElem?_cons_succ, List.set_cons_zero, List.set_cons_succ, Bool.not_true, Bool.not_false, Bool.false_eq_true, if_false, isNon, gSet, Int.reduceLT, Int.reduceLE, Int.reduceNeg, and_self, Nat.reduceLeDiff, Nat.reduceMul, decide_true, decide_false, Int.reduceEq, eq_self, reduceCtorEq, seq_nx, seq_rt, seq_bad, of_rt, of_nx, trd_rt, trd_nx, r_defn, r_seq, r_try, r_nil, r_expr, r_ret, r_if, r_set, r_asg, r_put, r_attr, r_var, r_c, r_bin, r_un, r_fn, r_fnL, r_call, r_make, made_ok, r_eattr, r_ixL, r_new, r_tup, r_disp, r_few, r_eif, r_eand, r_eor, r_enot, r_acons, r_anil, r_astar, r_astarL, r_val, r_tru, r_not, r_and, r_or, r_chain, r_inL, r_m1, r_joinL, r_sl, r_pno, r_pat, v_add, v_sub, v_mod, v_div, v_neg, v_lt, v_le, v_gt, v_ge, v_isN, v_notN, v_intI, v_intB, v_abs, v_strS, v_len, v_ixT, v_ixF, v_eqI, v_neI, v_eqS, v_neS, r_lcomp, r_pval, r_pseq, r_plist, r_planT, r_planS, i0, i2, inD, flatW, List.all_cons, List.all_nil, Bool.and_self, hin, h0, h1, s0']
end K01

namespace K01
open PySem Sh
/-! ### drawn statements -/
theorem at_mem {ws : List W} {r : Int} {m : Mem} (h0 : 0 ≤ r) (h : r < (ws.length : Int)) : ∃ w, w ∈ ws ∧ atW ws r m = .ok w m := by
  have hk : r.toNat < ws.length := by omega
  have q := v_at (m := m) (atI_nat (ws := ws) (k := r.toNat) (v := ws[r.toNat]) (by simp [hk]))
  have e : ((r.toNat : Nat) : Int) = r := by omega
  rw [e] at q
  exact ⟨_, List.getElem_mem hk, q⟩
/-- memory grows; of the old only the pile at p may be written -/
structure Grow (p : Nat) (m m' : Mem) : Prop where
  le : m.length ≤ m'.length
  at_ : ∀ i, i ≠ p → i < m.length → m'[i]? = m[i]?
theorem Grow.refl {p : Nat} {m : Mem} : Grow p m m := ⟨Nat.le_refl _, fun _ _ _ => rfl⟩
theorem Grow.trans {p : Nat} {m m1 m2 : Mem} (a : Grow p m m1) (b : Grow p m1 m2) : Grow p m m2 := ⟨Nat.le_trans a.le b.le, fun i h1 h2 => (b.at_ i h1 (Nat.lt_of_lt_of_le h2 a.le)).trans (a.at_ i h1 h2)⟩
theorem Grow.app {p : Nat} {m l : Mem} : Grow p m (m ++ l) := ⟨by simp, fun i _ h => List.getElem?_append_left h⟩
theorem Grow.set {p : Nat} {m : Mem} {o : O} : Grow p m (m.set p o) := ⟨by simp, fun i h _ => List.getElem?_set_ne (Ne.symm h)⟩
theorem Grow.get {p i : Nat} {m m' : Mem} {o : O} (g : Grow p m m') (hi : i ≠ p) (h : m[i]? = some o) : m'[i]? = some o := (g.at_ i hi (List.getElem?_eq_some_iff.mp h).1).trans h
theorem PileAt.app {p : Nat} {m l : Mem} {z : Int} (h : PileAt p m z) : PileAt p (m ++ l) z := by
  obtain ⟨d, c, k, b, h1, h2⟩ := h
  exact ⟨d, c, k, b, by rw [List.getElem?_append_left (List.getElem?_eq_some_iff.mp h1).1]; exact h1, h2⟩
theorem PileAt.lt {p : Nat} {m : Mem} {z : Int} (h : PileAt p m z) : p < m.length := by
  obtain ⟨d, c, k, b, h1, h2⟩ := h
  exact (List.getElem?_eq_some_iff.mp h1).1
theorem take_g (p : Nat) (m : Mem) (n z : Int) (h : PileAt p m z) (hz : z < 1000000) (h0 : 0 < n) (h1 : n < 1073741824) : ∃ (r : Int) (m' : Mem), d__law_take [.ref p, .int n] m = .ok (.int r) m' ∧ 0 ≤ r ∧ r < n ∧ PileAt p m' (z + 1) ∧ Grow p m m' ∧ m'.length = m.length := by
  obtain ⟨r, o, h2, h3, h4, h5⟩ := take_ok p m n z h (by omega) h0 h1
  exact ⟨r, _, h2, h3, h4, h5, .set, by simp⟩
def menu : List (List Nat) := [[97], [98], [120], [115, 101, 116], [97, 100, 100], [110, 111, 110, 101], [99, 111, 112, 121], [105, 102], [106, 107, 113, 118, 119, 120, 121, 122], [114, 101, 97, 100], [104], [109, 117, 108]]
theorem word_ok (p : Nat) (m : Mem) (z : Int) (h : PileAt p m z) (hz : z < 1000000) : ∃ (l : List Nat) (m' : Mem), d__law_drawn_word [.ref p] m = .ok (.str l) m' ∧ l ∈ menu ∧ PileAt p m' (z + 1) ∧ Grow p m m' := by
  unfold d__law_drawn_word b__law_drawn_word
  obtain ⟨r, m', h1, h2, h3, h4, h5, h6⟩ := take_g p (m ++ [.lst (menu.map W.str)]) 12 z h.app hz (by decide) (by decide)
  have hn : m.length ≠ p := by have := h.lt; omega
  have hm : m'[m.length]? = some (.lst (menu.map W.str)) := h5.get hn (by simp)
  obtain ⟨w, hw, e⟩ := at_mem (ws := menu.map W.str) (m := m') h2 (by simpa [menu] using h3)
  have e2 := (v_ixR (i := r) hm).trans e
  obtain ⟨l, hl, rfl⟩ := List.mem_map.mp hw
  refine ⟨l, m', ?_, hl, h4, Grow.app.trans h5⟩
  simp only [menu, List.map_cons, List.map_nil] at h1
  simp only [List.length_cons, List.length_nil, Nat.reduceAdd, Nat.reduceEqDiff, if_true, List.map_cons, List.map_nil, Nat.reduceSub, List.replicate, List.cons_append, List.nil_append, R.bind_ok, R.bind_bad, R.nox_ok, RS.of_ok, List.getElem?_cons_zero, List.getElem?_cons_succ, List.set_cons_zero, List.set_cons_succ, Bool.not_true, Bool.not_false, Bool.false_eq_true, if_false, isNon, gSet, Int.reduceLT, Int.reduceLE, Int.reduceNeg, and_self, Nat.reduceLeDiff, Nat.reduceMul, decide_true, decide_false, Int.reduceEq, eq_self, reduceCtorEq, seq_nx, seq_rt, seq_bad, of_rt, of_nx, trd_rt, trd_nx, r_defn, r_seq, r_try, r_nil, r_expr, r_ret, r_if, r_set, r_asg, r_put, r_attr, r_var, r_c, r_bin, r_un, r_fn, r_fnL, r_call, r_make, made_ok, r_eattr, r_ixL, r_new, r_tup, r_disp, r_few, r_eif, r_eand, r_eor, r_enot, r_acons, r_anil, r_astar, r_astarL, r_val, r_tru, r_not, r_and, r_or, r_chain, r_inL, r_m1, r_joinL, r_sl, r_pno, r_pat, v_add, v_sub, v_mod, v_div, v_neg, v_lt, v_le, v_gt, v_ge, v_isN, v_notN, v_intI, v_intB, v_abs, v_strS, v_len, v_ixT, v_ixF, v_eqI, v_neI, v_eqS, v_neS, r_lcomp, r_pval, r_pseq, r_plist, r_planT, r_planS, h1, e2]
inductive Vl where | nm (l : List Nat) | nu (i : Int)
def Vl.w : Vl → W | .nm l => .str l | .nu i => .int i
def Vl.ok : Vl → Prop | .nm l => l ∈ menu | .nu i => -999999 ≤ i ∧ i ≤ 999999
theorem value_ok (p : Nat) (m : Mem) (z : Int) (h : PileAt p m z) (hz : z < 900000) : ∃ (v : Vl) (m' : Mem), d__law_drawn_value [.ref p] m = .ok v.w m' ∧ v.ok ∧ PileAt p m' (z + 4) ∧ Grow p m m' := by
  unfold d__law_drawn_value b__law_drawn_value
  obtain ⟨r1, m1, a1, a2, a3, a4, a5, a6⟩ := take_g p m 1999999 z h (by omega) (by decide) (by decide)
  obtain ⟨r2, m2, b1, b2, b3, b4, b5, b6⟩ := take_g p m1 7 (z + 1) a4 (by omega) (by decide) (by decide)
  obtain ⟨w, hw, e⟩ := at_mem (ws := [.int 0, .int 1, .int (-1), .int 7, .int 999999, .int (-999999), .int (r1 - 999999)]) (m := m2) b2 b3
  obtain ⟨l, m3, c1, c2, c3, c4⟩ := word_ok p m2 (z + 1 + 1) b4 (by omega)
  obtain ⟨r4, m4, d1, d2, d3, d4, d5, d6⟩ := take_g p m3 2 (z + 1 + 1 + 1) c3 (by omega) (by decide) (by decide)
  obtain ⟨w2, hw2, e2⟩ := at_mem (ws := [.str l, w]) (m := m4) d2 d3
  have hv : ∃ v : Vl, w2 = v.w ∧ v.ok := by
    simp only [List.mem_cons, List.not_mem_nil, or_false] at hw2 hw
    rcases hw2 with rfl | rfl
    · exact ⟨.nm l, rfl, c2⟩
    · rcases hw with rfl | rfl | rfl | rfl | rfl | rfl | rfl
      · exact ⟨.nu 0, rfl, by decide, by decide⟩
      · exact ⟨.nu 1, rfl, by decide, by decide⟩
      · exact ⟨.nu (-1), rfl, by decide, by decide⟩
      · exact ⟨.nu 7, rfl, by decide, by decide⟩
      · exact ⟨.nu 999999, rfl, by decide, by decide⟩
      · exact ⟨.nu (-999999), rfl, by decide, by decide⟩
      · exact ⟨.nu (r1 - 999999), rfl, by omega, by omega⟩
  obtain ⟨v, rfl, hv⟩ := hv
  have e4 : z + 1 + 1 + 1 + 1 = z + 4 := by omega
  refine ⟨v, m4, ?_, hv, e4 ▸ d4, ((a5.trans b5).trans c4).trans d5⟩
  simp only [List.length_cons, List.length_nil, Nat.reduceAdd, Nat.reduceEqDiff, if_true, List.map_cons, List.map_nil, Nat.reduceSub, List.replicate, List.cons_append, List.nil_append, R.bind_ok, R.bind_bad, R.nox_ok, RS.of_ok, List.getElem?_cons_zero, List.getElem?_cons_succ, List.set_cons_zero, List.set_cons_succ, Bool.not_true, Bool.not_false, Bool.false_eq_true, if_false, isNon, gSet, Int.reduceLT, Int.reduceLE, Int.reduceNeg, and_self, Nat.reduceLeDiff, Nat.reduceMul, decide_true, decide_false, Int.reduceEq, eq_self, reduceCtorEq, seq_nx, seq_rt, seq_bad, of_rt, of_nx, trd_rt, trd_nx, r_defn, r_seq, r_try, r_nil, r_expr, r_ret, r_if, r_set, r_asg, r_put, r_attr, r_var, r_c, r_bin, r_un, r_fn, r_fnL, r_call, r_make, made_ok, r_eattr, r_ixL, r_new, r_tup, r_disp, r_few, r_eif, r_eand, r_eor, r_enot, r_acons, r_anil, r_astar, r_astarL, r_val, r_tru, r_not, r_and, r_or, r_chain, r_inL, r_m1, r_joinL, r_sl, r_pno, r_pat, v_add, v_sub, v_mod, v_div, v_neg, v_lt, v_le, v_gt, v_ge, v_isN, v_notN, v_intI, v_intB, v_abs, v_strS, v_len, v_ixT, v_ixF, v_eqI, v_neI, v_eqS, v_neS, r_lcomp, r_pval, r_pseq, r_plist, r_planT, r_planS, a1, b1, e, c1, d1, e2]
inductive St where | set (x : List Nat) (a : Vl) (op : List Nat) (b : Vl) | copy (x : List Nat) (a : Vl) | read (x : List Nat) | write (a : Vl)
def ops : List (List Nat) := [[97, 100, 100], [115, 117, 98], [109, 117, 108]]
def St.ok : St → Prop
  | .set x a op b => x ∈ menu ∧ a.ok ∧ op ∈ ops ∧ b.ok
  | .copy x a => x ∈ menu ∧ a.ok
  | .read x => x ∈ menu
  | .write a => a.ok
def kSet : List Nat := [115, 101, 116]
def kCopy : List Nat := [99, 111, 112, 121]
def kRead : List Nat := [114, 101, 97, 100]
def kWrite : List Nat := [119, 114, 105, 116, 101]
def St.tup : St → W
  | .set x a op b => .tup [.str kSet, .str x, a.w, .str op, b.w]
  | .copy x a => .tup [.str kCopy, .str x, a.w]
  | .read x => .tup [.str kRead, .str x]
  | .write a => .tup [.str kWrite, a.w]
theorem any_ok (p : Nat) (m : Mem) (z : Int) (h : PileAt p m z) (hz : z < 800000) : ∃ (s : St) (m' : Mem) (z' : Int), d__law_any_statement [.ref p] m = .ok s.tup m' ∧ s.ok ∧ PileAt p m' z' ∧ z' ≤ z + 20 ∧ Grow p m m' := by
  unfold d__law_any_statement b__law_any_statement
  obtain ⟨r1, m1, a1, a2, a3, a4, a5, a6⟩ := take_g p m 4 z h (by omega) (by decide) (by decide)
  have hr : r1 = 0 ∨ r1 = 1 ∨ r1 = 2 ∨ r1 = 3 := by omega
  rcases hr with rfl | rfl | rfl | rfl
  · obtain ⟨r2, m2, b1, b2, b3, b4, b5, b6⟩ := take_g p m1 3 (z + 1) a4 (by omega) (by decide) (by decide)
    obtain ⟨w, hw, e⟩ := at_mem (ws := ops.map W.str) (m := m2) b2 (by simpa [ops] using b3)
    obtain ⟨op, hop, rfl⟩ := List.mem_map.mp hw
    obtain ⟨x, m3, c1, c2, c3, c4⟩ := word_ok p m2 _ b4 (by omega)
    obtain ⟨v, m4, d1, d2, d3, d4⟩ := value_ok p m3 _ c3 (by omega)
    obtain ⟨u, m5, e1, e2, e3, e4⟩ := value_ok p m4 _ d3 (by omega)
    refine ⟨.set x v op u, m5, _, ?_, ⟨c2, d2, hop, e2⟩, e3, by omega, (((a5.trans b5).trans c4).trans d4).trans e4⟩
    simp only [ops, List.map_cons, List.map_nil] at e
    simp only [List.length_cons, List.length_nil, Nat.reduceAdd, Nat.reduceEqDiff, if_true, List.map_cons, List.map_nil, Nat.reduceSub, List.replicate, List.cons_append, List.nil_append, R.bind_ok, R.bind_bad, R.nox_ok, RS.of_ok, List.getElem?_cons_zero, List.getElem?_cons_succ, List.set_cons_zero, List.set_cons_succ, Bool.not_true, Bool.not_false, Bool.false_eq_true, if_false, isNon, gSet, Int.reduceLT, Int.reduceLE, Int.reduceNeg, and_self, Nat.reduceLeDiff, Nat.reduceMul, decide_true, decide_false, Int.reduceEq, eq_self, reduceCtorEq, seq_nx, seq_rt, seq_bad, of_rt, of_nx, trd_rt, trd_nx, r_defn, r_seq, r_try, r_nil, r_expr, r_ret, r_if, r_set, r_asg, r_put, r_attr, r_var, r_c, r_bin, r_un, r_fn, r_fnL, r_call, r_make, made_ok, r_eattr, r_ixL, r_new, r_tup, r_disp, r_few, r_eif, r_eand, r_eor, r_enot, r_acons, r_anil, r_astar, r_astarL, r_val, r_tru, r_not, r_and, r_or, r_chain, r_inL, r_m1, r_joinL, r_sl, r_pno, r_pat, v_add, v_sub, v_mod, v_div, v_neg, v_lt, v_le, v_gt, v_ge, v_isN, v_notN, v_intI, v_intB, v_abs, v_strS, v_len, v_ixT, v_ixF, v_eqI, v_neI, v_eqS, v_neS, r_lcomp, r_pval, r_pseq, r_plist, r_planT, r_planS, a1, b1, e, c1, d1, e1, St.tup, kSet]
  · obtain ⟨x, m3, c1, c2, c3, c4⟩ := word_ok p m1 _ a4 (by omega)
    obtain ⟨v, m4, d1, d2, d3, d4⟩ := value_ok p m3 _ c3 (by omega)
    refine ⟨.copy x v, m4, _, ?_, ⟨c2, d2⟩, d3, by omega, (a5.trans c4).trans d4⟩
    simp only [List.length_cons, List.length_nil, Nat.reduceAdd, Nat.reduceEqDiff, if_true, List.map_cons, List.map_nil, Nat.reduceSub, List.replicate, List.cons_append, List.nil_append, R.bind_ok, R.bind_bad, R.nox_ok, RS.of_ok, List.getElem?_cons_zero, List.getElem?_cons_succ, List.set_cons_zero, List.set_cons_succ, Bool.not_true, Bool.not_false, Bool.false_eq_true, if_false, isNon, gSet, Int.reduceLT, Int.reduceLE, Int.reduceNeg, and_self, Nat.reduceLeDiff, Nat.reduceMul, decide_true, decide_false, Int.reduceEq, eq_self, reduceCtorEq, seq_nx, seq_rt, seq_bad, of_rt, of_nx, trd_rt, trd_nx, r_defn, r_seq, r_try, r_nil, r_expr, r_ret, r_if, r_set, r_asg, r_put, r_attr, r_var, r_c, r_bin, r_un, r_fn, r_fnL, r_call, r_make, made_ok, r_eattr, r_ixL, r_new, r_tup, r_disp, r_few, r_eif, r_eand, r_eor, r_enot, r_acons, r_anil, r_astar, r_astarL, r_val, r_tru, r_not, r_and, r_or, r_chain, r_inL, r_m1, r_joinL, r_sl, r_pno, r_pat, v_add, v_sub, v_mod, v_div, v_neg, v_lt, v_le, v_gt, v_ge, v_isN, v_notN, v_intI, v_intB, v_abs, v_strS, v_len, v_ixT, v_ixF, v_eqI, v_neI, v_eqS, v_neS, r_lcomp, r_pval, r_pseq, r_plist, r_planT, r_planS, a1, c1, d1, St.tup, kCopy]
  · obtain ⟨x, m3, c1, c2, c3, c4⟩ := word_ok p m1 _ a4 (by omega)
    refine ⟨.read x, m3, _, ?_, c2, c3, by omega, a5.trans c4⟩
    simp only [List.length_cons, List.length_nil, Nat.reduceAdd, Nat.reduceEqDiff, if_true, List.map_cons, List.map_nil, Nat.reduceSub, List.replicate, List.cons_append, List.nil_append, R.bind_ok, R.bind_bad, R.nox_ok, RS.of_ok, List.getElem?_cons_zero, List.getElem?_cons_succ, List.set_cons_zero, List.set_cons_succ, Bool.not_true, Bool.not_false, Bool.false_eq_true, if_false, isNon, gSet, Int.reduceLT, Int.reduceLE, Int.reduceNeg, and_self, Nat.reduceLeDiff, Nat.reduceMul, decide_true, decide_false, Int.reduceEq, eq_self, reduceCtorEq, seq_nx, seq_rt, seq_bad, of_rt, of_nx, trd_rt, trd_nx, r_defn, r_seq, r_try, r_nil, r_expr, r_ret, r_if, r_set, r_asg, r_put, r_attr, r_var, r_c, r_bin, r_un, r_fn, r_fnL, r_call, r_make, made_ok, r_eattr, r_ixL, r_new, r_tup, r_disp, r_few, r_eif, r_eand, r_eor, r_enot, r_acons, r_anil, r_astar, r_astarL, r_val, r_tru, r_not, r_and, r_or, r_chain, r_inL, r_m1, r_joinL, r_sl, r_pno, r_pat, v_add, v_sub, v_mod, v_div, v_neg, v_lt, v_le, v_gt, v_ge, v_isN, v_notN, v_intI, v_intB, v_abs, v_strS, v_len, v_ixT, v_ixF, v_eqI, v_neI, v_eqS, v_neS, r_lcomp, r_pval, r_pseq, r_plist, r_planT, r_planS, a1, c1, St.tup, kRead]
  · obtain ⟨v, m4, d1, d2, d3, d4⟩ := value_ok p m1 _ a4 (by omega)
    refine ⟨.write v, m4, _, ?_, d2, d3, by omega, a5.trans d4⟩
    simp only [List.length_cons, List.length_nil, Nat.reduceAdd, Nat.reduceEqDiff, if_true, List.map_cons, List.map_nil, Nat.reduceSub, List.replicate, List.cons_append, List.nil_append, R.bind_ok, R.bind_bad, R.nox_ok, RS.of_ok, List.getElem?_cons_zero, List.getElem?_cons_succ, List.set_cons_zero, List.set_cons_succ, Bool.not_true, Bool.not_false, Bool.false_eq_true, if_false, isNon, gSet, Int.reduceLT, Int.reduceLE, Int.reduceNeg, and_self, Nat.reduceLeDiff, Nat.reduceMul, decide_true, decide_false, Int.reduceEq, eq_self, reduceCtorEq, seq_nx, seq_rt, seq_bad, of_rt, of_nx, trd_rt, trd_nx, r_defn, r_seq, r_try, r_nil, r_expr, r_ret, r_if, r_set, r_asg, r_put, r_attr, r_var, r_c, r_bin, r_un, r_fn, r_fnL, r_call, r_make, made_ok, r_eattr, r_ixL, r_new, r_tup, r_disp, r_few, r_eif, r_eand, r_eor, r_enot, r_acons, r_anil, r_astar, r_astarL, r_val, r_tru, r_not, r_and, r_or, r_chain, r_inL, r_m1, r_joinL, r_sl, r_pno, r_pat, v_add, v_sub, v_mod, v_div, v_neg, v_lt, v_le, v_gt, v_ge, v_isN, v_notN, v_intI, v_intB, v_abs, v_strS, v_len, v_ixT, v_ixF, v_eqI, v_neI, v_eqS, v_neS, r_lcomp, r_pval, r_pseq, r_plist, r_planT, r_planS, a1, d1, St.tup, kWrite]
end K01

namespace K01
open PySem Sh
/-! ### statements made -/
theorem isi_si (m : Mem) (l : List Nat) : bIsi isiT [.str l, .ty "str"] m = .ok (.bl true) m := by rfl
theorem isi_is (m : Mem) (i : Int) : bIsi isiT [.int i, .ty "int"] m = .ok (.bl true) m := by rfl
theorem isi_ib (m : Mem) (i : Int) : bIsi isiT [.int i, .ty "bool"] m = .ok (.bl false) m := by rfl
theorem isi_st (m : Mem) (l : List Nat) : bIsi isiT [.str l, .ty "int"] m = .ok (.bl false) m := by rfl
theorem name_ok : ∀ l ∈ menu, ∀ m : Mem, d_is_name [.str l] m = .ok (.bl true) m := by
  unfold menu
  simp only [List.forall_mem_cons]
  exact ⟨fun m => rfl, fun m => rfl, fun m => rfl, fun m => rfl, fun m => rfl, fun m => rfl, fun m => rfl, fun m => rfl, fun m => rfl, fun m => rfl, fun m => rfl, fun m => rfl, fun l h => by cases h⟩
theorem integer_s (l : List Nat) (m : Mem) : d_is_integer [.str l] m = .ok (.bl false) m := by rfl
theorem integer_i (i : Int) (m : Mem) : d_is_integer [.int i] m = .ok (.bl true) m := by rfl
theorem val_ok (v : Vl) (h : v.ok) (m : Mem) : d_is_value [v.w] m = .ok (.bl true) m := by
  unfold d_is_value b_is_value
  cases v with
  | nm l => simp only [List.length_cons, List.length_nil, Nat.reduceAdd, Nat.reduceEqDiff, if_true, List.map_cons, List.map_nil, Nat.reduceSub, List.replicate, List.cons_append, List.nil_append, R.bind_ok, R.bind_bad, R.nox_ok, RS.of_ok, List.getElem?_cons_zero, List.getElem?_cons_succ, List.set_cons_zero, List.set_cons_succ, Bool.not_true, Bool.not_false, Bool.false_eq_true, if_false, isNon, gSet, Int.reduceLT, Int.reduceLE, Int.reduceNeg, and_self, Nat.reduceLeDiff, Nat.reduceMul, decide_true, decide_false, Int.reduceEq, eq_self, reduceCtorEq, seq_nx, seq_rt, seq_bad, of_rt, of_nx, trd_rt, trd_nx, r_defn, r_seq, r_try, r_nil, r_expr, r_ret, r_if, r_set, r_asg, r_put, r_attr, r_var, r_c, r_bin, r_un, r_fn, r_fnL, r_call, r_make, made_ok, r_eattr, r_ixL, r_new, r_tup, r_disp, r_few, r_eif, r_eand, r_eor, r_enot, r_acons, r_anil, r_astar, r_astarL, r_val, r_tru, r_not, r_and, r_or, r_chain, r_inL, r_m1, r_joinL, r_sl, r_pno, r_pat, v_add, v_sub, v_mod, v_div, v_neg, v_lt, v_le, v_gt, v_ge, v_isN, v_notN, v_intI, v_intB, v_abs, v_strS, v_len, v_ixT, v_ixF, v_eqI, v_neI, v_eqS, v_neS, r_lcomp, r_pval, r_pseq, r_plist, r_planT, r_planS, Vl.w, integer_s, name_ok l h]
  | nu i =>
    have h : -999999 ≤ i ∧ i ≤ 999999 := h
    have e : decide ((if i < 0 then -i else i) ≤ 999999) = true := by
      apply decide_eq_true
      split <;> omega
    simp only [List.length_cons, List.length_nil, Nat.reduceAdd, Nat.reduceEqDiff, if_true, List.map_cons, List.map_nil, Nat.reduceSub, List.replicate, List.cons_append, List.nil_append, R.bind_ok, R.bind_bad, R.nox_ok, RS.of_ok, List.getElem?_cons_zero, List.getElem?_cons_succ, List.set_cons_zero, List.set_cons_succ, Bool.not_true, Bool.not_false, Bool.false_eq_true, if_false, isNon, gSet, Int.reduceLT, Int.reduceLE, Int.reduceNeg, and_self, Nat.reduceLeDiff, Nat.reduceMul, decide_true, decide_false, Int.reduceEq, eq_self, reduceCtorEq, seq_nx, seq_rt, seq_bad, of_rt, of_nx, trd_rt, trd_nx, r_defn, r_seq, r_try, r_nil, r_expr, r_ret, r_if, r_set, r_asg, r_put, r_attr, r_var, r_c, r_bin, r_un, r_fn, r_fnL, r_call, r_make, made_ok, r_eattr, r_ixL, r_new, r_tup, r_disp, r_few, r_eif, r_eand, r_eor, r_enot, r_acons, r_anil, r_astar, r_astarL, r_val, r_tru, r_not, r_and, r_or, r_chain, r_inL, r_m1, r_joinL, r_sl, r_pno, r_pat, v_add, v_sub, v_mod, v_div, v_neg, v_lt, v_le, v_gt, v_ge, v_isN, v_notN, v_intI, v_intB, v_abs, v_strS, v_len, v_ixT, v_ixF, v_eqI, v_neI, v_eqS, v_neS, r_lcomp, r_pval, r_pseq, r_plist, r_planT, r_planS, Vl.w, integer_i, e]
theorem mbn_ok (l : List Nat) (h : l ∈ menu) (m : Mem) : d_must_be_name [.str l] m = .ok .non m := by
  unfold d_must_be_name b_must_be_name
  simp only [List.length_cons, List.length_nil, Nat.reduceAdd, Nat.reduceEqDiff, if_true, List.map_cons, List.map_nil, Nat.reduceSub, List.replicate, List.cons_append, List.nil_append, R.bind_ok, R.bind_bad, R.nox_ok, RS.of_ok, List.getElem?_cons_zero, List.getElem?_cons_succ, List.set_cons_zero, List.set_cons_succ, Bool.not_true, Bool.not_false, Bool.false_eq_true, if_false, isNon, gSet, Int.reduceLT, Int.reduceLE, Int.reduceNeg, and_self, Nat.reduceLeDiff, Nat.reduceMul, decide_true, decide_false, Int.reduceEq, eq_self, reduceCtorEq, seq_nx, seq_rt, seq_bad, of_rt, of_nx, trd_rt, trd_nx, r_defn, r_seq, r_try, r_nil, r_expr, r_ret, r_if, r_set, r_asg, r_put, r_attr, r_var, r_c, r_bin, r_un, r_fn, r_fnL, r_call, r_make, made_ok, r_eattr, r_ixL, r_new, r_tup, r_disp, r_few, r_eif, r_eand, r_eor, r_enot, r_acons, r_anil, r_astar, r_astarL, r_val, r_tru, r_not, r_and, r_or, r_chain, r_inL, r_m1, r_joinL, r_sl, r_pno, r_pat, v_add, v_sub, v_mod, v_div, v_neg, v_lt, v_le, v_gt, v_ge, v_isN, v_notN, v_intI, v_intB, v_abs, v_strS, v_len, v_ixT, v_ixF, v_eqI, v_neI, v_eqS, v_neS, r_lcomp, r_pval, r_pseq, r_plist, r_planT, r_planS, name_ok l h]
theorem mbv_ok (v : Vl) (h : v.ok) (m : Mem) : d_must_be_value [v.w] m = .ok .non m := by
  unfold d_must_be_value b_must_be_value
  simp only [List.length_cons, List.length_nil, Nat.reduceAdd, Nat.reduceEqDiff, if_true, List.map_cons, List.map_nil, Nat.reduceSub, List.replicate, List.cons_append, List.nil_append, R.bind_ok, R.bind_bad, R.nox_ok, RS.of_ok, List.getElem?_cons_zero, List.getElem?_cons_succ, List.set_cons_zero, List.set_cons_succ, Bool.not_true, Bool.not_false, Bool.false_eq_true, if_false, isNon, gSet, Int.reduceLT, Int.reduceLE, Int.reduceNeg, and_self, Nat.reduceLeDiff, Nat.reduceMul, decide_true, decide_false, Int.reduceEq, eq_self, reduceCtorEq, seq_nx, seq_rt, seq_bad, of_rt, of_nx, trd_rt, trd_nx, r_defn, r_seq, r_try, r_nil, r_expr, r_ret, r_if, r_set, r_asg, r_put, r_attr, r_var, r_c, r_bin, r_un, r_fn, r_fnL, r_call, r_make, made_ok, r_eattr, r_ixL, r_new, r_tup, r_disp, r_few, r_eif, r_eand, r_eor, r_enot, r_acons, r_anil, r_astar, r_astarL, r_val, r_tru, r_not, r_and, r_or, r_chain, r_inL, r_m1, r_joinL, r_sl, r_pno, r_pat, v_add, v_sub, v_mod, v_div, v_neg, v_lt, v_le, v_gt, v_ge, v_isN, v_notN, v_intI, v_intB, v_abs, v_strS, v_len, v_ixT, v_ixF, v_eqI, v_neI, v_eqS, v_neS, r_lcomp, r_pval, r_pseq, r_plist, r_planT, r_planS, val_ok v h]
abbrev fTarget : List Nat := [116, 97, 114, 103, 101, 116]
abbrev fLeft : List Nat := [108, 101, 102, 116]
abbrev fOp : List Nat := [111, 112]
abbrev fRight : List Nat := [114, 105, 103, 104, 116]
abbrev fValue : List Nat := [118, 97, 108, 117, 101]
def St.ins : St → O
  | .set x a op b => .ins "Set" [(fTarget, .str x), (fLeft, a.w), (fOp, .str op), (fRight, b.w)]
  | .copy x a => .ins "Copy" [(fTarget, .str x), (fValue, a.w)]
  | .read x => .ins "Read" [(fTarget, .str x)]
  | .write a => .ins "Write" [(fValue, a.w)]
theorem last_get {m : Mem} {o : O} : (m ++ [o])[m.length]? = some o := by simp
theorem last_set {m : Mem} {o u : O} : (m ++ [o]).set m.length u = m ++ [u] := by simp
theorem assign_ok (m : Mem) (k : String) (x : List Nat) (hk : okc_Assign_target k = true) (h : x ∈ menu) : d_Assign___init__ [.ref m.length, .str x] (m ++ [.ins k []]) = .ok .non (m ++ [.ins k [(fTarget, .str x)]]) := by
  unfold d_Assign___init__ b_Assign___init__
  simp only [List.length_cons, List.length_nil, Nat.reduceAdd, Nat.reduceEqDiff, if_true, List.map_cons, List.map_nil, Nat.reduceSub, List.replicate, List.cons_append, List.nil_append, R.bind_ok, R.bind_bad, R.nox_ok, RS.of_ok, List.getElem?_cons_zero, List.getElem?_cons_succ, List.set_cons_zero, List.set_cons_succ, Bool.not_true, Bool.not_false, Bool.false_eq_true, if_false, isNon, gSet, Int.reduceLT, Int.reduceLE, Int.reduceNeg, and_self, Nat.reduceLeDiff, Nat.reduceMul, decide_true, decide_false, Int.reduceEq, eq_self, reduceCtorEq, seq_nx, seq_rt, seq_bad, of_rt, of_nx, trd_rt, trd_nx, r_defn, r_seq, r_try, r_nil, r_expr, r_ret, r_if, r_set, r_asg, r_put, r_attr, r_var, r_c, r_bin, r_un, r_fn, r_fnL, r_call, r_make, made_ok, r_eattr, r_ixL, r_new, r_tup, r_disp, r_few, r_eif, r_eand, r_eor, r_enot, r_acons, r_anil, r_astar, r_astarL, r_val, r_tru, r_not, r_and, r_or, r_chain, r_inL, r_m1, r_joinL, r_sl, r_pno, r_pat, v_add, v_sub, v_mod, v_div, v_neg, v_lt, v_le, v_gt, v_ge, v_isN, v_notN, v_intI, v_intB, v_abs, v_strS, v_len, v_ixT, v_ixF, v_eqI, v_neI, v_eqS, v_neS, r_lcomp, r_pval, r_pseq, r_plist, r_planT, r_planS, mbn_ok x h, last_get, last_set, hk, putW, Nat.reduceLT, and_self]
theorem oL : okc_Set_left "Set" = true := by rfl
theorem oO : okc_Set_op "Set" = true := by rfl
theorem oR : okc_Set_right "Set" = true := by rfl
theorem oC : okc_Copy_value "Copy" = true := by rfl
theorem oW : okc_Write_value "Write" = true := by rfl
theorem mkSet_ok (m : Mem) (x op : List Nat) (a b : Vl) (h : (St.set x a op b).ok) : d_Set___init__ [.ref m.length, .str x, a.w, .str op, b.w] (m ++ [.ins "Set" []]) = .ok .non (m ++ [(St.set x a op b).ins]) := by
  obtain ⟨h1, h2, h3, h4⟩ := h
  unfold d_Set___init__ b_Set___init__
  have ha : attr [79, 80, 69, 82, 65, 84, 79, 82, 83] tb_OPERATORS (.ref m.length) (m ++ [.ins "Set" [(fTarget, .str x)]]) = .ok (.tup (ops.map W.str)) (m ++ [.ins "Set" [(fTarget, .str x)]]) := by
    unfold attr insOf
    simp only [last_get]
    rfl
  have hin : ∀ op ∈ ops, ∀ m : Mem, wNotIn (.str op) (.tup (ops.map W.str)) m = .ok (.bl false) m := by
    unfold ops
    simp only [List.forall_mem_cons]
    exact ⟨fun m => rfl, fun m => rfl, fun m => rfl, fun l h => by cases h⟩
  simp only [List.length_cons, List.length_nil, Nat.reduceAdd, Nat.reduceEqDiff, if_true, List.map_cons, List.map_nil, Nat.reduceSub, List.replicate, List.cons_append, List.nil_append, R.bind_ok, R.bind_bad, R.nox_ok, RS.of_ok, List.getElem?_cons_zero, List.getElem?_cons_succ, List.set_cons_zero, List.set_cons_succ, Bool.not_true, Bool.not_false, Bool.false_eq_true, if_false, isNon, gSet, Int.reduceLT, Int.reduceLE, Int.reduceNeg, and_self, Nat.reduceLeDiff, Nat.reduceMul, decide_true, decide_false, Int.reduceEq, eq_self, reduceCtorEq, seq_nx, seq_rt, seq_bad, of_rt, of_nx, trd_rt, trd_nx, r_defn, r_seq, r_try, r_nil, r_expr, r_ret, r_if, r_set, r_asg, r_put, r_attr, r_var, r_c, r_bin, r_un, r_fn, r_fnL, r_call, r_make, made_ok, r_eattr, r_ixL, r_new, r_tup, r_disp, r_few, r_eif, r_eand, r_eor, r_enot, r_acons, r_anil, r_astar, r_astarL, r_val, r_tru, r_not, r_and, r_or, r_chain, r_inL, r_m1, r_joinL, r_sl, r_pno, r_pat, v_add, v_sub, v_mod, v_div, v_neg, v_lt, v_le, v_gt, v_ge, v_isN, v_notN, v_intI, v_intB, v_abs, v_strS, v_len, v_ixT, v_ixF, v_eqI, v_neI, v_eqS, v_neS, r_lcomp, r_pval, r_pseq, r_plist, r_planT, r_planS]
  rw [r_sub rfl last_get]
  simp only [List.length_cons, List.length_nil, Nat.reduceAdd, Nat.reduceEqDiff, if_true, List.map_cons, List.map_nil, Nat.reduceSub, List.replicate, List.cons_append, List.nil_append, R.bind_ok, R.bind_bad, R.nox_ok, RS.of_ok, List.getElem?_cons_zero, List.getElem?_cons_succ, List.set_cons_zero, List.set_cons_succ, Bool.not_true, Bool.not_false, Bool.false_eq_true, if_false, isNon, gSet, Int.reduceLT, Int.reduceLE, Int.reduceNeg, and_self, Nat.reduceLeDiff, Nat.reduceMul, decide_true, decide_false, Int.reduceEq, eq_self, reduceCtorEq, seq_nx, seq_rt, seq_bad, of_rt, of_nx, trd_rt, trd_nx, r_defn, r_seq, r_try, r_nil, r_expr, r_ret, r_if, r_set, r_asg, r_put, r_attr, r_var, r_c, r_bin, r_un, r_fn, r_fnL, r_call, r_make, made_ok, r_eattr, r_ixL, r_new, r_tup, r_disp, r_few, r_eif, r_eand, r_eor, r_enot, r_acons, r_anil, r_astar, r_astarL, r_val, r_tru, r_not, r_and, r_or, r_chain, r_inL, r_m1, r_joinL, r_sl, r_pno, r_pat, v_add, v_sub, v_mod, v_div, v_neg, v_lt, v_le, v_gt, v_ge, v_isN, v_notN, v_intI, v_intB, v_abs, v_strS, v_len, v_ixT, v_ixF, v_eqI, v_neI, v_eqS, v_neS, r_lcomp, r_pval, r_pseq, r_plist, r_planT, r_planS, assign_ok m "Set" x rfl h1, mbv_ok a h2, mbv_ok b h4, isi_si, ha, hin op h3, last_get, last_set, putW, Nat.reduceLT, and_self, and_true, oL, oO, oR, fTarget, List.cons.injEq, Nat.reduceEqDiff, false_and, and_false, Nat.reduceAdd]
  rfl
theorem mkCopy_ok (m : Mem) (x : List Nat) (a : Vl) (h : (St.copy x a).ok) : d_Copy___init__ [.ref m.length, .str x, a.w] (m ++ [.ins "Copy" []]) = .ok .non (m ++ [(St.copy x a).ins]) := by
  obtain ⟨h1, h2⟩ := h
  unfold d_Copy___init__ b_Copy___init__
  simp only [List.length_cons, List.length_nil, Nat.reduceAdd, Nat.reduceEqDiff, if_true, List.map_cons, List.map_nil, Nat.reduceSub, List.replicate, List.cons_append, List.nil_append, R.bind_ok, R.bind_bad, R.nox_ok, RS.of_ok, List.getElem?_cons_zero, List.getElem?_cons_succ, List.set_cons_zero, List.set_cons_succ, Bool.not_true, Bool.not_false, Bool.false_eq_true, if_false, isNon, gSet, Int.reduceLT, Int.reduceLE, Int.reduceNeg, and_self, Nat.reduceLeDiff, Nat.reduceMul, decide_true, decide_false, Int.reduceEq, eq_self, reduceCtorEq, seq_nx, seq_rt, seq_bad, of_rt, of_nx, trd_rt, trd_nx, r_defn, r_seq, r_try, r_nil, r_expr, r_ret, r_if, r_set, r_asg, r_put, r_attr, r_var, r_c, r_bin, r_un, r_fn, r_fnL, r_call, r_make, made_ok, r_eattr, r_ixL, r_new, r_tup, r_disp, r_few, r_eif, r_eand, r_eor, r_enot, r_acons, r_anil, r_astar, r_astarL, r_val, r_tru, r_not, r_and, r_or, r_chain, r_inL, r_m1, r_joinL, r_sl, r_pno, r_pat, v_add, v_sub, v_mod, v_div, v_neg, v_lt, v_le, v_gt, v_ge, v_isN, v_notN, v_intI, v_intB, v_abs, v_strS, v_len, v_ixT, v_ixF, v_eqI, v_neI, v_eqS, v_neS, r_lcomp, r_pval, r_pseq, r_plist, r_planT, r_planS]
  rw [r_sub rfl last_get]
  simp only [List.length_cons, List.length_nil, Nat.reduceAdd, Nat.reduceEqDiff, if_true, List.map_cons, List.map_nil, Nat.reduceSub, List.replicate, List.cons_append, List.nil_append, R.bind_ok, R.bind_bad, R.nox_ok, RS.of_ok, List.getElem?_cons_zero, List.getElem?_cons_succ, List.set_cons_zero, List.set_cons_succ, Bool.not_true, Bool.not_false, Bool.false_eq_true, if_false, isNon, gSet, Int.reduceLT, Int.reduceLE, Int.reduceNeg, and_self, Nat.reduceLeDiff, Nat.reduceMul, decide_true, decide_false, Int.reduceEq, eq_self, reduceCtorEq, seq_nx, seq_rt, seq_bad, of_rt, of_nx, trd_rt, trd_nx, r_defn, r_seq, r_try, r_nil, r_expr, r_ret, r_if, r_set, r_asg, r_put, r_attr, r_var, r_c, r_bin, r_un, r_fn, r_fnL, r_call, r_make, made_ok, r_eattr, r_ixL, r_new, r_tup, r_disp, r_few, r_eif, r_eand, r_eor, r_enot, r_acons, r_anil, r_astar, r_astarL, r_val, r_tru, r_not, r_and, r_or, r_chain, r_inL, r_m1, r_joinL, r_sl, r_pno, r_pat, v_add, v_sub, v_mod, v_div, v_neg, v_lt, v_le, v_gt, v_ge, v_isN, v_notN, v_intI, v_intB, v_abs, v_strS, v_len, v_ixT, v_ixF, v_eqI, v_neI, v_eqS, v_neS, r_lcomp, r_pval, r_pseq, r_plist, r_planT, r_planS, assign_ok m "Copy" x rfl h1, mbv_ok a h2, last_get, last_set, putW, Nat.reduceLT, and_self, and_true, oC, fTarget, List.cons.injEq, Nat.reduceEqDiff, false_and, and_false, Nat.reduceAdd]
  rfl
theorem mkWrite_ok (m : Mem) (a : Vl) (h : a.ok) : d_Write___init__ [.ref m.length, a.w] (m ++ [.ins "Write" []]) = .ok .non (m ++ [(St.write a).ins]) := by
  unfold d_Write___init__ b_Write___init__
  simp only [List.length_cons, List.length_nil, Nat.reduceAdd, Nat.reduceEqDiff, if_true, List.map_cons, List.map_nil, Nat.reduceSub, List.replicate, List.cons_append, List.nil_append, R.bind_ok, R.bind_bad, R.nox_ok, RS.of_ok, List.getElem?_cons_zero, List.getElem?_cons_succ, List.set_cons_zero, List.set_cons_succ, Bool.not_true, Bool.not_false, Bool.false_eq_true, if_false, isNon, gSet, Int.reduceLT, Int.reduceLE, Int.reduceNeg, and_self, Nat.reduceLeDiff, Nat.reduceMul, decide_true, decide_false, Int.reduceEq, eq_self, reduceCtorEq, seq_nx, seq_rt, seq_bad, of_rt, of_nx, trd_rt, trd_nx, r_defn, r_seq, r_try, r_nil, r_expr, r_ret, r_if, r_set, r_asg, r_put, r_attr, r_var, r_c, r_bin, r_un, r_fn, r_fnL, r_call, r_make, made_ok, r_eattr, r_ixL, r_new, r_tup, r_disp, r_few, r_eif, r_eand, r_eor, r_enot, r_acons, r_anil, r_astar, r_astarL, r_val, r_tru, r_not, r_and, r_or, r_chain, r_inL, r_m1, r_joinL, r_sl, r_pno, r_pat, v_add, v_sub, v_mod, v_div, v_neg, v_lt, v_le, v_gt, v_ge, v_isN, v_notN, v_intI, v_intB, v_abs, v_strS, v_len, v_ixT, v_ixF, v_eqI, v_neI, v_eqS, v_neS, r_lcomp, r_pval, r_pseq, r_plist, r_planT, r_planS, mbv_ok a h, last_get, last_set, putW, Nat.reduceLT, and_self, and_true, oW]
  rfl
theorem at0 {w : W} {ws : List W} {m : Mem} : atW (w :: ws) 0 m = .ok w m := v_at (atI_nat (k := 0) rfl)
theorem at1 {x w : W} {ws : List W} {m : Mem} : atW (x :: w :: ws) 1 m = .ok w m := v_at (atI_nat (k := 1) rfl)
theorem at2 {x y w : W} {ws : List W} {m : Mem} : atW (x :: y :: w :: ws) 2 m = .ok w m := v_at (atI_nat (k := 2) rfl)
theorem at3 {x y z w : W} {ws : List W} {m : Mem} : atW (x :: y :: z :: w :: ws) 3 m = .ok w m := v_at (atI_nat (k := 3) rfl)
theorem at4 {x y z u w : W} {ws : List W} {m : Mem} : atW (x :: y :: z :: u :: w :: ws) 4 m = .ok w m := v_at (atI_nat (k := 4) rfl)
theorem made_ok' (s : St) (h : s.ok) (m : Mem) : d__law_made [s.tup] m = .ok (.ref m.length) (m ++ [s.ins]) := by
  unfold d__law_made b__law_made
  cases s with
  | set x a op b =>
    have q := mkSet_ok m x op a b h
    simp only [List.length_cons, List.length_nil, Nat.reduceAdd, Nat.reduceEqDiff, if_true, List.map_cons, List.map_nil, Nat.reduceSub, List.replicate, List.cons_append, List.nil_append, R.bind_ok, R.bind_bad, R.nox_ok, RS.of_ok, List.getElem?_cons_zero, List.getElem?_cons_succ, List.set_cons_zero, List.set_cons_succ, Bool.not_true, Bool.not_false, Bool.false_eq_true, if_false, isNon, gSet, Int.reduceLT, Int.reduceLE, Int.reduceNeg, and_self, Nat.reduceLeDiff, Nat.reduceMul, decide_true, decide_false, Int.reduceEq, eq_self, reduceCtorEq, seq_nx, seq_rt, seq_bad, of_rt, of_nx, trd_rt, trd_nx, r_defn, r_seq, r_try, r_nil, r_expr, r_ret, r_if, r_set, r_asg, r_put, r_attr, r_var, r_c, r_bin, r_un, r_fn, r_fnL, r_call, r_make, made_ok, r_eattr, r_ixL, r_new, r_tup, r_disp, r_few, r_eif, r_eand, r_eor, r_enot, r_acons, r_anil, r_astar, r_astarL, r_val, r_tru, r_not, r_and, r_or, r_chain, r_inL, r_m1, r_joinL, r_sl, r_pno, r_pat, v_add, v_sub, v_mod, v_div, v_neg, v_lt, v_le, v_gt, v_ge, v_isN, v_notN, v_intI, v_intB, v_abs, v_strS, v_len, v_ixT, v_ixF, v_eqI, v_neI, v_eqS, v_neS, r_lcomp, r_pval, r_pseq, r_plist, r_planT, r_planS, St.tup, kSet, at0, at1, at2, at3, at4, q]
  | copy x a =>
    have q := mkCopy_ok m x a h
    simp only [List.length_cons, List.length_nil, Nat.reduceAdd, Nat.reduceEqDiff, if_true, List.map_cons, List.map_nil, Nat.reduceSub, List.replicate, List.cons_append, List.nil_append, R.bind_ok, R.bind_bad, R.nox_ok, RS.of_ok, List.getElem?_cons_zero, List.getElem?_cons_succ, List.set_cons_zero, List.set_cons_succ, Bool.not_true, Bool.not_false, Bool.false_eq_true, if_false, isNon, gSet, Int.reduceLT, Int.reduceLE, Int.reduceNeg, and_self, Nat.reduceLeDiff, Nat.reduceMul, decide_true, decide_false, Int.reduceEq, eq_self, reduceCtorEq, seq_nx, seq_rt, seq_bad, of_rt, of_nx, trd_rt, trd_nx, r_defn, r_seq, r_try, r_nil, r_expr, r_ret, r_if, r_set, r_asg, r_put, r_attr, r_var, r_c, r_bin, r_un, r_fn, r_fnL, r_call, r_make, made_ok, r_eattr, r_ixL, r_new, r_tup, r_disp, r_few, r_eif, r_eand, r_eor, r_enot, r_acons, r_anil, r_astar, r_astarL, r_val, r_tru, r_not, r_and, r_or, r_chain, r_inL, r_m1, r_joinL, r_sl, r_pno, r_pat, v_add, v_sub, v_mod, v_div, v_neg, v_lt, v_le, v_gt, v_ge, v_isN, v_notN, v_intI, v_intB, v_abs, v_strS, v_len, v_ixT, v_ixF, v_eqI, v_neI, v_eqS, v_neS, r_lcomp, r_pval, r_pseq, r_plist, r_planT, r_planS, St.tup, kCopy, at0, at1, at2, q, List.cons.injEq, Nat.reduceEqDiff, false_and, and_false]
  | read x =>
    have q := assign_ok m "Read" x rfl h
    simp only [List.length_cons, List.length_nil, Nat.reduceAdd, Nat.reduceEqDiff, if_true, List.map_cons, List.map_nil, Nat.reduceSub, List.replicate, List.cons_append, List.nil_append, R.bind_ok, R.bind_bad, R.nox_ok, RS.of_ok, List.getElem?_cons_zero, List.getElem?_cons_succ, List.set_cons_zero, List.set_cons_succ, Bool.not_true, Bool.not_false, Bool.false_eq_true, if_false, isNon, gSet, Int.reduceLT, Int.reduceLE, Int.reduceNeg, and_self, Nat.reduceLeDiff, Nat.reduceMul, decide_true, decide_false, Int.reduceEq, eq_self, reduceCtorEq, seq_nx, seq_rt, seq_bad, of_rt, of_nx, trd_rt, trd_nx, r_defn, r_seq, r_try, r_nil, r_expr, r_ret, r_if, r_set, r_asg, r_put, r_attr, r_var, r_c, r_bin, r_un, r_fn, r_fnL, r_call, r_make, made_ok, r_eattr, r_ixL, r_new, r_tup, r_disp, r_few, r_eif, r_eand, r_eor, r_enot, r_acons, r_anil, r_astar, r_astarL, r_val, r_tru, r_not, r_and, r_or, r_chain, r_inL, r_m1, r_joinL, r_sl, r_pno, r_pat, v_add, v_sub, v_mod, v_div, v_neg, v_lt, v_le, v_gt, v_ge, v_isN, v_notN, v_intI, v_intB, v_abs, v_strS, v_len, v_ixT, v_ixF, v_eqI, v_neI, v_eqS, v_neS, r_lcomp, r_pval, r_pseq, r_plist, r_planT, r_planS, St.tup, kRead, at0, at1, q, List.cons.injEq, Nat.reduceEqDiff, false_and, and_false, St.ins]
  | write a =>
    have q := mkWrite_ok m a h
    simp only [List.length_cons, List.length_nil, Nat.reduceAdd, Nat.reduceEqDiff, if_true, List.map_cons, List.map_nil, Nat.reduceSub, List.replicate, List.cons_append, List.nil_append, R.bind_ok, R.bind_bad, R.nox_ok, RS.of_ok, List.getElem?_cons_zero, List.getElem?_cons_succ, List.set_cons_zero, List.set_cons_succ, Bool.not_true, Bool.not_false, Bool.false_eq_true, if_false, isNon, gSet, Int.reduceLT, Int.reduceLE, Int.reduceNeg, and_self, Nat.reduceLeDiff, Nat.reduceMul, decide_true, decide_false, Int.reduceEq, eq_self, reduceCtorEq, seq_nx, seq_rt, seq_bad, of_rt, of_nx, trd_rt, trd_nx, r_defn, r_seq, r_try, r_nil, r_expr, r_ret, r_if, r_set, r_asg, r_put, r_attr, r_var, r_c, r_bin, r_un, r_fn, r_fnL, r_call, r_make, made_ok, r_eattr, r_ixL, r_new, r_tup, r_disp, r_few, r_eif, r_eand, r_eor, r_enot, r_acons, r_anil, r_astar, r_astarL, r_val, r_tru, r_not, r_and, r_or, r_chain, r_inL, r_m1, r_joinL, r_sl, r_pno, r_pat, v_add, v_sub, v_mod, v_div, v_neg, v_lt, v_le, v_gt, v_ge, v_isN, v_notN, v_intI, v_intB, v_abs, v_strS, v_len, v_ixT, v_ixF, v_eqI, v_neI, v_eqS, v_neS, r_lcomp, r_pval, r_pseq, r_plist, r_planT, r_planS, St.tup, kWrite, at0, at1, q, List.cons.injEq, Nat.reduceEqDiff, false_and, and_false]
end K01

namespace K01
open PySem Sh
/-! ### the signs of a number -/
theorem dec_nat (n : Nat) : dec (n : Int) = TL.numL n := TL.tl_num n
theorem dec_neg (n : Nat) : dec (-((n + 1 : Nat) : Int)) = 45 :: TL.numL (n + 1) := by
  unfold dec TL.numL
  show (Str.ofString (toString (Int.negSucc n))).cps.toList = _
  have e : toString (Int.negSucc n) = "-" ++ Nat.repr (n + 1) := rfl
  rw [e, PyProof.Rows.signs_ofString, String.toList_append, List.map_append, Nat.toList_repr]
  rfl
theorem dec_len {i : Int} (h : -999999 ≤ i ∧ i ≤ 999999) : (dec i).length ≤ 8 := by
  rcases Int.lt_or_le i 0 with hn | hp
  · obtain ⟨n, rfl⟩ : ∃ n : Nat, i = -((n + 1 : Nat) : Int) := ⟨(-i - 1).toNat, by omega⟩
    rw [dec_neg]
    have := TL.numL_len (n := n + 1) (k := 6) (by decide) (by omega)
    simp only [List.length_cons]; omega
  · obtain ⟨n, rfl⟩ : ∃ n : Nat, i = (n : Int) := ⟨i.toNat, by omega⟩
    rw [dec_nat]
    have := TL.numL_len (n := n) (k := 6) (by decide) (by omega)
    omega
theorem dec_int {i : Int} (h : -999999 ≤ i ∧ i ≤ 999999) : intText? (Sh.S (dec i)) = some i := by
  have hl := dec_len h
  rcases Int.lt_or_le i 0 with hn | hp
  · obtain ⟨n, rfl⟩ : ∃ n : Nat, i = -((n + 1 : Nat) : Int) := ⟨(-i - 1).toNat, by omega⟩
    rw [dec_neg] at hl ⊢
    have q := intText_neg (x := Sh.S (45 :: TL.numL (n + 1))) (cs := TL.numL (n + 1)) (by simp) (TL.numL_digits _) (TL.numL_ne _) (by rw [S_len]; omega)
    rw [TL.numL_val] at q
    exact q
  · obtain ⟨n, rfl⟩ : ∃ n : Nat, i = (n : Int) := ⟨i.toNat, by omega⟩
    unfold dec
    rw [S_of]
    exact TL.int_num (by have := TL.numL_len (n := n) (k := 6) (by decide) (by omega); omega)
/-! ### texts -/
def Vl.str : Vl → List Nat | .nm l => l | .nu i => dec i
def St.key : St → List Nat | .set _ _ _ _ => kSet | .copy _ _ => kCopy | .read _ => kRead | .write _ => kWrite
def St.vals : St → List Vl | .set x a op b => [.nm x, a, .nm op, b] | .copy x a => [.nm x, a] | .read x => [.nm x] | .write a => [a]
def parts (s : St) : List (List Nat) := s.key :: s.vals.map Vl.str
def text (s : St) : List Nat := TL.joinL [32] (parts s)
theorem menu_len : ∀ l ∈ menu, l.length ≤ 8 := by decide
theorem ops_len : ∀ l ∈ ops, l.length ≤ 8 := by decide
theorem vl_len {v : Vl} (h : v.ok) : v.str.length ≤ 8 := by
  cases v with
  | nm l => exact menu_len l h
  | nu i => exact dec_len h
def Vl.fine (v : Vl) : Prop := v.str.length ≤ 8 ∧ ∀ i, v = .nu i → -999999 ≤ i ∧ i ≤ 999999
theorem fine_of {v : Vl} (h : v.ok) : v.fine := ⟨vl_len h, fun i e => by subst e; exact h⟩
theorem fine_op {l : List Nat} (h : l ∈ ops) : (Vl.nm l).fine := ⟨ops_len l h, fun i e => by cases e⟩
theorem vals_fine {s : St} (h : s.ok) : ∀ v ∈ s.vals, v.fine := by
  cases s with
  | set x a op b =>
    obtain ⟨h1, h2, h3, h4⟩ := h
    intro v hv
    simp only [St.vals, List.mem_cons, List.not_mem_nil, or_false] at hv
    rcases hv with rfl | rfl | rfl | rfl
    · exact fine_of h1
    · exact fine_of h2
    · exact fine_op h3
    · exact fine_of h4
  | copy x a =>
    obtain ⟨h1, h2⟩ := h
    intro v hv
    simp only [St.vals, List.mem_cons, List.not_mem_nil, or_false] at hv
    rcases hv with rfl | rfl
    · exact fine_of h1
    · exact fine_of h2
  | read x =>
    intro v hv
    simp only [St.vals, List.mem_cons, List.not_mem_nil, or_false] at hv
    subst hv
    exact fine_of h
  | write a =>
    intro v hv
    simp only [St.vals, List.mem_cons, List.not_mem_nil, or_false] at hv
    subst hv
    exact fine_of h
theorem key_len (s : St) : s.key.length ≤ 8 := by cases s <;> (simp only [St.key]; decide)
theorem parts_len {s : St} (h : s.ok) : ∀ p ∈ parts s, p.length ≤ 8 := by
  intro p hp
  rcases List.mem_cons.mp hp with rfl | hp
  · exact key_len s
  · obtain ⟨v, hv, rfl⟩ := List.mem_map.mp hp
    exact (vals_fine h v hv).1
theorem sum_len : ∀ {ys : List (List Nat)}, (∀ p ∈ ys, p.length ≤ 8) → (ys.map (·.length)).sum ≤ 8 * ys.length
  | [], _ => Nat.le_refl _
  | y :: ys, h => by
    have h1 := h y List.mem_cons_self
    have h2 := sum_len fun p hp => h p (List.mem_cons_of_mem _ hp)
    simp only [List.map_cons, List.sum_cons, List.length_cons]
    omega
theorem parts_n (s : St) : (parts s).length ≤ 5 := by cases s <;> simp [parts, St.vals]
theorem join_parts {s : St} (h : s.ok) (m : Mem) : joinW [32] ((parts s).map W.str) m = .ok (.str (text s)) m := by
  refine joinW_ok ?_
  have h1 := sum_len (parts_len h)
  have h2 := parts_n s
  simp only [List.length_cons, List.length_nil]
  omega
theorem bstr_ok {v : Vl} (h : v.fine) (m : Mem) : bStr [v.w] m = .ok (.str v.str) m := by
  cases v with
  | nm l => rfl
  | nu i =>
    have hi := h.2 i rfl
    show (if i.natAbs.log2 < 1920 then R.ok (W.str (dec i)) m else .bad) = _
    rw [if_pos]
    · rfl
    · have e20 : (2:Nat) ^ 20 = 1048576 := by decide
      have h1 : i.natAbs < 2 ^ 20 := by omega
      exact PySem.Flt.log2_lt_of (by decide) (Nat.lt_of_lt_of_le h1 (Nat.pow_le_pow_right (by decide) (by decide)))
def strV : W → W | .int i => .str (dec i) | w => w
theorem strV_w (v : Vl) : strV v.w = .str v.str := by cases v <;> rfl
theorem tup_eq (s : St) : s.tup = .tup (.str s.key :: s.vals.map Vl.w) := by cases s <;> rfl
theorem stext_ok {s : St} (h : s.ok) (m : Mem) : d__law_statement_text [s.tup] m = .ok (.str (text s)) m := by
  unfold d__law_statement_text b__law_statement_text
  have hc := comp_map (src := srcFix (.str s.key :: s.vals.map Vl.w)) (ws := .str s.key :: s.vals.map Vl.w) (m := m) (k := 1) (e := eFn bStr (aCons (eVar 1) aNil)) (σ := [some (.tup (.str s.key :: s.vals.map Vl.w)), none]) (f := strV) (by have := parts_n s; simp [parts] at this ⊢; omega) (fun i => rfl) (fun w hw => by
    have hw' : ∃ v : Vl, w = v.w ∧ v.fine := by
      rcases List.mem_cons.mp hw with rfl | hw
      · exact ⟨.nm s.key, rfl, key_len s, fun i e => by cases e⟩
      · obtain ⟨v, hv, rfl⟩ := List.mem_map.mp hw
        exact ⟨v, rfl, vals_fine h v hv⟩
    obtain ⟨v, rfl, hv⟩ := hw'
    simp only [List.length_cons, List.length_nil, Nat.reduceAdd, Nat.reduceEqDiff, if_true, List.map_cons, List.map_nil, Nat.reduceSub, List.replicate, List.cons_append, List.nil_append, R.bind_ok, R.bind_bad, R.nox_ok, RS.of_ok, List.getElem?_cons_zero, List.getElem?_cons_succ, List.set_cons_zero, List.set_cons_succ, Bool.not_true, Bool.not_false, Bool.false_eq_true, if_false, isNon, gSet, Int.reduceLT, Int.reduceLE, Int.reduceNeg, and_self, Nat.reduceLeDiff, Nat.reduceMul, decide_true, decide_false, Int.reduceEq, eq_self, reduceCtorEq, seq_nx, seq_rt, seq_bad, of_rt, of_nx, trd_rt, trd_nx, r_defn, r_seq, r_try, r_nil, r_expr, r_ret, r_if, r_set, r_asg, r_put, r_attr, r_var, r_c, r_bin, r_un, r_fn, r_fnL, r_call, r_make, made_ok, r_eattr, r_ixL, r_new, r_tup, r_disp, r_few, r_eif, r_eand, r_eor, r_enot, r_acons, r_anil, r_astar, r_astarL, r_val, r_tru, r_not, r_and, r_or, r_chain, r_inL, r_m1, r_joinL, r_sl, r_pno, r_pat, v_add, v_sub, v_mod, v_div, v_neg, v_lt, v_le, v_gt, v_ge, v_isN, v_notN, v_intI, v_intB, v_abs, v_strS, v_len, v_ixT, v_ixF, v_eqI, v_neI, v_eqS, v_neS, r_lcomp, r_pval, r_pseq, r_plist, r_planT, r_planS, bstr_ok hv, strV_w])
  have e1 : (W.str s.key :: s.vals.map Vl.w).map strV = (parts s).map W.str := by
    simp only [parts, List.map_cons, List.map_map]
    congr 1
    exact List.map_congr_left fun v _ => strV_w v
  rw [e1] at hc
  simp only [List.length_cons] at hc
  rw [tup_eq]
  simp only [List.length_cons, List.length_nil, Nat.reduceAdd, Nat.reduceEqDiff, if_true, List.map_cons, List.map_nil, Nat.reduceSub, List.replicate, List.cons_append, List.nil_append, R.bind_ok, R.bind_bad, R.nox_ok, RS.of_ok, List.getElem?_cons_zero, List.getElem?_cons_succ, List.set_cons_zero, List.set_cons_succ, Bool.not_true, Bool.not_false, Bool.false_eq_true, if_false, isNon, gSet, Int.reduceLT, Int.reduceLE, Int.reduceNeg, and_self, Nat.reduceLeDiff, Nat.reduceMul, decide_true, decide_false, Int.reduceEq, eq_self, reduceCtorEq, seq_nx, seq_rt, seq_bad, of_rt, of_nx, trd_rt, trd_nx, r_defn, r_seq, r_try, r_nil, r_expr, r_ret, r_if, r_set, r_asg, r_put, r_attr, r_var, r_c, r_bin, r_un, r_fn, r_fnL, r_call, r_make, made_ok, r_eattr, r_ixL, r_new, r_tup, r_disp, r_few, r_eif, r_eand, r_eor, r_enot, r_acons, r_anil, r_astar, r_astarL, r_val, r_tru, r_not, r_and, r_or, r_chain, r_inL, r_m1, r_joinL, r_sl, r_pno, r_pat, v_add, v_sub, v_mod, v_div, v_neg, v_lt, v_le, v_gt, v_ge, v_isN, v_notN, v_intI, v_intB, v_abs, v_strS, v_len, v_ixT, v_ixF, v_eqI, v_neI, v_eqS, v_neS, r_lcomp, r_pval, r_pseq, r_plist, r_planT, r_planS, wipeW]
  rw [hc]
  simp only [List.length_cons, List.length_nil, Nat.reduceAdd, Nat.reduceEqDiff, if_true, List.map_cons, List.map_nil, Nat.reduceSub, List.replicate, List.cons_append, List.nil_append, R.bind_ok, R.bind_bad, R.nox_ok, RS.of_ok, List.getElem?_cons_zero, List.getElem?_cons_succ, List.set_cons_zero, List.set_cons_succ, Bool.not_true, Bool.not_false, Bool.false_eq_true, if_false, isNon, gSet, Int.reduceLT, Int.reduceLE, Int.reduceNeg, and_self, Nat.reduceLeDiff, Nat.reduceMul, decide_true, decide_false, Int.reduceEq, eq_self, reduceCtorEq, seq_nx, seq_rt, seq_bad, of_rt, of_nx, trd_rt, trd_nx, r_defn, r_seq, r_try, r_nil, r_expr, r_ret, r_if, r_set, r_asg, r_put, r_attr, r_var, r_c, r_bin, r_un, r_fn, r_fnL, r_call, r_make, made_ok, r_eattr, r_ixL, r_new, r_tup, r_disp, r_few, r_eif, r_eand, r_eor, r_enot, r_acons, r_anil, r_astar, r_astarL, r_val, r_tru, r_not, r_and, r_or, r_chain, r_inL, r_m1, r_joinL, r_sl, r_pno, r_pat, v_add, v_sub, v_mod, v_div, v_neg, v_lt, v_le, v_gt, v_ge, v_isN, v_notN, v_intI, v_intB, v_abs, v_strS, v_len, v_ixT, v_ixF, v_eqI, v_neI, v_eqS, v_neS, r_lcomp, r_pval, r_pseq, r_plist, r_planT, r_planS, join_parts h]
end K01

namespace K01
open PySem Sh
/-! ### attributes of instances -/
theorem attr_fld {f : List Nat} {tb : String → Option (Option (DF ⊕ W))} {i : Nat} {m : Mem} {c : String} {fs : List (List Nat × W)} {w : W} (h : m[i]? = some (.ins c fs)) (ht : tb c = some none) (hl : fs.lookup f = some w) : attr f tb (.ref i) m = .ok w m := by
  unfold attr insOf
  simp only [h, ht, hl]
theorem attr_con {f : List Nat} {tb : String → Option (Option (DF ⊕ W))} {i : Nat} {m : Mem} {c : String} {fs : List (List Nat × W)} {w : W} (h : m[i]? = some (.ins c fs)) (ht : tb c = some (some (.inr w))) (hl : fs.lookup f = none) : attr f tb (.ref i) m = .ok w m := by
  unfold attr insOf
  simp only [h, ht, hl]
theorem attr_prop {f : List Nat} {tb : String → Option (Option (DF ⊕ W))} {i : Nat} {m : Mem} {c : String} {fs : List (List Nat × W)} {F : DF} (h : m[i]? = some (.ins c fs)) (ht : tb c = some (some (.inl F))) : attr f tb (.ref i) m = (F [.ref i] m).nox := by
  unfold attr insOf
  simp only [h, ht]
theorem words_ok (s : St) (i : Nat) (m : Mem) (h : m[i]? = some s.ins) : attr [119, 111, 114, 100, 115] tb_words (.ref i) m = .ok (.ref m.length) (m ++ [.lst (s.vals.map Vl.w)]) := by
  cases s with
  | set x a op b =>
    have h : m[i]? = some (.ins "Set" [(fTarget, .str x), (fLeft, a.w), (fOp, .str op), (fRight, b.w)]) := h
    have q1 : attr [116, 97, 114, 103, 101, 116] tb_target (.ref i) m = .ok (.str x) m := attr_fld h rfl rfl
    have q2 : attr [108, 101, 102, 116] tb_left (.ref i) m = .ok a.w m := attr_fld h rfl rfl
    have q3 : attr [111, 112] tb_op (.ref i) m = .ok (.str op) m := attr_fld h rfl rfl
    have q4 : attr [114, 105, 103, 104, 116] tb_right (.ref i) m = .ok b.w m := attr_fld h rfl rfl
    rw [attr_prop (F := d_Set_words) h rfl]
    unfold d_Set_words b_Set_words
    simp only [List.length_cons, List.length_nil, Nat.reduceAdd, Nat.reduceEqDiff, if_true, List.map_cons, List.map_nil, Nat.reduceSub, List.replicate, List.cons_append, List.nil_append, R.bind_ok, R.bind_bad, R.nox_ok, RS.of_ok, List.getElem?_cons_zero, List.getElem?_cons_succ, List.set_cons_zero, List.set_cons_succ, Bool.not_true, Bool.not_false, Bool.false_eq_true, if_false, isNon, gSet, Int.reduceLT, Int.reduceLE, Int.reduceNeg, and_self, Nat.reduceLeDiff, Nat.reduceMul, decide_true, decide_false, Int.reduceEq, eq_self, reduceCtorEq, seq_nx, seq_rt, seq_bad, of_rt, of_nx, trd_rt, trd_nx, r_defn, r_seq, r_try, r_nil, r_expr, r_ret, r_if, r_set, r_asg, r_put, r_attr, r_var, r_c, r_bin, r_un, r_fn, r_fnL, r_call, r_make, made_ok, r_eattr, r_ixL, r_new, r_tup, r_disp, r_few, r_eif, r_eand, r_eor, r_enot, r_acons, r_anil, r_astar, r_astarL, r_val, r_tru, r_not, r_and, r_or, r_chain, r_inL, r_m1, r_joinL, r_sl, r_pno, r_pat, v_add, v_sub, v_mod, v_div, v_neg, v_lt, v_le, v_gt, v_ge, v_isN, v_notN, v_intI, v_intB, v_abs, v_strS, v_len, v_ixT, v_ixF, v_eqI, v_neI, v_eqS, v_neS, r_lcomp, r_pval, r_pseq, r_plist, r_planT, r_planS, q1, q2, q3, q4, St.vals, Vl.w]
  | copy x a =>
    have h : m[i]? = some (.ins "Copy" [(fTarget, .str x), (fValue, a.w)]) := h
    have q1 : attr [116, 97, 114, 103, 101, 116] tb_target (.ref i) m = .ok (.str x) m := attr_fld h rfl rfl
    have q2 : attr [118, 97, 108, 117, 101] tb_value (.ref i) m = .ok a.w m := attr_fld h rfl rfl
    rw [attr_prop (F := d_Copy_words) h rfl]
    unfold d_Copy_words b_Copy_words
    simp only [List.length_cons, List.length_nil, Nat.reduceAdd, Nat.reduceEqDiff, if_true, List.map_cons, List.map_nil, Nat.reduceSub, List.replicate, List.cons_append, List.nil_append, R.bind_ok, R.bind_bad, R.nox_ok, RS.of_ok, List.getElem?_cons_zero, List.getElem?_cons_succ, List.set_cons_zero, List.set_cons_succ, Bool.not_true, Bool.not_false, Bool.false_eq_true, if_false, isNon, gSet, Int.reduceLT, Int.reduceLE, Int.reduceNeg, and_self, Nat.reduceLeDiff, Nat.reduceMul, decide_true, decide_false, Int.reduceEq, eq_self, reduceCtorEq, seq_nx, seq_rt, seq_bad, of_rt, of_nx, trd_rt, trd_nx, r_defn, r_seq, r_try, r_nil, r_expr, r_ret, r_if, r_set, r_asg, r_put, r_attr, r_var, r_c, r_bin, r_un, r_fn, r_fnL, r_call, r_make, made_ok, r_eattr, r_ixL, r_new, r_tup, r_disp, r_few, r_eif, r_eand, r_eor, r_enot, r_acons, r_anil, r_astar, r_astarL, r_val, r_tru, r_not, r_and, r_or, r_chain, r_inL, r_m1, r_joinL, r_sl, r_pno, r_pat, v_add, v_sub, v_mod, v_div, v_neg, v_lt, v_le, v_gt, v_ge, v_isN, v_notN, v_intI, v_intB, v_abs, v_strS, v_len, v_ixT, v_ixF, v_eqI, v_neI, v_eqS, v_neS, r_lcomp, r_pval, r_pseq, r_plist, r_planT, r_planS, q1, q2, St.vals, Vl.w]
  | read x =>
    have h : m[i]? = some (.ins "Read" [(fTarget, .str x)]) := h
    have q1 : attr [116, 97, 114, 103, 101, 116] tb_target (.ref i) m = .ok (.str x) m := attr_fld h rfl rfl
    rw [attr_prop (F := d_Read_words) h rfl]
    unfold d_Read_words b_Read_words
    simp only [List.length_cons, List.length_nil, Nat.reduceAdd, Nat.reduceEqDiff, if_true, List.map_cons, List.map_nil, Nat.reduceSub, List.replicate, List.cons_append, List.nil_append, R.bind_ok, R.bind_bad, R.nox_ok, RS.of_ok, List.getElem?_cons_zero, List.getElem?_cons_succ, List.set_cons_zero, List.set_cons_succ, Bool.not_true, Bool.not_false, Bool.false_eq_true, if_false, isNon, gSet, Int.reduceLT, Int.reduceLE, Int.reduceNeg, and_self, Nat.reduceLeDiff, Nat.reduceMul, decide_true, decide_false, Int.reduceEq, eq_self, reduceCtorEq, seq_nx, seq_rt, seq_bad, of_rt, of_nx, trd_rt, trd_nx, r_defn, r_seq, r_try, r_nil, r_expr, r_ret, r_if, r_set, r_asg, r_put, r_attr, r_var, r_c, r_bin, r_un, r_fn, r_fnL, r_call, r_make, made_ok, r_eattr, r_ixL, r_new, r_tup, r_disp, r_few, r_eif, r_eand, r_eor, r_enot, r_acons, r_anil, r_astar, r_astarL, r_val, r_tru, r_not, r_and, r_or, r_chain, r_inL, r_m1, r_joinL, r_sl, r_pno, r_pat, v_add, v_sub, v_mod, v_div, v_neg, v_lt, v_le, v_gt, v_ge, v_isN, v_notN, v_intI, v_intB, v_abs, v_strS, v_len, v_ixT, v_ixF, v_eqI, v_neI, v_eqS, v_neS, r_lcomp, r_pval, r_pseq, r_plist, r_planT, r_planS, q1, St.vals, Vl.w]
  | write a =>
    have h : m[i]? = some (.ins "Write" [(fValue, a.w)]) := h
    have q2 : attr [118, 97, 108, 117, 101] tb_value (.ref i) m = .ok a.w m := attr_fld h rfl rfl
    rw [attr_prop (F := d_Write_words) h rfl]
    unfold d_Write_words b_Write_words
    simp only [List.length_cons, List.length_nil, Nat.reduceAdd, Nat.reduceEqDiff, if_true, List.map_cons, List.map_nil, Nat.reduceSub, List.replicate, List.cons_append, List.nil_append, R.bind_ok, R.bind_bad, R.nox_ok, RS.of_ok, List.getElem?_cons_zero, List.getElem?_cons_succ, List.set_cons_zero, List.set_cons_succ, Bool.not_true, Bool.not_false, Bool.false_eq_true, if_false, isNon, gSet, Int.reduceLT, Int.reduceLE, Int.reduceNeg, and_self, Nat.reduceLeDiff, Nat.reduceMul, decide_true, decide_false, Int.reduceEq, eq_self, reduceCtorEq, seq_nx, seq_rt, seq_bad, of_rt, of_nx, trd_rt, trd_nx, r_defn, r_seq, r_try, r_nil, r_expr, r_ret, r_if, r_set, r_asg, r_put, r_attr, r_var, r_c, r_bin, r_un, r_fn, r_fnL, r_call, r_make, made_ok, r_eattr, r_ixL, r_new, r_tup, r_disp, r_few, r_eif, r_eand, r_eor, r_enot, r_acons, r_anil, r_astar, r_astarL, r_val, r_tru, r_not, r_and, r_or, r_chain, r_inL, r_m1, r_joinL, r_sl, r_pno, r_pat, v_add, v_sub, v_mod, v_div, v_neg, v_lt, v_le, v_gt, v_ge, v_isN, v_notN, v_intI, v_intB, v_abs, v_strS, v_len, v_ixT, v_ixF, v_eqI, v_neI, v_eqS, v_neS, r_lcomp, r_pval, r_pseq, r_plist, r_planT, r_planS, q2, St.vals, Vl.w]
theorem word_key (s : St) (i : Nat) (m : Mem) (h : m[i]? = some s.ins) : attr [87, 79, 82, 68] tb_WORD (.ref i) m = .ok (.str s.key) m := by
  cases s <;> exact attr_con h rfl rfl
theorem Text_ok {s : St} (hs : s.ok) (i : Nat) (m : Mem) (h : m[i]? = some s.ins) : d_Statement_text [.ref i] m = .ok (.str (text s)) (m ++ [.lst (s.vals.map Vl.w)]) := by
  unfold d_Statement_text b_Statement_text
  have hc := comp_map (src := srcLive m.length) (ws := s.vals.map Vl.w) (m := m ++ [.lst (s.vals.map Vl.w)]) (k := 1) (e := eFn bStr (aCons (eVar 1) aNil)) (σ := [some (.ref i), none]) (f := strV) (by have := parts_n s; simp [parts] at this ⊢; omega) (live_at last_get) (fun w hw => by
    obtain ⟨v, hv, rfl⟩ := List.mem_map.mp hw
    simp only [List.length_cons, List.length_nil, Nat.reduceAdd, Nat.reduceEqDiff, if_true, List.map_cons, List.map_nil, Nat.reduceSub, List.replicate, List.cons_append, List.nil_append, R.bind_ok, R.bind_bad, R.nox_ok, RS.of_ok, List.getElem?_cons_zero, List.getElem?_cons_succ, List.set_cons_zero, List.set_cons_succ, Bool.not_true, Bool.not_false, Bool.false_eq_true, if_false, isNon, gSet, Int.reduceLT, Int.reduceLE, Int.reduceNeg, and_self, Nat.reduceLeDiff, Nat.reduceMul, decide_true, decide_false, Int.reduceEq, eq_self, reduceCtorEq, seq_nx, seq_rt, seq_bad, of_rt, of_nx, trd_rt, trd_nx, r_defn, r_seq, r_try, r_nil, r_expr, r_ret, r_if, r_set, r_asg, r_put, r_attr, r_var, r_c, r_bin, r_un, r_fn, r_fnL, r_call, r_make, made_ok, r_eattr, r_ixL, r_new, r_tup, r_disp, r_few, r_eif, r_eand, r_eor, r_enot, r_acons, r_anil, r_astar, r_astarL, r_val, r_tru, r_not, r_and, r_or, r_chain, r_inL, r_m1, r_joinL, r_sl, r_pno, r_pat, v_add, v_sub, v_mod, v_div, v_neg, v_lt, v_le, v_gt, v_ge, v_isN, v_notN, v_intI, v_intB, v_abs, v_strS, v_len, v_ixT, v_ixF, v_eqI, v_neI, v_eqS, v_neS, r_lcomp, r_pval, r_pseq, r_plist, r_planT, r_planS, bstr_ok (vals_fine hs v hv), strV_w])
  have e1 : (s.vals.map Vl.w).map strV = (s.vals.map Vl.str).map W.str := by
    simp only [List.map_map]
    exact List.map_congr_left fun v _ => strV_w v
  rw [e1] at hc
  have hp := planR (m := m ++ [.lst (s.vals.map Vl.w)]) (n := m.length) (ws := s.vals.map Vl.w) last_get
  have hf : W.str s.key :: ((s.vals.map Vl.str).map W.str ++ []) = (parts s).map W.str := by simp [parts]
  have hn : ((parts s).map W.str).length ≤ 1000000 := by have := parts_n s; simp; omega
  simp only [List.length_cons, List.length_nil, Nat.reduceAdd, Nat.reduceEqDiff, if_true, List.map_cons, List.map_nil, Nat.reduceSub, List.replicate, List.cons_append, List.nil_append, R.bind_ok, R.bind_bad, R.nox_ok, RS.of_ok, List.getElem?_cons_zero, List.getElem?_cons_succ, List.set_cons_zero, List.set_cons_succ, Bool.not_true, Bool.not_false, Bool.false_eq_true, if_false, isNon, gSet, Int.reduceLT, Int.reduceLE, Int.reduceNeg, and_self, Nat.reduceLeDiff, Nat.reduceMul, decide_true, decide_false, Int.reduceEq, eq_self, reduceCtorEq, seq_nx, seq_rt, seq_bad, of_rt, of_nx, trd_rt, trd_nx, r_defn, r_seq, r_try, r_nil, r_expr, r_ret, r_if, r_set, r_asg, r_put, r_attr, r_var, r_c, r_bin, r_un, r_fn, r_fnL, r_call, r_make, made_ok, r_eattr, r_ixL, r_new, r_tup, r_disp, r_few, r_eif, r_eand, r_eor, r_enot, r_acons, r_anil, r_astar, r_astarL, r_val, r_tru, r_not, r_and, r_or, r_chain, r_inL, r_m1, r_joinL, r_sl, r_pno, r_pat, v_add, v_sub, v_mod, v_div, v_neg, v_lt, v_le, v_gt, v_ge, v_isN, v_notN, v_intI, v_intB, v_abs, v_strS, v_len, v_ixT, v_ixF, v_eqI, v_neI, v_eqS, v_neS, r_lcomp, r_pval, r_pseq, r_plist, r_planT, r_planS, word_key s i m h, words_ok s i m h, wipeW, hp]
  rw [hc]
  simp only [R.bind_ok, hf]
  rw [r_few, if_pos hn]
  simp only [R.bind_ok, join_parts hs, List.length_cons, List.length_nil, Nat.reduceAdd, Nat.reduceEqDiff, if_true, List.map_cons, List.map_nil, Nat.reduceSub, List.replicate, List.cons_append, List.nil_append, R.bind_ok, R.bind_bad, R.nox_ok, RS.of_ok, List.getElem?_cons_zero, List.getElem?_cons_succ, List.set_cons_zero, List.set_cons_succ, Bool.not_true, Bool.not_false, Bool.false_eq_true, if_false, isNon, gSet, Int.reduceLT, Int.reduceLE, Int.reduceNeg, and_self, Nat.reduceLeDiff, Nat.reduceMul, decide_true, decide_false, Int.reduceEq, eq_self, reduceCtorEq, seq_nx, seq_rt, seq_bad, of_rt, of_nx, trd_rt, trd_nx, r_defn, r_seq, r_try, r_nil, r_expr, r_ret, r_if, r_set, r_asg, r_put, r_attr, r_var, r_c, r_bin, r_un, r_fn, r_fnL, r_call, r_make, made_ok, r_eattr, r_ixL, r_new, r_tup, r_disp, r_few, r_eif, r_eand, r_eor, r_enot, r_acons, r_anil, r_astar, r_astarL, r_val, r_tru, r_not, r_and, r_or, r_chain, r_inL, r_m1, r_joinL, r_sl, r_pno, r_pat, v_add, v_sub, v_mod, v_div, v_neg, v_lt, v_le, v_gt, v_ge, v_isN, v_notN, v_intI, v_intB, v_abs, v_strS, v_len, v_ixT, v_ixF, v_eqI, v_neI, v_eqS, v_neS, r_lcomp, r_pval, r_pseq, r_plist, r_planT, r_planS]
theorem atext_ok {s : St} (hs : s.ok) (i : Nat) (m : Mem) (h : m[i]? = some s.ins) : attr [116, 101, 120, 116] tb_text (.ref i) m = .ok (.str (text s)) (m ++ [.lst (s.vals.map Vl.w)]) := by
  have e : ∃ c fs, s.ins = .ins c fs ∧ tb_text c = some (some (.inl d_Statement_text)) := by cases s <;> exact ⟨_, _, rfl, rfl⟩
  obtain ⟨c, fs, e1, e2⟩ := e
  rw [attr_prop (h.trans (congrArg some e1)) e2, Text_ok hs i m h]
  rfl
theorem attributes_ok (s : St) (i : Nat) (m : Mem) (h : m[i]? = some s.ins) : d__law_attributes [.str s.key, .ref i] m = .ok s.tup m := by
  unfold d__law_attributes b__law_attributes
  cases s with
  | set x a op b =>
    have h : m[i]? = some (.ins "Set" [(fTarget, .str x), (fLeft, a.w), (fOp, .str op), (fRight, b.w)]) := h
    have q1 : attr [116, 97, 114, 103, 101, 116] tb_target (.ref i) m = .ok (.str x) m := attr_fld h rfl rfl
    have q2 : attr [108, 101, 102, 116] tb_left (.ref i) m = .ok a.w m := attr_fld h rfl rfl
    have q3 : attr [111, 112] tb_op (.ref i) m = .ok (.str op) m := attr_fld h rfl rfl
    have q4 : attr [114, 105, 103, 104, 116] tb_right (.ref i) m = .ok b.w m := attr_fld h rfl rfl
    simp only [List.length_cons, List.length_nil, Nat.reduceAdd, Nat.reduceEqDiff, if_true, List.map_cons, List.map_nil, Nat.reduceSub, List.replicate, List.cons_append, List.nil_append, R.bind_ok, R.bind_bad, R.nox_ok, RS.of_ok, List.getElem?_cons_zero, List.getElem?_cons_succ, List.set_cons_zero, List.set_cons_succ, Bool.not_true, Bool.not_false, Bool.false_eq_true, if_false, isNon, gSet, Int.reduceLT, Int.reduceLE, Int.reduceNeg, and_self, Nat.reduceLeDiff, Nat.reduceMul, decide_true, decide_false, Int.reduceEq, eq_self, reduceCtorEq, seq_nx, seq_rt, seq_bad, of_rt, of_nx, trd_rt, trd_nx, r_defn, r_seq, r_try, r_nil, r_expr, r_ret, r_if, r_set, r_asg, r_put, r_attr, r_var, r_c, r_bin, r_un, r_fn, r_fnL, r_call, r_make, made_ok, r_eattr, r_ixL, r_new, r_tup, r_disp, r_few, r_eif, r_eand, r_eor, r_enot, r_acons, r_anil, r_astar, r_astarL, r_val, r_tru, r_not, r_and, r_or, r_chain, r_inL, r_m1, r_joinL, r_sl, r_pno, r_pat, v_add, v_sub, v_mod, v_div, v_neg, v_lt, v_le, v_gt, v_ge, v_isN, v_notN, v_intI, v_intB, v_abs, v_strS, v_len, v_ixT, v_ixF, v_eqI, v_neI, v_eqS, v_neS, r_lcomp, r_pval, r_pseq, r_plist, r_planT, r_planS, St.key, kSet, q1, q2, q3, q4, St.tup]
  | copy x a =>
    have h : m[i]? = some (.ins "Copy" [(fTarget, .str x), (fValue, a.w)]) := h
    have q1 : attr [116, 97, 114, 103, 101, 116] tb_target (.ref i) m = .ok (.str x) m := attr_fld h rfl rfl
    have q2 : attr [118, 97, 108, 117, 101] tb_value (.ref i) m = .ok a.w m := attr_fld h rfl rfl
    simp only [List.length_cons, List.length_nil, Nat.reduceAdd, Nat.reduceEqDiff, if_true, List.map_cons, List.map_nil, Nat.reduceSub, List.replicate, List.cons_append, List.nil_append, R.bind_ok, R.bind_bad, R.nox_ok, RS.of_ok, List.getElem?_cons_zero, List.getElem?_cons_succ, List.set_cons_zero, List.set_cons_succ, Bool.not_true, Bool.not_false, Bool.false_eq_true, if_false, isNon, gSet, Int.reduceLT, Int.reduceLE, Int.reduceNeg, and_self, Nat.reduceLeDiff, Nat.reduceMul, decide_true, decide_false, Int.reduceEq, eq_self, reduceCtorEq, seq_nx, seq_rt, seq_bad, of_rt, of_nx, trd_rt, trd_nx, r_defn, r_seq, r_try, r_nil, r_expr, r_ret, r_if, r_set, r_asg, r_put, r_attr, r_var, r_c, r_bin, r_un, r_fn, r_fnL, r_call, r_make, made_ok, r_eattr, r_ixL, r_new, r_tup, r_disp, r_few, r_eif, r_eand, r_eor, r_enot, r_acons, r_anil, r_astar, r_astarL, r_val, r_tru, r_not, r_and, r_or, r_chain, r_inL, r_m1, r_joinL, r_sl, r_pno, r_pat, v_add, v_sub, v_mod, v_div, v_neg, v_lt, v_le, v_gt, v_ge, v_isN, v_notN, v_intI, v_intB, v_abs, v_strS, v_len, v_ixT, v_ixF, v_eqI, v_neI, v_eqS, v_neS, r_lcomp, r_pval, r_pseq, r_plist, r_planT, r_planS, St.key, kCopy, q1, q2, St.tup, List.cons.injEq, Nat.reduceEqDiff, false_and, and_false]
  | read x =>
    have h : m[i]? = some (.ins "Read" [(fTarget, .str x)]) := h
    have q1 : attr [116, 97, 114, 103, 101, 116] tb_target (.ref i) m = .ok (.str x) m := attr_fld h rfl rfl
    simp only [List.length_cons, List.length_nil, Nat.reduceAdd, Nat.reduceEqDiff, if_true, List.map_cons, List.map_nil, Nat.reduceSub, List.replicate, List.cons_append, List.nil_append, R.bind_ok, R.bind_bad, R.nox_ok, RS.of_ok, List.getElem?_cons_zero, List.getElem?_cons_succ, List.set_cons_zero, List.set_cons_succ, Bool.not_true, Bool.not_false, Bool.false_eq_true, if_false, isNon, gSet, Int.reduceLT, Int.reduceLE, Int.reduceNeg, and_self, Nat.reduceLeDiff, Nat.reduceMul, decide_true, decide_false, Int.reduceEq, eq_self, reduceCtorEq, seq_nx, seq_rt, seq_bad, of_rt, of_nx, trd_rt, trd_nx, r_defn, r_seq, r_try, r_nil, r_expr, r_ret, r_if, r_set, r_asg, r_put, r_attr, r_var, r_c, r_bin, r_un, r_fn, r_fnL, r_call, r_make, made_ok, r_eattr, r_ixL, r_new, r_tup, r_disp, r_few, r_eif, r_eand, r_eor, r_enot, r_acons, r_anil, r_astar, r_astarL, r_val, r_tru, r_not, r_and, r_or, r_chain, r_inL, r_m1, r_joinL, r_sl, r_pno, r_pat, v_add, v_sub, v_mod, v_div, v_neg, v_lt, v_le, v_gt, v_ge, v_isN, v_notN, v_intI, v_intB, v_abs, v_strS, v_len, v_ixT, v_ixF, v_eqI, v_neI, v_eqS, v_neS, r_lcomp, r_pval, r_pseq, r_plist, r_planT, r_planS, St.key, kRead, q1, St.tup, List.cons.injEq, Nat.reduceEqDiff, false_and, and_false]
  | write a =>
    have h : m[i]? = some (.ins "Write" [(fValue, a.w)]) := h
    have q2 : attr [118, 97, 108, 117, 101] tb_value (.ref i) m = .ok a.w m := attr_fld h rfl rfl
    simp only [List.length_cons, List.length_nil, Nat.reduceAdd, Nat.reduceEqDiff, if_true, List.map_cons, List.map_nil, Nat.reduceSub, List.replicate, List.cons_append, List.nil_append, R.bind_ok, R.bind_bad, R.nox_ok, RS.of_ok, List.getElem?_cons_zero, List.getElem?_cons_succ, List.set_cons_zero, List.set_cons_succ, Bool.not_true, Bool.not_false, Bool.false_eq_true, if_false, isNon, gSet, Int.reduceLT, Int.reduceLE, Int.reduceNeg, and_self, Nat.reduceLeDiff, Nat.reduceMul, decide_true, decide_false, Int.reduceEq, eq_self, reduceCtorEq, seq_nx, seq_rt, seq_bad, of_rt, of_nx, trd_rt, trd_nx, r_defn, r_seq, r_try, r_nil, r_expr, r_ret, r_if, r_set, r_asg, r_put, r_attr, r_var, r_c, r_bin, r_un, r_fn, r_fnL, r_call, r_make, made_ok, r_eattr, r_ixL, r_new, r_tup, r_disp, r_few, r_eif, r_eand, r_eor, r_enot, r_acons, r_anil, r_astar, r_astarL, r_val, r_tru, r_not, r_and, r_or, r_chain, r_inL, r_m1, r_joinL, r_sl, r_pno, r_pat, v_add, v_sub, v_mod, v_div, v_neg, v_lt, v_le, v_gt, v_ge, v_isN, v_notN, v_intI, v_intB, v_abs, v_strS, v_len, v_ixT, v_ixF, v_eqI, v_neI, v_eqS, v_neS, r_lcomp, r_pval, r_pseq, r_plist, r_planT, r_planS, St.key, kWrite, q2, St.tup, List.cons.injEq, Nat.reduceEqDiff, false_and, and_false]
end K01

namespace K01
open PySem Sh
/-! ### repr of a statement's tuple -/
def vD : Vl → PyData | .nm l => .str (Sh.S l) | .nu i => .int i
def stD (s : St) : PyData := .tuple (.str (Sh.S s.key) :: s.vals.map vD)
theorem dat_vl (m : Mem) (d : Nat) (v : Vl) : dat m d v.w = some (vD v) := by cases v <;> simp [Vl.w, vD, dat]
theorem dats_vl (m : Mem) (d : Nat) : ∀ vs : List Vl, dats m d (vs.map Vl.w) = some (vs.map vD)
  | [] => by simp [dats]
  | v :: vs => by simp [dats, dat_vl, dats_vl m d vs]
theorem dat_st (m : Mem) (s : St) : dat m 30 s.tup = some (stD s) := by
  rw [tup_eq]
  have h1 : dat m 29 (.str s.key) = some (.str (Sh.S s.key)) := by simp [dat]
  simp only [dat, dats, h1, dats_vl, stD, Option.map_some]
def chars : List Nat := menu.flatten ++ ops.flatten ++ [119, 114, 105]
theorem vD_len {v : Vl} (h : v.fine) (hc : ∀ l, v = .nm l → ∀ c ∈ l, c < 16 ^ 8) : (vD v).shown.length ≤ 100 := by
  cases v with
  | nm l =>
    have h1 : l.length ≤ 8 := h.1
    have h2 := PySem.StrLaws.reprText_len (Sh.S l) (by simpa using hc l rfl)
    have e : (Sh.S l).length = l.length := S_len l
    show (PySem.reprText (Sh.S l)).length ≤ 100
    omega
  | nu i =>
    have h1 : (dec i).length ≤ 8 := h.1
    show (Str.ofString (toString i)).length ≤ 100
    have : (Str.ofString (toString i)).length = (dec i).length := by unfold dec; simp [Str.length]
    omega
theorem menu_ch : ∀ l ∈ menu, ∀ c ∈ l, c < 16 ^ 8 := by decide
theorem ops_ch : ∀ l ∈ ops, ∀ c ∈ l, c < 16 ^ 8 := by decide
theorem key_ch (s : St) : ∀ c ∈ s.key, c < 16 ^ 8 := by cases s <;> (simp only [St.key]; decide)
theorem vals_ch {s : St} (h : s.ok) : ∀ v ∈ s.vals, ∀ l, v = .nm l → ∀ c ∈ l, c < 16 ^ 8 := by
  have go : ∀ v : Vl, v.ok → ∀ l, v = .nm l → ∀ c ∈ l, c < 16 ^ 8 := fun v hv l e => by subst e; exact menu_ch l hv
  cases s with
  | set x a op b =>
    obtain ⟨h1, h2, h3, h4⟩ := h
    intro v hv
    simp only [St.vals, List.mem_cons, List.not_mem_nil, or_false] at hv
    rcases hv with rfl | rfl | rfl | rfl
    · exact go _ h1
    · exact go _ h2
    · intro l e; cases e; exact ops_ch _ h3
    · exact go _ h4
  | copy x a =>
    obtain ⟨h1, h2⟩ := h
    intro v hv
    simp only [St.vals, List.mem_cons, List.not_mem_nil, or_false] at hv
    rcases hv with rfl | rfl
    · exact go _ h1
    · exact go _ h2
  | read x =>
    intro v hv
    simp only [St.vals, List.mem_cons, List.not_mem_nil, or_false] at hv
    subst hv
    exact go _ h
  | write a =>
    intro v hv
    simp only [St.vals, List.mem_cons, List.not_mem_nil, or_false] at hv
    subst hv
    exact go _ h
theorem shown_all {vs : List Vl} : PyData.shownAll (vs.map vD) = (vs.map vD).map PyData.shown := by
  induction vs with
  | nil => rfl
  | cons v vs ih => simp only [List.map_cons, PyData.shownAll, ih]
theorem sum100 : ∀ {xs : List Str}, (∀ x ∈ xs, x.length ≤ 100) → (xs.map (·.length)).sum ≤ 100 * xs.length
  | [], _ => Nat.le_refl _
  | y :: ys, h => by
    have h1 := h y List.mem_cons_self
    have h2 := sum100 fun p hp => h p (List.mem_cons_of_mem _ hp)
    simp only [List.map_cons, List.sum_cons, List.length_cons]
    omega
theorem app_len (a b : Str) : (a ++ b).length = a.length + b.length := by
  show (a.cps ++ b.cps).size = _
  rw [Array.size_append]; rfl
theorem st_shown {s : St} (h : s.ok) : (stD s).shown.length ≤ 1000000 := by
  have hn : s.vals.length ≤ 4 := by cases s <;> simp [St.vals]
  show (PySem.tupleText (PyData.shownAll (.str (Sh.S s.key) :: s.vals.map vD))).length ≤ _
  unfold PySem.tupleText
  have e : PyData.shownAll (.str (Sh.S s.key) :: s.vals.map vD) = (.str (Sh.S s.key) :: s.vals.map vD : List PyData).map PyData.shown := by
    simp only [PyData.shownAll, shown_all, List.map_cons]
  rw [e]
  have hl : ∀ x ∈ (.str (Sh.S s.key) :: s.vals.map vD : List PyData).map PyData.shown, x.length ≤ 100 := by
    intro x hx
    simp only [List.map_cons, List.mem_cons, List.map_map, List.mem_map] at hx
    rcases hx with rfl | ⟨v, hv, rfl⟩
    · exact vD_len (v := .nm s.key) ⟨key_len s, fun i e => by cases e⟩ fun l e => by cases e; exact key_ch s
    · exact vD_len (vals_fine h v hv) (vals_ch h v hv)
  have h1 := sum100 hl
  have h2 := PySem.StrLaws.join_length_le ", " ((.str (Sh.S s.key) :: s.vals.map vD : List PyData).map PyData.shown)
  have h3 : ((.str (Sh.S s.key) :: s.vals.map vD : List PyData).map PyData.shown).length ≤ 5 := by simp; omega
  have h4 : (Str.ofString ", ").length = 2 := rfl
  rw [app_len, app_len]
  have h5 : (Str.ofString "(").length = 1 := rfl
  have h6 : (Str.ofString (if ((.str (Sh.S s.key) :: s.vals.map vD : List PyData).map PyData.shown).length == 1 then ",)" else ")")).length ≤ 2 := by
    split
    · exact Nat.le_of_eq rfl
    · exact Nat.le_of_lt (by decide)
  have h7 : (Str.join ", " ((.str (Sh.S s.key) :: s.vals.map vD : List PyData).map PyData.shown)).length ≤ 510 := by
    refine Nat.le_trans h2 ?_
    rw [h4]
    omega
  omega
theorem show_all {vs : List Vl} (h : ∀ v ∈ vs, v.fine) : PyData.showableAll (vs.map vD) = true ∧ PyData.hasDictAll (vs.map vD) = false ∧ PyData.depthAll (vs.map vD) = 0 := by
  induction vs with
  | nil => exact ⟨rfl, rfl, rfl⟩
  | cons v vs ih =>
    obtain ⟨i1, i2, i3⟩ := ih fun w hw => h w (List.mem_cons_of_mem _ hw)
    have hv := h v List.mem_cons_self
    cases v with
    | nm l => simp [vD, PyData.showableAll, PyData.showable, PyData.hasDictAll, PyData.hasDict, PyData.depthAll, PyData.depth, i1, i2, i3]
    | nu i =>
      have hi := hv.2 i rfl
      have e20 : (2:Nat) ^ 20 = 1048576 := by decide
      have h1 : i.natAbs < 2 ^ 20 := by omega
      have h2 : i.natAbs.log2 < 1920 := Nat.lt_of_lt_of_le (PySem.Flt.log2_lt_of (by decide) h1) (by decide)
      simp [vD, PyData.showableAll, PyData.showable, PyData.hasDictAll, PyData.hasDict, PyData.depthAll, PyData.depth, i1, i2, i3, h2]
theorem repr_st {s : St} (h : s.ok) (m : Mem) : bRepr [s.tup] m = .ok (.str (stD s).shown.cps.toList) m := by
  obtain ⟨h1, h2, h3⟩ := show_all (vals_fine h)
  have e : bRepr [s.tup] m = match dat m 30 s.tup with | some d => reprD d m | none => .bad := by rw [tup_eq]; rfl
  rw [e, dat_st]
  show reprD (stD s) m = _
  unfold reprD
  rw [if_pos]
  refine ⟨?_, ?_, ?_, st_shown h⟩
  · simp [stD, PyData.showable, PyData.showableAll, h1]
  · simp [stD, PyData.hasDict, PyData.hasDictAll, h2]
  · simp [stD, PyData.depth, PyData.depthAll, h3]
theorem alike_ok {s : St} (h : s.ok) (m : Mem) : d__law_alike [s.tup, s.tup] m = .ok (.bl true) m := by
  unfold d__law_alike b__law_alike
  simp only [List.length_cons, List.length_nil, Nat.reduceAdd, Nat.reduceEqDiff, if_true, List.map_cons, List.map_nil, Nat.reduceSub, List.replicate, List.cons_append, List.nil_append, R.bind_ok, R.bind_bad, R.nox_ok, RS.of_ok, List.getElem?_cons_zero, List.getElem?_cons_succ, List.set_cons_zero, List.set_cons_succ, Bool.not_true, Bool.not_false, Bool.false_eq_true, if_false, isNon, gSet, Int.reduceLT, Int.reduceLE, Int.reduceNeg, and_self, Nat.reduceLeDiff, Nat.reduceMul, decide_true, decide_false, Int.reduceEq, eq_self, reduceCtorEq, seq_nx, seq_rt, seq_bad, of_rt, of_nx, trd_rt, trd_nx, r_defn, r_seq, r_try, r_nil, r_expr, r_ret, r_if, r_set, r_asg, r_put, r_attr, r_var, r_c, r_bin, r_un, r_fn, r_fnL, r_call, r_make, made_ok, r_eattr, r_ixL, r_new, r_tup, r_disp, r_few, r_eif, r_eand, r_eor, r_enot, r_acons, r_anil, r_astar, r_astarL, r_val, r_tru, r_not, r_and, r_or, r_chain, r_inL, r_m1, r_joinL, r_sl, r_pno, r_pat, v_add, v_sub, v_mod, v_div, v_neg, v_lt, v_le, v_gt, v_ge, v_isN, v_notN, v_intI, v_intB, v_abs, v_strS, v_len, v_ixT, v_ixF, v_eqI, v_neI, v_eqS, v_neS, r_lcomp, r_pval, r_pseq, r_plist, r_planT, r_planS, repr_st h]
end K01

namespace K01
open PySem Sh
/-! ### classes, == -/
def St.cls : St → String | .set _ _ _ _ => "Set" | .copy _ _ => "Copy" | .read _ => "Read" | .write _ => "Write"
def St.flds : St → List (List Nat × W)
  | .set x a op b => [(fTarget, .str x), (fLeft, a.w), (fOp, .str op), (fRight, b.w)]
  | .copy x a => [(fTarget, .str x), (fValue, a.w)]
  | .read x => [(fTarget, .str x)]
  | .write a => [(fValue, a.w)]
theorem ins_eq (s : St) : s.ins = .ins s.cls s.flds := by cases s <;> rfl
def St.isW : St → Bool | .write _ => true | _ => false
def St.isS : St → Bool | .set _ _ _ _ => true | _ => false
def St.isC : St → Bool | .copy _ _ => true | _ => false
def St.isR : St → Bool | .read _ => true | _ => false
def flags (s : St) : List Bool := [true, !s.isW, s.isS, s.isC, s.isR, s.isW]
theorem isi_own (s : St) (i : Nat) (m : Mem) (h : m[i]? = some s.ins) (d : String) (b : Bool) (hd : isiT (.own s.cls) (.own d) = some b) : bIsi isiT [.ref i, .cls d] m = .ok (.bl b) m := by
  have e : isi1 isiT (.ref i) (.cls d) m = some b := by
    unfold isi1 tyc clsT
    simp only [h, ins_eq, hd]
  show (match isi1 isiT (.ref i) (.cls d) m with | some b => R.ok (W.bl b) m | none => .bad) = _
  rw [e]
theorem isi_all (s : St) : isiT (.own s.cls) (.own "Statement") = some true ∧ isiT (.own s.cls) (.own "Assign") = some (!s.isW) ∧ isiT (.own s.cls) (.own "Set") = some s.isS ∧ isiT (.own s.cls) (.own "Copy") = some s.isC ∧ isiT (.own s.cls) (.own "Read") = some s.isR ∧ isiT (.own s.cls) (.own "Write") = some s.isW := by
  cases s <;> exact ⟨rfl, rfl, rfl, rfl, rfl, rfl⟩
theorem classes_ok (s : St) (i : Nat) (m : Mem) (h : m[i]? = some s.ins) : ∃ l1 l2 : O, d__law_classes [.ref i] m = .ok (.ref (m.length + 2)) (m ++ [l1, l2, .lst ((flags s).map W.bl)]) := by
  unfold d__law_classes b__law_classes
  obtain ⟨a1, a2, a3, a4, a5, a6⟩ := isi_all s
  have g : ∀ l : Mem, (m ++ l)[i]? = some s.ins := fun l => by rw [List.getElem?_append_left (List.getElem?_eq_some_iff.mp h).1]; exact h
  have q1 := isi_own s i m h "Statement" _ a1
  have q2 := isi_own s i m h "Assign" _ a2
  have q3 := isi_own s i m h "Set" _ a3
  have q4 := isi_own s i m h "Copy" _ a4
  have q5 := fun l => isi_own s i (m ++ l) (g l) "Read" _ a5
  have q6 := fun l => isi_own s i (m ++ l) (g l) "Write" _ a6
  have g1 : ((m ++ [O.lst [W.bl true, .bl (!s.isW), .bl s.isS, .bl s.isC]]) ++ [O.lst [W.bl s.isR, .bl s.isW]])[m.length]? = some (O.lst [W.bl true, .bl (!s.isW), .bl s.isS, .bl s.isC]) := by simp
  have g2 : ((m ++ [O.lst [W.bl true, .bl (!s.isW), .bl s.isS, .bl s.isC]]) ++ [O.lst [W.bl s.isR, .bl s.isW]])[(m ++ [O.lst [W.bl true, .bl (!s.isW), .bl s.isS, .bl s.isC]]).length]? = some (O.lst [W.bl s.isR, .bl s.isW]) := by simp
  refine ⟨O.lst [W.bl true, .bl (!s.isW), .bl s.isS, .bl s.isC], O.lst [W.bl s.isR, .bl s.isW], ?_⟩
  simp only [List.length_cons, List.length_nil, Nat.reduceAdd, Nat.reduceEqDiff, if_true, List.map_cons, List.map_nil, Nat.reduceSub, List.replicate, List.cons_append, List.nil_append, R.bind_ok, R.bind_bad, R.nox_ok, RS.of_ok, List.getElem?_cons_zero, List.getElem?_cons_succ, List.set_cons_zero, List.set_cons_succ, Bool.not_true, Bool.not_false, Bool.false_eq_true, if_false, isNon, gSet, Int.reduceLT, Int.reduceLE, Int.reduceNeg, and_self, Nat.reduceLeDiff, Nat.reduceMul, decide_true, decide_false, Int.reduceEq, eq_self, reduceCtorEq, seq_nx, seq_rt, seq_bad, of_rt, of_nx, trd_rt, trd_nx, r_defn, r_seq, r_try, r_nil, r_expr, r_ret, r_if, r_set, r_asg, r_put, r_attr, r_var, r_c, r_bin, r_un, r_fn, r_fnL, r_call, r_make, made_ok, r_eattr, r_ixL, r_new, r_tup, r_disp, r_few, r_eif, r_eand, r_eor, r_enot, r_acons, r_anil, r_astar, r_astarL, r_val, r_tru, r_not, r_and, r_or, r_chain, r_inL, r_m1, r_joinL, r_sl, r_pno, r_pat, v_add, v_sub, v_mod, v_div, v_neg, v_lt, v_le, v_gt, v_ge, v_isN, v_notN, v_intI, v_intB, v_abs, v_strS, v_len, v_ixT, v_ixF, v_eqI, v_neI, v_eqS, v_neS, r_lcomp, r_pval, r_pseq, r_plist, r_planT, r_planS, q1, q2, q3, q4, q5, q6]
  rw [wAdd_lst g1 g2 (by simp)]
  simp only [List.length_cons, List.length_nil, Nat.reduceAdd, Nat.reduceEqDiff, if_true, List.map_cons, List.map_nil, Nat.reduceSub, List.replicate, List.cons_append, List.nil_append, R.bind_ok, R.bind_bad, R.nox_ok, RS.of_ok, List.getElem?_cons_zero, List.getElem?_cons_succ, List.set_cons_zero, List.set_cons_succ, Bool.not_true, Bool.not_false, Bool.false_eq_true, if_false, isNon, gSet, Int.reduceLT, Int.reduceLE, Int.reduceNeg, and_self, Nat.reduceLeDiff, Nat.reduceMul, decide_true, decide_false, Int.reduceEq, eq_self, reduceCtorEq, seq_nx, seq_rt, seq_bad, of_rt, of_nx, trd_rt, trd_nx, r_defn, r_seq, r_try, r_nil, r_expr, r_ret, r_if, r_set, r_asg, r_put, r_attr, r_var, r_c, r_bin, r_un, r_fn, r_fnL, r_call, r_make, made_ok, r_eattr, r_ixL, r_new, r_tup, r_disp, r_few, r_eif, r_eand, r_eor, r_enot, r_acons, r_anil, r_astar, r_astarL, r_val, r_tru, r_not, r_and, r_or, r_chain, r_inL, r_m1, r_joinL, r_sl, r_pno, r_pat, v_add, v_sub, v_mod, v_div, v_neg, v_lt, v_le, v_gt, v_ge, v_isN, v_notN, v_intI, v_intB, v_abs, v_strS, v_len, v_ixT, v_ixF, v_eqI, v_neI, v_eqS, v_neS, r_lcomp, r_pval, r_pseq, r_plist, r_planT, r_planS]
  simp [flags]
theorem key_ne : decide (kSet = kWrite) = false ∧ decide (kCopy = kWrite) = false ∧ decide (kRead = kWrite) = false := by decide
theorem due_ok (s : St) (m : Mem) : d__law_due [s.tup] m = .ok (.ref m.length) (m ++ [.lst ((flags s).map W.bl)]) := by
  unfold d__law_due b__law_due
  rw [tup_eq]
  simp only [List.length_cons, List.length_nil, Nat.reduceAdd, Nat.reduceEqDiff, if_true, List.map_cons, List.map_nil, Nat.reduceSub, List.replicate, List.cons_append, List.nil_append, R.bind_ok, R.bind_bad, R.nox_ok, RS.of_ok, List.getElem?_cons_zero, List.getElem?_cons_succ, List.set_cons_zero, List.set_cons_succ, Bool.not_true, Bool.not_false, Bool.false_eq_true, if_false, isNon, gSet, Int.reduceLT, Int.reduceLE, Int.reduceNeg, and_self, Nat.reduceLeDiff, Nat.reduceMul, decide_true, decide_false, Int.reduceEq, eq_self, reduceCtorEq, seq_nx, seq_rt, seq_bad, of_rt, of_nx, trd_rt, trd_nx, r_defn, r_seq, r_try, r_nil, r_expr, r_ret, r_if, r_set, r_asg, r_put, r_attr, r_var, r_c, r_bin, r_un, r_fn, r_fnL, r_call, r_make, made_ok, r_eattr, r_ixL, r_new, r_tup, r_disp, r_few, r_eif, r_eand, r_eor, r_enot, r_acons, r_anil, r_astar, r_astarL, r_val, r_tru, r_not, r_and, r_or, r_chain, r_inL, r_m1, r_joinL, r_sl, r_pno, r_pat, v_add, v_sub, v_mod, v_div, v_neg, v_lt, v_le, v_gt, v_ge, v_isN, v_notN, v_intI, v_intB, v_abs, v_strS, v_len, v_ixT, v_ixF, v_eqI, v_neI, v_eqS, v_neS, r_lcomp, r_pval, r_pseq, r_plist, r_planT, r_planS, at0]
  have e : [W.bl true, W.bl (!decide (s.key = [119, 114, 105, 116, 101])), W.bl (decide (s.key = [115, 101, 116])), W.bl (decide (s.key = [99, 111, 112, 121])), W.bl (decide (s.key = [114, 101, 97, 100])), W.bl (decide (s.key = [119, 114, 105, 116, 101]))] = (flags s).map W.bl := by
    cases s <;> rfl
  rw [e]
theorem dats_bl (m : Mem) (d : Nat) : ∀ bs : List Bool, dats m d (bs.map W.bl) = some (bs.map PyData.bool)
  | [] => by simp [dats]
  | b :: bs => by
    have : dat m d (.bl b) = some (.bool b) := by cases d <;> simp [dat]
    simp [dats, this, dats_bl m d bs]
theorem dat_bl {m : Mem} {n : Nat} {bs : List Bool} (h : m[n]? = some (.lst (bs.map W.bl))) : dat m 30 (.ref n) = some (.list (bs.map PyData.bool)) := by
  simp only [dat, h, dats_bl, Option.map_some]
theorem eqv_bl : ∀ bs : List Bool, PyData.eqvAll (bs.map PyData.bool) (bs.map PyData.bool) = true
  | [] => rfl
  | b :: bs => by simp [PyData.eqvAll, PyData.eqv, eqv_bl bs]
theorem shaped_bl (s : St) : PySem.SeqAt.shaped (.list ((flags s).map PyData.bool)) = true := by cases s <;> rfl
theorem ne_lists (s : St) (m : Mem) (a b : Nat) (ha : m[a]? = some (.lst ((flags s).map W.bl))) (hb : m[b]? = some (.lst ((flags s).map W.bl))) : wNe0 (.ref a) (.ref b) m = .ok (.bl false) m := by
  unfold wNe0 eqB0
  rw [if_neg (by simp [scalW])]
  unfold eqD
  rw [dat_bl ha, dat_bl hb]
  simp only [shaped_bl, and_self, if_true, R.bind_ok]
  have : PyData.eqv (.list ((flags s).map PyData.bool)) (.list ((flags s).map PyData.bool)) = true := by simp [PyData.eqv, eqv_bl]
  rw [this]; rfl
/-- == of a statement -/
theorem Eq_ok {s t : St} (hs : s.ok) (ht : t.ok) (i j : Nat) (m : Mem) (h1 : m[i]? = some s.ins) (h2 : m[j]? = some t.ins) : d_Statement___eq__ [.ref i, .ref j] m = .ok (.bl (decide (text s = text t))) (m ++ [.lst (s.vals.map Vl.w), .lst (t.vals.map Vl.w)]) := by
  unfold d_Statement___eq__ b_Statement___eq__
  obtain ⟨a1, _⟩ := isi_all t
  have g : (m ++ [O.lst (s.vals.map Vl.w)])[j]? = some t.ins := by rw [List.getElem?_append_left (List.getElem?_eq_some_iff.mp h2).1]; exact h2
  simp only [List.length_cons, List.length_nil, Nat.reduceAdd, Nat.reduceEqDiff, if_true, List.map_cons, List.map_nil, Nat.reduceSub, List.replicate, List.cons_append, List.nil_append, R.bind_ok, R.bind_bad, R.nox_ok, RS.of_ok, List.getElem?_cons_zero, List.getElem?_cons_succ, List.set_cons_zero, List.set_cons_succ, Bool.not_true, Bool.not_false, Bool.false_eq_true, if_false, isNon, gSet, Int.reduceLT, Int.reduceLE, Int.reduceNeg, and_self, Nat.reduceLeDiff, Nat.reduceMul, decide_true, decide_false, Int.reduceEq, eq_self, reduceCtorEq, seq_nx, seq_rt, seq_bad, of_rt, of_nx, trd_rt, trd_nx, r_defn, r_seq, r_try, r_nil, r_expr, r_ret, r_if, r_set, r_asg, r_put, r_attr, r_var, r_c, r_bin, r_un, r_fn, r_fnL, r_call, r_make, made_ok, r_eattr, r_ixL, r_new, r_tup, r_disp, r_few, r_eif, r_eand, r_eor, r_enot, r_acons, r_anil, r_astar, r_astarL, r_val, r_tru, r_not, r_and, r_or, r_chain, r_inL, r_m1, r_joinL, r_sl, r_pno, r_pat, v_add, v_sub, v_mod, v_div, v_neg, v_lt, v_le, v_gt, v_ge, v_isN, v_notN, v_intI, v_intB, v_abs, v_strS, v_len, v_ixT, v_ixF, v_eqI, v_neI, v_eqS, v_neS, r_lcomp, r_pval, r_pseq, r_plist, r_planT, r_planS, isi_own t j m h2 "Statement" _ a1, atext_ok hs i m h1, atext_ok ht j _ g]
  simp
theorem Eq_other (y : W) (i : Nat) (m : Mem) (h : bIsi isiT [y, .cls "Statement"] m = .ok (.bl false) m) : d_Statement___eq__ [.ref i, y] m = .ok (.bl false) m := by
  unfold d_Statement___eq__ b_Statement___eq__
  simp only [List.length_cons, List.length_nil, Nat.reduceAdd, Nat.reduceEqDiff, if_true, List.map_cons, List.map_nil, Nat.reduceSub, List.replicate, List.cons_append, List.nil_append, R.bind_ok, R.bind_bad, R.nox_ok, RS.of_ok, List.getElem?_cons_zero, List.getElem?_cons_succ, List.set_cons_zero, List.set_cons_succ, Bool.not_true, Bool.not_false, Bool.false_eq_true, if_false, isNon, gSet, Int.reduceLT, Int.reduceLE, Int.reduceNeg, and_self, Nat.reduceLeDiff, Nat.reduceMul, decide_true, decide_false, Int.reduceEq, eq_self, reduceCtorEq, seq_nx, seq_rt, seq_bad, of_rt, of_nx, trd_rt, trd_nx, r_defn, r_seq, r_try, r_nil, r_expr, r_ret, r_if, r_set, r_asg, r_put, r_attr, r_var, r_c, r_bin, r_un, r_fn, r_fnL, r_call, r_make, made_ok, r_eattr, r_ixL, r_new, r_tup, r_disp, r_few, r_eif, r_eand, r_eor, r_enot, r_acons, r_anil, r_astar, r_astarL, r_val, r_tru, r_not, r_and, r_or, r_chain, r_inL, r_m1, r_joinL, r_sl, r_pno, r_pat, v_add, v_sub, v_mod, v_div, v_neg, v_lt, v_le, v_gt, v_ge, v_isN, v_notN, v_intI, v_intB, v_abs, v_strS, v_len, v_ixT, v_ixF, v_eqI, v_neI, v_eqS, v_neS, r_lcomp, r_pval, r_pseq, r_plist, r_planT, r_planS, h]
theorem eqT_all (s : St) : eqT s.cls = some d_Statement___eq__ := by cases s <;> rfl
theorem nf_all (s t : St) : nfB s.cls (.own t.cls) = true ∧ nfB s.cls (.bi "str") = true ∧ nfB s.cls (.bi "int") = true := by
  cases s <;> cases t <;> simp only [St.cls] <;> decide
theorem insOf_st {s : St} {i : Nat} {m : Mem} (h : m[i]? = some s.ins) : insOf m (.ref i) = some (s.cls, s.flds) := by
  unfold insOf
  simp only [h, ins_eq]
theorem tyc_st {s : St} {i : Nat} {m : Mem} (h : m[i]? = some s.ins) : tyc (.ref i) m = some (.own s.cls) := by
  unfold tyc
  simp only [h, ins_eq]
theorem eqB_ok {s t : St} (hs : s.ok) (ht : t.ok) (i j : Nat) (m : Mem) (h1 : m[i]? = some s.ins) (h2 : m[j]? = some t.ins) : eqB eqT nfB (.ref i) (.ref j) m = .ok (.bl (decide (text s = text t))) (m ++ [.lst (s.vals.map Vl.w), .lst (t.vals.map Vl.w)]) := by
  unfold eqB
  simp only [insOf_st h1, eqT_all, tyc_st h2, (nf_all s t).1, if_true, Eq_ok hs ht i j m h1 h2, R.nox_ok, R.bind_ok]
theorem neB_ok {s t : St} (hs : s.ok) (ht : t.ok) (i j : Nat) (m : Mem) (h1 : m[i]? = some s.ins) (h2 : m[j]? = some t.ins) : neB eqT nfB (.ref i) (.ref j) m = .ok (.bl (!decide (text s = text t))) (m ++ [.lst (s.vals.map Vl.w), .lst (t.vals.map Vl.w)]) := by
  unfold neB
  simp only [insOf_st h1, eqT_all, tyc_st h2, (nf_all s t).1, if_true, Eq_ok hs ht i j m h1 h2, R.nox_ok, R.bind_ok]
theorem eqB_str {s : St} (i : Nat) (m : Mem) (l : List Nat) (h1 : m[i]? = some s.ins) : eqB eqT nfB (.ref i) (.str l) m = .ok (.bl false) m := by
  unfold eqB
  have ht : tyc (.str l) m = some (.bi "str") := rfl
  simp only [insOf_st h1, eqT_all, ht, (nf_all s s).2.1, if_true, Eq_other (.str l) i m rfl, R.nox_ok, R.bind_ok]
theorem eqB_int {s : St} (i : Nat) (m : Mem) (l : Int) (h1 : m[i]? = some s.ins) : eqB eqT nfB (.ref i) (.int l) m = .ok (.bl false) m := by
  unfold eqB
  have ht : tyc (.int l) m = some (.bi "int") := rfl
  simp only [insOf_st h1, eqT_all, ht, (nf_all s s).2.2, if_true, Eq_other (.int l) i m rfl, R.nox_ok, R.bind_ok]
end K01

namespace K01
open PySem Sh
/-! ### texts read -/
theorem rm_word : ∀ l ∈ menu, ∀ m : Mem, d_value_of [.str l] m = .ok (.str l) m := by
  unfold menu
  simp only [List.forall_mem_cons]
  exact ⟨fun m => rfl, fun m => rfl, fun m => rfl, fun m => rfl, fun m => rfl, fun m => rfl, fun m => rfl, fun m => rfl, fun m => rfl, fun m => rfl, fun m => rfl, fun m => rfl, fun l h => by cases h⟩
theorem sub_one (c : Nat) (r : List Nat) : PySem.Builtin.Str.subAt (Sh.S (c :: r)) (Sh.S [45]) 0 = decide (c = 45) := by
  unfold PySem.Builtin.Str.subAt
  have e : (Sh.S (c :: r)).cps.extract 0 (0 + (Sh.S [45]).length) = #[c] := by
    show ((c :: r).toArray).extract 0 1 = #[c]
    simp
  rw [e]
  by_cases h : c = 45
  · subst h; rfl
  · rw [decide_eq_false h]
    simp [h]
theorem rm_minus (r : List Nat) : (Txt.removeprefix (Sh.S (45 :: r)) (Sh.S [45])).cps.toList = r := by
  rw [PySem.StrLaws.removeprefix_eq, sub_one]
  have e1 : (Sh.S [45]).length = 1 := rfl
  have e2 : (Sh.S (45 :: r)).length = r.length + 1 := by rw [S_len]; rfl
  rw [e1, e2, if_pos (by simp)]
  simp
theorem rm_other (c : Nat) (r : List Nat) (h : c ≠ 45) : (Txt.removeprefix (Sh.S (c :: r)) (Sh.S [45])).cps.toList = c :: r := by
  rw [PySem.StrLaws.removeprefix_eq, sub_one, decide_eq_false h]
  simp
theorem digs {l : List Nat} (h : NumText.AllDigits l) : ∀ c ∈ l, decide (c ∈ [48, 49, 50, 51, 52, 53, 54, 55, 56, 57]) = true := fun c hc => by
  obtain ⟨h1, h2⟩ := h c hc
  apply decide_eq_true
  simp only [List.mem_cons, List.not_mem_nil, or_false]
  omega
theorem figs (l : List Nat) (w : W) (h : NumText.AllDigits l) (h1 : 1 ≤ l.length) (h2 : l.length ≤ 6) (m : Mem) :
    compLoop (srcStr l) (gSet 2) tYesB (eBin wIn (eVar 2) (eC (.str [48, 49, 50, 51, 52, 53, 54, 55, 56, 57]))) [some w, some (.str l), none] (l.length + 1) 0 [] m = .ok (l.map fun _ => .bl true) m := by
  have hc := comp_map (src := srcStr l) (ws := l.map fun c => .str [c]) (m := m) (k := 2) (e := eBin wIn (eVar 2) (eC (.str [48, 49, 50, 51, 52, 53, 54, 55, 56, 57]))) (σ := [some w, some (.str l), none]) (f := fun _ => .bl true) (by simp; omega) (fun i => by simp [srcStr]) (fun x hx => by
    obtain ⟨c, hc, rfl⟩ := List.mem_map.mp hx
    have e : wIn (.str [c]) (.str [48, 49, 50, 51, 52, 53, 54, 55, 56, 57]) m = .ok (.bl true) m := by
      show R.ok (W.bl (decide (c ∈ [48, 49, 50, 51, 52, 53, 54, 55, 56, 57]))) m = _
      rw [digs h c hc]
    simp only [List.length_cons, List.length_nil, Nat.reduceAdd, Nat.reduceEqDiff, if_true, List.map_cons, List.map_nil, Nat.reduceSub, List.replicate, List.cons_append, List.nil_append, R.bind_ok, R.bind_bad, R.nox_ok, RS.of_ok, List.getElem?_cons_zero, List.getElem?_cons_succ, List.set_cons_zero, List.set_cons_succ, Bool.not_true, Bool.not_false, Bool.false_eq_true, if_false, isNon, gSet, Int.reduceLT, Int.reduceLE, Int.reduceNeg, and_self, Nat.reduceLeDiff, Nat.reduceMul, decide_true, decide_false, Int.reduceEq, eq_self, reduceCtorEq, seq_nx, seq_rt, seq_bad, of_rt, of_nx, trd_rt, trd_nx, r_defn, r_seq, r_try, r_nil, r_expr, r_ret, r_if, r_set, r_asg, r_put, r_attr, r_var, r_c, r_bin, r_un, r_fn, r_fnL, r_call, r_make, made_ok, r_eattr, r_ixL, r_new, r_tup, r_disp, r_few, r_eif, r_eand, r_eor, r_enot, r_acons, r_anil, r_astar, r_astarL, r_val, r_tru, r_not, r_and, r_or, r_chain, r_inL, r_m1, r_joinL, r_sl, r_pno, r_pat, v_add, v_sub, v_mod, v_div, v_neg, v_lt, v_le, v_gt, v_ge, v_isN, v_notN, v_intI, v_intB, v_abs, v_strS, v_len, v_ixT, v_ixF, v_eqI, v_neI, v_eqS, v_neS, r_lcomp, r_pval, r_pseq, r_plist, r_planT, r_planS, e])
  rw [List.length_map, List.map_map] at hc
  exact hc
theorem bls_true : ∀ l : List Nat, blsW (l.map fun _ => W.bl true) = some (l.map fun _ => true)
  | [] => rfl
  | c :: l => by simp [blsW, bls_true l]
theorem value_run (l fs : List Nat) (i : Int) (hf : (Txt.removeprefix (Sh.S l) (Sh.S [45])).cps.toList = fs) (hd : NumText.AllDigits fs) (h1 : 1 ≤ fs.length) (h2 : fs.length ≤ 6) (hl : l.length ≤ 8) (hi : intText? (Sh.S l) = some i) (m : Mem) : d_value_of [.str l] m = .ok (.int i) m := by
  unfold d_value_of b_value_of
  have e1 : wRmPre (.str l) (.str [45]) m = .ok (.str fs) m := by
    show (if l.length ≤ 1000000 then R.ok (W.str (Txt.removeprefix (Sh.S l) (Sh.S [45])).cps.toList) m else .bad) = _
    rw [if_pos (by omega), hf]
  have e2 : lenW (.str fs) m = some fs.length := if_pos (by omega)
  have e3 : bAll (fs.map fun _ => .bl true) m = .ok (.bl true) m := by
    unfold bAll
    rw [bls_true]
    simp
  have e4 : bInt [.str l] m = .ok (.int i) m := by
    show (if l.length ≤ 640 then (match intText? (Sh.S l) with | some n => R.ok (W.int n) m | none => .bad) else .bad) = _
    rw [if_pos (by omega), hi]
  have e5 : decide (1 ≤ (fs.length : Int)) = true := decide_eq_true (by omega)
  have e6 : decide ((fs.length : Int) ≤ 6) = true := decide_eq_true (by omega)
  simp only [List.length_cons, List.length_nil, Nat.reduceAdd, Nat.reduceEqDiff, if_true, List.map_cons, List.map_nil, Nat.reduceSub, List.replicate, List.cons_append, List.nil_append, R.bind_ok, R.bind_bad, R.nox_ok, RS.of_ok, List.getElem?_cons_zero, List.getElem?_cons_succ, List.set_cons_zero, List.set_cons_succ, Bool.not_true, Bool.not_false, Bool.false_eq_true, if_false, isNon, gSet, Int.reduceLT, Int.reduceLE, Int.reduceNeg, and_self, Nat.reduceLeDiff, Nat.reduceMul, decide_true, decide_false, Int.reduceEq, eq_self, reduceCtorEq, seq_nx, seq_rt, seq_bad, of_rt, of_nx, trd_rt, trd_nx, r_defn, r_seq, r_try, r_nil, r_expr, r_ret, r_if, r_set, r_asg, r_put, r_attr, r_var, r_c, r_bin, r_un, r_fn, r_fnL, r_call, r_make, made_ok, r_eattr, r_ixL, r_new, r_tup, r_disp, r_few, r_eif, r_eand, r_eor, r_enot, r_acons, r_anil, r_astar, r_astarL, r_val, r_tru, r_not, r_and, r_or, r_chain, r_inL, r_m1, r_joinL, r_sl, r_pno, r_pat, v_add, v_sub, v_mod, v_div, v_neg, v_lt, v_le, v_gt, v_ge, v_isN, v_notN, v_intI, v_intB, v_abs, v_strS, v_len, v_ixT, v_ixF, v_eqI, v_neI, v_eqS, v_neS, r_lcomp, r_pval, r_pseq, r_plist, r_planT, r_planS, e1, e2, e5, e6, r_planS, wipeW, figs fs (.str l) hd h1 h2, e3, e4]
theorem value_back {v : Vl} (h : v.ok) (m : Mem) : d_value_of [.str v.str] m = .ok v.w m := by
  cases v with
  | nm l => exact rm_word l h m
  | nu i =>
    have h : -999999 ≤ i ∧ i ≤ 999999 := h
    show d_value_of [.str (dec i)] m = .ok (.int i) m
    rcases Int.lt_or_le i 0 with hn | hp
    · obtain ⟨n, rfl⟩ : ∃ n : Nat, i = -((n + 1 : Nat) : Int) := ⟨(-i - 1).toNat, by omega⟩
      have hl := TL.numL_len (n := n + 1) (k := 6) (by decide) (by omega)
      have hne := TL.numL_ne (n + 1)
      refine value_run _ (TL.numL (n + 1)) _ (by rw [dec_neg]; exact rm_minus _) (TL.numL_digits _) (List.length_pos_iff.mpr hne) hl (dec_len h) (dec_int h) m
    · obtain ⟨n, rfl⟩ : ∃ n : Nat, i = (n : Int) := ⟨i.toNat, by omega⟩
      have hl := TL.numL_len (n := n) (k := 6) (by decide) (by omega)
      have hne := TL.numL_ne n
      have hd := TL.numL_digits n
      refine value_run _ (TL.numL n) _ ?_ hd (List.length_pos_iff.mpr hne) hl (dec_len h) (dec_int h) m
      rw [dec_nat]
      cases e : TL.numL n with
      | nil => exact absurd e hne
      | cons c r =>
        have := hd c (by rw [e]; exact List.mem_cons_self)
        exact rm_other c r (by omega)
/-! ### a whole statement read -/
theorem no32 {s : St} (h : s.ok) : ∀ p ∈ parts s, (32 : Nat) ∉ p := by
  have hm : ∀ l ∈ menu, (32 : Nat) ∉ l := by decide
  have ho : ∀ l ∈ ops, (32 : Nat) ∉ l := by decide
  have hv : ∀ v : Vl, v.ok → (32 : Nat) ∉ v.str := fun v hv => by
    cases v with
    | nm l => exact hm l hv
    | nu i =>
      intro h32
      have h32 : (32 : Nat) ∈ dec i := h32
      rcases Int.lt_or_le i 0 with hn | hp
      · obtain ⟨n, rfl⟩ : ∃ n : Nat, i = -((n + 1 : Nat) : Int) := ⟨(-i - 1).toNat, by omega⟩
        rw [dec_neg] at h32
        rcases List.mem_cons.mp h32 with e | e
        · omega
        · have := TL.numL_digits _ _ e; omega
      · obtain ⟨n, rfl⟩ : ∃ n : Nat, i = (n : Int) := ⟨i.toNat, by omega⟩
        rw [dec_nat] at h32
        have := TL.numL_digits _ _ h32; omega
  intro p hp
  rcases List.mem_cons.mp hp with rfl | hp
  · cases s <;> (simp only [St.key]; decide)
  · obtain ⟨v, hvm, rfl⟩ := List.mem_map.mp hp
    cases s with
    | set x a op b =>
      obtain ⟨h1, h2, h3, h4⟩ := h
      simp only [St.vals, List.mem_cons, List.not_mem_nil, or_false] at hvm
      rcases hvm with rfl | rfl | rfl | rfl
      · exact hm _ h1
      · exact hv _ h2
      · exact ho _ h3
      · exact hv _ h4
    | copy x a =>
      obtain ⟨h1, h2⟩ := h
      simp only [St.vals, List.mem_cons, List.not_mem_nil, or_false] at hvm
      rcases hvm with rfl | rfl
      · exact hm _ h1
      · exact hv _ h2
    | read x =>
      simp only [St.vals, List.mem_cons, List.not_mem_nil, or_false] at hvm
      subst hvm; exact hm _ h
    | write a =>
      simp only [St.vals, List.mem_cons, List.not_mem_nil, or_false] at hvm
      subst hvm; exact hv _ h
theorem text_len {s : St} (h : s.ok) : (text s).length ≤ 1000000 := by
  have go : ∀ ys : List (List Nat), (TL.joinL [32] ys).length ≤ (ys.map (·.length)).sum + ys.length := by
    intro ys
    induction ys with
    | nil => exact Nat.le_refl _
    | cons y ys ih =>
      cases ys with
      | nil => simp [TL.joinL]
      | cons z ys =>
        show (y ++ ([32] ++ TL.joinL [32] (z :: ys))).length ≤ _
        simp only [List.length_append, List.map_cons, List.sum_cons, List.length_cons] at ih ⊢
        simp only [List.length_nil]
        omega
  have h1 := go (parts s)
  have h2 := sum_len (parts_len h)
  have h3 := parts_n s
  unfold text
  omega
theorem split_ok {s : St} (h : s.ok) (m : Mem) : splitW (.str (text s)) (.str [32]) m = .ok ((parts s).map W.str) m := by
  show (if ([32] : List Nat) ≠ [] ∧ ([32] : List Nat).all (· < 256) = true ∧ (text s).length ≤ 1000000 then R.ok ((TL.spl [32] 0 [] (text s)).map W.str) m else .bad) = _
  rw [if_pos ⟨by decide, by decide, text_len h⟩]
  have e : TL.spl [32] 0 [] (text s) = parts s := TL.spl_join (by simp [parts]) (no32 h)
  rw [e]
end K01

namespace K01
open PySem Sh
theorem starK {n : Nat} {w : W} {ws : List W} {m : Mem} {σ : Sh.Loc} (h : m[n]? = some (.lst (w :: ws))) : gStar [gSet 1, gSet 2] 1 (.ref n) σ m = .ok ((σ.set 1 (some w)).set 2 (some (.ref m.length))) (m ++ [.lst ws]) := by
  unfold gStar
  simp only [h, List.length_cons]
  rw [if_pos (by omega)]
  simp only [List.take_succ_cons, List.take_zero, List.drop_succ_cons, List.drop_zero, List.cons_append, List.nil_append, gTups, gSet, R.bind_ok]
theorem seq4 {n : Nat} {a b c d : W} {m : Mem} {σ : Sh.Loc} (h : m[n]? = some (.lst [a, b, c, d])) : gSeq [gSet 3, gSet 4, gSet 5, gSet 6] (.ref n) σ m = .ok ((((σ.set 3 (some a)).set 4 (some b)).set 5 (some c)).set 6 (some d)) m := by
  unfold gSeq
  simp only [h, List.length_cons, List.length_nil, if_true, gTups, gSet, R.bind_ok]
theorem lenR {n : Nat} {ws : List W} {m : Mem} (h : m[n]? = some (.lst ws)) : bLen [.ref n] m = .ok (.int (ws.length : Int)) m := by
  have e : lenW (.ref n) m = some ws.length := by unfold lenW; simp only [h]
  show (match lenW (.ref n) m with | some n => R.ok (W.int (n : Int)) m | none => .bad) = _
  rw [e]
theorem in_ok {s : St} (h : s.ok) (m : Mem) : ∃ l1 l2 : O, d_statement_in [.str (text s)] m = .ok (.ref (m.length + 2)) (m ++ [l1, l2, s.ins]) := by
  unfold d_statement_in b_statement_in
  have g0 : (m ++ [O.lst ((parts s).map W.str)])[m.length]? = some (.lst (.str s.key :: (s.vals.map Vl.str).map W.str)) := by simp [parts]
  have hs := split_ok h m
  refine ⟨.lst ((parts s).map W.str), .lst ((s.vals.map Vl.str).map W.str), ?_⟩
  simp only [List.length_cons, List.length_nil, Nat.reduceAdd, Nat.reduceEqDiff, if_true, List.map_cons, List.map_nil, Nat.reduceSub, List.replicate, List.cons_append, List.nil_append, R.bind_ok, R.bind_bad, R.nox_ok, RS.of_ok, List.getElem?_cons_zero, List.getElem?_cons_succ, List.set_cons_zero, List.set_cons_succ, Bool.not_true, Bool.not_false, Bool.false_eq_true, if_false, isNon, gSet, Int.reduceLT, Int.reduceLE, Int.reduceNeg, and_self, Nat.reduceLeDiff, Nat.reduceMul, decide_true, decide_false, Int.reduceEq, eq_self, reduceCtorEq, seq_nx, seq_rt, seq_bad, of_rt, of_nx, trd_rt, trd_nx, r_defn, r_seq, r_try, r_nil, r_expr, r_ret, r_if, r_set, r_asg, r_put, r_attr, r_var, r_c, r_bin, r_un, r_fn, r_fnL, r_call, r_make, made_ok, r_eattr, r_ixL, r_new, r_tup, r_disp, r_few, r_eif, r_eand, r_eor, r_enot, r_acons, r_anil, r_astar, r_astarL, r_val, r_tru, r_not, r_and, r_or, r_chain, r_inL, r_m1, r_joinL, r_sl, r_pno, r_pat, v_add, v_sub, v_mod, v_div, v_neg, v_lt, v_le, v_gt, v_ge, v_isN, v_notN, v_intI, v_intB, v_abs, v_strS, v_ixT, v_ixF, v_eqI, v_neI, v_eqS, v_neS, r_lcomp, r_pval, r_pseq, r_plist, r_planT, r_planS, r_split, hs, starK g0]
  have gk : ((m ++ [O.lst ((parts s).map W.str)]) ++ [O.lst ((s.vals.map Vl.str).map W.str)])[(m ++ [O.lst ((parts s).map W.str)]).length]? = some (.lst ((s.vals.map Vl.str).map W.str)) := last_get
  have hn : ((m ++ [O.lst ((parts s).map W.str)]) ++ [O.lst ((s.vals.map Vl.str).map W.str)]).length = m.length + 2 := by simp
  have ha : ((m ++ [O.lst ((parts s).map W.str)]) ++ [O.lst ((s.vals.map Vl.str).map W.str)]) ++ [s.ins] = m ++ [O.lst ((parts s).map W.str), O.lst ((s.vals.map Vl.str).map W.str), s.ins] := by simp
  have hl := lenR gk
  generalize (m ++ [O.lst ((parts s).map W.str)]).length = k at gk hl ⊢
  generalize (m ++ [O.lst ((parts s).map W.str)]) ++ [O.lst ((s.vals.map Vl.str).map W.str)] = M at gk hl hn ha ⊢
  rw [← ha, ← hn]
  cases s with
  | set x a op b =>
    obtain ⟨h1, h2, h3, h4⟩ := h
    have q := mkSet_ok M x op a b ⟨h1, h2, h3, h4⟩
    have gk' : M[k]? = some (.lst [.str x, .str a.str, .str op, .str b.str]) := gk
    have hl' : bLen [.ref k] M = .ok (.int 4) M := hl
    simp only [List.length_cons, List.length_nil, Nat.reduceAdd, Nat.reduceEqDiff, if_true, List.map_cons, List.map_nil, Nat.reduceSub, List.replicate, List.cons_append, List.nil_append, R.bind_ok, R.bind_bad, R.nox_ok, RS.of_ok, List.getElem?_cons_zero, List.getElem?_cons_succ, List.set_cons_zero, List.set_cons_succ, Bool.not_true, Bool.not_false, Bool.false_eq_true, if_false, isNon, gSet, Int.reduceLT, Int.reduceLE, Int.reduceNeg, and_self, Nat.reduceLeDiff, Nat.reduceMul, decide_true, decide_false, Int.reduceEq, eq_self, reduceCtorEq, seq_nx, seq_rt, seq_bad, of_rt, of_nx, trd_rt, trd_nx, r_defn, r_seq, r_try, r_nil, r_expr, r_ret, r_if, r_set, r_asg, r_put, r_attr, r_var, r_c, r_bin, r_un, r_fn, r_fnL, r_call, r_make, made_ok, r_eattr, r_ixL, r_new, r_tup, r_disp, r_few, r_eif, r_eand, r_eor, r_enot, r_acons, r_anil, r_astar, r_astarL, r_val, r_tru, r_not, r_and, r_or, r_chain, r_inL, r_m1, r_joinL, r_sl, r_pno, r_pat, v_add, v_sub, v_mod, v_div, v_neg, v_lt, v_le, v_gt, v_ge, v_isN, v_notN, v_intI, v_intB, v_abs, v_strS, v_ixT, v_ixF, v_eqI, v_neI, v_eqS, v_neS, r_lcomp, r_pval, r_pseq, r_plist, r_planT, r_planS, St.key, kSet, hl', seq4 gk', value_back h2, value_back h4, q]
  | copy x a =>
    obtain ⟨h1, h2⟩ := h
    have q := mkCopy_ok M x a ⟨h1, h2⟩
    have gk' : M[k]? = some (.lst [.str x, .str a.str]) := gk
    have hl' : bLen [.ref k] M = .ok (.int 2) M := hl
    have i0 : wIx (.ref k) (.int 0) M = .ok (.str x) M := (v_ixR gk').trans at0
    have i1 : wIx (.ref k) (.int 1) M = .ok (.str a.str) M := (v_ixR gk').trans at1
    simp only [List.length_cons, List.length_nil, Nat.reduceAdd, Nat.reduceEqDiff, if_true, List.map_cons, List.map_nil, Nat.reduceSub, List.replicate, List.cons_append, List.nil_append, R.bind_ok, R.bind_bad, R.nox_ok, RS.of_ok, List.getElem?_cons_zero, List.getElem?_cons_succ, List.set_cons_zero, List.set_cons_succ, Bool.not_true, Bool.not_false, Bool.false_eq_true, if_false, isNon, gSet, Int.reduceLT, Int.reduceLE, Int.reduceNeg, and_self, Nat.reduceLeDiff, Nat.reduceMul, decide_true, decide_false, Int.reduceEq, eq_self, reduceCtorEq, seq_nx, seq_rt, seq_bad, of_rt, of_nx, trd_rt, trd_nx, r_defn, r_seq, r_try, r_nil, r_expr, r_ret, r_if, r_set, r_asg, r_put, r_attr, r_var, r_c, r_bin, r_un, r_fn, r_fnL, r_call, r_make, made_ok, r_eattr, r_ixL, r_new, r_tup, r_disp, r_few, r_eif, r_eand, r_eor, r_enot, r_acons, r_anil, r_astar, r_astarL, r_val, r_tru, r_not, r_and, r_or, r_chain, r_inL, r_m1, r_joinL, r_sl, r_pno, r_pat, v_add, v_sub, v_mod, v_div, v_neg, v_lt, v_le, v_gt, v_ge, v_isN, v_notN, v_intI, v_intB, v_abs, v_strS, v_ixT, v_ixF, v_eqI, v_neI, v_eqS, v_neS, r_lcomp, r_pval, r_pseq, r_plist, r_planT, r_planS, St.key, kCopy, hl', i0, i1, value_back h2, q, List.cons.injEq, Nat.reduceEqDiff, false_and, and_false]
  | read x =>
    have q := assign_ok M "Read" x rfl h
    have gk' : M[k]? = some (.lst [.str x]) := gk
    have hl' : bLen [.ref k] M = .ok (.int 1) M := hl
    have i0 : wIx (.ref k) (.int 0) M = .ok (.str x) M := (v_ixR gk').trans at0
    simp only [List.length_cons, List.length_nil, Nat.reduceAdd, Nat.reduceEqDiff, if_true, List.map_cons, List.map_nil, Nat.reduceSub, List.replicate, List.cons_append, List.nil_append, R.bind_ok, R.bind_bad, R.nox_ok, RS.of_ok, List.getElem?_cons_zero, List.getElem?_cons_succ, List.set_cons_zero, List.set_cons_succ, Bool.not_true, Bool.not_false, Bool.false_eq_true, if_false, isNon, gSet, Int.reduceLT, Int.reduceLE, Int.reduceNeg, and_self, Nat.reduceLeDiff, Nat.reduceMul, decide_true, decide_false, Int.reduceEq, eq_self, reduceCtorEq, seq_nx, seq_rt, seq_bad, of_rt, of_nx, trd_rt, trd_nx, r_defn, r_seq, r_try, r_nil, r_expr, r_ret, r_if, r_set, r_asg, r_put, r_attr, r_var, r_c, r_bin, r_un, r_fn, r_fnL, r_call, r_make, made_ok, r_eattr, r_ixL, r_new, r_tup, r_disp, r_few, r_eif, r_eand, r_eor, r_enot, r_acons, r_anil, r_astar, r_astarL, r_val, r_tru, r_not, r_and, r_or, r_chain, r_inL, r_m1, r_joinL, r_sl, r_pno, r_pat, v_add, v_sub, v_mod, v_div, v_neg, v_lt, v_le, v_gt, v_ge, v_isN, v_notN, v_intI, v_intB, v_abs, v_strS, v_ixT, v_ixF, v_eqI, v_neI, v_eqS, v_neS, r_lcomp, r_pval, r_pseq, r_plist, r_planT, r_planS, St.key, kRead, hl', i0, q, List.cons.injEq, Nat.reduceEqDiff, false_and, and_false, St.ins]
  | write a =>
    have q := mkWrite_ok M a h
    have gk' : M[k]? = some (.lst [.str a.str]) := gk
    have hl' : bLen [.ref k] M = .ok (.int 1) M := hl
    have i0 : wIx (.ref k) (.int 0) M = .ok (.str a.str) M := (v_ixR gk').trans at0
    simp only [List.length_cons, List.length_nil, Nat.reduceAdd, Nat.reduceEqDiff, if_true, List.map_cons, List.map_nil, Nat.reduceSub, List.replicate, List.cons_append, List.nil_append, R.bind_ok, R.bind_bad, R.nox_ok, RS.of_ok, List.getElem?_cons_zero, List.getElem?_cons_succ, List.set_cons_zero, List.set_cons_succ, Bool.not_true, Bool.not_false, Bool.false_eq_true, if_false, isNon, gSet, Int.reduceLT, Int.reduceLE, Int.reduceNeg, and_self, Nat.reduceLeDiff, Nat.reduceMul, decide_true, decide_false, Int.reduceEq, eq_self, reduceCtorEq, seq_nx, seq_rt, seq_bad, of_rt, of_nx, trd_rt, trd_nx, r_defn, r_seq, r_try, r_nil, r_expr, r_ret, r_if, r_set, r_asg, r_put, r_attr, r_var, r_c, r_bin, r_un, r_fn, r_fnL, r_call, r_make, made_ok, r_eattr, r_ixL, r_new, r_tup, r_disp, r_few, r_eif, r_eand, r_eor, r_enot, r_acons, r_anil, r_astar, r_astarL, r_val, r_tru, r_not, r_and, r_or, r_chain, r_inL, r_m1, r_joinL, r_sl, r_pno, r_pat, v_add, v_sub, v_mod, v_div, v_neg, v_lt, v_le, v_gt, v_ge, v_isN, v_notN, v_intI, v_intB, v_abs, v_strS, v_ixT, v_ixF, v_eqI, v_neI, v_eqS, v_neS, r_lcomp, r_pval, r_pseq, r_plist, r_planT, r_planS, St.key, kWrite, hl', i0, value_back h, q, List.cons.injEq, Nat.reduceEqDiff, false_and, and_false]
theorem read_ok {s : St} (h : s.ok) (m : Mem) : ∃ (l : Mem), l.length = 2 ∧ ∃ l3 : O, d_Statement_read [.str (text s)] m = .ok (.ref (m.length + 2)) (m ++ l ++ [s.ins] ++ [l3]) := by
  obtain ⟨l1, l2, e⟩ := in_ok h m
  unfold d_Statement_read b_Statement_read
  have g : (m ++ [l1, l2, s.ins])[m.length + 2]? = some s.ins := by simp
  refine ⟨[l1, l2], rfl, .lst (s.vals.map Vl.w), ?_⟩
  simp only [List.length_cons, List.length_nil, Nat.reduceAdd, Nat.reduceEqDiff, if_true, List.map_cons, List.map_nil, Nat.reduceSub, List.replicate, List.cons_append, List.nil_append, R.bind_ok, R.bind_bad, R.nox_ok, RS.of_ok, List.getElem?_cons_zero, List.getElem?_cons_succ, List.set_cons_zero, List.set_cons_succ, Bool.not_true, Bool.not_false, Bool.false_eq_true, if_false, isNon, gSet, Int.reduceLT, Int.reduceLE, Int.reduceNeg, and_self, Nat.reduceLeDiff, Nat.reduceMul, decide_true, decide_false, Int.reduceEq, eq_self, reduceCtorEq, seq_nx, seq_rt, seq_bad, of_rt, of_nx, trd_rt, trd_nx, r_defn, r_seq, r_try, r_nil, r_expr, r_ret, r_if, r_set, r_asg, r_put, r_attr, r_var, r_c, r_bin, r_un, r_fn, r_fnL, r_call, r_make, made_ok, r_eattr, r_ixL, r_new, r_tup, r_disp, r_few, r_eif, r_eand, r_eor, r_enot, r_acons, r_anil, r_astar, r_astarL, r_val, r_tru, r_not, r_and, r_or, r_chain, r_inL, r_m1, r_joinL, r_sl, r_pno, r_pat, v_add, v_sub, v_mod, v_div, v_neg, v_lt, v_le, v_gt, v_ge, v_isN, v_notN, v_intI, v_intB, v_abs, v_strS, v_len, v_ixT, v_ixF, v_eqI, v_neI, v_eqS, v_neS, r_lcomp, r_pval, r_pseq, r_plist, r_planT, r_planS, isi_si, e, atext_ok h _ _ g]
  simp
end K01

namespace K01
open PySem Sh
/-! ### the loops: memory only grows -/
def Ext (m m' : Mem) : Prop := ∃ l : Mem, m' = m ++ l
theorem Ext.refl (m : Mem) : Ext m m := ⟨[], by simp⟩
theorem Ext.add {m m' : Mem} (h : Ext m m') (l : Mem) : Ext m (m' ++ l) := by
  obtain ⟨k, rfl⟩ := h
  exact ⟨k ++ l, by simp⟩
theorem Ext.trans {m m' m'' : Mem} (h : Ext m m') (h' : Ext m' m'') : Ext m m'' := by
  obtain ⟨k, rfl⟩ := h'
  exact h.add k
theorem Ext.get {m m' : Mem} (h : Ext m m') {i : Nat} {o : O} (g : m[i]? = some o) : m'[i]? = some o := by
  obtain ⟨k, rfl⟩ := h
  rw [List.getElem?_append_left (List.getElem?_eq_some_iff.mp g).1]
  exact g
structure Made (a b : Nat) (ss : List St) (js : List Nat) (m : Mem) : Prop where
  la : m[a]? = some (.lst (ss.map St.tup))
  lb : m[b]? = some (.lst (js.map W.ref))
  n : js.length = ss.length
  ok : ∀ s ∈ ss, s.ok
  at' : ∀ (i : Nat) (s : St) (j : Nat), ss[i]? = some s → js[i]? = some j → m[j]? = some s.ins
theorem Made.ext {a b : Nat} {ss : List St} {js : List Nat} {m m' : Mem} (h : Made a b ss js m) (e : Ext m m') : Made a b ss js m' :=
  ⟨e.get h.la, e.get h.lb, h.n, h.ok, fun i s j h1 h2 => e.get (h.at' i s j h1 h2)⟩
theorem Made.src {a b : Nat} {ss : List St} {js : List Nat} {m : Mem} (h : Made a b ss js m) {i : Nat} (hi : i < ss.length) : ∃ s j, ss[i]? = some s ∧ js[i]? = some j ∧ s ∈ ss ∧ srcZip (srcLive a) (srcLive b) i m = some (some (.tup [s.tup, .ref j])) := by
  have hj : i < js.length := by rw [h.n]; exact hi
  refine ⟨ss[i], js[i], List.getElem?_eq_getElem hi, List.getElem?_eq_getElem hj, List.getElem_mem hi, ?_⟩
  unfold srcZip
  rw [live_at h.la, live_at h.lb]
  simp [hi, hj]
theorem Made.stop {a b : Nat} {ss : List St} {js : List Nat} {m : Mem} (h : Made a b ss js m) : srcZip (srcLive a) (srcLive b) ss.length m = some none := by
  unfold srcZip
  rw [live_at h.la, live_at h.lb]
  have := h.n
  simp [← this]
theorem Made.plan {a b : Nat} {ss : List St} {js : List Nat} {m : Mem} (h : Made a b ss js m) {x y : Nat} {σ : Sh.Loc} (hx : eVar x σ m = .ok (.ref a) m) (hy : eVar y σ m = .ok (.ref b) m) : pZip (pSeq (eVar x)) (pSeq (eVar y)) σ m = .ok ⟨ss.length, srcZip (srcLive a) (srcLive b)⟩ m := by
  show ((eVar x σ m).bind planL).bind (fun pl m1 => ((eVar y σ m1).bind planL).bind fun pl' m2 => zipPlan pl pl' m2) = _
  have ha : planL (.ref a) m = .ok ⟨ss.length, srcLive a⟩ m := by
    have := planLR h.la; rw [List.length_map] at this; exact this
  have hb : planL (.ref b) m = .ok ⟨ss.length, srcLive b⟩ m := by
    have := planLR h.lb; rw [List.length_map, h.n] at this; exact this
  rw [hx, R.bind_ok, ha, R.bind_ok, hy, R.bind_ok, hb, R.bind_ok]
  show (match srcLive a 0 m with | some _ => R.ok (⟨min ss.length ss.length, srcZip (srcLive a) (srcLive b)⟩ : Plan) m | none => .bad) = _
  rw [live_at h.la, Nat.min_self]
theorem z56 {x y : W} {σ : Sh.Loc} {m : Mem} (i j : Nat) : gSeq [gSet i, gSet j] (.tup [x, y]) σ m = .ok ((σ.set i (some x)).set j (some y)) m := rfl
/-! ### the innermost loop -/
def bI : DS := sSeq (sSet 12 (eBin wEq0 (eVar 7) (eCall d__law_statement_text (aCons (eVar 10) (aNil))))) (sIf (tOr (tVal (eBin wNe0 (eBin (eqB eqT nfB) (eVar 6) (eVar 11)) (eVar 12))) (tVal (eBin wEq0 (eBin (neB eqT nfB) (eVar 6) (eVar 11)) (eVar 12)))) (sRet (eC (.bl false))) (sNil))
theorem eq_strs (x y : List Nat) (m : Mem) : wEq0 (.str x) (.str y) m = .ok (.bl (decide (x = y))) m := v_eqS
theorem ne_bls (x y : Bool) (m : Mem) : wNe0 (.bl x) (.bl y) m = .ok (.bl (!decide (x = y))) m := by
  cases x <;> cases y <;> rfl
theorem eq_bls (x y : Bool) (m : Mem) : wEq0 (.bl x) (.bl y) m = .ok (.bl (decide (x = y))) m := by
  cases x <;> cases y <;> rfl
def loc (c : List (Option W)) (a b : Nat) (x5 x6 x7 x8 x9 x10 x11 x12 : Option W) : Sh.Loc := c ++ [some (.ref a), some (.ref b), x5, x6, x7, x8, x9, x10, x11, x12]
theorem inner_step {s t : St} (hs : s.ok) (ht : t.ok) (i j : Nat) (m : Mem) (h1 : m[i]? = some s.ins) (h2 : m[j]? = some t.ins) (y0 y1 y2 : W) (x3 x4 x5 x8 x9 x12 : Option W) :
    ∃ l : Mem, bI [some y0, some y1, some y2, x3, x4, x5, some (.ref i), some (.str (text s)), x8, x9, some t.tup, some (.ref j), x12] m = .nx [some y0, some y1, some y2, x3, x4, x5, some (.ref i), some (.str (text s)), x8, x9, some t.tup, some (.ref j), some (.bl (decide (text s = text t)))] (m ++ l) := by
  unfold bI
  have e1 := eqB_ok hs ht i j m h1 h2
  have e0 : Ext m (m ++ [.lst (s.vals.map Vl.w), .lst (t.vals.map Vl.w)]) := ⟨_, rfl⟩
  have e2 := neB_ok hs ht i j _ (e0.get h1) (e0.get h2)
  refine ⟨[.lst (s.vals.map Vl.w), .lst (t.vals.map Vl.w)] ++ [.lst (s.vals.map Vl.w), .lst (t.vals.map Vl.w)], ?_⟩
  cases hd : decide (text s = text t) with
  | true =>
    rw [hd] at e1 e2
    simp only [List.length_cons, List.length_nil, Nat.reduceAdd, Nat.reduceEqDiff, if_true, List.map_cons, List.map_nil, Nat.reduceSub, List.replicate, List.cons_append, List.nil_append, R.bind_ok, R.bind_bad, R.nox_ok, RS.of_ok, List.getElem?_cons_zero, List.getElem?_cons_succ, List.set_cons_zero, List.set_cons_succ, Bool.not_true, Bool.not_false, Bool.false_eq_true, if_false, isNon, gSet, Int.reduceLT, Int.reduceLE, Int.reduceNeg, and_self, Nat.reduceLeDiff, Nat.reduceMul, decide_true, decide_false, Int.reduceEq, eq_self, reduceCtorEq, seq_nx, seq_rt, seq_bad, of_rt, of_nx, trd_rt, trd_nx, r_defn, r_seq, r_try, r_nil, r_expr, r_ret, r_if, r_set, r_asg, r_put, r_attr, r_var, r_c, r_bin, r_un, r_fn, r_fnL, r_call, r_make, made_ok, r_eattr, r_ixL, r_new, r_tup, r_disp, r_few, r_eif, r_eand, r_eor, r_enot, r_acons, r_anil, r_astar, r_astarL, r_val, r_tru, r_not, r_and, r_or, r_chain, r_inL, r_m1, r_joinL, r_sl, r_pno, r_pat, v_add, v_sub, v_mod, v_div, v_neg, v_lt, v_le, v_gt, v_ge, v_isN, v_notN, v_intI, v_intB, v_abs, v_strS, v_ixT, v_ixF, v_eqI, v_neI, v_eqS, v_neS, r_lcomp, r_pval, r_pseq, r_plist, r_planT, r_planS, stext_ok ht, eq_strs, hd, e1, e2, ne_bls, eq_bls, List.append_assoc]
  | false =>
    rw [hd] at e1 e2
    simp only [List.length_cons, List.length_nil, Nat.reduceAdd, Nat.reduceEqDiff, if_true, List.map_cons, List.map_nil, Nat.reduceSub, List.replicate, List.cons_append, List.nil_append, R.bind_ok, R.bind_bad, R.nox_ok, RS.of_ok, List.getElem?_cons_zero, List.getElem?_cons_succ, List.set_cons_zero, List.set_cons_succ, Bool.not_true, Bool.not_false, Bool.false_eq_true, if_false, isNon, gSet, Int.reduceLT, Int.reduceLE, Int.reduceNeg, and_self, Nat.reduceLeDiff, Nat.reduceMul, decide_true, decide_false, Int.reduceEq, eq_self, reduceCtorEq, seq_nx, seq_rt, seq_bad, of_rt, of_nx, trd_rt, trd_nx, r_defn, r_seq, r_try, r_nil, r_expr, r_ret, r_if, r_set, r_asg, r_put, r_attr, r_var, r_c, r_bin, r_un, r_fn, r_fnL, r_call, r_make, made_ok, r_eattr, r_ixL, r_new, r_tup, r_disp, r_few, r_eif, r_eand, r_eor, r_enot, r_acons, r_anil, r_astar, r_astarL, r_val, r_tru, r_not, r_and, r_or, r_chain, r_inL, r_m1, r_joinL, r_sl, r_pno, r_pat, v_add, v_sub, v_mod, v_div, v_neg, v_lt, v_le, v_gt, v_ge, v_isN, v_notN, v_intI, v_intB, v_abs, v_strS, v_ixT, v_ixF, v_eqI, v_neI, v_eqS, v_neS, r_lcomp, r_pval, r_pseq, r_plist, r_planT, r_planS, stext_ok ht, eq_strs, hd, e1, e2, ne_bls, eq_bls, List.append_assoc]
theorem inner_ok {a b : Nat} {ss : List St} {js : List Nat} {s : St} (hs : s.ok) (i : Nat) (m : Mem) (hm : Made a b ss js m) (h1 : m[i]? = some s.ins) (y0 y1 y2 : W) (x5 x8 x9 x10 x11 x12 : Option W) :
    ∃ (x10' x11' x12' : Option W) (m' : Mem), sFor (pZip (pSeq (eVar 3)) (pSeq (eVar 4))) (gSeq [gSet 10, gSet 11]) bI [some y0, some y1, some y2, some (.ref a), some (.ref b), x5, some (.ref i), some (.str (text s)), x8, x9, x10, x11, x12] m = .nx [some y0, some y1, some y2, some (.ref a), some (.ref b), x5, some (.ref i), some (.str (text s)), x8, x9, x10', x11', x12'] m' ∧ Ext m m' := by
  have hp : pZip (pSeq (eVar 3)) (pSeq (eVar 4)) [some y0, some y1, some y2, some (.ref a), some (.ref b), x5, some (.ref i), some (.str (text s)), x8, x9, x10, x11, x12] m = .ok ⟨ss.length, srcZip (srcLive a) (srcLive b)⟩ m := hm.plan rfl rfl
  unfold sFor
  rw [hp, RS.of_ok]
  obtain ⟨σ', m', e, x10', x11', x12', rfl, hE⟩ := forLoop_nx (src := srcZip (srcLive a) (srcLive b)) (h := gSeq [gSet 10, gSet 11]) (b := bI) (N := ss.length)
    (fun _ σ' m' => ∃ x10' x11' x12', σ' = [some y0, some y1, some y2, some (.ref a), some (.ref b), x5, some (.ref i), some (.str (text s)), x8, x9, x10', x11', x12'] ∧ Ext m m')
    (fun k σ m' hk ⟨x10, x11, x12, hσ, hE⟩ => by
      subst hσ
      obtain ⟨t, j, g1, g2, g3, g4⟩ := (hm.ext hE).src hk
      obtain ⟨l, hl⟩ := inner_step hs (hm.ok t g3) i j m' (hE.get h1) ((hm.ext hE).at' k t j g1 g2) y0 y1 y2 (some (.ref a)) (some (.ref b)) x5 x8 x9 x12
      exact ⟨_, _, _, _, _, g4, z56 10 11, hl, _, _, _, rfl, hE.add l⟩)
    (fun σ m' ⟨_, _, _, _, hE⟩ => (hm.ext hE).stop) ss.length 0 _ m (by omega) ⟨x10, x11, x12, rfl, Ext.refl m⟩
  exact ⟨x10', x11', x12', m', e, hE⟩
end K01

namespace K01
open PySem Sh
/-! ### the expression of a Set -/
theorem tup_shown {vs : List Vl} (hn : vs.length ≤ 5) (h : ∀ v ∈ vs, v.fine) (hc : ∀ v ∈ vs, ∀ l, v = .nm l → ∀ c ∈ l, c < 16 ^ 8) : (PyData.tuple (vs.map vD)).shown.length ≤ 1000000 := by
  show (PySem.tupleText (PyData.shownAll (vs.map vD))).length ≤ _
  unfold PySem.tupleText
  rw [shown_all]
  have hl : ∀ x ∈ (vs.map vD).map PyData.shown, x.length ≤ 100 := by
    intro x hx
    simp only [List.map_map, List.mem_map] at hx
    obtain ⟨v, hv, rfl⟩ := hx
    exact vD_len (h v hv) (hc v hv)
  have h1 := sum100 hl
  have h2 := PySem.StrLaws.join_length_le ", " ((vs.map vD).map PyData.shown)
  have h3 : ((vs.map vD).map PyData.shown).length ≤ 5 := by simp; omega
  have h4 : (Str.ofString ", ").length = 2 := rfl
  rw [app_len, app_len]
  have h5 : (Str.ofString "(").length = 1 := rfl
  have h6 : (Str.ofString (if ((vs.map vD).map PyData.shown).length == 1 then ",)" else ")")).length ≤ 2 := by
    split
    · exact Nat.le_of_eq rfl
    · exact Nat.le_of_lt (by decide)
  have h7 : (Str.join ", " ((vs.map vD).map PyData.shown)).length ≤ 510 := by
    refine Nat.le_trans h2 ?_
    rw [h4]
    omega
  omega
theorem repr_vs {vs : List Vl} (hn : vs.length ≤ 5) (h : ∀ v ∈ vs, v.fine) (hc : ∀ v ∈ vs, ∀ l, v = .nm l → ∀ c ∈ l, c < 16 ^ 8) (m : Mem) : bRepr [.tup (vs.map Vl.w)] m = .ok (.str (PyData.tuple (vs.map vD)).shown.cps.toList) m := by
  obtain ⟨h1, h2, h3⟩ := show_all h
  have e : bRepr [.tup (vs.map Vl.w)] m = match dat m 30 (.tup (vs.map Vl.w)) with | some d => reprD d m | none => .bad := rfl
  have e' : dat m 30 (.tup (vs.map Vl.w)) = some (.tuple (vs.map vD)) := by simp only [dat, dats_vl, Option.map_some]
  rw [e, e']
  show reprD (PyData.tuple (vs.map vD)) m = _
  unfold reprD
  rw [if_pos]
  refine ⟨?_, ?_, ?_, tup_shown hn h hc⟩
  · simp [PyData.showable, h1]
  · simp [PyData.hasDict, h2]
  · simp [PyData.depth, h3]
theorem expr_ok (x : List Nat) (a : Vl) (op : List Nat) (b : Vl) (i : Nat) (m : Mem) (h : m[i]? = some (St.set x a op b).ins) : attr [101, 120, 112, 114, 101, 115, 115, 105, 111, 110] tb_expression (.ref i) m = .ok (.tup [a.w, .str op, b.w]) m := by
  have e1 : attr [108, 101, 102, 116] tb_left (.ref i) m = .ok a.w m := attr_fld h rfl rfl
  have e2 : attr [111, 112] tb_op (.ref i) m = .ok (.str op) m := attr_fld h rfl rfl
  have e3 : attr [114, 105, 103, 104, 116] tb_right (.ref i) m = .ok b.w m := attr_fld h rfl rfl
  rw [attr_prop (F := d_Set_expression) h rfl]
  unfold d_Set_expression b_Set_expression
  simp only [List.length_cons, List.length_nil, Nat.reduceAdd, Nat.reduceEqDiff, if_true, List.map_cons, List.map_nil, Nat.reduceSub, List.replicate, List.cons_append, List.nil_append, R.bind_ok, R.bind_bad, R.nox_ok, RS.of_ok, List.getElem?_cons_zero, List.getElem?_cons_succ, List.set_cons_zero, List.set_cons_succ, Bool.not_true, Bool.not_false, Bool.false_eq_true, if_false, isNon, gSet, Int.reduceLT, Int.reduceLE, Int.reduceNeg, and_self, Nat.reduceLeDiff, Nat.reduceMul, decide_true, decide_false, Int.reduceEq, eq_self, reduceCtorEq, seq_nx, seq_rt, seq_bad, of_rt, of_nx, trd_rt, trd_nx, r_defn, r_seq, r_try, r_nil, r_expr, r_ret, r_if, r_set, r_asg, r_put, r_attr, r_var, r_c, r_bin, r_un, r_fn, r_fnL, r_call, r_make, made_ok, r_eattr, r_ixL, r_new, r_tup, r_disp, r_few, r_eif, r_eand, r_eor, r_enot, r_acons, r_anil, r_astar, r_astarL, r_val, r_tru, r_not, r_and, r_or, r_chain, r_inL, r_m1, r_joinL, r_sl, r_pno, r_pat, v_add, v_sub, v_mod, v_div, v_neg, v_lt, v_le, v_gt, v_ge, v_isN, v_notN, v_intI, v_intB, v_abs, v_strS, v_len, v_ixT, v_ixF, v_eqI, v_neI, v_eqS, v_neS, r_lcomp, r_pval, r_pseq, r_plist, r_planT, r_planS, e1, e2, e3]
theorem slice3 (p q r s t : W) (m : Mem) : wSl (.tup [p, q, r, s, t]) (some 2) none m = .ok (.tup [r, s, t]) m := rfl
theorem alike3 {x : List Nat} {a : Vl} {op : List Nat} {b : Vl} (h : (St.set x a op b).ok) (m : Mem) : d__law_alike [.tup [a.w, .str op, b.w], .tup [a.w, .str op, b.w]] m = .ok (.bl true) m := by
  have hf := vals_fine h
  have hc := vals_ch h
  have e := repr_vs (vs := [a, .nm op, b]) (by simp) (fun v hv => hf v (List.mem_cons_of_mem _ hv)) (fun v hv => hc v (List.mem_cons_of_mem _ hv))
  have e' : ∀ m, bRepr [.tup [a.w, .str op, b.w]] m = _ := e
  unfold d__law_alike b__law_alike
  simp only [List.length_cons, List.length_nil, Nat.reduceAdd, Nat.reduceEqDiff, if_true, List.map_cons, List.map_nil, Nat.reduceSub, List.replicate, List.cons_append, List.nil_append, R.bind_ok, R.bind_bad, R.nox_ok, RS.of_ok, List.getElem?_cons_zero, List.getElem?_cons_succ, List.set_cons_zero, List.set_cons_succ, Bool.not_true, Bool.not_false, Bool.false_eq_true, if_false, isNon, gSet, Int.reduceLT, Int.reduceLE, Int.reduceNeg, and_self, Nat.reduceLeDiff, Nat.reduceMul, decide_true, decide_false, Int.reduceEq, eq_self, reduceCtorEq, seq_nx, seq_rt, seq_bad, of_rt, of_nx, trd_rt, trd_nx, r_defn, r_seq, r_try, r_nil, r_expr, r_ret, r_if, r_set, r_asg, r_put, r_attr, r_var, r_c, r_bin, r_un, r_fn, r_fnL, r_call, r_make, made_ok, r_eattr, r_ixL, r_new, r_tup, r_disp, r_few, r_eif, r_eand, r_eor, r_enot, r_acons, r_anil, r_astar, r_astarL, r_val, r_tru, r_not, r_and, r_or, r_chain, r_inL, r_m1, r_joinL, r_sl, r_pno, r_pat, v_add, v_sub, v_mod, v_div, v_neg, v_lt, v_le, v_gt, v_ge, v_isN, v_notN, v_intI, v_intB, v_abs, v_strS, v_len, v_ixT, v_ixF, v_eqI, v_neI, v_eqS, v_neS, r_lcomp, r_pval, r_pseq, r_plist, r_planT, r_planS, e']
/-! ### the loop over the pairs -/
def bM : DS := sSeq (sSet 7 (eCall d__law_statement_text (aCons (eVar 5) (aNil)))) (sSeq (sIf (tOr (tVal (eBin wNe0 (eAttr [116, 101, 120, 116] tb_text (eVar 6)) (eVar 7))) (tNot (tVal (eCall d__law_alike (aCons (eCall d__law_attributes (aCons (eBin wIx (eVar 5) (eC (.int 0))) (aCons (eVar 6) (aNil)))) (aCons (eVar 5) (aNil))))))) (sRet (eC (.bl false))) (sNil)) (sSeq (sSet 8 (eCall d_Statement_read (aCons (eVar 7) (aNil)))) (sSeq (sIf (tOr (tVal (eBin wNe0 (eCall d__law_classes (aCons (eVar 6) (aNil))) (eCall d__law_due (aCons (eVar 5) (aNil))))) (tVal (eBin wNe0 (eCall d__law_classes (aCons (eVar 8) (aNil))) (eCall d__law_due (aCons (eVar 5) (aNil)))))) (sRet (eC (.bl false))) (sNil)) (sSeq (sIf (tOr (tVal (eBin (neB eqT nfB) (eVar 8) (eVar 6))) (tNot (tVal (eCall d__law_alike (aCons (eCall d__law_attributes (aCons (eBin wIx (eVar 5) (eC (.int 0))) (aCons (eVar 8) (aNil)))) (aCons (eVar 5) (aNil))))))) (sRet (eC (.bl false))) (sNil)) (sSeq (sIf (tAnd (tVal (eBin wEq0 (eBin wIx (eVar 5) (eC (.int 0))) (eC (.str [115, 101, 116])))) (tNot (tVal (eCall d__law_alike (aCons (eAttr [101, 120, 112, 114, 101, 115, 115, 105, 111, 110] tb_expression (eVar 6)) (aCons (eSl (eVar 5) (pAt (eC (.int 2))) (pNo)) (aNil))))))) (sRet (eC (.bl false))) (sNil)) (sSeq (sIf (tOr (tVal (eBin (eqB eqT nfB) (eVar 6) (eVar 7))) (tOr (tVal (eBin (eqB eqT nfB) (eVar 6) (eC (.int 0)))) (tVal (eBin wIsN (eVar 6) (eC .non))))) (sRet (eC (.bl false))) (sNil)) (sFor (pZip (pSeq (eVar 3)) (pSeq (eVar 4))) (gSeq [gSet 10, gSet 11]) bI)))))))
def bM1 : DS := sIf (tOr (tVal (eBin wNe0 (eAttr [116, 101, 120, 116] tb_text (eVar 6)) (eVar 7))) (tNot (tVal (eCall d__law_alike (aCons (eCall d__law_attributes (aCons (eBin wIx (eVar 5) (eC (.int 0))) (aCons (eVar 6) (aNil)))) (aCons (eVar 5) (aNil))))))) (sRet (eC (.bl false))) (sNil)
def bM2 : DS := sIf (tOr (tVal (eBin wNe0 (eCall d__law_classes (aCons (eVar 6) (aNil))) (eCall d__law_due (aCons (eVar 5) (aNil))))) (tVal (eBin wNe0 (eCall d__law_classes (aCons (eVar 8) (aNil))) (eCall d__law_due (aCons (eVar 5) (aNil)))))) (sRet (eC (.bl false))) (sNil)
def bM3 : DS := sIf (tOr (tVal (eBin (neB eqT nfB) (eVar 8) (eVar 6))) (tNot (tVal (eCall d__law_alike (aCons (eCall d__law_attributes (aCons (eBin wIx (eVar 5) (eC (.int 0))) (aCons (eVar 8) (aNil)))) (aCons (eVar 5) (aNil))))))) (sRet (eC (.bl false))) (sNil)
def bM4 : DS := sIf (tAnd (tVal (eBin wEq0 (eBin wIx (eVar 5) (eC (.int 0))) (eC (.str [115, 101, 116])))) (tNot (tVal (eCall d__law_alike (aCons (eAttr [101, 120, 112, 114, 101, 115, 115, 105, 111, 110] tb_expression (eVar 6)) (aCons (eSl (eVar 5) (pAt (eC (.int 2))) (pNo)) (aNil))))))) (sRet (eC (.bl false))) (sNil)
def bM5 : DS := sIf (tOr (tVal (eBin (eqB eqT nfB) (eVar 6) (eVar 7))) (tOr (tVal (eBin (eqB eqT nfB) (eVar 6) (eC (.int 0)))) (tVal (eBin wIsN (eVar 6) (eC .non))))) (sRet (eC (.bl false))) (sNil)
theorem bM_eq : bM = sSeq (sSet 7 (eCall d__law_statement_text (aCons (eVar 5) (aNil)))) (sSeq bM1 (sSeq (sSet 8 (eCall d_Statement_read (aCons (eVar 7) (aNil)))) (sSeq bM2 (sSeq bM3 (sSeq bM4 (sSeq bM5 (sFor (pZip (pSeq (eVar 3)) (pSeq (eVar 4))) (gSeq [gSet 10, gSet 11]) bI))))))) := rfl
theorem key_at (s : St) (m : Mem) : wIx s.tup (.int 0) m = .ok (.str s.key) m := by cases s <;> exact v_ixT.trans at0
theorem due_pair (s : St) (i : Nat) (m : Mem) (h : m[i]? = some s.ins) : ∃ (l M1 M2 : Mem) (a b : Nat), d__law_classes [.ref i] m = .ok (.ref a) M1 ∧ d__law_due [s.tup] M1 = .ok (.ref b) M2 ∧ wNe0 (.ref a) (.ref b) M2 = .ok (.bl false) M2 ∧ M2 = m ++ l := by
  obtain ⟨l1, l2, e1⟩ := classes_ok s i m h
  have d1 := due_ok s (m ++ [l1, l2, .lst ((flags s).map W.bl)])
  have n1 := ne_lists s ((m ++ [l1, l2, .lst ((flags s).map W.bl)]) ++ [.lst ((flags s).map W.bl)]) (m.length + 2) (m ++ [l1, l2, .lst ((flags s).map W.bl)]).length (by simp) (by simp)
  exact ⟨_, _, _, _, _, e1, d1, n1, List.append_assoc _ _ _⟩
section
variable {s : St} (hs : s.ok) (i j : Nat) (m : Mem) (h1 : m[i]? = some s.ins) (h2 : m[j]? = some s.ins) (y0 y1 y2 : W) (x3 x4 x7 x8 x9 x10 x11 x12 : Option W)
include hs h1
theorem bM1_ok : ∃ l, bM1 [some y0, some y1, some y2, x3, x4, some s.tup, some (.ref i), some (.str (text s)), x8, x9, x10, x11, x12] m = .nx [some y0, some y1, some y2, x3, x4, some s.tup, some (.ref i), some (.str (text s)), x8, x9, x10, x11, x12] (m ++ l) := by
  unfold bM1
  have e0 : Ext m (m ++ [.lst (s.vals.map Vl.w)]) := ⟨_, rfl⟩
  refine ⟨[.lst (s.vals.map Vl.w)], ?_⟩
  simp only [List.length_cons, List.length_nil, Nat.reduceAdd, Nat.reduceEqDiff, if_true, List.map_cons, List.map_nil, Nat.reduceSub, List.replicate, List.cons_append, List.nil_append, R.bind_ok, R.bind_bad, R.nox_ok, RS.of_ok, List.getElem?_cons_zero, List.getElem?_cons_succ, List.set_cons_zero, List.set_cons_succ, Bool.not_true, Bool.not_false, Bool.false_eq_true, if_false, isNon, gSet, Int.reduceLT, Int.reduceLE, Int.reduceNeg, and_self, Nat.reduceLeDiff, Nat.reduceMul, decide_true, decide_false, Int.reduceEq, eq_self, reduceCtorEq, seq_nx, seq_rt, seq_bad, of_rt, of_nx, trd_rt, trd_nx, r_defn, r_seq, r_try, r_nil, r_expr, r_ret, r_if, r_set, r_asg, r_put, r_attr, r_var, r_c, r_bin, r_un, r_fn, r_fnL, r_call, r_make, made_ok, r_eattr, r_ixL, r_new, r_tup, r_disp, r_few, r_eif, r_eand, r_eor, r_enot, r_acons, r_anil, r_astar, r_astarL, r_val, r_tru, r_not, r_and, r_or, r_chain, r_inL, r_m1, r_joinL, r_sl, r_pno, r_pat, v_add, v_sub, v_mod, v_div, v_neg, v_lt, v_le, v_gt, v_ge, v_isN, v_notN, v_intI, v_intB, v_abs, v_strS, v_ixT, v_ixF, v_eqI, v_neI, v_eqS, v_neS, r_lcomp, r_pval, r_pseq, r_plist, r_planT, r_planS, atext_ok hs i m h1, v_neS, key_at, attributes_ok s i _ (e0.get h1), alike_ok hs]
include h2
theorem bM2_ok : ∃ l, bM2 [some y0, some y1, some y2, x3, x4, some s.tup, some (.ref i), some (.str (text s)), some (.ref j), x9, x10, x11, x12] m = .nx [some y0, some y1, some y2, x3, x4, some s.tup, some (.ref i), some (.str (text s)), some (.ref j), x9, x10, x11, x12] (m ++ l) := by
  unfold bM2
  obtain ⟨l1, M1, M2, a1, b1, e1, d1, n1, rfl⟩ := due_pair s i m h1
  have x1 : Ext m (m ++ l1) := ⟨_, rfl⟩
  obtain ⟨l2, M3, M4, a2, b2, e2, d2, n2, rfl⟩ := due_pair s j _ (x1.get h2)
  refine ⟨l1 ++ l2, ?_⟩
  rw [← List.append_assoc]
  simp only [List.length_cons, List.length_nil, Nat.reduceAdd, Nat.reduceEqDiff, if_true, List.map_cons, List.map_nil, Nat.reduceSub, List.replicate, List.cons_append, List.nil_append, R.bind_ok, R.bind_bad, R.nox_ok, RS.of_ok, List.getElem?_cons_zero, List.getElem?_cons_succ, List.set_cons_zero, List.set_cons_succ, Bool.not_true, Bool.not_false, Bool.false_eq_true, if_false, isNon, gSet, Int.reduceLT, Int.reduceLE, Int.reduceNeg, and_self, Nat.reduceLeDiff, Nat.reduceMul, decide_true, decide_false, Int.reduceEq, eq_self, reduceCtorEq, seq_nx, seq_rt, seq_bad, of_rt, of_nx, trd_rt, trd_nx, r_defn, r_seq, r_try, r_nil, r_expr, r_ret, r_if, r_set, r_asg, r_put, r_attr, r_var, r_c, r_bin, r_un, r_fn, r_fnL, r_call, r_make, made_ok, r_eattr, r_ixL, r_new, r_tup, r_disp, r_few, r_eif, r_eand, r_eor, r_enot, r_acons, r_anil, r_astar, r_astarL, r_val, r_tru, r_not, r_and, r_or, r_chain, r_inL, r_m1, r_joinL, r_sl, r_pno, r_pat, v_add, v_sub, v_mod, v_div, v_neg, v_lt, v_le, v_gt, v_ge, v_isN, v_notN, v_intI, v_intB, v_abs, v_strS, v_ixT, v_ixF, v_eqI, v_neI, v_eqS, v_neS, r_lcomp, r_pval, r_pseq, r_plist, r_planT, r_planS, e1, d1, n1, e2, d2, n2]
theorem bM3_ok : ∃ l, bM3 [some y0, some y1, some y2, x3, x4, some s.tup, some (.ref i), some (.str (text s)), some (.ref j), x9, x10, x11, x12] m = .nx [some y0, some y1, some y2, x3, x4, some s.tup, some (.ref i), some (.str (text s)), some (.ref j), x9, x10, x11, x12] (m ++ l) := by
  unfold bM3
  have e1 := neB_ok hs hs j i m h2 h1
  rw [decide_eq_true rfl] at e1
  have e0 : Ext m (m ++ [.lst (s.vals.map Vl.w), .lst (s.vals.map Vl.w)]) := ⟨_, rfl⟩
  refine ⟨[.lst (s.vals.map Vl.w), .lst (s.vals.map Vl.w)], ?_⟩
  simp only [List.length_cons, List.length_nil, Nat.reduceAdd, Nat.reduceEqDiff, if_true, List.map_cons, List.map_nil, Nat.reduceSub, List.replicate, List.cons_append, List.nil_append, R.bind_ok, R.bind_bad, R.nox_ok, RS.of_ok, List.getElem?_cons_zero, List.getElem?_cons_succ, List.set_cons_zero, List.set_cons_succ, Bool.not_true, Bool.not_false, Bool.false_eq_true, if_false, isNon, gSet, Int.reduceLT, Int.reduceLE, Int.reduceNeg, and_self, Nat.reduceLeDiff, Nat.reduceMul, decide_true, decide_false, Int.reduceEq, eq_self, reduceCtorEq, seq_nx, seq_rt, seq_bad, of_rt, of_nx, trd_rt, trd_nx, r_defn, r_seq, r_try, r_nil, r_expr, r_ret, r_if, r_set, r_asg, r_put, r_attr, r_var, r_c, r_bin, r_un, r_fn, r_fnL, r_call, r_make, made_ok, r_eattr, r_ixL, r_new, r_tup, r_disp, r_few, r_eif, r_eand, r_eor, r_enot, r_acons, r_anil, r_astar, r_astarL, r_val, r_tru, r_not, r_and, r_or, r_chain, r_inL, r_m1, r_joinL, r_sl, r_pno, r_pat, v_add, v_sub, v_mod, v_div, v_neg, v_lt, v_le, v_gt, v_ge, v_isN, v_notN, v_intI, v_intB, v_abs, v_strS, v_ixT, v_ixF, v_eqI, v_neI, v_eqS, v_neS, r_lcomp, r_pval, r_pseq, r_plist, r_planT, r_planS, e1, key_at, attributes_ok s j _ (e0.get h2), alike_ok hs]
omit h2
theorem bM4_ok : bM4 [some y0, some y1, some y2, x3, x4, some s.tup, some (.ref i), x7, x8, x9, x10, x11, x12] m = .nx [some y0, some y1, some y2, x3, x4, some s.tup, some (.ref i), x7, x8, x9, x10, x11, x12] m := by
  unfold bM4
  cases s with
  | set x a op b =>
    have k : wIx (St.set x a op b).tup (.int 0) m = .ok (.str [115, 101, 116]) m := key_at _ m
    have sl : wSl (St.set x a op b).tup (some 2) none m = .ok (.tup [a.w, .str op, b.w]) m := rfl
    simp only [List.length_cons, List.length_nil, Nat.reduceAdd, Nat.reduceEqDiff, if_true, List.map_cons, List.map_nil, Nat.reduceSub, List.replicate, List.cons_append, List.nil_append, R.bind_ok, R.bind_bad, R.nox_ok, RS.of_ok, List.getElem?_cons_zero, List.getElem?_cons_succ, List.set_cons_zero, List.set_cons_succ, Bool.not_true, Bool.not_false, Bool.false_eq_true, if_false, isNon, gSet, Int.reduceLT, Int.reduceLE, Int.reduceNeg, and_self, Nat.reduceLeDiff, Nat.reduceMul, decide_true, decide_false, Int.reduceEq, eq_self, reduceCtorEq, seq_nx, seq_rt, seq_bad, of_rt, of_nx, trd_rt, trd_nx, r_defn, r_seq, r_try, r_nil, r_expr, r_ret, r_if, r_set, r_asg, r_put, r_attr, r_var, r_c, r_bin, r_un, r_fn, r_fnL, r_call, r_make, made_ok, r_eattr, r_ixL, r_new, r_tup, r_disp, r_few, r_eif, r_eand, r_eor, r_enot, r_acons, r_anil, r_astar, r_astarL, r_val, r_tru, r_not, r_and, r_or, r_chain, r_inL, r_m1, r_joinL, r_sl, r_pno, r_pat, v_add, v_sub, v_mod, v_div, v_neg, v_lt, v_le, v_gt, v_ge, v_isN, v_notN, v_intI, v_intB, v_abs, v_strS, v_ixT, v_ixF, v_eqI, v_neI, v_eqS, v_neS, r_lcomp, r_pval, r_pseq, r_plist, r_planT, r_planS, k, v_eqS, expr_ok x a op b i m h1, sl, alike3 hs]
  | copy x a =>
    have k : wIx (St.copy x a).tup (.int 0) m = .ok (.str [99, 111, 112, 121]) m := key_at _ m
    have c : decide (([99, 111, 112, 121] : List Nat) = [115, 101, 116]) = false := by decide
    simp only [List.length_cons, List.length_nil, Nat.reduceAdd, Nat.reduceEqDiff, if_true, List.map_cons, List.map_nil, Nat.reduceSub, List.replicate, List.cons_append, List.nil_append, R.bind_ok, R.bind_bad, R.nox_ok, RS.of_ok, List.getElem?_cons_zero, List.getElem?_cons_succ, List.set_cons_zero, List.set_cons_succ, Bool.not_true, Bool.not_false, Bool.false_eq_true, if_false, isNon, gSet, Int.reduceLT, Int.reduceLE, Int.reduceNeg, and_self, Nat.reduceLeDiff, Nat.reduceMul, decide_true, decide_false, Int.reduceEq, eq_self, reduceCtorEq, seq_nx, seq_rt, seq_bad, of_rt, of_nx, trd_rt, trd_nx, r_defn, r_seq, r_try, r_nil, r_expr, r_ret, r_if, r_set, r_asg, r_put, r_attr, r_var, r_c, r_bin, r_un, r_fn, r_fnL, r_call, r_make, made_ok, r_eattr, r_ixL, r_new, r_tup, r_disp, r_few, r_eif, r_eand, r_eor, r_enot, r_acons, r_anil, r_astar, r_astarL, r_val, r_tru, r_not, r_and, r_or, r_chain, r_inL, r_m1, r_joinL, r_sl, r_pno, r_pat, v_add, v_sub, v_mod, v_div, v_neg, v_lt, v_le, v_gt, v_ge, v_isN, v_notN, v_intI, v_intB, v_abs, v_strS, v_ixT, v_ixF, v_eqI, v_neI, v_eqS, v_neS, r_lcomp, r_pval, r_pseq, r_plist, r_planT, r_planS, k, v_eqS, c]
  | read x =>
    have k : wIx (St.read x).tup (.int 0) m = .ok (.str [114, 101, 97, 100]) m := key_at _ m
    have c : decide (([114, 101, 97, 100] : List Nat) = [115, 101, 116]) = false := by decide
    simp only [List.length_cons, List.length_nil, Nat.reduceAdd, Nat.reduceEqDiff, if_true, List.map_cons, List.map_nil, Nat.reduceSub, List.replicate, List.cons_append, List.nil_append, R.bind_ok, R.bind_bad, R.nox_ok, RS.of_ok, List.getElem?_cons_zero, List.getElem?_cons_succ, List.set_cons_zero, List.set_cons_succ, Bool.not_true, Bool.not_false, Bool.false_eq_true, if_false, isNon, gSet, Int.reduceLT, Int.reduceLE, Int.reduceNeg, and_self, Nat.reduceLeDiff, Nat.reduceMul, decide_true, decide_false, Int.reduceEq, eq_self, reduceCtorEq, seq_nx, seq_rt, seq_bad, of_rt, of_nx, trd_rt, trd_nx, r_defn, r_seq, r_try, r_nil, r_expr, r_ret, r_if, r_set, r_asg, r_put, r_attr, r_var, r_c, r_bin, r_un, r_fn, r_fnL, r_call, r_make, made_ok, r_eattr, r_ixL, r_new, r_tup, r_disp, r_few, r_eif, r_eand, r_eor, r_enot, r_acons, r_anil, r_astar, r_astarL, r_val, r_tru, r_not, r_and, r_or, r_chain, r_inL, r_m1, r_joinL, r_sl, r_pno, r_pat, v_add, v_sub, v_mod, v_div, v_neg, v_lt, v_le, v_gt, v_ge, v_isN, v_notN, v_intI, v_intB, v_abs, v_strS, v_ixT, v_ixF, v_eqI, v_neI, v_eqS, v_neS, r_lcomp, r_pval, r_pseq, r_plist, r_planT, r_planS, k, v_eqS, c]
  | write a =>
    have k : wIx (St.write a).tup (.int 0) m = .ok (.str [119, 114, 105, 116, 101]) m := key_at _ m
    have c : decide (([119, 114, 105, 116, 101] : List Nat) = [115, 101, 116]) = false := by decide
    simp only [List.length_cons, List.length_nil, Nat.reduceAdd, Nat.reduceEqDiff, if_true, List.map_cons, List.map_nil, Nat.reduceSub, List.replicate, List.cons_append, List.nil_append, R.bind_ok, R.bind_bad, R.nox_ok, RS.of_ok, List.getElem?_cons_zero, List.getElem?_cons_succ, List.set_cons_zero, List.set_cons_succ, Bool.not_true, Bool.not_false, Bool.false_eq_true, if_false, isNon, gSet, Int.reduceLT, Int.reduceLE, Int.reduceNeg, and_self, Nat.reduceLeDiff, Nat.reduceMul, decide_true, decide_false, Int.reduceEq, eq_self, reduceCtorEq, seq_nx, seq_rt, seq_bad, of_rt, of_nx, trd_rt, trd_nx, r_defn, r_seq, r_try, r_nil, r_expr, r_ret, r_if, r_set, r_asg, r_put, r_attr, r_var, r_c, r_bin, r_un, r_fn, r_fnL, r_call, r_make, made_ok, r_eattr, r_ixL, r_new, r_tup, r_disp, r_few, r_eif, r_eand, r_eor, r_enot, r_acons, r_anil, r_astar, r_astarL, r_val, r_tru, r_not, r_and, r_or, r_chain, r_inL, r_m1, r_joinL, r_sl, r_pno, r_pat, v_add, v_sub, v_mod, v_div, v_neg, v_lt, v_le, v_gt, v_ge, v_isN, v_notN, v_intI, v_intB, v_abs, v_strS, v_ixT, v_ixF, v_eqI, v_neI, v_eqS, v_neS, r_lcomp, r_pval, r_pseq, r_plist, r_planT, r_planS, k, v_eqS, c]
theorem bM5_ok : bM5 [some y0, some y1, some y2, x3, x4, some s.tup, some (.ref i), some (.str (text s)), x8, x9, x10, x11, x12] m = .nx [some y0, some y1, some y2, x3, x4, some s.tup, some (.ref i), some (.str (text s)), x8, x9, x10, x11, x12] m := by
  unfold bM5
  simp only [List.length_cons, List.length_nil, Nat.reduceAdd, Nat.reduceEqDiff, if_true, List.map_cons, List.map_nil, Nat.reduceSub, List.replicate, List.cons_append, List.nil_append, R.bind_ok, R.bind_bad, R.nox_ok, RS.of_ok, List.getElem?_cons_zero, List.getElem?_cons_succ, List.set_cons_zero, List.set_cons_succ, Bool.not_true, Bool.not_false, Bool.false_eq_true, if_false, isNon, gSet, Int.reduceLT, Int.reduceLE, Int.reduceNeg, and_self, Nat.reduceLeDiff, Nat.reduceMul, decide_true, decide_false, Int.reduceEq, eq_self, reduceCtorEq, seq_nx, seq_rt, seq_bad, of_rt, of_nx, trd_rt, trd_nx, r_defn, r_seq, r_try, r_nil, r_expr, r_ret, r_if, r_set, r_asg, r_put, r_attr, r_var, r_c, r_bin, r_un, r_fn, r_fnL, r_call, r_make, made_ok, r_eattr, r_ixL, r_new, r_tup, r_disp, r_few, r_eif, r_eand, r_eor, r_enot, r_acons, r_anil, r_astar, r_astarL, r_val, r_tru, r_not, r_and, r_or, r_chain, r_inL, r_m1, r_joinL, r_sl, r_pno, r_pat, v_add, v_sub, v_mod, v_div, v_neg, v_lt, v_le, v_gt, v_ge, v_isN, v_notN, v_intI, v_intB, v_abs, v_strS, v_ixT, v_ixF, v_eqI, v_neI, v_eqS, v_neS, r_lcomp, r_pval, r_pseq, r_plist, r_planT, r_planS, eqB_str i m _ h1, eqB_int i m _ h1]
end
end K01

namespace K01
open PySem Sh
theorem bM_ok {a b : Nat} {ss : List St} {js : List Nat} {s : St} (hs : s.ok) (i : Nat) (m : Mem) (hm : Made a b ss js m) (h1 : m[i]? = some s.ins) (y0 y1 y2 : W) (x7 x8 x9 x10 x11 x12 : Option W) :
    ∃ (x7' x8' x10' x11' x12' : Option W) (m' : Mem), bM [some y0, some y1, some y2, some (.ref a), some (.ref b), some s.tup, some (.ref i), x7, x8, x9, x10, x11, x12] m = .nx [some y0, some y1, some y2, some (.ref a), some (.ref b), some s.tup, some (.ref i), x7', x8', x9, x10', x11', x12'] m' ∧ Ext m m' := by
  obtain ⟨l1, e1⟩ := bM1_ok hs i m h1 y0 y1 y2 (some (.ref a)) (some (.ref b)) x8 x9 x10 x11 x12
  have E1 : Ext m (m ++ l1) := ⟨_, rfl⟩
  obtain ⟨l2, hl2, l3, e2⟩ := read_ok hs (m ++ l1)
  have E2 : Ext m (m ++ l1 ++ l2 ++ [s.ins] ++ [l3]) := ((E1.add _).add _).add _
  have g2 : (m ++ l1 ++ l2 ++ [s.ins] ++ [l3])[(m ++ l1).length + 2]? = some s.ins := by
    rw [← hl2, ← List.length_append, List.append_assoc (m ++ l1 ++ l2)]
    simp
  generalize (m ++ l1).length + 2 = j at e2 g2
  generalize m ++ l1 ++ l2 ++ [s.ins] ++ [l3] = M2 at e2 g2 E2
  obtain ⟨l4, e3⟩ := bM2_ok hs i j M2 (E2.get h1) g2 y0 y1 y2 (some (.ref a)) (some (.ref b)) x9 x10 x11 x12
  have E3 : Ext M2 (M2 ++ l4) := ⟨_, rfl⟩
  obtain ⟨l5, e4⟩ := bM3_ok hs i j (M2 ++ l4) (E3.get (E2.get h1)) (E3.get g2) y0 y1 y2 (some (.ref a)) (some (.ref b)) x9 x10 x11 x12
  have E4 : Ext m (M2 ++ l4 ++ l5) := (E2.add _).add _
  generalize M2 ++ l4 ++ l5 = M4 at e4 E4
  have e5 := bM4_ok hs i M4 (E4.get h1) y0 y1 y2 (some (.ref a)) (some (.ref b)) (some (.str (text s))) (some (.ref j)) x9 x10 x11 x12
  have e6 := bM5_ok hs i M4 (E4.get h1) y0 y1 y2 (some (.ref a)) (some (.ref b)) (some (.ref j)) x9 x10 x11 x12
  obtain ⟨x10', x11', x12', m', e7, E7⟩ := inner_ok hs i M4 (hm.ext E4) (E4.get h1) y0 y1 y2 (some s.tup) (some (.ref j)) x9 x10 x11 x12
  refine ⟨some (.str (text s)), some (.ref j), x10', x11', x12', m', ?_, E4.trans E7⟩
  rw [bM_eq]
  simp only [List.length_cons, List.length_nil, Nat.reduceAdd, Nat.reduceEqDiff, if_true, List.map_cons, List.map_nil, Nat.reduceSub, List.replicate, List.cons_append, List.nil_append, R.bind_ok, R.bind_bad, R.nox_ok, RS.of_ok, List.getElem?_cons_zero, List.getElem?_cons_succ, List.set_cons_zero, List.set_cons_succ, Bool.not_true, Bool.not_false, Bool.false_eq_true, if_false, isNon, gSet, Int.reduceLT, Int.reduceLE, Int.reduceNeg, and_self, Nat.reduceLeDiff, Nat.reduceMul, decide_true, decide_false, Int.reduceEq, eq_self, reduceCtorEq, seq_nx, seq_rt, seq_bad, of_rt, of_nx, trd_rt, trd_nx, r_defn, r_seq, r_try, r_nil, r_expr, r_ret, r_if, r_set, r_asg, r_put, r_attr, r_var, r_c, r_bin, r_un, r_fn, r_fnL, r_call, r_make, made_ok, r_eattr, r_ixL, r_new, r_tup, r_disp, r_few, r_eif, r_eand, r_eor, r_enot, r_acons, r_anil, r_astar, r_astarL, r_val, r_tru, r_not, r_and, r_or, r_chain, r_inL, r_m1, r_joinL, r_sl, r_pno, r_pat, v_add, v_sub, v_mod, v_div, v_neg, v_lt, v_le, v_gt, v_ge, v_isN, v_notN, v_intI, v_intB, v_abs, v_strS, v_ixT, v_ixF, v_eqI, v_neI, v_eqS, v_neS, r_lcomp, r_pval, r_pseq, r_plist, r_planT, r_planS, stext_ok hs, e1, e2, e3, e4, e5, e6, e7]
theorem mid_ok {a b : Nat} {ss : List St} {js : List Nat} (m : Mem) (hm : Made a b ss js m) (y0 y1 y2 : W) (x5 x6 x7 x8 x9 x10 x11 x12 : Option W) :
    ∃ (x5' x6' x7' x8' x10' x11' x12' : Option W) (m' : Mem), sFor (pZip (pSeq (eVar 3)) (pSeq (eVar 4))) (gSeq [gSet 5, gSet 6]) bM [some y0, some y1, some y2, some (.ref a), some (.ref b), x5, x6, x7, x8, x9, x10, x11, x12] m = .nx [some y0, some y1, some y2, some (.ref a), some (.ref b), x5', x6', x7', x8', x9, x10', x11', x12'] m' := by
  have hp : pZip (pSeq (eVar 3)) (pSeq (eVar 4)) [some y0, some y1, some y2, some (.ref a), some (.ref b), x5, x6, x7, x8, x9, x10, x11, x12] m = .ok ⟨ss.length, srcZip (srcLive a) (srcLive b)⟩ m := hm.plan rfl rfl
  unfold sFor
  rw [hp, RS.of_ok]
  obtain ⟨σ', m', e, x5', x6', x7', x8', x10', x11', x12', rfl, hE⟩ := forLoop_nx (src := srcZip (srcLive a) (srcLive b)) (h := gSeq [gSet 5, gSet 6]) (b := bM) (N := ss.length)
    (fun _ σ' m' => ∃ x5' x6' x7' x8' x10' x11' x12', σ' = [some y0, some y1, some y2, some (.ref a), some (.ref b), x5', x6', x7', x8', x9, x10', x11', x12'] ∧ Ext m m')
    (fun k σ m' hk ⟨x5, x6, x7, x8, x10, x11, x12, hσ, hE⟩ => by
      subst hσ
      obtain ⟨t, j, g1, g2, g3, g4⟩ := (hm.ext hE).src hk
      obtain ⟨x7', x8', x10', x11', x12', m'', hl, hE'⟩ := bM_ok (hm.ok t g3) j m' (hm.ext hE) ((hm.ext hE).at' k t j g1 g2) y0 y1 y2 x7 x8 x9 x10 x11 x12
      exact ⟨_, _, _, _, _, g4, z56 5 6, hl, _, _, _, _, _, _, _, rfl, hE.trans hE'⟩)
    (fun σ m' ⟨_, _, _, _, _, _, _, _, hE⟩ => (hm.ext hE).stop) ss.length 0 _ m (by omega) ⟨x5, x6, x7, x8, x10, x11, x12, rfl, Ext.refl m⟩
  exact ⟨x5', x6', x7', x8', x10', x11', x12', m', e⟩
/-! ### the two lists -/
theorem some_ok (p : Nat) (m : Mem) (h : PileAt p m 10000) (y0 y1 : Option W) (x3 x4 x5 x6 x7 x8 x10 x11 x12 : Option W) :
    ∃ (ss : List St) (m' : Mem), compLoop (srcRange 0 3) (gSet 9) tYesB (eCall d__law_any_statement (aCons (eVar 2) (aNil))) [y0, y1, some (.ref p), x3, x4, x5, x6, x7, x8, none, x10, x11, x12] 4 0 [] m = .ok (ss.map St.tup) m' ∧ (∀ s ∈ ss, s.ok) ∧ ss.length = 3 := by
  obtain ⟨ws, m', e, ss, z, rfl, h1, h2, h3, h4⟩ := compLoop_ok (src := srcRange 0 3) (h := gSet 9) (t := tYesB) (e := eCall d__law_any_statement (aCons (eVar 2) (aNil))) (σ := [y0, y1, some (.ref p), x3, x4, x5, x6, x7, x8, none, x10, x11, x12]) (N := 3)
    (fun i acc m' => ∃ (ss : List St) (z : Int), acc = ss.map St.tup ∧ ss.length = i ∧ (∀ s ∈ ss, s.ok) ∧ PileAt p m' z ∧ z ≤ 10000 + 20 * i) (by decide)
    (fun i acc m' ⟨ss, z, h1, h2, _⟩ => by rw [h1, List.length_map, h2]; exact Nat.le_refl _)
    (fun i acc m' hi ⟨ss, z, h1, h2, h3, h4, h5⟩ => by
      obtain ⟨s, m'', z', a1, a2, a3, a4, a5⟩ := any_ok p m' z h4 (by omega)
      refine ⟨.int (0 + (i : Int)), _, m', m', s.tup, m'', ?_, rfl, rfl, ?_, ss ++ [s], z', ?_, ?_, ?_, a3, ?_⟩
      · show some (if i < 3 then _ else _) = _
        rw [if_pos hi]
      · simp only [List.length_cons, List.length_nil, Nat.reduceAdd, Nat.reduceEqDiff, if_true, List.map_cons, List.map_nil, Nat.reduceSub, List.replicate, List.cons_append, List.nil_append, R.bind_ok, R.bind_bad, R.nox_ok, RS.of_ok, List.getElem?_cons_zero, List.getElem?_cons_succ, List.set_cons_zero, List.set_cons_succ, Bool.not_true, Bool.not_false, Bool.false_eq_true, if_false, isNon, gSet, Int.reduceLT, Int.reduceLE, Int.reduceNeg, and_self, Nat.reduceLeDiff, Nat.reduceMul, decide_true, decide_false, Int.reduceEq, eq_self, reduceCtorEq, seq_nx, seq_rt, seq_bad, of_rt, of_nx, trd_rt, trd_nx, r_defn, r_seq, r_try, r_nil, r_expr, r_ret, r_if, r_set, r_asg, r_put, r_attr, r_var, r_c, r_bin, r_un, r_fn, r_fnL, r_call, r_make, made_ok, r_eattr, r_ixL, r_new, r_tup, r_disp, r_few, r_eif, r_eand, r_eor, r_enot, r_acons, r_anil, r_astar, r_astarL, r_val, r_tru, r_not, r_and, r_or, r_chain, r_inL, r_m1, r_joinL, r_sl, r_pno, r_pat, v_add, v_sub, v_mod, v_div, v_neg, v_lt, v_le, v_gt, v_ge, v_isN, v_notN, v_intI, v_intB, v_abs, v_strS, v_len, v_ixT, v_ixF, v_eqI, v_neI, v_eqS, v_neS, r_lcomp, r_pval, r_pseq, r_plist, r_planT, r_planS, a1]
      · rw [h1]; simp
      · simp [h2]
      · intro t ht
        rcases List.mem_append.mp ht with ht | ht
        · exact h3 t ht
        · rw [List.mem_singleton.mp ht]; exact a2
      · push_cast; omega)
    (fun acc m' _ => rfl) 3 0 [] m rfl ⟨[], 10000, rfl, rfl, (fun s hs => by cases hs), h, by simp⟩
  exact ⟨ss, m', e, h2, h1⟩
theorem mades_ok (a : Nat) (ss : List St) (m : Mem) (ha : m[a]? = some (.lst (ss.map St.tup))) (hn : ss.length ≤ 1000000) (hok : ∀ s ∈ ss, s.ok) (y0 y1 y2 x3 x4 x6 x7 x8 x9 x10 x11 x12 : Option W) :
    ∃ (js : List Nat) (m' : Mem), compLoop (srcLive a) (gSet 5) tYesB (eCall d__law_made (aCons (eVar 5) (aNil))) [y0, y1, y2, x3, x4, none, x6, x7, x8, x9, x10, x11, x12] (ss.length + 1) 0 [] m = .ok (js.map W.ref) m' ∧ Ext m m' ∧ js.length = ss.length ∧ (∀ (i : Nat) (s : St) (j : Nat), ss[i]? = some s → js[i]? = some j → m'[j]? = some s.ins) := by
  obtain ⟨ws, m', e, js, rfl, h1, h2, h3⟩ := compLoop_ok (src := srcLive a) (h := gSet 5) (t := tYesB) (e := eCall d__law_made (aCons (eVar 5) (aNil))) (σ := [y0, y1, y2, x3, x4, none, x6, x7, x8, x9, x10, x11, x12]) (N := ss.length)
    (fun i acc m' => ∃ (js : List Nat), acc = js.map W.ref ∧ js.length = i ∧ Ext m m' ∧ (∀ (i : Nat) (s : St) (j : Nat), ss[i]? = some s → js[i]? = some j → m'[j]? = some s.ins)) hn
    (fun i acc m' ⟨js, h1, h2, _⟩ => by rw [h1, List.length_map, h2]; exact Nat.le_refl _)
    (fun i acc m' hi ⟨js, h1, h2, h3, h4⟩ => by
      have hs := hok ss[i] (List.getElem_mem hi)
      have q := made_ok' ss[i] hs m'
      refine ⟨ss[i].tup, _, m', m', .ref m'.length, m' ++ [ss[i].ins], ?_, rfl, rfl, ?_, js ++ [m'.length], ?_, ?_, h3.add _, ?_⟩
      · rw [live_at (h3.get ha)]; simp [hi]
      · simp only [List.length_cons, List.length_nil, Nat.reduceAdd, Nat.reduceEqDiff, if_true, List.map_cons, List.map_nil, Nat.reduceSub, List.replicate, List.cons_append, List.nil_append, R.bind_ok, R.bind_bad, R.nox_ok, RS.of_ok, List.getElem?_cons_zero, List.getElem?_cons_succ, List.set_cons_zero, List.set_cons_succ, Bool.not_true, Bool.not_false, Bool.false_eq_true, if_false, isNon, gSet, Int.reduceLT, Int.reduceLE, Int.reduceNeg, and_self, Nat.reduceLeDiff, Nat.reduceMul, decide_true, decide_false, Int.reduceEq, eq_self, reduceCtorEq, seq_nx, seq_rt, seq_bad, of_rt, of_nx, trd_rt, trd_nx, r_defn, r_seq, r_try, r_nil, r_expr, r_ret, r_if, r_set, r_asg, r_put, r_attr, r_var, r_c, r_bin, r_un, r_fn, r_fnL, r_call, r_make, made_ok, r_eattr, r_ixL, r_new, r_tup, r_disp, r_few, r_eif, r_eand, r_eor, r_enot, r_acons, r_anil, r_astar, r_astarL, r_val, r_tru, r_not, r_and, r_or, r_chain, r_inL, r_m1, r_joinL, r_sl, r_pno, r_pat, v_add, v_sub, v_mod, v_div, v_neg, v_lt, v_le, v_gt, v_ge, v_isN, v_notN, v_intI, v_intB, v_abs, v_strS, v_ixT, v_ixF, v_eqI, v_neI, v_eqS, v_neS, r_lcomp, r_pval, r_pseq, r_plist, r_planT, r_planS, q]
      · rw [h1]; simp
      · simp [h2]
      · intro k s j hk hj
        rcases Nat.lt_or_ge k js.length with hlt | hge
        · rw [List.getElem?_append_left hlt] at hj
          exact (Ext.get ⟨_, rfl⟩ (h4 k s j hk hj))
        · have hk' : k = js.length := by
            have := (List.getElem?_eq_some_iff.mp hj).1
            simp at this; omega
          subst hk'
          rw [List.getElem?_append_right (Nat.le_refl _)] at hj
          simp at hj
          subst hj
          rw [h2, List.getElem?_eq_getElem hi] at hk
          cases hk
          exact last_get)
    (fun acc m' ⟨js, _, _, h3, _⟩ => by rw [live_at (h3.get ha)]; simp) ss.length 0 [] m (by omega) ⟨[], rfl, rfl, Ext.refl m, fun i s j _ h => by simp at h⟩
  exact ⟨js, m', e, h2, h1, h3⟩
/-! ### the law -/
def bO : DS := sSeq (sSet 2 (eCall d__law_pile (aCons (eVar 0) (aCons (eVar 1) (aNil))))) (sSeq (sSet 3 (eNew (lComp (pRange1 (aCons (eC (.int 3)) (aNil))) (gSet 9) (tYesB) (eCall d__law_any_statement (aCons (eVar 2) (aNil))) [9]))) (sSeq (sSet 4 (eNew (lComp (pVal (eVar 3)) (gSet 5) (tYesB) (eCall d__law_made (aCons (eVar 5) (aNil))) [5]))) (sFor (pZip (pSeq (eVar 3)) (pSeq (eVar 4))) (gSeq [gSet 5, gSet 6]) bM)))
theorem plan3 (σ : Sh.Loc) (m : Mem) : pRange1 (aCons (eC (.int 3)) (aNil)) σ m = .ok ⟨3, srcRange 0 3⟩ m := rfl
theorem plan24 (σ : Sh.Loc) (m : Mem) : pRange1 (aCons (eC (.int 24)) (aNil)) σ m = .ok ⟨24, srcRange 0 24⟩ m := rfl
theorem bO_ok (ns : List Int) (k : Nat) (hk : k < 24) (m : Mem) (x2 x3 x4 x5 x6 x7 x8 x9 x10 x11 x12 : Option W) :
    ∃ (x2' x3' x4' x5' x6' x7' x8' x10' x11' x12' : Option W) (m' : Mem), bO [some (.frz (ns.map W.int)), some (.int (0 + (k : Int))), x2, x3, x4, x5, x6, x7, x8, x9, x10, x11, x12] m = .nx [some (.frz (ns.map W.int)), some (.int (0 + (k : Int))), x2', x3', x4', x5', x6', x7', x8', x9, x10', x11', x12'] m' := by
  obtain ⟨d, c, b, e1⟩ := pile_ok ns (0 + (k : Int)) m (by omega) (by omega)
  have hp : PileAt m.length (m ++ [pileO d c (97 * (0 + (k : Int))) b]) 10000 := ⟨d, c, _, b, last_get, by omega, by omega⟩
  generalize m ++ [pileO d c (97 * (0 + (k : Int))) b] = M1 at e1 hp
  obtain ⟨ss, M2, e2, hok, hn⟩ := some_ok m.length M1 hp (some (.frz (ns.map W.int))) (some (.int (0 + (k : Int)))) x3 x4 x5 x6 x7 x8 x10 x11 x12
  have ha : (M2 ++ [.lst (ss.map St.tup)])[M2.length]? = some (.lst (ss.map St.tup)) := last_get
  have e3 : (eNew (lComp (pRange1 (aCons (eC (.int 3)) (aNil))) (gSet 9) (tYesB) (eCall d__law_any_statement (aCons (eVar 2) (aNil))) [9])) [some (.frz (ns.map W.int)), some (.int (0 + (k : Int))), some (.ref m.length), x3, x4, x5, x6, x7, x8, x9, x10, x11, x12] M1 = .ok (.ref M2.length) (M2 ++ [.lst (ss.map St.tup)]) := by
    have q : lComp (pRange1 (aCons (eC (.int 3)) (aNil))) (gSet 9) (tYesB) (eCall d__law_any_statement (aCons (eVar 2) (aNil))) [9] [some (.frz (ns.map W.int)), some (.int (0 + (k : Int))), some (.ref m.length), x3, x4, x5, x6, x7, x8, x9, x10, x11, x12] M1 = .ok (ss.map St.tup) M2 := by
      unfold lComp
      rw [plan3, R.bind_ok]
      exact e2
    unfold eNew
    rw [q, R.bind_ok]
  generalize M2.length = a at ha e3
  generalize M2 ++ [.lst (ss.map St.tup)] = M3 at ha e3
  obtain ⟨js, M4, e4, hE, hl, hat⟩ := mades_ok a ss M3 ha (by omega) hok (some (.frz (ns.map W.int))) (some (.int (0 + (k : Int)))) (some (.ref m.length)) (some (.ref a)) x4 x6 x7 x8 x9 x10 x11 x12
  have e5 : (eNew (lComp (pVal (eVar 3)) (gSet 5) (tYesB) (eCall d__law_made (aCons (eVar 5) (aNil))) [5])) [some (.frz (ns.map W.int)), some (.int (0 + (k : Int))), some (.ref m.length), some (.ref a), x4, x5, x6, x7, x8, x9, x10, x11, x12] M3 = .ok (.ref M4.length) (M4 ++ [.lst (js.map W.ref)]) := by
    have q0 : pVal (eVar 3) [some (.frz (ns.map W.int)), some (.int (0 + (k : Int))), some (.ref m.length), some (.ref a), x4, x5, x6, x7, x8, x9, x10, x11, x12] M3 = .ok ⟨ss.length, srcLive a⟩ M3 := by
      have := planR ha
      rw [List.length_map] at this
      exact this
    have q : lComp (pVal (eVar 3)) (gSet 5) (tYesB) (eCall d__law_made (aCons (eVar 5) (aNil))) [5] [some (.frz (ns.map W.int)), some (.int (0 + (k : Int))), some (.ref m.length), some (.ref a), x4, x5, x6, x7, x8, x9, x10, x11, x12] M3 = .ok (js.map W.ref) M4 := by
      unfold lComp
      rw [q0, R.bind_ok]
      exact e4
    unfold eNew
    rw [q, R.bind_ok]
  have hm : Made a M4.length ss js (M4 ++ [.lst (js.map W.ref)]) := ⟨Ext.get ⟨_, rfl⟩ (hE.get ha), last_get, hl, hok, fun i s j h1 h2 => Ext.get ⟨_, rfl⟩ (hat i s j h1 h2)⟩
  obtain ⟨x5', x6', x7', x8', x10', x11', x12', m', e6⟩ := mid_ok _ hm (.frz (ns.map W.int)) (.int (0 + (k : Int))) (.ref m.length) x5 x6 x7 x8 x9 x10 x11 x12
  refine ⟨some (.ref m.length), some (.ref a), some (.ref M4.length), x5', x6', x7', x8', x10', x11', x12', m', ?_⟩
  have s1 : sSet 2 (eCall d__law_pile (aCons (eVar 0) (aCons (eVar 1) (aNil)))) [some (.frz (ns.map W.int)), some (.int (0 + (k : Int))), x2, x3, x4, x5, x6, x7, x8, x9, x10, x11, x12] m = .nx [some (.frz (ns.map W.int)), some (.int (0 + (k : Int))), some (.ref m.length), x3, x4, x5, x6, x7, x8, x9, x10, x11, x12] M1 := by
    simp only [List.length_cons, List.length_nil, Nat.reduceAdd, Nat.reduceEqDiff, if_true, List.map_cons, List.map_nil, Nat.reduceSub, List.replicate, List.cons_append, List.nil_append, R.bind_ok, R.bind_bad, R.nox_ok, RS.of_ok, List.getElem?_cons_zero, List.getElem?_cons_succ, List.set_cons_zero, List.set_cons_succ, Bool.not_true, Bool.not_false, Bool.false_eq_true, if_false, isNon, gSet, Int.reduceLT, Int.reduceLE, Int.reduceNeg, and_self, Nat.reduceLeDiff, Nat.reduceMul, decide_true, decide_false, Int.reduceEq, eq_self, reduceCtorEq, seq_nx, seq_rt, seq_bad, of_rt, of_nx, trd_rt, trd_nx, r_defn, r_seq, r_try, r_nil, r_expr, r_ret, r_if, r_set, r_asg, r_put, r_attr, r_var, r_c, r_bin, r_un, r_fn, r_fnL, r_call, r_make, made_ok, r_eattr, r_ixL, r_new, r_tup, r_disp, r_few, r_eif, r_eand, r_eor, r_enot, r_acons, r_anil, r_astar, r_astarL, r_val, r_tru, r_not, r_and, r_or, r_chain, r_inL, r_m1, r_joinL, r_sl, r_pno, r_pat, v_add, v_sub, v_mod, v_div, v_neg, v_lt, v_le, v_gt, v_ge, v_isN, v_notN, v_intI, v_intB, v_abs, v_strS, v_ixT, v_ixF, v_eqI, v_neI, v_eqS, v_neS, r_lcomp, r_pval, r_pseq, r_plist, r_planT, r_planS, e1]
  have s2 : sSet 3 (eNew (lComp (pRange1 (aCons (eC (.int 3)) (aNil))) (gSet 9) (tYesB) (eCall d__law_any_statement (aCons (eVar 2) (aNil))) [9])) [some (.frz (ns.map W.int)), some (.int (0 + (k : Int))), some (.ref m.length), x3, x4, x5, x6, x7, x8, x9, x10, x11, x12] M1 = .nx [some (.frz (ns.map W.int)), some (.int (0 + (k : Int))), some (.ref m.length), some (.ref a), x4, x5, x6, x7, x8, x9, x10, x11, x12] M3 := by
    unfold sSet
    rw [e3]; rfl
  have s3 : sSet 4 (eNew (lComp (pVal (eVar 3)) (gSet 5) (tYesB) (eCall d__law_made (aCons (eVar 5) (aNil))) [5])) [some (.frz (ns.map W.int)), some (.int (0 + (k : Int))), some (.ref m.length), some (.ref a), x4, x5, x6, x7, x8, x9, x10, x11, x12] M3 = .nx [some (.frz (ns.map W.int)), some (.int (0 + (k : Int))), some (.ref m.length), some (.ref a), some (.ref M4.length), x5, x6, x7, x8, x9, x10, x11, x12] (M4 ++ [.lst (js.map W.ref)]) := by
    unfold sSet
    rw [e5]; rfl
  unfold bO
  rw [r_seq, s1, seq_nx, r_seq, s2, seq_nx, r_seq, s3, seq_nx, e6]
theorem law_true : ∀ ns : List Int, ns.length ≤ 63 → ∃ m, K01.d_law [.frz (ns.map W.int)] [] = .ok (.bl true) m := by
  intro ns _
  have hb : b_law = sSeq (sIf (tVal (eBin wNe0 (eC (.tup [.str [97, 100, 100], .str [115, 117, 98], .str [109, 117, 108]])) (eTup (aCons (eC (.str [97, 100, 100])) (aCons (eC (.str [115, 117, 98])) (aCons (eC (.str [109, 117, 108])) (aNil))))))) (sRet (eC (.bl false))) (sNil)) (sSeq (sFor (pRange1 (aCons (eC (.int 24)) (aNil))) (gSet 1) bO) (sRet (eC (.bl true)))) := rfl
  have hne : wNe0 (.tup [.str [97, 100, 100], .str [115, 117, 98], .str [109, 117, 108]]) (.tup [.str [97, 100, 100], .str [115, 117, 98], .str [109, 117, 108]]) [] = .ok (.bl false) [] := by
    have hd : dat [] 30 (.tup [.str [97, 100, 100], .str [115, 117, 98], .str [109, 117, 108]]) = some (.tuple [.str (Sh.S [97, 100, 100]), .str (Sh.S [115, 117, 98]), .str (Sh.S [109, 117, 108])]) := by simp [dat, dats]
    unfold wNe0 eqB0 eqD
    rw [if_neg (by simp [scalW]), hd]
    have h1 : PySem.SeqAt.shaped (.tuple [.str (Sh.S [97, 100, 100]), .str (Sh.S [115, 117, 98]), .str (Sh.S [109, 117, 108])]) = true := by
      simp [PySem.SeqAt.shaped, PyData.canLay0, PyData.canLayAll0, PyData.depth, PyData.depthAll, PyData.strOk]
    have h2 : PyData.eqv (.tuple [.str (Sh.S [97, 100, 100]), .str (Sh.S [115, 117, 98]), .str (Sh.S [109, 117, 108])]) (.tuple [.str (Sh.S [97, 100, 100]), .str (Sh.S [115, 117, 98]), .str (Sh.S [109, 117, 108])]) = true := by simp [PyData.eqv, PyData.eqvAll]
    simp only [h1, h2, and_self, if_true, R.bind_ok]
    rfl
  have hf : ∃ σ' m', sFor (pRange1 (aCons (eC (.int 24)) (aNil))) (gSet 1) bO [some (.frz (ns.map W.int)), none, none, none, none, none, none, none, none, none, none, none, none] [] = .nx σ' m' := by
    unfold sFor
    rw [plan24, RS.of_ok]
    obtain ⟨σ', m', e, _⟩ := forLoop_nx (src := srcRange 0 24) (h := gSet 1) (b := bO) (N := 24)
      (fun _ σ' m' => ∃ x1 x2 x3 x4 x5 x6 x7 x8 x9 x10 x11 x12, σ' = [some (.frz (ns.map W.int)), x1, x2, x3, x4, x5, x6, x7, x8, x9, x10, x11, x12])
      (fun k σ m hk ⟨x1, x2, x3, x4, x5, x6, x7, x8, x9, x10, x11, x12, hσ⟩ => by
        subst hσ
        obtain ⟨x2', x3', x4', x5', x6', x7', x8', x10', x11', x12', m', e⟩ := bO_ok ns k hk m x2 x3 x4 x5 x6 x7 x8 x9 x10 x11 x12
        refine ⟨.int (0 + (k : Int)), _, _, _, _, ?_, rfl, e, _, _, _, _, _, _, _, _, _, _, _, _, rfl⟩
        show some (if k < 24 then _ else _) = _
        rw [if_pos hk])
      (fun σ m _ => rfl) 24 0 _ [] rfl ⟨_, _, _, _, _, _, _, _, _, _, _, _, rfl⟩
    exact ⟨σ', m', e⟩
  obtain ⟨σ', m', e⟩ := hf
  unfold d_law
  rw [hb]
  refine ⟨m', ?_⟩
  simp only [List.length_cons, List.length_nil, Nat.reduceAdd, Nat.reduceEqDiff, if_true, List.map_cons, List.map_nil, Nat.reduceSub, List.replicate, List.cons_append, List.nil_append, R.bind_ok, R.bind_bad, R.nox_ok, RS.of_ok, List.getElem?_cons_zero, List.getElem?_cons_succ, List.set_cons_zero, List.set_cons_succ, Bool.not_true, Bool.not_false, Bool.false_eq_true, if_false, isNon, gSet, Int.reduceLT, Int.reduceLE, Int.reduceNeg, and_self, Nat.reduceLeDiff, Nat.reduceMul, decide_true, decide_false, Int.reduceEq, eq_self, reduceCtorEq, seq_nx, seq_rt, seq_bad, of_rt, of_nx, trd_rt, trd_nx, r_defn, r_seq, r_try, r_nil, r_expr, r_ret, r_if, r_set, r_asg, r_put, r_attr, r_var, r_c, r_bin, r_un, r_fn, r_fnL, r_call, r_make, made_ok, r_eattr, r_ixL, r_new, r_tup, r_disp, r_few, r_eif, r_eand, r_eor, r_enot, r_acons, r_anil, r_astar, r_astarL, r_val, r_tru, r_not, r_and, r_or, r_chain, r_inL, r_m1, r_joinL, r_sl, r_pno, r_pat, v_add, v_sub, v_mod, v_div, v_neg, v_lt, v_le, v_gt, v_ge, v_isN, v_notN, v_intI, v_intB, v_abs, v_strS, v_ixT, v_ixF, v_eqI, v_neI, v_eqS, v_neS, r_lcomp, r_pval, r_pseq, r_plist, r_planT, r_planS, hne, e]
end K01

open PySem PySem.W PyProof.Rows
set_option maxRecDepth 100000 in
set_option maxHeartbeats 0 in
theorem PySem.Challenge.cw_placedonce_k01_statements_made_holds : PySem.Challenge.rw_placedonce_k01_statements_made.Holds := by
  w_on; o_law; k_head; (case hw => w_witness2)
  k_fill
  refine Sh.walk_sh (l := PySem.Challenge.rw_placedonce_k01_statements_made) (k := 8) (x := "_law_script") (F := K01.d_law) rfl (by decide) rfl ⟨rfl, by decide, by decide⟩ (fun w h Y => PySem.W.kIn_of Y) ?FO K01.law_true
  case FO =>
    intro w mg fa h KX G hmg
    refine' K01.all_mk (P := PySem.Challenge.pw_placedonce_k01_statements_made) KX G hmg ?a_Statement ?rd_Statement ?cc_Statement_OPERATORS ?z_range ?z_len ?z_int ?z_abs ?a__law_pile ?l__law_pile ?c__law_pile ?k__law_pile ?a__law_mixed ?l__law_mixed ?c__law_mixed ?k__law_mixed ?a__law_take ?l__law_take ?c__law_take ?k__law_take ?a__law_drawn_word ?l__law_drawn_word ?c__law_drawn_word ?k__law_drawn_word ?a__law_drawn_value ?l__law_drawn_value ?c__law_drawn_value ?k__law_drawn_value ?a__law_any_statement ?l__law_any_statement ?c__law_any_statement ?k__law_any_statement ?a_Assign ?cd_Assign ?ct_Assign ?is_NoneType_Assign ?a_Copy ?cd_Copy ?ct_Copy ?is_NoneType_Copy ?a_Read ?cd_Read ?ct_Read ?is_NoneType_Read ?a_Set ?cd_Set ?ct_Set ?is_NoneType_Set ?cd_Statement ?ct_Statement ?is_NoneType_Statement ?a_Write ?cd_Write ?ct_Write ?is_NoneType_Write ?is_bool_Assign ?is_bool_Copy ?is_bool_Read ?is_bool_Set ?is_bool_Statement ?is_bool_Write ?is_int_Assign ?is_int_Copy ?is_int_Read ?is_int_Set ?is_int_Statement ?is_int_Write ?is_str_Assign ?is_str_Copy ?is_str_Read ?is_str_Set ?is_str_Statement ?is_str_Write ?is_tuple_Assign ?is_tuple_Copy ?is_tuple_Read ?is_tuple_Set ?is_tuple_Statement ?is_tuple_Write ?is_list_Assign ?is_list_Copy ?is_list_Read ?is_list_Set ?is_list_Statement ?is_list_Write ?pg_Set ?hd_Set ?po_Set ?sa_Set ?ia_Set ?ig ?it ?im_Set ?is_Set_bool ?is_Set_int ?is_Set_str ?is_Set_Set ?is_Set_Assign ?is_Set_Copy ?is_Set_Read ?is_Set_Statement ?is_Set_Write ?pg_Copy ?hd_Copy ?po_Copy ?sa_Copy ?ia_Copy ?im_Copy ?is_Copy_bool ?is_Copy_int ?is_Copy_str ?is_Copy_Copy ?is_Copy_Assign ?is_Copy_Read ?is_Copy_Set ?is_Copy_Statement ?is_Copy_Write ?pg_Read ?hd_Read ?po_Read ?sa_Read ?ia_Read ?im_Read ?is_Read_bool ?is_Read_int ?is_Read_str ?is_Read_Read ?is_Read_Assign ?is_Read_Copy ?is_Read_Set ?is_Read_Statement ?is_Read_Write ?pg_Write ?hd_Write ?po_Write ?sa_Write ?ia_Write ?im_Write ?is_Write_bool ?is_Write_int ?is_Write_str ?is_Write_Write ?is_Write_Assign ?is_Write_Copy ?is_Write_Read ?is_Write_Set ?is_Write_Statement ?z_isinstance ?z_str ?v_MOST_LETTERS ?z_all ?v_LETTERS ?a_is_name ?l_is_name ?c_is_name ?k_is_name ?a_must_be_name ?l_must_be_name ?c_must_be_name ?k_must_be_name ?n_Set_target ?n_Copy_target ?n_Read_target ?z_bool ?a_is_integer ?l_is_integer ?c_is_integer ?k_is_integer ?v_MOST_VALUE ?a_is_value ?l_is_value ?c_is_value ?k_is_value ?a_must_be_value ?l_must_be_value ?c_must_be_value ?k_must_be_value ?co_Set_OPERATORS ?cg_Statement_OPERATORS ?co_Copy_OPERATORS ?co_Read_OPERATORS ?co_Write_OPERATORS ?n_Set_left ?n_Set_op ?n_Set_right ?mk_Set ?kc_Set ?mi_Set ?mf_Set___init__ ?l_Set___init__ ?c_Set___init__ ?sc1_Set___init__ ?sc2_Set___init__ ?sc3_Set___init__ ?sc4_Set___init__ ?sc5_Set___init__ ?sc6_Set ?sc7_Set ?sc8_Assign___init__ ?sc9_Assign___init__ ?z_super ?zst ?ztop ?n_Copy_value ?mk_Copy ?kc_Copy ?mi_Copy ?mf_Copy___init__ ?l_Copy___init__ ?c_Copy___init__ ?sc1_Copy___init__ ?sc2_Copy___init__ ?sc3_Copy___init__ ?sc4_Copy___init__ ?sc5_Copy___init__ ?sc6_Copy ?sc7_Copy ?mk_Read ?kc_Read ?mi_Read ?mf_Assign___init__ ?n_Write_value ?mk_Write ?kc_Write ?mi_Write ?mf_Write___init__ ?l_Write___init__ ?c_Write___init__ ?k_Write___init__ ?a__law_made ?l__law_made ?c__law_made ?k__law_made ?z_zip ?a__law_statement_text ?l__law_statement_text ?c__law_statement_text ?k__law_statement_text ?pa_Set_words ?pg_Set_words ?pt_Set_words ?pr_Set_words_ ?pa_Copy_words ?pg_Copy_words ?pt_Copy_words ?pr_Copy_words_ ?pa_Read_words ?pg_Read_words ?pt_Read_words ?pr_Read_words_ ?pa_Write_words ?pg_Write_words ?pt_Write_words ?pr_Write_words_ ?co_Set_WORD ?cg_Set_WORD ?co_Copy_WORD ?cg_Copy_WORD ?co_Read_WORD ?cg_Read_WORD ?co_Write_WORD ?cg_Write_WORD ?pa_Set_text ?pg_Statement_text ?pt_Statement_text ?pr_Statement_text_ ?pa_Copy_text ?pa_Read_text ?pa_Write_text ?z_repr ?a__law_alike ?l__law_alike ?c__law_alike ?k__law_alike ?a__law_attributes ?l__law_attributes ?c__law_attributes ?k__law_attributes ?v_MOST_DIGITS ?v_DIGITS ?a_value_of ?l_value_of ?c_value_of ?k_value_of ?a_statement_in ?l_statement_in ?c_statement_in ?k_statement_in ?ga_Statement ?st1_Statement_read ?st2_Statement_read ?a__law_classes ?l__law_classes ?c__law_classes ?k__law_classes ?a__law_due ?l__law_due ?c__law_due ?k__law_due ?eq_Set ?ef_Statement___eq__ ?ne_Set ?eq_Copy ?ne_Copy ?eq_Read ?ne_Read ?eq_Write ?ne_Write ?nf_Set_NoneType ?nf_Set_int ?nf_Set_str ?nf_Set_Set ?nf_Set_Copy ?nf_Set_Read ?nf_Set_Write ?nf_Copy_NoneType ?nf_Copy_int ?nf_Copy_str ?nf_Copy_Set ?nf_Copy_Copy ?nf_Copy_Read ?nf_Copy_Write ?nf_Read_NoneType ?nf_Read_int ?nf_Read_str ?nf_Read_Set ?nf_Read_Copy ?nf_Read_Read ?nf_Read_Write ?nf_Write_NoneType ?nf_Write_int ?nf_Write_str ?nf_Write_Set ?nf_Write_Copy ?nf_Write_Read ?nf_Write_Write ?pa_Set_expression ?pg_Set_expression ?pt_Set_expression ?pr_Set_expression_ ?a_law ?l_law ?c_law ?k_law ?tl_Statement_OPERATORS ?l_Assign___init__ ?c_Assign___init__ ?k_Assign___init__ ?l_Set_words ?c_Set_words ?k_Set_words ?l_Copy_words ?c_Copy_words ?k_Copy_words ?l_Read_words ?c_Read_words ?k_Read_words ?l_Write_words ?c_Write_words ?k_Write_words ?l_Statement_text ?c_Statement_text ?k_Statement_text ?l_Statement_read ?c_Statement_read ?k_Statement_read ?l_Statement___eq__ ?c_Statement___eq__ ?k_Statement___eq__ ?l_Set_expression ?c_Set_expression ?k_Set_expression
    (case a_Statement => k_is)
    (case rd_Statement => k_is)
    (case cc_Statement_OPERATORS => k_is)
    (case z_range => k_is)
    (case z_len => k_is)
    (case z_int => k_is)
    (case z_abs => k_is)
    (case a__law_pile => k_is)
    (case l__law_pile => k_is)
    (case c__law_pile => k_is)
    (case k__law_pile => k_is)
    (case a__law_mixed => k_is)
    (case l__law_mixed => k_is)
    (case c__law_mixed => k_is)
    (case k__law_mixed => k_is)
    (case a__law_take => k_is)
    (case l__law_take => k_is)
    (case c__law_take => k_is)
    (case k__law_take => k_is)
    (case a__law_drawn_word => k_is)
    (case l__law_drawn_word => k_is)
    (case c__law_drawn_word => k_is)
    (case k__law_drawn_word => k_is)
    (case a__law_drawn_value => k_is)
    (case l__law_drawn_value => k_is)
    (case c__law_drawn_value => k_is)
    (case k__law_drawn_value => k_is)
    (case a__law_any_statement => k_is)
    (case l__law_any_statement => k_is)
    (case c__law_any_statement => k_is)
    (case k__law_any_statement => k_is)
    (case a_Assign => k_is)
    (case cd_Assign => k_is)
    (case ct_Assign => k_is)
    (case is_NoneType_Assign => k_is)
    (case a_Copy => k_is)
    (case cd_Copy => k_is)
    (case ct_Copy => k_is)
    (case is_NoneType_Copy => k_is)
    (case a_Read => k_is)
    (case cd_Read => k_is)
    (case ct_Read => k_is)
    (case is_NoneType_Read => k_is)
    (case a_Set => k_is)
    (case cd_Set => k_is)
    (case ct_Set => k_is)
    (case is_NoneType_Set => k_is)
    (case cd_Statement => k_is)
    (case ct_Statement => k_is)
    (case is_NoneType_Statement => k_is)
    (case a_Write => k_is)
    (case cd_Write => k_is)
    (case ct_Write => k_is)
    (case is_NoneType_Write => k_is)
    (case is_bool_Assign => k_is)
    (case is_bool_Copy => k_is)
    (case is_bool_Read => k_is)
    (case is_bool_Set => k_is)
    (case is_bool_Statement => k_is)
    (case is_bool_Write => k_is)
    (case is_int_Assign => k_is)
    (case is_int_Copy => k_is)
    (case is_int_Read => k_is)
    (case is_int_Set => k_is)
    (case is_int_Statement => k_is)
    (case is_int_Write => k_is)
    (case is_str_Assign => k_is)
    (case is_str_Copy => k_is)
    (case is_str_Read => k_is)
    (case is_str_Set => k_is)
    (case is_str_Statement => k_is)
    (case is_str_Write => k_is)
    (case is_tuple_Assign => k_is)
    (case is_tuple_Copy => k_is)
    (case is_tuple_Read => k_is)
    (case is_tuple_Set => k_is)
    (case is_tuple_Statement => k_is)
    (case is_tuple_Write => k_is)
    (case is_list_Assign => k_is)
    (case is_list_Copy => k_is)
    (case is_list_Read => k_is)
    (case is_list_Set => k_is)
    (case is_list_Statement => k_is)
    (case is_list_Write => k_is)
    (case pg_Set => k_is)
    (case hd_Set => k_is)
    (case po_Set => k_is)
    (case sa_Set => k_is)
    (case ia_Set => k_is)
    (case ig => k_is)
    (case it => k_is)
    (case im_Set => k_is)
    (case is_Set_bool => k_is)
    (case is_Set_int => k_is)
    (case is_Set_str => k_is)
    (case is_Set_Set => k_is)
    (case is_Set_Assign => k_is)
    (case is_Set_Copy => k_is)
    (case is_Set_Read => k_is)
    (case is_Set_Statement => k_is)
    (case is_Set_Write => k_is)
    (case pg_Copy => k_is)
    (case hd_Copy => k_is)
    (case po_Copy => k_is)
    (case sa_Copy => k_is)
    (case ia_Copy => k_is)
    (case im_Copy => k_is)
    (case is_Copy_bool => k_is)
    (case is_Copy_int => k_is)
    (case is_Copy_str => k_is)
    (case is_Copy_Copy => k_is)
    (case is_Copy_Assign => k_is)
    (case is_Copy_Read => k_is)
    (case is_Copy_Set => k_is)
    (case is_Copy_Statement => k_is)
    (case is_Copy_Write => k_is)
    (case pg_Read => k_is)
    (case hd_Read => k_is)
    (case po_Read => k_is)
    (case sa_Read => k_is)
    (case ia_Read => k_is)
    (case im_Read => k_is)
    (case is_Read_bool => k_is)
    (case is_Read_int => k_is)
    (case is_Read_str => k_is)
    (case is_Read_Read => k_is)
    (case is_Read_Assign => k_is)
    (case is_Read_Copy => k_is)
    (case is_Read_Set => k_is)
    (case is_Read_Statement => k_is)
    (case is_Read_Write => k_is)
    (case pg_Write => k_is)
    (case hd_Write => k_is)
    (case po_Write => k_is)
    (case sa_Write => k_is)
    (case ia_Write => k_is)
    (case im_Write => k_is)
    (case is_Write_bool => k_is)
    (case is_Write_int => k_is)
    (case is_Write_str => k_is)
    (case is_Write_Write => k_is)
    (case is_Write_Assign => k_is)
    (case is_Write_Copy => k_is)
    (case is_Write_Read => k_is)
    (case is_Write_Set => k_is)
    (case is_Write_Statement => k_is)
    (case z_isinstance => k_is)
    (case z_str => k_is)
    (case v_MOST_LETTERS => k_is)
    (case z_all => k_is)
    (case v_LETTERS => k_is)
    (case a_is_name => k_is)
    (case l_is_name => k_is)
    (case c_is_name => k_is)
    (case k_is_name => k_is)
    (case a_must_be_name => k_is)
    (case l_must_be_name => k_is)
    (case c_must_be_name => k_is)
    (case k_must_be_name => k_is)
    (case n_Set_target => k_is)
    (case n_Copy_target => k_is)
    (case n_Read_target => k_is)
    (case z_bool => k_is)
    (case a_is_integer => k_is)
    (case l_is_integer => k_is)
    (case c_is_integer => k_is)
    (case k_is_integer => k_is)
    (case v_MOST_VALUE => k_is)
    (case a_is_value => k_is)
    (case l_is_value => k_is)
    (case c_is_value => k_is)
    (case k_is_value => k_is)
    (case a_must_be_value => k_is)
    (case l_must_be_value => k_is)
    (case c_must_be_value => k_is)
    (case k_must_be_value => k_is)
    (case co_Set_OPERATORS => k_is)
    (case cg_Statement_OPERATORS => k_is)
    (case co_Copy_OPERATORS => k_is)
    (case co_Read_OPERATORS => k_is)
    (case co_Write_OPERATORS => k_is)
    (case n_Set_left => k_is)
    (case n_Set_op => k_is)
    (case n_Set_right => k_is)
    (case mk_Set => k_is)
    (case kc_Set => k_is)
    (case mi_Set => k_is)
    (case mf_Set___init__ => k_is)
    (case l_Set___init__ => k_is)
    (case c_Set___init__ => k_is)
    (case sc1_Set___init__ => k_is)
    (case sc2_Set___init__ => rfl)
    (case sc3_Set___init__ => rfl)
    (case sc4_Set___init__ => k_is)
    (case sc5_Set___init__ => k_is)
    (case sc6_Set => k_is)
    (case sc7_Set => ks_is)
    (case sc8_Assign___init__ => k_is)
    (case sc9_Assign___init__ => k_is)
    (case z_super => k_is)
    (case zst => k_is)
    (case ztop => rfl)
    (case n_Copy_value => k_is)
    (case mk_Copy => k_is)
    (case kc_Copy => k_is)
    (case mi_Copy => k_is)
    (case mf_Copy___init__ => k_is)
    (case l_Copy___init__ => k_is)
    (case c_Copy___init__ => k_is)
    (case sc1_Copy___init__ => k_is)
    (case sc2_Copy___init__ => rfl)
    (case sc3_Copy___init__ => rfl)
    (case sc4_Copy___init__ => k_is)
    (case sc5_Copy___init__ => k_is)
    (case sc6_Copy => k_is)
    (case sc7_Copy => ks_is)
    (case mk_Read => k_is)
    (case kc_Read => k_is)
    (case mi_Read => k_is)
    (case mf_Assign___init__ => k_is)
    (case n_Write_value => k_is)
    (case mk_Write => k_is)
    (case kc_Write => k_is)
    (case mi_Write => k_is)
    (case mf_Write___init__ => k_is)
    (case l_Write___init__ => k_is)
    (case c_Write___init__ => k_is)
    (case k_Write___init__ => k_is)
    (case a__law_made => k_is)
    (case l__law_made => k_is)
    (case c__law_made => k_is)
    (case k__law_made => k_is)
    (case z_zip => k_is)
    (case a__law_statement_text => k_is)
    (case l__law_statement_text => k_is)
    (case c__law_statement_text => k_is)
    (case k__law_statement_text => k_is)
    (case pa_Set_words => k_is)
    (case pg_Set_words => k_is)
    (case pt_Set_words => k_is)
    (case pr_Set_words_ => k_is)
    (case pa_Copy_words => k_is)
    (case pg_Copy_words => k_is)
    (case pt_Copy_words => k_is)
    (case pr_Copy_words_ => k_is)
    (case pa_Read_words => k_is)
    (case pg_Read_words => k_is)
    (case pt_Read_words => k_is)
    (case pr_Read_words_ => k_is)
    (case pa_Write_words => k_is)
    (case pg_Write_words => k_is)
    (case pt_Write_words => k_is)
    (case pr_Write_words_ => k_is)
    (case co_Set_WORD => k_is)
    (case cg_Set_WORD => k_is)
    (case co_Copy_WORD => k_is)
    (case cg_Copy_WORD => k_is)
    (case co_Read_WORD => k_is)
    (case cg_Read_WORD => k_is)
    (case co_Write_WORD => k_is)
    (case cg_Write_WORD => k_is)
    (case pa_Set_text => k_is)
    (case pg_Statement_text => k_is)
    (case pt_Statement_text => k_is)
    (case pr_Statement_text_ => k_is)
    (case pa_Copy_text => k_is)
    (case pa_Read_text => k_is)
    (case pa_Write_text => k_is)
    (case z_repr => k_is)
    (case a__law_alike => k_is)
    (case l__law_alike => k_is)
    (case c__law_alike => k_is)
    (case k__law_alike => k_is)
    (case a__law_attributes => k_is)
    (case l__law_attributes => k_is)
    (case c__law_attributes => k_is)
    (case k__law_attributes => k_is)
    (case v_MOST_DIGITS => k_is)
    (case v_DIGITS => k_is)
    (case a_value_of => k_is)
    (case l_value_of => k_is)
    (case c_value_of => k_is)
    (case k_value_of => k_is)
    (case a_statement_in => k_is)
    (case l_statement_in => k_is)
    (case c_statement_in => k_is)
    (case k_statement_in => k_is)
    (case ga_Statement => k_is)
    (case st1_Statement_read => k_is)
    (case st2_Statement_read => k_is)
    (case a__law_classes => k_is)
    (case l__law_classes => k_is)
    (case c__law_classes => k_is)
    (case k__law_classes => k_is)
    (case a__law_due => k_is)
    (case l__law_due => k_is)
    (case c__law_due => k_is)
    (case k__law_due => k_is)
    (case eq_Set => k_is)
    (case ef_Statement___eq__ => k_is)
    (case ne_Set => k_is)
    (case eq_Copy => k_is)
    (case ne_Copy => k_is)
    (case eq_Read => k_is)
    (case ne_Read => k_is)
    (case eq_Write => k_is)
    (case ne_Write => k_is)
    (case nf_Set_NoneType => k_is)
    (case nf_Set_int => k_is)
    (case nf_Set_str => k_is)
    (case nf_Set_Set => k_is)
    (case nf_Set_Copy => k_is)
    (case nf_Set_Read => k_is)
    (case nf_Set_Write => k_is)
    (case nf_Copy_NoneType => k_is)
    (case nf_Copy_int => k_is)
    (case nf_Copy_str => k_is)
    (case nf_Copy_Set => k_is)
    (case nf_Copy_Copy => k_is)
    (case nf_Copy_Read => k_is)
    (case nf_Copy_Write => k_is)
    (case nf_Read_NoneType => k_is)
    (case nf_Read_int => k_is)
    (case nf_Read_str => k_is)
    (case nf_Read_Set => k_is)
    (case nf_Read_Copy => k_is)
    (case nf_Read_Read => k_is)
    (case nf_Read_Write => k_is)
    (case nf_Write_NoneType => k_is)
    (case nf_Write_int => k_is)
    (case nf_Write_str => k_is)
    (case nf_Write_Set => k_is)
    (case nf_Write_Copy => k_is)
    (case nf_Write_Read => k_is)
    (case nf_Write_Write => k_is)
    (case pa_Set_expression => k_is)
    (case pg_Set_expression => k_is)
    (case pt_Set_expression => k_is)
    (case pr_Set_expression_ => k_is)
    (case a_law => k_is)
    (case l_law => k_is)
    (case c_law => k_is)
    (case k_law => k_is)
    (case tl_Statement_OPERATORS => k_is)
    (case l_Assign___init__ => k_is)
    (case c_Assign___init__ => k_is)
    (case k_Assign___init__ => k_is)
    (case l_Set_words => k_is)
    (case c_Set_words => k_is)
    (case k_Set_words => k_is)
    (case l_Copy_words => k_is)
    (case c_Copy_words => k_is)
    (case k_Copy_words => k_is)
    (case l_Read_words => k_is)
    (case c_Read_words => k_is)
    (case k_Read_words => k_is)
    (case l_Write_words => k_is)
    (case c_Write_words => k_is)
    (case k_Write_words => k_is)
    (case l_Statement_text => k_is)
    (case c_Statement_text => k_is)
    (case k_Statement_text => k_is)
    (case l_Statement_read => k_is)
    (case c_Statement_read => k_is)
    (case k_Statement_read => k_is)
    (case l_Statement___eq__ => k_is)
    (case c_Statement___eq__ => k_is)
    (case k_Statement___eq__ => k_is)
    (case l_Set_expression => k_is)
    (case c_Set_expression => k_is)
    (case k_Set_expression => k_is)
