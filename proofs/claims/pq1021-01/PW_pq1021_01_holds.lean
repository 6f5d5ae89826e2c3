import PyProof.Rows.All
import Wide.All
import OpenK.AllK
import Wide.FinOn
import PySem.Challenge.RW_pq1021_01
open PySem PySem.W PySem.Calls PyProof.Rows
set_option Elab.async false
set_option linter.unusedVariables false
set_option maxRecDepth 100000
set_option maxHeartbeats 4000000
namespace Mine

/-! # values without tokens, abstract objects, abstract heaps -/

def nrm : Value → Value
  | .int i _ => .int i 0
  | .str s _ => .str s 0
  | .float b _ => .float b 0
  | .bytes b _ => .bytes b 0
  | v => v

@[simp] theorem nrm_int (i : Int) (t : Tok) : nrm (.int i t) = .int i 0 := rfl
@[simp] theorem nrm_str (s : Str) (t : Tok) : nrm (.str s t) = .str s 0 := rfl
@[simp] theorem nrm_ref (a : Addr) : nrm (.ref a) = .ref a := rfl
@[simp] theorem nrm_none : nrm .none = .none := rfl
@[simp] theorem nrm_bool (b : Bool) : nrm (.bool b) = .bool b := rfl
@[simp] theorem nrm_type (n : String) : nrm (.type n) = .type n := rfl
@[simp] theorem nrm_builtin (n : String) : nrm (.builtin n) = .builtin n := rfl
theorem nrm_nrm (v : Value) : nrm (nrm v) = nrm v := by cases v <;> rfl
theorem of_nrm_ref {v : Value} {a : Addr} (h : nrm v = .ref a) : v = .ref a := by cases v <;> simp_all [nrm]
theorem of_nrm_none {v : Value} (h : nrm v = .none) : v = .none := by cases v <;> simp_all [nrm]
theorem of_nrm_bool {v : Value} {b : Bool} (h : nrm v = .bool b) : v = .bool b := by cases v <;> simp_all [nrm]
theorem of_nrm_int {v : Value} {i : Int} {t : Tok} (h : nrm v = .int i t) : ∃ t, v = .int i t := by
  cases v <;> simp_all [nrm]
theorem of_nrm_str {v : Value} {x : Str} {t : Tok} (h : nrm v = .str x t) : ∃ t, v = .str x t := by
  cases v <;> simp_all [nrm]
theorem of_nrm_type {v : Value} {n : String} (h : nrm v = .type n) : v = .type n := by cases v <;> simp_all [nrm]
theorem of_nrm_builtin {v : Value} {n : String} (h : nrm v = .builtin n) : v = .builtin n := by cases v <;> simp_all [nrm]

abbrev VI (i : Int) : Value := .int i 0
abbrev VS (s : Str) : Value := .str s 0

inductive AObj where
  | inst (C : Addr) (at_ : List (Str × Value))
  | list (vs : List Value)
  | tuple (vs : List Value)
  | dicti (kvs : List (Int × Value))
  | dicts (kvs : List (Str × Value))
  | obj (o : Obj)

abbrev AH := Addr → Option AObj
def put (σ : AH) (a : Addr) (o : AObj) : AH := fun b => if b = a then some o else σ b
@[simp] theorem put_self (σ : AH) (a : Addr) (o : AObj) : put σ a o a = some o := by simp [put]
theorem put_ne {σ : AH} {a b : Addr} {o : AObj} (h : b ≠ a) : put σ a o b = σ b := by simp [put, h]

noncomputable def setA (n : Str) (v : Value) : List (Str × Value) → List (Str × Value)
  | [] => [(n, v)]
  | p :: r => if p.1 = n then (n, v) :: r else p :: setA n v r

noncomputable def AttrsAre : List DictEntry → List (Str × Value) → Prop
  | [], [] => True
  | e :: es, p :: ps => (∃ t, e.key = .str p.1 t) ∧ nrm e.val = p.2 ∧ handedIn e.val = true ∧ AttrsAre es ps
  | _, _ => False

abbrev NoE : Value → Shared → Prop := fun _ _ => False

/-- what does not change: the program, the world, the written part, the heap at the law's call -/
structure Stat where
  prog : Program
  w : World
  K : Frag
  base : Heap
  mg : Str → Option Value
  mb : Str → Option Value
  KX : K.In base
  g : base.Ns mainGlobals mg
  b : base.Ns builtinsNs mb
  lim : base.NoLimit
  blt : ∀ x : Str, x ≠ "__name__" → mb x = bootBuiltins x

abbrev tupOf (xs : Array Value) (n : Nat) : Obj := { cls := .type "tuple", data := .seq xs n }

def Rep (S : Stat) (h : Heap) (a : Addr) : AObj → Prop
  | .inst C at_ => ∃ d es n, a = d + 1 ∧ h.get? a = some (instObj C d) ∧ h.get? d = some (dictOf es n) ∧ AttrsAre es at_
  | .list vs => ∃ (xs : Array Value) (n : Nat), h.get? a = some (listOf xs n) ∧ xs.toList.map nrm = vs
  | .tuple vs => ∃ (xs : Array Value) (n : Nat), h.get? a = some (tupOf xs n) ∧ xs.toList.map nrm = vs
  | .dicti kvs => ∃ raw : List (Int × Value), h.DictOf (intKind S.prog S.w) a raw ∧ raw.map (fun p => (p.1, nrm p.2)) = kvs
  | .dicts kvs => ∃ raw : List (Str × Value), h.DictOf (strKind S.prog S.w) a raw ∧ raw.map (fun p => (p.1, nrm p.2)) = kvs
  | .obj o => h.get? a = some o

/-- the addresses that an abstract heap owns -/
def fp (σ : AH) (b : Addr) : Prop := (σ b).isSome = true ∨ ∃ C at_, σ (b + 1) = some (.inst C at_)

structure Good (S : Stat) (σ : AH) (h : Heap) : Prop where
  keep : ∀ b o, S.base.get? b = some o → h.get? b = some o
  rep : ∀ a o, σ a = some o → Rep S h a o
  sep : ∀ a C at_, σ (a + 1) = some (.inst C at_) → σ a = none
  new : ∀ a, fp σ a → S.base.get? a = none ∧ a ≠ sysModules

structure Step (σ : AH) (s : Shared) (σ' : AH) (s' : Shared) : Prop where
  keep : ∀ b o, ¬ fp σ b → s.heap.get? b = some o → s'.heap.get? b = some o
  own : ∀ b, fp σ' b → fp σ b ∨ s.heap.get? b = none
  gens : s'.gens = s.gens
  os : s'.os = s.os

theorem Rep.alive {S : Stat} {h : Heap} {a : Addr} {o : AObj} (r : Rep S h a o) : ∃ x, h.get? a = some x := by
  cases o with
  | inst C at_ => obtain ⟨_, _, _, _, e, _⟩ := r; exact ⟨_, e⟩
  | list vs => obtain ⟨_, _, e, _⟩ := r; exact ⟨_, e⟩
  | tuple vs => obtain ⟨_, _, e, _⟩ := r; exact ⟨_, e⟩
  | dicti kvs => obtain ⟨_, ⟨o, _, _, e, _⟩, _⟩ := r; exact ⟨_, e⟩
  | dicts kvs => obtain ⟨_, ⟨o, _, _, e, _⟩, _⟩ := r; exact ⟨_, e⟩
  | obj o => exact ⟨_, r⟩

theorem Good.alive {S : Stat} {σ : AH} {h : Heap} (G : Good S σ h) {b : Addr} (hb : fp σ b) : ∃ x, h.get? b = some x := by
  rcases hb with hb | ⟨C, at_, hb⟩
  · obtain ⟨o, ho⟩ := Option.isSome_iff_exists.mp hb
    exact Rep.alive (G.rep _ _ ho)
  · obtain ⟨d, es, n, e, _, e2, _⟩ := G.rep _ _ hb
    cases Nat.succ.inj e
    exact ⟨_, e2⟩

theorem Good.free {S : Stat} {σ : AH} {h : Heap} (G : Good S σ h) {b : Addr} (hb : h.get? b = none) : ¬ fp σ b := fun x => by
  obtain ⟨o, e⟩ := G.alive x; rw [hb] at e; cases e

theorem Good.size_ne {S : Stat} {σ : AH} {h : Heap} (G : Good S σ h) : h.objs.size ≠ sysModules := by
  obtain ⟨o, _, _, e, _⟩ := S.g
  have := Heap.lt_size (G.keep _ _ e)
  intro q
  rw [q] at this
  exact absurd this (by decide)

/-- Rep depends on the owned addresses alone -/
theorem Rep.mono {S : Stat} {h h' : Heap} {a : Addr} {o : AObj} (r : Rep S h a o)
    (h1 : ∀ x, h.get? a = some x → h'.get? a = some x) (h2 : ∀ C at_ d, o = .inst C at_ → a = d + 1 → ∀ x, h.get? d = some x → h'.get? d = some x) : Rep S h' a o := by
  cases o with
  | inst C at_ => obtain ⟨d, es, n, e, e1, e2, e3⟩ := r; exact ⟨d, es, n, e, h1 _ e1, h2 _ _ _ rfl e _ e2, e3⟩
  | list vs => obtain ⟨xs, n, e, z⟩ := r; exact ⟨xs, n, h1 _ e, z⟩
  | tuple vs => obtain ⟨xs, n, e, z⟩ := r; exact ⟨xs, n, h1 _ e, z⟩
  | dicti kvs => obtain ⟨raw, ⟨o, es, ep, e, q⟩, z⟩ := r; exact ⟨raw, ⟨o, es, ep, h1 _ e, q⟩, z⟩
  | dicts kvs => obtain ⟨raw, ⟨o, es, ep, e, q⟩, z⟩ := r; exact ⟨raw, ⟨o, es, ep, h1 _ e, q⟩, z⟩
  | obj o => exact h1 _ r

theorem fp_self {σ : AH} {a : Addr} {o : AObj} (h : σ a = some o) : fp σ a := .inl (by rw [h]; rfl)
theorem fp_dict {σ : AH} {d : Addr} {C : Addr} {at_} (h : σ (d + 1) = some (.inst C at_)) : fp σ d := .inr ⟨_, _, h⟩

/-- the heap changed outside of what is owned -/
theorem Good.ext {S : Stat} {σ : AH} {h h' : Heap} (G : Good S σ h) (hk : ∀ b o, h.get? b = some o → (fp σ b ∨ S.base.get? b = some o) → h'.get? b = some o) : Good S σ h' where
  keep b o e := hk b o (G.keep b o e) (.inr e)
  rep a o e := Rep.mono (G.rep a o e) (fun x hx => hk _ _ hx (.inl (fp_self e))) (fun C at_ d q e1 x hx => hk _ _ hx (.inl (by subst q; subst e1; exact fp_dict e)))
  sep := G.sep
  new := G.new

theorem Good.grow {S : Stat} {σ : AH} {h h' : Heap} (G : Good S σ h) (hk : ∀ b o, h.get? b = some o → h'.get? b = some o) : Good S σ h' :=
  G.ext fun b o e _ => hk b o e

theorem Step.refl {σ : AH} {s : Shared} : Step σ s σ s := ⟨fun _ _ _ e => e, fun _ h => .inl h, rfl, rfl⟩
theorem Step.trans {σ₁ σ₂ σ₃ : AH} {s₁ s₂ s₃ : Shared} (x : Step σ₁ s₁ σ₂ s₂) (y : Step σ₂ s₂ σ₃ s₃) : Step σ₁ s₁ σ₃ s₃ where
  keep b o hb e := by
    refine y.keep b o (fun h2 => ?_) (x.keep b o hb e)
    rcases x.own b h2 with h | h
    · exact hb h
    · rw [h] at e; cases e
  own b hb := by
    rcases y.own b hb with h | h
    · exact x.own b h
    · by_cases hf : fp σ₁ b
      · exact .inl hf
      · cases e : s₁.heap.get? b with
        | none => exact .inr rfl
        | some o => have := x.keep b o hf e; rw [h] at this; cases this
  gens := y.gens.trans x.gens
  os := y.os.trans x.os
theorem Step.same {σ : AH} {s s' : Shared} (hk : ∀ b o, s.heap.get? b = some o → s'.heap.get? b = some o) (hg : s'.gens = s.gens := by rfl) (ho : s'.os = s.os := by rfl) : Step σ s σ s' :=
  ⟨fun b o _ e => hk b o e, fun _ h => .inl h, hg, ho⟩

/-- room for calls: none handled; few frames, few units -/
def Room (n : Nat) (A : Around) : Prop := A.handled = none ∧ A.depth + 4 * n ≤ 900 ∧ A.units + 60 * n ≤ 9000
theorem Room.le {n m : Nat} {A : Around} (h : Room n A) (hm : m ≤ n) : Room m A := ⟨h.1, by have := h.2.1; omega, by have := h.2.2; omega⟩
theorem Room.in1 {n : Nat} {A : Around} (h : Room (n + 1) A) : Room n A.in1 := ⟨h.1, by have := h.2.1; show A.depth + _ ≤ _; omega, by have := h.2.2; show A.units + 1 + _ ≤ _; omega⟩
theorem Room.deeper {n : Nat} {A : Around} {env : Env} (h : Room (n + 1) A) : Room n (A.deeper env) :=
  ⟨h.1, by have := h.2.1; show A.depth + 1 + _ ≤ _; omega, by have := h.2.2; show A.units + 3 + _ ≤ _; omega⟩

/-- a frame's names -/
structure FrOk (S : Stat) (env : Env) (h : Heap) (σ : AH) (ρ : Str → Option Value) : Prop where
  kind : env.scope.kind = .function
  glob : env.globals = mainGlobals
  bl : env.builtins = builtinsNs
  ns : ∃ m, h.Ns env.locals m ∧ ∀ x, env.kindOf x = some .local → (m x).map nrm = ρ x
  nL : ¬ fp σ env.locals
  bL : S.base.get? env.locals = none
  cells : ∀ x c, env.cells.lookup x = some c → (∃ v, h.IsCell c v ∧ v.map nrm = ρ x) ∧ ¬ fp σ c ∧ S.base.get? c = none ∧ c ≠ env.locals
  apart : env.cells.Pairwise fun x y => x.2 ≠ y.2
  sepn : ∀ x, env.kindOf x = some .local → env.cells.lookup x = none

theorem FrOk.alive {S : Stat} {env : Env} {h : Heap} {σ : AH} {ρ} (F : FrOk S env h σ ρ) : ∃ o, h.get? env.locals = some o := by
  obtain ⟨m, ⟨o, _, _, e, _⟩, _⟩ := F.ns; exact ⟨o, e⟩

theorem FrOk.keeps {S : Stat} {env : Env} {h h' : Heap} {σ σ' : AH} {ρ} (F : FrOk S env h σ ρ)
    (hk : ∀ b o, ¬ fp σ b → h.get? b = some o → h'.get? b = some o) (hf : ∀ b, fp σ' b → fp σ b ∨ h.get? b = none) : FrOk S env h' σ' ρ where
  kind := F.kind
  glob := F.glob
  bl := F.bl
  ns := by
    obtain ⟨m, ⟨o, es, ep, e, r⟩, q⟩ := F.ns
    exact ⟨m, ⟨o, es, ep, hk _ _ F.nL e, r⟩, q⟩
  nL := fun x => by
    rcases hf _ x with y | y
    · exact F.nL y
    · obtain ⟨o, e⟩ := F.alive; rw [y] at e; cases e
  bL := F.bL
  cells x c e := by
    obtain ⟨⟨v, ⟨o, ho, hd⟩, hv⟩, n1, n2, n3⟩ := F.cells x c e
    refine ⟨⟨v, ⟨o, hk _ _ n1 ho, hd⟩, hv⟩, fun y => ?_, n2, n3⟩
    rcases hf _ y with y | y
    · exact n1 y
    · rw [y] at ho; cases ho
  apart := F.apart
  sepn := F.sepn
theorem FrOk.step {S : Stat} {env : Env} {s s' : Shared} {σ σ' : AH} {ρ} (F : FrOk S env s.heap σ ρ) (T : Step σ s σ' s') : FrOk S env s'.heap σ' ρ := F.keeps T.keep T.own

/-! # the triples -/

/-- how a tree that leaves its frame ends -/
inductive Out (S : Stat) (σ : AH) (s s' : Shared) (Q : AH → Prop) : Prop
  | mk (σ' : AH) (G : Good S σ' s'.heap) (T : Step σ s σ' s') (q : Q σ')

/-- a tree that needs no frame -/
def Pr (S : Stat) (n : Nat) (σ : AH) {α β : Type} (f : α → β) (t : Sem α) (Q : β → AH → Prop) : Prop :=
  ∀ (A : Around) (s : Shared), Room n A → Good S σ s.heap →
    wpAny (model S.prog S.w) A t (fun a s' => Out S σ s s' (Q (f a))) NoE s

/-- a tree in a frame that it leaves as it was -/
def Tr (S : Stat) (n : Nat) (env : Env) (ρ : Str → Option Value) (σ : AH) {α β : Type} (f : α → β) (t : Sem α) (Q : β → AH → Prop) : Prop :=
  ∀ (A : Around) (s : Shared), Room n A → Good S σ s.heap → FrOk S env s.heap σ ρ →
    wpAny (model S.prog S.w) A t (fun a s' => Out S σ s s' (Q (f a))) NoE s

abbrev Ev (S : Stat) (n : Nat) (env : Env) (ρ : Str → Option Value) (σ : AH) (e : PySem.Expr) (Q : Value → AH → Prop) : Prop := Tr S n env ρ σ nrm (eval e env) Q

section
variable {S : Stat} {n : Nat} {env : Env} {ρ : Str → Option Value} {σ : AH} {α β γ δ : Type} {f : α → β} {g : γ → δ}

theorem Tr.of_pr {t : Sem α} {Q : β → AH → Prop} (h : Pr S n σ f t Q) : Tr S n env ρ σ f t Q := fun A s R G _ => h A s R G
theorem Pr.mono {t : Sem α} {Q Q' : β → AH → Prop} (h : Pr S n σ f t Q) (hQ : ∀ b σ', Q b σ' → Q' b σ') : Pr S n σ f t Q' := fun A s R G =>
  wpAny_mono (h A s R G) (fun _ _ ⟨σ', a, b, c⟩ => ⟨σ', a, b, hQ _ _ c⟩) fun _ _ x => x
theorem Tr.mono {t : Sem α} {Q Q' : β → AH → Prop} (h : Tr S n env ρ σ f t Q) (hQ : ∀ b σ', Q b σ' → Q' b σ') : Tr S n env ρ σ f t Q' := fun A s R G F =>
  wpAny_mono (h A s R G F) (fun _ _ ⟨σ', a, b, c⟩ => ⟨σ', a, b, hQ _ _ c⟩) fun _ _ x => x
theorem Pr.up {m : Nat} {t : Sem α} {Q : β → AH → Prop} (h : Pr S n σ f t Q) (hm : n ≤ m) : Pr S m σ f t Q := fun A s R G => h A s (R.le hm) G
theorem Tr.up {m : Nat} {t : Sem α} {Q : β → AH → Prop} (h : Tr S n env ρ σ f t Q) (hm : n ≤ m) : Tr S m env ρ σ f t Q := fun A s R G F => h A s (R.le hm) G F

theorem Tr.bind {m : Sem α} {k : α → Sem γ} {Q : δ → AH → Prop} (h : Tr S n env ρ σ f m (fun b σ₁ => ∀ a, f a = b → Tr S n env ρ σ₁ g (k a) Q)) : Tr S n env ρ σ g (m >>= k) Q := fun A s R G F =>
  wpAny_bind (wpAny_mono (h A s R G F) (fun a s₁ ⟨σ₁, G₁, T₁, H⟩ =>
    wpAny_mono (H a rfl A s₁ R G₁ (F.step T₁)) (fun _ _ ⟨σ₂, G₂, T₂, q⟩ => ⟨σ₂, G₂, T₁.trans T₂, q⟩) fun _ _ x => x) fun _ _ x => x)
theorem Pr.bind {m : Sem α} {k : α → Sem γ} {Q : δ → AH → Prop} (h : Pr S n σ f m (fun b σ₁ => ∀ a, f a = b → Pr S n σ₁ g (k a) Q)) : Pr S n σ g (m >>= k) Q := fun A s R G =>
  wpAny_bind (wpAny_mono (h A s R G) (fun a s₁ ⟨σ₁, G₁, T₁, H⟩ =>
    wpAny_mono (H a rfl A s₁ R G₁) (fun _ _ ⟨σ₂, G₂, T₂, q⟩ => ⟨σ₂, G₂, T₁.trans T₂, q⟩) fun _ _ x => x) fun _ _ x => x)
theorem Tr.pure {a : α} {Q : β → AH → Prop} (h : Q (f a) σ) : Tr S n env ρ σ f (pure a) Q := fun _ _ _ G _ => wpAny_pure ⟨σ, G, .refl, h⟩
theorem Pr.pure {a : α} {Q : β → AH → Prop} (h : Q (f a) σ) : Pr S n σ f (pure a) Q := fun _ _ _ G => wpAny_pure ⟨σ, G, .refl, h⟩
theorem Tr.holding {vs : List Value} {t : Sem α} {Q : β → AH → Prop} (h : Tr S n env ρ σ f t Q) : Tr S n env ρ σ f (holding vs t) Q := fun A s R G F => wpAny_holding (h A s R G F)
theorem Pr.holding {vs : List Value} {t : Sem α} {Q : β → AH → Prop} (h : Pr S n σ f t Q) : Pr S n σ f (holding vs t) Q := fun A s R G => wpAny_holding (h A s R G)
theorem Tr.standAt {p : Pos} {k : Unit → Sem α} {Q : β → AH → Prop} (h : Tr S n env ρ σ f (k ()) Q) : Tr S n env ρ σ f (standAt p >>= k) Q := fun A s R G F => wpAny_bind (wpAny_standAt (h A s R G F))
theorem Tr.standAt0 {p : Pos} {Q : Unit → AH → Prop} (h : Q () σ) : Tr S n env ρ σ (fun u : Unit => u) (PySem.standAt p) Q := fun _ _ _ G _ => wpAny_standAt ⟨σ, G, .refl, h⟩
theorem wpAny_operate {M : Model} {A : Around} {E : Value → Shared → Prop} {s : Shared} {vs : List Value} {m : Sem Value} {Q : Value → Shared → Prop} (h : wpAny M A m Q E s) : wpAny M A (operate vs m) Q E s :=
  fun Γ p hΓ => by rw [Sem.wp_operate]; exact h Γ p hΓ
theorem Tr.operate {vs : List Value} {t : Sem Value} {Q : Value → AH → Prop} (h : Tr S n env ρ σ nrm t Q) : Tr S n env ρ σ nrm (operate vs t) Q := fun A s R G F => wpAny_operate (h A s R G F)
theorem Tr.eq {t t' : Sem α} {Q : β → AH → Prop} (e : t = t') (h : Tr S n env ρ σ f t' Q) : Tr S n env ρ σ f t Q := e ▸ h
end

section
variable {S : Stat} {n : Nat} {env : Env} {ρ : Str → Option Value} {σ : AH} {Q : Value → AH → Prop} {pos : Pos}

/-! # names, constants -/
theorem Pr.same {α β : Type} {f : α → β} {t : Sem α} {Q : β → AH → Prop}
    (h : ∀ (A : Around) (s : Shared), Room n A → Good S σ s.heap → wpAny (model S.prog S.w) A t (fun a s' => Q (f a) σ ∧ s'.gens = s.gens ∧ s'.os = s.os ∧ ∀ b o, s.heap.get? b = some o → s'.heap.get? b = some o) NoE s) : Pr S n σ f t Q := fun A s R G =>
  wpAny_mono (h A s R G) (fun _ s' ⟨q, e1, e2, k⟩ => ⟨σ, G.grow k, .same k e1 e2, q⟩) fun _ _ x => x

theorem Ev.intC {i : Int} {k} (h : Q (VI i) σ) : Ev S n env ρ σ (.Constant (.int i) k pos) Q := fun A s R G F => wpAny_Constant_int ⟨σ, G, .same fun _ _ e => e, h⟩
theorem Ev.strC {x : Str} {k} (h : Q (VS x) σ) : Ev S n env ρ σ (.Constant (.str x) k pos) Q := fun A s R G F => wpAny_Constant_str ⟨σ, G, .same fun _ _ e => e, h⟩
theorem Ev.noneC {k} (h : Q .none σ) : Ev S n env ρ σ (.Constant .none k pos) Q := fun A s R G F => wpAny_Constant_none ⟨σ, G, .refl, h⟩
theorem Ev.boolC {b k} (h : Q (.bool b) σ) : Ev S n env ρ σ (.Constant (.bool b) k pos) Q := fun A s R G F => wpAny_Constant_bool ⟨σ, G, .refl, h⟩

theorem Ev.local {x : Str} {v : Value} (hl : env.kindOf x = some .local) (hv : ρ x = some v) (h : Q v σ) (hd : (x == ("__debug__" : Str)) = false) : Ev S n env ρ σ (.Name x pos) Q := fun A s R G F => by
  obtain ⟨m, hn, hm⟩ := F.ns
  have e := hm x hl
  rw [hv] at e
  obtain ⟨u, hu, rfl⟩ := Option.map_eq_some_iff.mp e
  exact wpAny_Name (wpAny_loadName_local F.kind hl hn hu ⟨σ, G, .refl, h⟩) hd
theorem Ev.cellv {x : Str} {v : Value} (hl : env.kindOf x = some .cell) (hc : (env.cells.lookup x).isSome = true) (hv : ρ x = some v) (h : Q v σ) (hd : (x == ("__debug__" : Str)) = false) : Ev S n env ρ σ (.Name x pos) Q := fun A s R G F => by
  obtain ⟨c, hc⟩ := Option.isSome_iff_exists.mp hc
  obtain ⟨⟨u, hu, e⟩, _⟩ := F.cells x c hc
  rw [hv] at e
  obtain ⟨u', rfl, rfl⟩ := Option.map_eq_some_iff.mp e
  exact wpAny_Name (wpAny_loadName_cell F.kind hl hc hu ⟨σ, G, .refl, h⟩) hd
theorem Ev.global {x : Str} {v : Value} (hx : env.kindOf x = some .globalImplicit) (e : nsIn S.K mainGlobals x = some (some v)) (h : Q (nrm v) σ) (hd : (x == ("__debug__" : Str)) = false) : Ev S n env ρ σ (.Name x pos) Q := fun A s R G F =>
  Name_function_global F.kind hx (loadGlobal_global (by rw [F.glob]; exact S.g.keeps G.keep) (mg_of S.KX S.g e) ⟨σ, G, .refl, h⟩) hd
theorem Ev.builtin {x : Str} {v : Value} (hx : env.kindOf x = some .globalImplicit) (e : nsIn S.K mainGlobals x = some none) (hv : bootBuiltins x = some v) (h : Q (nrm v) σ) (hd : (x == ("__debug__" : Str)) = false) (hn : x ≠ "__name__") : Ev S n env ρ σ (.Name x pos) Q := fun A s R G F =>
  Name_function_global F.kind hx (loadGlobal_builtin (by rw [F.glob]; exact S.g.keeps G.keep) (mg_none_of S.KX S.g e) (by rw [F.bl]; exact S.b.keeps G.keep) ((S.blt x hn).trans hv) ⟨σ, G, .refl, h⟩) hd

/-! # operators -/
def Bin (S : Stat) (n : Nat) (σ : AH) (op : Operator) (a b : Value) (Q : Value → AH → Prop) : Prop := ∀ u v, nrm u = a → nrm v = b → Pr S n σ nrm (binaryOp op u v) Q
def Cmp (S : Stat) (n : Nat) (σ : AH) (op : CmpOp) (a b : Value) (Q : Value → AH → Prop) : Prop := ∀ u v, nrm u = a → nrm v = b → Pr S n σ nrm (compareOp op u v) Q
def Truthy (S : Stat) (n : Nat) (σ : AH) (a : Value) (Q : Bool → AH → Prop) : Prop := ∀ u, nrm u = a → Pr S n σ (fun b : Bool => b) (truthy u) Q

theorem Ev.bin {l r : PySem.Expr} {op : Operator} (h : Ev S n env ρ σ l (fun a σ₁ => Ev S n env ρ σ₁ r (fun b σ₂ => Bin S n σ₂ op a b Q))) : Ev S n env ρ σ (.BinOp l op r pos) Q :=
  Tr.eq (eval_BinOp env l op r pos) (Tr.bind (h.mono fun a σ₁ h₁ u hu => Tr.bind (Tr.holding (h₁.mono fun b σ₂ h₂ v hv => Tr.standAt (Tr.operate (Tr.of_pr (h₂ u v hu hv)))))))
theorem Ev.cmp {l r : PySem.Expr} {op : CmpOp} (h : Ev S n env ρ σ l (fun a σ₁ => Ev S n env ρ σ₁ r (fun b σ₂ => Cmp S n σ₂ op a b Q))) (hm : behindInMarks op r = false) : Ev S n env ρ σ (.Compare l [op] [r] pos) Q := by
  refine Tr.eq (eval_Compare1 env l op r pos) ?_
  rw [markedBehindIn_of_false hm]
  exact Tr.bind (h.mono fun a σ₁ h₁ u hu => Tr.bind (Tr.holding (h₁.mono fun b σ₂ h₂ v hv => Tr.standAt (Tr.operate (Tr.of_pr (h₂ u v hu hv))))))
theorem Ev.ifexp {t b o : PySem.Expr} (h : Tr S n env ρ σ (fun b : Bool => b) (isTrue t env (eval t env)) (fun c σ₁ => if c then Ev S n env ρ σ₁ b Q else Ev S n env ρ σ₁ o Q)) : Ev S n env ρ σ (.IfExp t b o pos) Q := by
  refine Tr.eq (eval_IfExp t b o pos) (Tr.bind (h.mono fun c σ₁ h₁ c' hc => ?_))
  subst hc
  cases c' <;> exact h₁
theorem Ev.and {e₁ e₂ : PySem.Expr} {rest : List PySem.Expr} (h : Ev S n env ρ σ e₁ (fun v σ₁ => Truthy S n σ₁ v (fun c σ₂ => if c then Ev S n env ρ σ₂ (.BoolOp .And (e₂ :: rest) pos) Q else Q v σ₂))) : Ev S n env ρ σ (.BoolOp .And (e₁ :: e₂ :: rest) pos) Q := by
  show Tr S n env ρ σ nrm (do
    let v ← eval e₁ env
    PySem.standAt pos
    let c ← PySem.holding [v] (truthy v)
    match BoolOp.And, c with
    | .And, false | .Or, true => Pure.pure v
    | _, _ => boolOp pos .And (eval e₂ env :: evalEach rest env)) Q
  refine Tr.bind (h.mono fun a σ₁ h₁ u hu => Tr.standAt (Tr.bind (Tr.holding ((Tr.of_pr (h₁ u hu)).mono fun c σ₂ h₂ c' hc => ?_))))
  subst hc
  cases c' with
  | false => subst hu; exact Tr.pure h₂
  | true => exact h₂
theorem Ev.or {e₁ e₂ : PySem.Expr} {rest : List PySem.Expr} (h : Ev S n env ρ σ e₁ (fun v σ₁ => Truthy S n σ₁ v (fun c σ₂ => if c then Q v σ₂ else Ev S n env ρ σ₂ (.BoolOp .Or (e₂ :: rest) pos) Q))) : Ev S n env ρ σ (.BoolOp .Or (e₁ :: e₂ :: rest) pos) Q := by
  show Tr S n env ρ σ nrm (do
    let v ← eval e₁ env
    PySem.standAt pos
    let c ← PySem.holding [v] (truthy v)
    match BoolOp.Or, c with
    | .And, false | .Or, true => Pure.pure v
    | _, _ => boolOp pos .Or (eval e₂ env :: evalEach rest env)) Q
  refine Tr.bind (h.mono fun a σ₁ h₁ u hu => Tr.standAt (Tr.bind (Tr.holding ((Tr.of_pr (h₁ u hu)).mono fun c σ₂ h₂ c' hc => ?_))))
  subst hc
  cases c' with
  | false => exact h₂
  | true => subst hu; exact Tr.pure h₂
theorem Ev.bool1 {op : BoolOp} {e : PySem.Expr} (h : Ev S n env ρ σ e Q) : Ev S n env ρ σ (.BoolOp op [e] pos) Q := h
theorem Ev.not {e : PySem.Expr} (h : Ev S n env ρ σ e (fun v σ₁ => Truthy S n σ₁ v (fun c σ₂ => Q (.bool (!c)) σ₂))) : Ev S n env ρ σ (.UnaryOp .Not e pos) Q :=
  Tr.eq (eval_UnaryOp .Not e pos) (Tr.bind (h.mono fun a σ₁ h₁ u hu => Tr.standAt (Tr.holding fun A s R G F =>
    not_of (wpAny_mono (h₁ u hu A s R G) (fun c s' ⟨σ', a, b, q⟩ => ⟨σ', a, b, q⟩) fun _ _ x => x))))

/-! # tests -/
abbrev IsT (S : Stat) (n : Nat) (env : Env) (ρ : Str → Option Value) (σ : AH) (e : PySem.Expr) (Q : Bool → AH → Prop) : Prop := Tr S n env ρ σ (fun b : Bool => b) (isTrue e env (eval e env)) Q
variable {P : Bool → AH → Prop}
theorem IsT.not {e : PySem.Expr} (h : IsT S n env ρ σ e (fun b σ₁ => P (!b) σ₁)) : IsT S n env ρ σ (.UnaryOp .Not e pos) P := fun A s R G F =>
  isTrue_not (wpAny_mono (h A s R G F) (fun c s' q => q) fun _ _ x => x)
theorem isTrue_bool_whole {op : BoolOp} {vs : List PySem.Expr} {w : Sem Value} : isTrue (.BoolOp op vs pos) env w = allTrue op vs env := rfl
theorem IsT.and_nil (h : P true σ) : IsT S n env ρ σ (.BoolOp .And [] pos) P := fun A s R G F => isTrue_and_nil ⟨σ, G, .refl, h⟩
theorem IsT.or_nil (h : P false σ) : IsT S n env ρ σ (.BoolOp .Or [] pos) P := fun A s R G F => isTrue_or_nil ⟨σ, G, .refl, h⟩
theorem IsT.and_cons {x : PySem.Expr} {rest : List PySem.Expr} (h : IsT S n env ρ σ x (fun c σ₁ => if c then IsT S n env ρ σ₁ (.BoolOp .And rest pos) P else P false σ₁)) : IsT S n env ρ σ (.BoolOp .And (x :: rest) pos) P := by
  show Tr S n env ρ σ (fun b : Bool => b) (do
    match BoolOp.And, ← isTrue x env (eval x env) with
    | .And, false => Pure.pure false
    | .Or, true => Pure.pure true
    | _, _ => allTrue .And rest env) P
  refine Tr.bind (h.mono fun c σ₁ h₁ c' hc => ?_)
  subst hc
  cases c' with
  | false => exact Tr.pure h₁
  | true => exact h₁
theorem IsT.or_cons {x : PySem.Expr} {rest : List PySem.Expr} (h : IsT S n env ρ σ x (fun c σ₁ => if c then P true σ₁ else IsT S n env ρ σ₁ (.BoolOp .Or rest pos) P)) : IsT S n env ρ σ (.BoolOp .Or (x :: rest) pos) P := by
  show Tr S n env ρ σ (fun b : Bool => b) (do
    match BoolOp.Or, ← isTrue x env (eval x env) with
    | .And, false => Pure.pure false
    | .Or, true => Pure.pure true
    | _, _ => allTrue .Or rest env) P
  refine Tr.bind (h.mono fun c σ₁ h₁ c' hc => ?_)
  subst hc
  cases c' with
  | false => exact h₁
  | true => exact Tr.pure h₁
theorem IsT.cmp {l r : PySem.Expr} {op : CmpOp} (h : Ev S n env ρ σ l (fun a σ₁ => Ev S n env ρ σ₁ r (fun b σ₂ => Cmp S n σ₂ op a b (fun v σ₃ => Truthy S n σ₃ v P)))) (hm : behindInMarks op r = false) : IsT S n env ρ σ (.Compare l [op] [r] pos) P := by
  refine Tr.eq (isTrue_Compare1 env l op r pos _) ?_
  rw [markedBehindIn_of_false hm]
  exact Tr.bind (h.mono fun a σ₁ h₁ u hu => Tr.bind (Tr.holding (h₁.mono fun b σ₂ h₂ v hv => Tr.standAt (Tr.bind (Tr.operate ((Tr.of_pr (h₂ u v hu hv)).mono fun c σ₃ h₃ c' hc => Tr.holding (Tr.of_pr (h₃ c' hc))))))))
theorem IsT.plain {e : PySem.Expr} (h : Ev S n env ρ σ e (fun v σ₁ => Truthy S n σ₁ v P)) (he : isTrue e env (eval e env) = (do let v ← eval e env; PySem.standAt e.pos; PySem.holding [v] (truthy v))) : IsT S n env ρ σ e P := by
  refine Tr.eq he (Tr.bind (h.mono fun v σ₁ h₁ u hu => Tr.standAt (Tr.holding (Tr.of_pr (h₁ u hu)))))

theorem Truthy.ofBool {b : Bool} (h : P b σ) : Truthy S n σ (.bool b) P := fun u hu A s R G => by rw [of_nrm_bool hu]; exact wpAny_truthy_bool ⟨σ, G, .refl, h⟩
theorem Truthy.ofNone (h : P false σ) : Truthy S n σ .none P := fun u hu A s R G => by rw [of_nrm_none hu]; exact truthy_none ⟨σ, G, .refl, h⟩

/-! # lists of expressions -/
abbrev EvL (S : Stat) (n : Nat) (env : Env) (ρ : Str → Option Value) (σ : AH) (pos : Pos) (es : List PySem.Expr) (Q : List Value → AH → Prop) : Prop :=
  Tr S n env ρ σ (List.map nrm) (spliced (backTo pos (starEach es env))) Q
variable {QL : List Value → AH → Prop}
theorem EvL.nil (h : QL [] σ) : EvL S n env ρ σ pos [] QL := fun A s R G F => wpAny_items_nil ⟨σ, G, .refl, h⟩
theorem EvL.cons {e : PySem.Expr} {rest : List PySem.Expr} (h : Ev S n env ρ σ e (fun v σ₁ => EvL S n env ρ σ₁ pos rest (fun vs σ₂ => QL (v :: vs) σ₂)))
    (he : starEach (e :: rest) env = (false, eval e env) :: starEach rest env) : EvL S n env ρ σ pos (e :: rest) QL := fun A s R G F =>
  wpAny_items_cons (wpAny_mono (h A s R G F) (fun v s₁ ⟨σ₁, G₁, T₁, h₁⟩ => wpAny_mono (h₁ A s₁ R G₁ (F.step T₁)) (fun vs s₂ ⟨σ₂, G₂, T₂, q⟩ => ⟨σ₂, G₂, T₁.trans T₂, q⟩) fun _ _ x => x) fun _ _ x => x) he

/-! # new objects -/
theorem fp_put {σ : AH} {a : Addr} {o : AObj} {b : Addr} (ho : ∀ C at_, o ≠ .inst C at_) (h : fp (put σ a o) b) : fp σ b ∨ b = a := by
  by_cases hb : b = a
  · exact .inr hb
  · refine .inl ?_
    rcases h with h | ⟨C, at_, h⟩
    · rw [put_ne hb] at h; exact .inl h
    · by_cases hb' : b + 1 = a
      · rw [hb', put_self] at h; exact absurd (Option.some.inj h) (ho _ _)
      · rw [put_ne hb'] at h; exact .inr ⟨_, _, h⟩
/-- a plain object at a new address -/
theorem Good.new1 {h h' : Heap} {a : Addr} {o : AObj} (G : Good S σ h) (ho : ∀ C at_, o ≠ .inst C at_) (ha : h.get? a = none) (hs : a ≠ sysModules) (hk : ∀ b x, h.get? b = some x → h'.get? b = some x) (hr : Rep S h' a o) : Good S (put σ a o) h' where
  keep b x e := hk b x (G.keep b x e)
  rep b x e := by
    by_cases hb : b = a
    · subst hb; rw [put_self] at e; cases e; exact hr
    · rw [put_ne hb] at e; exact (G.grow hk).rep b x e
  sep b C at_ e := by
    by_cases hb : b + 1 = a
    · rw [hb, put_self] at e; exact absurd (Option.some.inj e) (ho _ _)
    · rw [put_ne hb] at e
      have hne : b ≠ a := fun q => by
        subst q
        exact G.free ha (fp_dict e)
      rw [put_ne hne]; exact G.sep b C at_ e
  new b hb := by
    rcases fp_put ho hb with hb | rfl
    · exact G.new b hb
    · refine ⟨?_, hs⟩
      cases e : S.base.get? b with
      | none => rfl
      | some x => rw [G.keep _ _ e] at ha; cases ha
theorem Step.new1 {s s' : Shared} {a : Addr} {o : AObj} (ho : ∀ C at_, o ≠ .inst C at_) (ha : s.heap.get? a = none) (hk : ∀ b x, s.heap.get? b = some x → s'.heap.get? b = some x) (hg : s'.gens = s.gens) (hos : s'.os = s.os) : Step σ s (put σ a o) s' :=
  ⟨fun b x _ e => hk b x e, fun b hb => (fp_put ho hb).elim .inl fun q => .inr (q ▸ ha), hg, hos⟩
theorem get?_size (h : Heap) : h.get? h.objs.size = none := by
  cases e : h.get? h.objs.size with
  | none => rfl
  | some o => exact absurd (Heap.lt_size e) (Nat.lt_irrefl _)

theorem Ev.list {es : List PySem.Expr} (h : EvL S n env ρ σ pos es (fun vs σ₁ => vs.length ≤ 1000 ∧ ∀ a, ¬ fp σ₁ a → Q (.ref a) (put σ₁ a (.list vs)))) : Ev S n env ρ σ (.List es pos) Q := fun A s R G F =>
  wpAny_List (wpAny_mono (h A s R G F) (fun vs s₁ ⟨σ₁, G₁, T₁, hl, q⟩ => by
    have hn := get?_size s₁.heap
    have hk : ∀ b x, s₁.heap.get? b = some x → (s₁.heap.push { cls := .type "list", data := .seq vs.toArray }).get? b = some x := fun b x e => Heap.get?_push_of_some _ e
    have hr : Rep S (s₁.heap.push { cls := .type "list", data := .seq vs.toArray }) s₁.heap.objs.size (.list (vs.map nrm)) := ⟨vs.toArray, 0, Heap.get?_push_size _ rfl, by simp⟩
    refine ⟨by rw [List.length_map] at hl; rw [sizeLine_eq]; omega, put σ₁ s₁.heap.objs.size (.list (vs.map nrm)), G₁.new1 (by intro _ _ e; cases e) hn G₁.size_ne hk hr, T₁.trans (Step.new1 (by intro _ _ e; cases e) hn hk rfl rfl), ?_⟩
    exact q _ (G₁.free hn)) fun _ _ x => x)
theorem Ev.tuple {es : List PySem.Expr} {k : Nat} (h : EvL S n env ρ σ pos es (fun vs σ₁ => vs.length ≤ 1000 ∧ ∀ a, ¬ fp σ₁ a → Q (.ref a) (put σ₁ a (.tuple vs)))) : Ev S n env ρ σ (.Tuple es k pos) Q := fun A s R G F =>
  wpAny_Tuple (wpAny_mono (h A s R G F) (fun vs s₁ ⟨σ₁, G₁, T₁, hl, q⟩ => by
    have hn := get?_size s₁.heap
    have hk : ∀ b x, s₁.heap.get? b = some x → (s₁.heap.push { cls := .type "tuple", data := .seq vs.toArray }).get? b = some x := fun b x e => Heap.get?_push_of_some _ e
    have hr : Rep S (s₁.heap.push { cls := .type "tuple", data := .seq vs.toArray }) s₁.heap.objs.size (.tuple (vs.map nrm)) := ⟨vs.toArray, 0, Heap.get?_push_size _ rfl, by simp⟩
    refine ⟨by rw [List.length_map] at hl; rw [sizeLine_eq]; omega, put σ₁ s₁.heap.objs.size (.tuple (vs.map nrm)), G₁.new1 (by intro _ _ e; cases e) hn G₁.size_ne hk hr, T₁.trans (Step.new1 (by intro _ _ e; cases e) hn hk rfl rfl), ?_⟩
    exact q _ (G₁.free hn)) fun _ _ x => x)
theorem exec_dict0 : eval (.Dict [] [] pos) env = (do PySem.standAt pos; dictDisplay []) := rfl
end

section
variable {S : Stat} {n : Nat} {env : Env} {ρ : Str → Option Value} {σ : AH} {Q : Value → AH → Prop} {pos : Pos}

/-! # what an update does -/
theorem Good.set1 {h h' : Heap} {a : Addr} {o₀ o : AObj} (G : Good S σ h) (hσ : σ a = some o₀) (h0 : ∀ C at_, o₀ ≠ .inst C at_) (ho : ∀ C at_, o ≠ .inst C at_) (hs : Heap.SameBut a h h') (hr : Rep S h' a o) : Good S (put σ a o) h' where
  keep b x e := (hs.2 b fun q => by have := (G.new b (q ▸ fp_self hσ)).1; rw [e] at this; cases this).trans (G.keep b x e)
  rep b x e := by
    by_cases hb : b = a
    · subst hb; rw [put_self] at e; cases e; exact hr
    · rw [put_ne hb] at e
      refine Rep.mono (G.rep b x e) (fun y hy => (hs.2 b hb).trans hy) (fun C at_ d q e1 y hy => (hs.2 d fun qq => ?_).trans hy)
      subst q; subst e1; subst qq
      rw [G.sep _ _ _ e] at hσ; cases hσ
  sep b C at_ e := by
    by_cases hb : b + 1 = a
    · rw [hb, put_self] at e; exact absurd (Option.some.inj e) (ho _ _)
    · rw [put_ne hb] at e
      have hne : b ≠ a := fun q => by subst q; rw [G.sep _ _ _ e] at hσ; cases hσ
      rw [put_ne hne]; exact G.sep b C at_ e
  new b hb := by
    rcases fp_put ho hb with hb | rfl
    · exact G.new b hb
    · exact G.new _ (fp_self hσ)
theorem Step.set1 {s s' : Shared} {a : Addr} {o₀ o : AObj} (hσ : σ a = some o₀) (ho : ∀ C at_, o ≠ .inst C at_) (hs : Heap.SameBut a s.heap s'.heap) (hg : s'.gens = s.gens) (hos : s'.os = s.os) : Step σ s (put σ a o) s' :=
  ⟨fun b x hb e => (hs.2 b fun q => hb (q ▸ fp_self hσ)).trans e, fun b hb => (fp_put ho hb).elim .inl fun q => .inl (q ▸ fp_self hσ), hg, hos⟩

theorem fp_putI {d : Addr} {C : Addr} {at_ at' : List (Str × Value)} (hσ : σ (d + 1) = some (.inst C at_)) {b : Addr} : fp (put σ (d + 1) (.inst C at')) b → fp σ b := by
  intro h
  by_cases hb : b = d + 1
  · subst hb; exact fp_self hσ
  · rcases h with h | ⟨C', a', h⟩
    · rw [put_ne hb] at h; exact .inl h
    · by_cases hb' : b + 1 = d + 1
      · cases Nat.succ.inj hb'; exact fp_dict hσ
      · rw [put_ne hb'] at h; exact .inr ⟨_, _, h⟩
theorem Good.setI {h h' : Heap} {d : Addr} {C : Addr} {at_ at' : List (Str × Value)} (G : Good S σ h) (hσ : σ (d + 1) = some (.inst C at_)) (hs : Heap.SameBut d h h') (hr : Rep S h' (d + 1) (.inst C at')) : Good S (put σ (d + 1) (.inst C at')) h' where
  keep b x e := (hs.2 b fun q => by have := (G.new b (q ▸ fp_dict hσ)).1; rw [e] at this; cases this).trans (G.keep b x e)
  rep b x e := by
    by_cases hb : b = d + 1
    · subst hb; rw [put_self] at e; cases e; exact hr
    · rw [put_ne hb] at e
      have hbd : b ≠ d := fun q => by subst q; rw [G.sep _ _ _ hσ] at e; cases e
      refine Rep.mono (G.rep b x e) (fun y hy => (hs.2 b hbd).trans hy) (fun C' a' d' q e1 y hy => (hs.2 d' fun qq => ?_).trans hy)
      subst qq; exact hb e1
  sep b C' a' e := by
    by_cases hb : b + 1 = d + 1
    · cases Nat.succ.inj hb
      rw [put_ne (Nat.ne_of_lt (Nat.lt_succ_self _))]; exact G.sep _ _ _ hσ
    · rw [put_ne hb] at e
      have hne : b ≠ d + 1 := fun q => by subst q; rw [G.sep _ _ _ e] at hσ; cases hσ
      rw [put_ne hne]; exact G.sep _ _ _ e
  new b hb := G.new b (fp_putI hσ hb)
theorem Step.setI {s s' : Shared} {d : Addr} {C : Addr} {at_ at' : List (Str × Value)} (hσ : σ (d + 1) = some (.inst C at_)) (hs : Heap.SameBut d s.heap s'.heap) (hg : s'.gens = s.gens) (hos : s'.os = s.os) : Step σ s (put σ (d + 1) (.inst C at')) s' :=
  ⟨fun b x hb e => (hs.2 b fun q => hb (q ▸ fp_dict hσ)).trans e, fun b hb => .inl (fp_putI hσ hb), hg, hos⟩
theorem fp_newI {d : Addr} {C : Addr} {at' : List (Str × Value)} {b : Addr} (h : fp (put σ (d + 1) (.inst C at')) b) : fp σ b ∨ b = d ∨ b = d + 1 := by
  by_cases hb : b = d + 1
  · exact .inr (.inr hb)
  · rcases h with h | ⟨C', a', h⟩
    · rw [put_ne hb] at h; exact .inl (.inl h)
    · by_cases hb' : b + 1 = d + 1
      · exact .inr (.inl (Nat.succ.inj hb'))
      · rw [put_ne hb'] at h; exact .inl (.inr ⟨_, _, h⟩)
theorem Good.newI {h h' : Heap} {d : Addr} {C : Addr} {at' : List (Str × Value)} (G : Good S σ h) (h1 : h.get? d = none) (h2 : h.get? (d + 1) = none) (s1 : d ≠ sysModules) (s2 : d + 1 ≠ sysModules) (hk : ∀ b x, h.get? b = some x → h'.get? b = some x)
    (hr : Rep S h' (d + 1) (.inst C at')) : Good S (put σ (d + 1) (.inst C at')) h' where
  keep b x e := hk b x (G.keep b x e)
  rep b x e := by
    by_cases hb : b = d + 1
    · subst hb; rw [put_self] at e; cases e; exact hr
    · rw [put_ne hb] at e; exact (G.grow hk).rep b x e
  sep b C' a' e := by
    by_cases hb : b + 1 = d + 1
    · cases Nat.succ.inj hb
      rw [put_ne (Nat.ne_of_lt (Nat.lt_succ_self _))]
      cases q : σ d with
      | none => rfl
      | some o => exact absurd (fp_self q) (G.free h1)
    · rw [put_ne hb] at e
      have hne : b ≠ d + 1 := fun q => by subst q; exact G.free h2 (fp_dict e)
      rw [put_ne hne]; exact G.sep _ _ _ e
  new b hb := by
    have none_of : ∀ c, h.get? c = none → S.base.get? c = none := fun c hc => by
      cases e : S.base.get? c with
      | none => rfl
      | some x => rw [G.keep _ _ e] at hc; cases hc
    rcases fp_newI hb with hb | rfl | rfl
    · exact G.new b hb
    · exact ⟨none_of _ h1, s1⟩
    · exact ⟨none_of _ h2, s2⟩
theorem Step.newI {s s' : Shared} {d : Addr} {C : Addr} {at' : List (Str × Value)} (h1 : s.heap.get? d = none) (h2 : s.heap.get? (d + 1) = none) (hk : ∀ b x, s.heap.get? b = some x → s'.heap.get? b = some x) (hg : s'.gens = s.gens) (hos : s'.os = s.os) : Step σ s (put σ (d + 1) (.inst C at')) s' :=
  ⟨fun b x _ e => hk b x e, fun b hb => (fp_newI hb).elim .inl fun q => .inr (q.elim (fun e => e ▸ h1) fun e => e ▸ h2), hg, hos⟩

/-! # fields -/
theorem AttrsAre.getL {es : List DictEntry} {at_ : List (Str × Value)} (h : AttrsAre es at_) (name : Str) :
    (∀ u, at_.lookup name = some u → ∃ v, getL name es = some (some v) ∧ nrm v = u ∧ handedIn v = true) ∧ (at_.lookup name = none → getL name es = some none) := by
  induction es generalizing at_ with
  | nil =>
    cases at_ with
    | nil => exact ⟨fun u e => (by cases e), fun _ => rfl⟩
    | cons p ps => exact h.elim
  | cons e es ih =>
    cases at_ with
    | nil => exact h.elim
    | cons p ps =>
      obtain ⟨⟨t, hk⟩, hv, hh, hr⟩ := h
      have ih := ih hr
      obtain ⟨pn, pv⟩ := p
      dsimp only at hk hv
      have hs : e.key.isStr name = (pn == name) := by rw [hk]; rfl
      cases hb : pn == name with
      | true =>
        have hb' : (name == pn) = true := by rw [beq_iff_eq] at hb ⊢; exact hb.symm
        refine ⟨fun u q => ?_, fun q => ?_⟩
        · rw [List.lookup_cons, hb'] at q
          cases q
          exact ⟨e.val, by unfold W.getL; rw [List.find?_cons, hs, hb], hv, hh⟩
        · rw [List.lookup_cons, hb'] at q; cases q
      | false =>
        have hb' : (name == pn) = false := by
          cases q : name == pn with
          | false => rfl
          | true => rw [beq_iff_eq.mp q, beq_self_eq_true] at hb; cases hb
        have hg : W.getL name (e :: es) = W.getL name es := by
          have hr : e.refKey = false := by simp [DictEntry.refKey, hk]
          unfold W.getL
          rw [List.find?_cons, hs, hb, List.any_cons, hr, Bool.false_or]
        refine ⟨fun u q => ?_, fun q => ?_⟩
        · rw [List.lookup_cons, hb'] at q
          obtain ⟨v, a, b, c⟩ := ih.1 u q
          exact ⟨v, by rw [hg]; exact a, b, c⟩
        · rw [List.lookup_cons, hb'] at q; rw [hg]; exact ih.2 q

theorem AttrsAre.putL {es : List DictEntry} {at_ : List (Str × Value)} (h : AttrsAre es at_) (name : Str) (hsh : Int) (t : Tok) (v : Value) (hv : handedIn v = true) : AttrsAre (putL name hsh (.str name t) v es) (setA name (nrm v) at_) := by
  induction es generalizing at_ with
  | nil =>
    cases at_ with
    | nil => exact ⟨⟨t, rfl⟩, rfl, hv, trivial⟩
    | cons p ps => exact h.elim
  | cons e es ih =>
    cases at_ with
    | nil => exact h.elim
    | cons p ps =>
      obtain ⟨⟨t', hk⟩, hv', hh, hr⟩ := h
      obtain ⟨pn, pv⟩ := p
      dsimp only at hk hv'
      have hs : e.key.isStr name = (pn == name) := by rw [hk]; rfl
      unfold W.putL setA
      cases hb : pn == name with
      | true =>
        rw [hs, hb, if_pos rfl, if_pos (beq_iff_eq.mp hb)]
        exact ⟨⟨t', by rw [hk, beq_iff_eq.mp hb]⟩, rfl, hv, hr⟩
      | false =>
        rw [hs, hb, if_neg Bool.false_ne_true, if_neg (fun q => by rw [beq_iff_eq.mpr q] at hb; cases hb)]
        exact ⟨⟨t', hk⟩, hv', hh, ih hr⟩
theorem AttrsAre.length {es : List DictEntry} {at_ : List (Str × Value)} (h : AttrsAre es at_) : es.length = at_.length := by
  induction es generalizing at_ with
  | nil => cases at_ with | nil => rfl | cons p ps => exact h.elim
  | cons e es ih => cases at_ with | nil => exact h.elim | cons p ps => rw [List.length_cons, List.length_cons, ih h.2.2.2]

/-- a class whose fields are the plain ones -/
structure ClsOk (S : Stat) (C : Addr) : Prop where
  get : plainGet S.K C "__class__" = true
  dict : hasDictIn S.K C = true
  set : findIn S.K (.ref C) "__setattr__" = some (some (.builtin "object.__setattr__"))
  over : plainOver S.K C = true
  makes : makesIn S.K C = true
  cls : findIn S.K (.ref C) "__class__" = some (some (.builtin "object.__class__"))
  cget : specialIn S.K (.builtin "object.__class__") "__get__" = some (some (.builtin "getset_descriptor.__get__"))
  ctk : takesIn S.K (.builtin "object.__class__") = some true
  top : mroIn S.K C (.type "object") = some true
/-- the class says nothing of this name -/
def NameFree (S : Stat) (C : Addr) (name : Str) : Prop := findIn S.K (.ref C) name = some none

theorem Good.inst {h : Heap} {a C : Addr} {at_ : List (Str × Value)} (G : Good S σ h) (hσ : σ a = some (.inst C at_)) : ∃ d es n, a = d + 1 ∧ AttrsAre es at_ ∧ h.get? d = some (dictOf es n) ∧ InstAt h a (instObj C d) C (some (dictOf es n)) := by
  obtain ⟨d, es, n, e, e1, e2, e3⟩ := G.rep _ _ hσ
  exact ⟨d, es, n, e, e3, e2, e1, rfl, rfl, e2⟩

theorem Pr.getAttr {a C : Addr} {at_ : List (Str × Value)} {name : Str} {u : Value} {b : Bool} (hσ : σ a = some (.inst C at_)) (hc : ClsOk S C) (hn : NameFree S C name) (hu : at_.lookup name = some u) (h : Q u σ) : Pr S n σ nrm (getAttr (.ref a) name b) Q := fun A s R G => by
  obtain ⟨d, es, ep, e, ha, hd, I⟩ := G.inst hσ
  obtain ⟨v, e1, e2, e3⟩ := (ha.getL name).1 u hu
  refine get_value (S.KX.keeps G.keep) I (plainGet_of hc.get).1 (findObj_own hc.dict hn rfl e1) e3 ⟨σ, G, .same fun _ _ e => e, e2 ▸ h⟩

theorem Ev.attr {e : PySem.Expr} {name : Str} (h : Ev S n env ρ σ e (fun v σ₁ => ∃ a C at_ u, v = .ref a ∧ σ₁ a = some (.inst C at_) ∧ ClsOk S C ∧ NameFree S C name ∧ at_.lookup name = some u ∧ Q u σ₁))
    (ho : attributeBase e name env (eval e env) = eval e env) : Ev S n env ρ σ (.Attribute e name pos) Q := fun A s R G F => by
  refine Attribute_any_ (wpAny_mono (h A s R G F) (fun v s₁ ⟨σ₁, G₁, T₁, a, C, at_, u, e1, e2, e3, e4, e5, e6⟩ => ?_) fun _ _ x => x) ?_
  · cases of_nrm_ref e1
    exact wpAny_mono (Pr.getAttr e2 e3 e4 e5 e6 A s₁ R G₁) (fun w s₂ ⟨σ₂, G₂, T₂, q⟩ => ⟨σ₂, G₂, T₁.trans T₂, q⟩) fun _ _ x => x
  · rw [arm_eval_Attribute, ho]

theorem Pr.setAttr {a C : Addr} {at_ : List (Str × Value)} {name : Str} {v : Value} {Q : Unit → AH → Prop} (hσ : σ a = some (.inst C at_)) (hc : ClsOk S C) (hn : NameFree S C name) (hv : handedIn v = true) (hl : at_.length ≤ 900)
    (h : Q () (put σ a (.inst C (setA name (nrm v) at_)))) : Pr S n σ (fun u : Unit => u) (setAttr (.ref a) name v) Q := fun A s R G => by
  obtain ⟨hp, gg, dr, tk, os⟩ := s
  generalize hs0 : (⟨hp, gg, dr, tk, os⟩ : Shared) = s0
  obtain ⟨d, es, ep, e, ha, hd, I⟩ := G.inst hσ
  subst e
  subst hs0
  have X := S.KX.keeps G.keep
  have ht : takerIn S.K C name = some none := by
    unfold takerIn
    rw [show findIn S.K (.ref C) name = some none from hn]; rfl
  refine set_plain X I hc.set ?_
  refine osa_open (s := ⟨hp, gg, dr, tk + 1, os⟩) X I hc.over ht fun b => ?_
  obtain ⟨cd, hcd, hdd⟩ := any_some hc.dict
  have hob : (hp.update d (Obj.putName name (PyData.keyHash S.w.params name) (.str name (tk + 1)) v)).get? d = some (dictOf (W.putL name (PyData.keyHash S.w.params name) (.str name (tk + 1)) v es) (W.putN name es ep)) := by
    rw [Heap.get?_update_self _ hd (by rw [putName_dict]; rfl), putName_dict]
  have hsb : Heap.SameBut d hp (hp.update d (Obj.putName name (PyData.keyHash S.w.params name) (.str name (tk + 1)) v)) := Heap.SameBut.update ..
  have hx := I.at_
  have hx' : (hp.update d (Obj.putName name (PyData.keyHash S.w.params name) (.str name (tk + 1)) v)).get? (d + 1) = some (instObj C d) := (hsb.2 (d + 1) (Nat.ne_of_gt (Nat.lt_succ_self d))).trans hx
  have hlen : (W.putL name (PyData.keyHash S.w.params name) (.str name (tk + 1)) v es).length ≤ 1000 := by
    have := (ha.putL name (PyData.keyHash S.w.params name) (tk + 1) v hv).length
    rw [this]
    have hset : ∀ l : List (Str × Value), (setA name (nrm v) l).length ≤ l.length + 1 := by
      intro l
      induction l with
      | nil => exact Nat.le_refl _
      | cons p r ih => unfold setA; split <;> simp <;> omega
    have := hset at_
    omega
  have lk : lookIn name (dictOf es ep) ≠ none := by
    rw [lookIn_dict]
    cases hq : at_.lookup name with
    | none => rw [(ha.getL name).2 hq]; simp
    | some u => obtain ⟨w, e1, _⟩ := (ha.getL name).1 u hq; rw [e1]; simp
  have noRef : (!es.toArray.any (·.key.isStr name) && es.toArray.any (·.refKey)) = false := by
    have : es.any (·.refKey) = false := by
      clear hob hsb hx' hlen lk
      induction es generalizing at_ with
      | nil => rfl
      | cons e es ih =>
        cases at_ with
        | nil => exact ha.elim
        | cons p ps =>
          obtain ⟨⟨t, hk⟩, _, _, hr⟩ := ha
          rw [List.any_cons]
          have hr0 : e.refKey = false := by simp [DictEntry.refKey, hk]
          rw [hr0, Bool.false_or]
          have : ∀ (es : List DictEntry) (ps : List (Str × Value)), AttrsAre es ps → es.any (·.refKey) = false := by
            intro es
            induction es with
            | nil => intros; rfl
            | cons e es ih =>
              intro ps h
              cases ps with
              | nil => exact h.elim
              | cons p ps =>
                obtain ⟨⟨t, hk⟩, _, _, hr⟩ := h
                rw [List.any_cons, show e.refKey = false by simp [DictEntry.refKey, hk], Bool.false_or]
                exact ih ps hr
          exact this es ps hr
    rw [List.any_toArray, List.any_toArray, this, Bool.and_false]
  refine wpAny_bind (wpAny_pure (wpAny_bind (wpAny_bind (wpAny_loadPart hx (wpAny_bind ((looks_clsIn X hcd).at ?_))))))
  rw [hdd]
  refine wpAny_pure (a := some d) (wpAny_bind (wpAny_pure (wpAny_bind ?_)))
  unfold nsSet
  refine wpAny_bind (wpAny_bind (wpAny_askSetting (wpAny_pure (wpAny_bind (wpAny_mkText (wpAny_bind (wpAny_loadPart hd ?_)))))))
  dsimp only
  rw [aRefKeyMayBeTheName_at, noRef]
  refine wpAny_updatePart hd ?_
  refine wpAny_bind (wpAny_lookBehind hob (pastItsLine_dict (by rw [List.size_toArray, sizeLine_eq]; omega)) ?_)
  refine wpAny_pure ⟨_, G.setI hσ hsb ⟨d, _, _, rfl, hx', hob, ha.putL name _ _ v hv⟩, Step.setI hσ hsb rfl rfl, h⟩
end


/-! # statements -/
structure StepF (env : Env) (σ : AH) (s : Shared) (σ' : AH) (s' : Shared) : Prop where
  keep : ∀ b o, ¬ fp σ b → b ≠ env.locals → (∀ x, env.cells.lookup x ≠ some b) → s.heap.get? b = some o → s'.heap.get? b = some o
  own : ∀ b, fp σ' b → fp σ b ∨ s.heap.get? b = none
  gens : s'.gens = s.gens
  os : s'.os = s.os
theorem Step.toF {env : Env} {σ σ' : AH} {s s' : Shared} (T : Step σ s σ' s') : StepF env σ s σ' s' := ⟨fun b o h _ _ e => T.keep b o h e, T.own, T.gens, T.os⟩
theorem StepF.refl {env : Env} {σ : AH} {s : Shared} : StepF env σ s σ s := Step.refl.toF
def nrmF : Flow → Flow
  | .ret v => .ret (nrm v)
  | f => f
/-- how a tree that may change its frame ends -/
inductive OutF (S : Stat) (env : Env) (σ : AH) (s s' : Shared) (Q : (Str → Option Value) → AH → Prop) : Prop
  | mk (σ' : AH) (ρ' : Str → Option Value) (G : Good S σ' s'.heap) (F : FrOk S env s'.heap σ' ρ') (T : StepF env σ s σ' s') (q : Q ρ' σ')

/-- a statement's tree, in a frame that it may change -/
def Ts (S : Stat) (n : Nat) (env : Env) (ρ : Str → Option Value) (σ : AH) (t : Sem Flow) (Q : Flow → (Str → Option Value) → AH → Prop) : Prop :=
  ∀ (A : Around) (s : Shared), Room n A → Good S σ s.heap → FrOk S env s.heap σ ρ →
    wpAny (model S.prog S.w) A t (fun f s' => OutF S env σ s s' (Q (nrmF f))) NoE s
section
variable {S : Stat} {n : Nat} {env : Env} {ρ : Str → Option Value} {σ : AH} {Q : Value → AH → Prop} {pos : Pos}
theorem FrOk.frees {h : Heap} (F : FrOk S env h σ ρ) {b : Addr} (hb : h.get? b = none) : b ≠ env.locals ∧ ∀ x, env.cells.lookup x ≠ some b :=
  ⟨fun q => (by obtain ⟨o, e⟩ := F.alive; rw [← q, hb] at e; cases e), fun x q => (by obtain ⟨⟨v, ⟨o, e, _⟩, _⟩, _⟩ := F.cells x b q; rw [hb] at e; cases e)⟩
theorem StepF.trans {ρ₂ : Str → Option Value} {σ₁ σ₂ σ₃ : AH} {s₁ s₂ s₃ : Shared} (x : StepF env σ₁ s₁ σ₂ s₂) (F : FrOk S env s₂.heap σ₂ ρ₂) (y : StepF env σ₂ s₂ σ₃ s₃) : StepF env σ₁ s₁ σ₃ s₃ where
  keep b o hb h1 h2 e := by
    refine y.keep b o (fun h3 => ?_) h1 h2 (x.keep b o hb h1 h2 e)
    rcases x.own b h3 with h | h
    · exact hb h
    · rw [h] at e; cases e
  own b hb := by
    rcases y.own b hb with h | h
    · exact x.own b h
    · by_cases hf : fp σ₁ b
      · exact .inl hf
      · obtain ⟨h1, h2⟩ := F.frees h
        cases e : s₁.heap.get? b with
        | none => exact .inr rfl
        | some o => have := x.keep b o hf h1 h2 e; rw [h] at this; cases this
  gens := y.gens.trans x.gens
  os := y.os.trans x.os

variable {QS : Flow → (Str → Option Value) → AH → Prop}
theorem Ts.mono {t : Sem Flow} {Q' : Flow → (Str → Option Value) → AH → Prop} (h : Ts S n env ρ σ t QS) (hQ : ∀ f ρ' σ', QS f ρ' σ' → Q' f ρ' σ') : Ts S n env ρ σ t Q' := fun A s R G F =>
  wpAny_mono (h A s R G F) (fun _ _ ⟨σ', ρ', a, b, c, d⟩ => ⟨σ', ρ', a, b, c, hQ _ _ _ d⟩) fun _ _ x => x
theorem Ts.eq {t t' : Sem Flow} (e : t = t') (h : Ts S n env ρ σ t' QS) : Ts S n env ρ σ t QS := e ▸ h
theorem Ts.nil (h : QS .next ρ σ) : Ts S n env ρ σ (execs [] env) QS := fun A s R G F => wpAny_execs_nil ⟨σ, ρ, G, F, .refl, h⟩
theorem Ts.cons {st : PySem.Stmt} {rest : List PySem.Stmt} (h : Ts S n env ρ σ (exec st env) (fun f ρ₁ σ₁ => match f with | .next => Ts S n env ρ₁ σ₁ (execs rest env) QS | f => QS f ρ₁ σ₁)) : Ts S n env ρ σ (execs (st :: rest) env) QS := fun A s R G F =>
  wpAny_execs_cons (wpAny_mono (h A s R G F) (fun f s₁ ⟨σ₁, ρ₁, G₁, F₁, T₁, h₁⟩ => by
    cases f with
    | next => exact wpAny_mono (h₁ A s₁ R G₁ F₁) (fun f₂ s₂ ⟨σ₂, ρ₂, G₂, F₂, T₂, q⟩ => ⟨σ₂, ρ₂, G₂, F₂, T₁.trans F₁ T₂, q⟩) fun _ _ x => x
    | brk => exact ⟨σ₁, ρ₁, G₁, F₁, T₁, h₁⟩
    | cont => exact ⟨σ₁, ρ₁, G₁, F₁, T₁, h₁⟩
    | ret v => exact ⟨σ₁, ρ₁, G₁, F₁, T₁, h₁⟩) fun _ _ x => x)
theorem Ts.retC {e : PySem.Expr} (h : Ev S n env ρ σ e (fun v σ₁ => QS (.ret v) ρ σ₁)) : Ts S n env ρ σ (exec (.Return (some e) pos) env) QS := fun A s R G F =>
  wpAny_Return_some (wpAny_mono (h A s R G F) (fun v s₁ ⟨σ₁, G₁, T₁, q⟩ => ⟨σ₁, ρ, G₁, F.step T₁, T₁.toF, q⟩) fun _ _ x => x)
theorem Ts.ifC {t : PySem.Expr} {b o : List PySem.Stmt} (h : IsT S n env ρ σ t (fun c σ₁ => if c then Ts S n env ρ σ₁ (execs b env) QS else Ts S n env ρ σ₁ (execs o env) QS)) : Ts S n env ρ σ (exec (.If t b o pos) env) QS := fun A s R G F =>
  wpAny_If (wpAny_mono (h A s R G F) (fun c s₁ ⟨σ₁, G₁, T₁, q⟩ => by
    cases c with
    | true => exact wpAny_mono (q A s₁ R G₁ (F.step T₁)) (fun f₂ s₂ ⟨σ₂, ρ₂, G₂, F₂, T₂, q⟩ => ⟨σ₂, ρ₂, G₂, F₂, T₁.toF.trans (F.step T₁) T₂, q⟩) fun _ _ x => x
    | false => exact wpAny_mono (q A s₁ R G₁ (F.step T₁)) (fun f₂ s₂ ⟨σ₂, ρ₂, G₂, F₂, T₂, q⟩ => ⟨σ₂, ρ₂, G₂, F₂, T₁.toF.trans (F.step T₁) T₂, q⟩) fun _ _ x => x) fun _ _ x => x)

/-! # storing -/
def setv (ρ : Str → Option Value) (x : Str) (v : Value) : Str → Option Value := fun y => if y = x then some v else ρ y
/-- a tree that stores: it changes the frame -/
def Tu (S : Stat) (n : Nat) (env : Env) (ρ : Str → Option Value) (σ : AH) (t : Sem Unit) (Q : (Str → Option Value) → AH → Prop) : Prop :=
  ∀ (A : Around) (s : Shared), Room n A → Good S σ s.heap → FrOk S env s.heap σ ρ →
    wpAny (model S.prog S.w) A t (fun _ s' => OutF S env σ s s' Q) NoE s
variable {QU : (Str → Option Value) → AH → Prop}

theorem FrOk.setL {h h' : Heap} {x : Str} {v : Value} {m : Str → Option Value} (F : FrOk S env h σ ρ) (hl : env.kindOf x = some .local) (hm : ∀ y, env.kindOf y = some .local → (m y).map nrm = ρ y)
    (hn : h'.Ns env.locals (fun y => if y = x then some v else m y)) (hs : Heap.SameBut env.locals h h') : FrOk S env h' σ (setv ρ x (nrm v)) where
  kind := F.kind
  glob := F.glob
  bl := F.bl
  ns := ⟨_, hn, fun y hy => by unfold setv; by_cases q : y = x <;> simp [q, hm y hy]⟩
  nL := F.nL
  bL := F.bL
  cells y c e := by
    obtain ⟨⟨u, ⟨o, ho, hd⟩, hu⟩, n1, n2, n3⟩ := F.cells y c e
    refine ⟨⟨u, ⟨o, (hs.2 c n3).trans ho, hd⟩, ?_⟩, n1, n2, n3⟩
    have : y ≠ x := fun q => by subst q; rw [F.sepn _ hl] at e; cases e
    unfold setv; rw [if_neg this]; exact hu
  apart := F.apart
  sepn := F.sepn
theorem Tu.storeL {x : Str} {v : Value} (hl : env.kindOf x = some .local) (h : QU (setv ρ x (nrm v)) σ) : Tu S n env ρ σ (storeName env x v) QU := fun A s R G F => by
  obtain ⟨m, hn, hm⟩ := F.ns
  refine wpAny_storeName_local hl hn (fun h' hn' hs => ?_) (by rw [F.kind]; rfl)
  refine ⟨σ, _, G.ext fun b o e hb => (hs.2 b fun q => ?_).trans e, F.setL hl hm hn' hs, ⟨fun b o _ h1 _ e => (hs.2 b h1).trans e, fun _ h => .inl h, rfl, rfl⟩, h⟩
  subst q
  rcases hb with hb | hb
  · exact F.nL hb
  · rw [F.bL] at hb; cases hb
theorem Tu.storeC {x : Str} {v : Value} (hl : env.kindOf x = some .cell) (hc : (env.cells.lookup x).isSome = true) (h : QU (setv ρ x (nrm v)) σ) : Tu S n env ρ σ (storeName env x v) QU := fun A s R G F => by
  obtain ⟨c, hc⟩ := Option.isSome_iff_exists.mp hc
  obtain ⟨⟨u, hu, e⟩, n1, n2, n3⟩ := F.cells x c hc
  obtain ⟨m, hn, hm⟩ := F.ns
  refine wpAny_storeName_cell F.kind hl hc hu fun h' hv hs => ?_
  refine ⟨σ, setv ρ x (nrm v), G.ext fun b o e hb => (hs.2 b fun q => ?_).trans e, ⟨F.kind, F.glob, F.bl, ⟨m, hn.sameBut hs (Ne.symm n3), fun y hy => ?_⟩, F.nL, F.bL, fun y c' e' => ?_, F.apart, F.sepn⟩, ⟨fun b o _ _ h2 e => (hs.2 b fun q => h2 x (q ▸ hc)).trans e, fun _ h => .inl h, rfl, rfl⟩, h⟩
  · subst q
    rcases hb with hb | hb
    · exact n1 hb
    · rw [n2] at hb; cases hb
  · have : y ≠ x := fun q => by subst q; rw [hl] at hy; cases hy
    unfold setv; rw [if_neg this]; exact hm y hy
  · obtain ⟨⟨u', hu', e1⟩, m1, m2, m3⟩ := F.cells y c' e'
    by_cases q : y = x
    · subst q
      rw [hc] at e'; cases e'
      exact ⟨⟨_, hv, by simp [setv]⟩, m1, m2, m3⟩
    · have hcc : c' ≠ c := fun qq => q (name_of_addr F.apart (mem_of_lookup e') (qq ▸ mem_of_lookup hc))
      exact ⟨⟨u', hu'.sameBut hs hcc, by unfold setv; rw [if_neg q]; exact e1⟩, m1, m2, m3⟩
def CellOk (env : Env) (x : Str) : Prop := env.kindOf x = some .local ∨ (env.kindOf x = some .cell ∧ (env.cells.lookup x).isSome = true)
theorem Tu.storeV {x : Str} {v : Value} (hl : CellOk env x) (h : QU (setv ρ x (nrm v)) σ) : Tu S n env ρ σ (storeName env x v) QU := by
  rcases hl with hl | ⟨hl, hc⟩
  · exact Tu.storeL hl h
  · exact Tu.storeC hl hc h
theorem Tu.name {x : Str} {v : Value} (hl : CellOk env x) (h : QU (setv ρ x (nrm v)) σ) : Tu S n env ρ σ (assign (.Name x pos) env v) QU := fun A s R G F => wpAny_assign_Name (Tu.storeV hl h A s R G F)
theorem Tu.mono {t : Sem Unit} {Q' : (Str → Option Value) → AH → Prop} (h : Tu S n env ρ σ t QU) (hQ : ∀ ρ' σ', QU ρ' σ' → Q' ρ' σ') : Tu S n env ρ σ t Q' := fun A s R G F =>
  wpAny_mono (h A s R G F) (fun _ _ ⟨σ', ρ', a, b, c, d⟩ => ⟨σ', ρ', a, b, c, hQ _ _ d⟩) fun _ _ x => x
theorem Tu.bind {m : Sem Unit} {k : Unit → Sem Unit} (h : Tu S n env ρ σ m (fun ρ₁ σ₁ => Tu S n env ρ₁ σ₁ (k ()) QU)) : Tu S n env ρ σ (m >>= k) QU := fun A s R G F =>
  wpAny_bind (wpAny_mono (h A s R G F) (fun _ s₁ ⟨σ₁, ρ₁, G₁, F₁, T₁, H⟩ => wpAny_mono (H A s₁ R G₁ F₁) (fun _ _ ⟨σ₂, ρ₂, G₂, F₂, T₂, q⟩ => ⟨σ₂, ρ₂, G₂, F₂, T₁.trans F₁ T₂, q⟩) fun _ _ x => x) fun _ _ x => x)
theorem Tu.bindT {α β : Type} {f : α → β} {m : Sem α} {k : α → Sem Unit} (h : Tr S n env ρ σ f m (fun b σ₁ => ∀ a, f a = b → Tu S n env ρ σ₁ (k a) QU)) : Tu S n env ρ σ (m >>= k) QU := fun A s R G F =>
  wpAny_bind (wpAny_mono (h A s R G F) (fun a s₁ ⟨σ₁, G₁, T₁, H⟩ => wpAny_mono (H a rfl A s₁ R G₁ (F.step T₁)) (fun _ _ ⟨σ₂, ρ₂, G₂, F₂, T₂, q⟩ => ⟨σ₂, ρ₂, G₂, F₂, T₁.toF.trans (F.step T₁) T₂, q⟩) fun _ _ x => x) fun _ _ x => x)
theorem Tu.ofTr {t : Sem Unit} (h : Tr S n env ρ σ (fun u : Unit => u) t (fun _ σ' => QU ρ σ')) : Tu S n env ρ σ t QU := fun A s R G F =>
  wpAny_mono (h A s R G F) (fun _ s₁ ⟨σ₁, G₁, T₁, q⟩ => ⟨σ₁, ρ, G₁, F.step T₁, T₁.toF, q⟩) fun _ _ x => x

/-- storing into a field: what is stored is already there -/
theorem wpAny_release {M : Model} {A : Around} {E : Value → Shared → Prop} {s : Shared} {vs ks : List Value} {Q : Unit → Shared → Prop} (h : Q () s) : wpAny M A (release vs ks) Q E s := fun Γ p _ => by rw [Sem.wp_release]; exact h
theorem assign_attr {o : PySem.Expr} {name : Str} {v : Value} : assign (.Attribute o name pos) env v = (do
    let ov ← PySem.holding [v] (eval o env)
    PySem.standAt pos.atName
    PySem.holding [v, ov] (setAttr ov name v)
    release [v, ov] []) := rfl
theorem Tu.attr {o : PySem.Expr} {name : Str} {v : Value} (h : Ev S n env ρ σ o (fun ov σ₁ => ∃ a C at_, ov = .ref a ∧ σ₁ a = some (.inst C at_) ∧ ClsOk S C ∧ NameFree S C name ∧ handedIn v = true ∧ at_.length ≤ 900 ∧ QU ρ (put σ₁ a (.inst C (setA name (nrm v) at_))))) :
    Tu S n env ρ σ (assign (.Attribute o name pos) env v) QU := by
  rw [assign_attr]
  refine Tu.bindT (Tr.holding (h.mono fun ov σ₁ ⟨a, C, at_, e1, e2, e3, e4, e5, e6, q⟩ u hu => ?_))
  subst e1
  cases of_nrm_ref hu
  refine Tu.ofTr (Tr.standAt (Tr.bind (Tr.holding (Tr.of_pr (Pr.setAttr e2 e3 e4 e5 e6 ?_)))))
  intro _ _ A s R G F
  exact wpAny_release ⟨_, G, .refl, q⟩
def SetI (S : Stat) (n : Nat) (σ : AH) (o i v : Value) (Q : AH → Prop) : Prop := ∀ ov iv, nrm ov = o → nrm iv = i → Pr S n σ (fun u : Unit => u) (setItem ov iv v) (fun _ σ' => Q σ')
theorem Tu.sub {o i : PySem.Expr} {v : Value} (h : Ev S n env ρ σ o (fun ov σ₁ => Ev S n env ρ σ₁ i (fun iv σ₂ => SetI S n σ₂ ov iv v (fun σ₃ => QU ρ σ₃))))
    (hi : assign (.Subscript o i pos) env v = (do
    let ov ← PySem.holding [v] (eval o env)
    let iv ← PySem.holding [v, ov] (eval i env)
    PySem.standAt pos
    PySem.holding [v, ov, iv] (setItem ov iv v)
    release [v, ov, iv] [])) : Tu S n env ρ σ (assign (.Subscript o i pos) env v) QU := by
  rw [hi]
  refine Tu.bindT (Tr.holding (h.mono fun ov σ₁ h₁ u hu => Tu.bindT (Tr.holding (h₁.mono fun iv σ₂ h₂ w hw => ?_))))
  refine Tu.ofTr (Tr.standAt (Tr.bind (Tr.holding ((Tr.of_pr (h₂ u w hu hw)).mono fun _ σ₃ q _ _ => ?_))))
  exact fun A s R G F => wpAny_release ⟨_, G, .refl, q⟩

/-! # assignment statements -/
theorem Ts.assign1 {t value : PySem.Expr} (h : Ev S n env ρ σ value (fun v σ₁ => ∀ u, nrm u = v → Tu S n env ρ σ₁ (assign t env u) (fun ρ' σ' => QS .next ρ' σ')))
    (he : (assignEach [t] env).map (·.2) = [assign t env]) (hs : swapsWithSole [t] value pos.line env = pure false) (hw : swappedStores [t] value env = pure none) : Ts S n env ρ σ (exec (.Assign [t] value pos) env) QS := fun A s R G F => by
  refine wpAny_Assign_stores (wpAny_mono (h A s R G F) (fun v s₁ ⟨σ₁, G₁, T₁, h₁⟩ => ?_) fun _ _ x => x) hs hw
  rw [he]
  exact wpAny_mono (h₁ v rfl A s₁ R G₁ (F.step T₁)) (fun _ s₂ ⟨σ₂, ρ₂, G₂, F₂, T₂, q⟩ => ⟨σ₂, ρ₂, G₂, F₂, T₁.toF.trans (F.step T₁) T₂, q⟩) fun _ _ x => x
theorem Ts.exprC {e : PySem.Expr} (h : Ev S n env ρ σ e (fun v σ₁ => (∀ a, v ≠ .ref a) ∧ QS .next ρ σ₁)) (hi : interactive env = false) (hs : swapsWith e none pos.line env = pure false) : Ts S n env ρ σ (exec (.Expr e pos) env) QS := fun A s R G F => by
  refine wpAny_Expr (wpAny_mono (h A s R G F) (fun v s₁ ⟨σ₁, G₁, T₁, hv, q⟩ => ?_) fun _ _ x => x) hi hs
  have : ∀ a, v ≠ .ref a := fun a e => hv a (by rw [e]; rfl)
  cases v <;> first | exact ⟨σ₁, ρ, G₁, F.step T₁, T₁.toF, q⟩ | exact absurd rfl (this _)
end

section
variable {S : Stat} {n : Nat} {env : Env} {ρ : Str → Option Value} {σ : AH} {Q : Value → AH → Prop} {pos : Pos} {QU : (Str → Option Value) → AH → Prop} {QS : Flow → (Str → Option Value) → AH → Prop}

/-! # unpacking -/
theorem Good.tup {h : Heap} {a : Addr} {vs : List Value} (G : Good S σ h) (hσ : σ a = some (.tuple vs)) : ∃ (xs : Array Value) (k : Nat), h.get? a = some (tupOf xs k) ∧ xs.toList.map nrm = vs := G.rep _ _ hσ
theorem Good.lst {h : Heap} {a : Addr} {vs : List Value} (G : Good S σ h) (hσ : σ a = some (.list vs)) : ∃ (xs : Array Value) (k : Nat), h.get? a = some (listOf xs k) ∧ xs.toList.map nrm = vs := G.rep _ _ hσ
theorem Pr.unpack {t : Addr} {vs : List Value} {k : Nat} {Q : List Value → AH → Prop} (hσ : σ t = some (.tuple vs)) (hk : vs.length = k) (h : Q vs σ) : Pr S n σ (List.map nrm) (unpackItems (.ref t) k Option.none) Q := fun A s R G => by
  obtain ⟨xs, c, hx, hv⟩ := G.tup hσ
  have hs : xs.size = k := by rw [← hk, ← hv, List.length_map, Array.length_toList]
  rw [← hs]
  refine unpackItems_tuple R.1 ⟨_, hx, rfl, c, rfl⟩ fun h' he => ?_
  have hk' : ∀ b o, s.heap.get? b = some o → h'.get? b = some o := fun b o e => he b o (Nat.ne_of_lt (Heap.lt_size e)) e
  exact ⟨σ, G.grow hk', .same hk', hv ▸ h⟩
theorem assign_tup {elts : List PySem.Expr} {k : Nat} {v : Value} : assign (.Tuple elts k pos) env v = (do PySem.standAt pos; unpack v (assignEach elts env)) := assign_Tuple elts k pos v
theorem Tu.tup2 {e1 e2 : PySem.Expr} {k : Nat} {t : Addr} {a b : Value} (hσ : σ t = some (.tuple [a, b])) (h : ∀ u1 u2, nrm u1 = a → nrm u2 = b → Tu S n env ρ σ (assign e1 env u1) (fun ρ1 σ1 => Tu S n env ρ1 σ1 (assign e2 env u2) QU))
    (he : assignEach [e1, e2] env = [(false, assign e1 env), (false, assign e2 env)]) : Tu S n env ρ σ (assign (.Tuple [e1, e2] k pos) env (.ref t)) QU := by
  rw [assign_tup, he]
  show Tu S n env ρ σ (PySem.standAt pos >>= fun _ => PySem.holding [.ref t] (unpackItems (.ref t) 2 Option.none) >>= fun items => assignInOrder [assign e1 env, assign e2 env] items) QU
  refine Tu.bindT (f := fun u : Unit => u) (Tr.standAt0 ?_)
  intro _ _
  refine Tu.bindT (f := List.map nrm) (Tr.holding (Tr.of_pr (Pr.unpack hσ rfl ?_)))
  intro items hi
  match items, hi with
  | [u1, u2], hi =>
    simp only [List.map_cons, List.map_nil, List.cons.injEq, and_true] at hi
    show Tu S n env ρ σ (PySem.holding [u2] (assign e1 env u1) >>= fun _ => PySem.holding [] (assign e2 env u2) >>= fun _ => assignInOrder [] []) QU
    refine Tu.bind (fun A s R G F => wpAny_holding ((h u1 u2 hi.1 hi.2).mono (fun ρ1 σ1 h1 => ?_) A s R G F))
    refine Tu.bind (fun A s R G F => wpAny_holding (h1.mono (fun ρ2 σ2 q => ?_) A s R G F))
    exact fun A s R G F => wpAny_pure ⟨_, _, G, F, .refl, q⟩
theorem Tu.tup3 {e1 e2 e3 : PySem.Expr} {k : Nat} {t : Addr} {a b c : Value} (hσ : σ t = some (.tuple [a, b, c]))
    (h : ∀ u1 u2 u3, nrm u1 = a → nrm u2 = b → nrm u3 = c → Tu S n env ρ σ (assign e1 env u1) (fun ρ1 σ1 => Tu S n env ρ1 σ1 (assign e2 env u2) (fun ρ2 σ2 => Tu S n env ρ2 σ2 (assign e3 env u3) QU)))
    (he : assignEach [e1, e2, e3] env = [(false, assign e1 env), (false, assign e2 env), (false, assign e3 env)]) : Tu S n env ρ σ (assign (.Tuple [e1, e2, e3] k pos) env (.ref t)) QU := by
  rw [assign_tup, he]
  show Tu S n env ρ σ (PySem.standAt pos >>= fun _ => PySem.holding [.ref t] (unpackItems (.ref t) 3 Option.none) >>= fun items => assignInOrder [assign e1 env, assign e2 env, assign e3 env] items) QU
  refine Tu.bindT (f := fun u : Unit => u) (Tr.standAt0 ?_)
  intro _ _
  refine Tu.bindT (f := List.map nrm) (Tr.holding (Tr.of_pr (Pr.unpack hσ rfl ?_)))
  intro items hi
  match items, hi with
  | [u1, u2, u3], hi =>
    simp only [List.map_cons, List.map_nil, List.cons.injEq, and_true] at hi
    show Tu S n env ρ σ (PySem.holding [u2, u3] (assign e1 env u1) >>= fun _ => PySem.holding [u3] (assign e2 env u2) >>= fun _ => PySem.holding [] (assign e3 env u3) >>= fun _ => assignInOrder [] []) QU
    refine Tu.bind (fun A s R G F => wpAny_holding ((h u1 u2 u3 hi.1 hi.2.1 hi.2.2).mono (fun ρ1 σ1 h1 => ?_) A s R G F))
    refine Tu.bind (fun A s R G F => wpAny_holding (h1.mono (fun ρ2 σ2 h2 => ?_) A s R G F))
    refine Tu.bind (fun A s R G F => wpAny_holding (h2.mono (fun ρ3 σ3 q => ?_) A s R G F))
    exact fun A s R G F => wpAny_pure ⟨_, _, G, F, .refl, q⟩
/-- two names at once: the stores are exchanged -/
theorem Ts.assignSwap {elts : List PySem.Expr} {k : Nat} {tpos : Pos} {value : PySem.Expr} {x y : Str}
    (h : Ev S n env ρ σ value (fun v σ₁ => ∃ t a b, v = .ref t ∧ σ₁ t = some (.tuple [a, b]) ∧ CellOk env x ∧ CellOk env y ∧ QS .next (setv (setv ρ y b) x a) σ₁))
    (hs : swapsWithSole [.Tuple elts k tpos] value pos.line env = pure false) (hw : swappedStores [.Tuple elts k tpos] value env = pure (some [x, y])) : Ts S n env ρ σ (exec (.Assign [.Tuple elts k tpos] value pos) env) QS := fun A s R G F => by
  refine Assign_Tuple_swapped (wpAny_mono (h A s R G F) (fun v s₁ ⟨σ₁, G₁, T₁, t, a, b, e1, e2, c1, c2, q⟩ => ?_) fun _ _ x => x) hs hw
  cases of_nrm_ref e1
  refine wpAny_mono (Pr.unpack (Q := fun vs σ' => vs = [a, b] ∧ σ' = σ₁) e2 rfl ⟨rfl, rfl⟩ A s₁ R G₁) (fun items s₂ ⟨σ₂, G₂, T₂, hi, e⟩ => ?_) fun _ _ x => x
  subst e
  match items, hi with
  | [u1, u2], hi =>
    simp only [List.map_cons, List.map_nil, List.cons.injEq, and_true] at hi
    obtain ⟨rfl, rfl⟩ := hi
    have U : Tu S n env ρ σ₂ (PySem.holding [u1] (bindName env y u2) >>= fun _ => PySem.holding [] (bindName env x u1) >>= fun _ => assignInOrder [] []) (fun ρ' σ' => QS .next ρ' σ') := by
      refine Tu.bind (fun A s R G F => wpAny_holding (wpAny_bindName (Tu.storeV c2 ?_ A s R G F)))
      refine Tu.bind (fun A s R G F => wpAny_holding (wpAny_bindName (Tu.storeV c1 ?_ A s R G F)))
      exact fun A s R G F => wpAny_pure ⟨_, _, G, F, .refl, q⟩
    exact wpAny_mono (U A s₂ R G₂ (F.step (T₁.trans T₂))) (fun _ s₃ ⟨σ₃, ρ₃, G₃, F₃, T₃, q⟩ => ⟨σ₃, ρ₃, G₃, F₃, (T₁.trans T₂).toF.trans (F.step (T₁.trans T₂)) T₃, q⟩) fun _ _ x => x

/-! # calls -/
def CallV (S : Stat) (n : Nat) (σ : AH) (f : Value) (vs : List Value) (Q : Value → AH → Prop) : Prop := ∀ raws : List Value, raws.map nrm = vs → Pr S n σ nrm (call f raws) Q
inductive OutV (S : Stat) (σ : AH) (s s' : Shared) (r : Result) (Q : Value → AH → Prop) : Prop
  | mk (v : Value) (σ' : AH) (e : r = .ok (.ret v)) (G : Good S σ' s'.heap) (T : Step σ s σ' s') (q : Q (nrm v) σ')
def CodeV (S : Stat) (n : Nat) (σ : AH) (f : Value) (vs : List Value) (Q : Value → AH → Prop) : Prop := ∀ raws : List Value, raws.map nrm = vs → ∀ (A : Around) (s : Shared), Room n A → Good S σ s.heap →
  codeAny (model S.prog S.w) A (.call f ⟨raws, []⟩) (fun r s' => OutV S σ s s' r Q) s
theorem CallV.of_code {f : Value} {vs : List Value} (h : CodeV S n σ f vs Q) : CallV S n σ f vs Q := fun raws hr A s R G =>
  wpAny_call (codeAny_mono (h raws hr A s R G) fun r s' ⟨v, σ', e, a, b, c⟩ => by subst e; exact ⟨σ', a, b, c⟩)
theorem CallV.mono {f : Value} {vs : List Value} {Q' : Value → AH → Prop} (h : CallV S n σ f vs Q) (hQ : ∀ v σ', Q v σ' → Q' v σ') : CallV S n σ f vs Q' := fun raws hr => (h raws hr).mono hQ
theorem CallV.up {m : Nat} {f : Value} {vs : List Value} (h : CallV S n σ f vs Q) (hm : n ≤ m) : CallV S m σ f vs Q := fun raws hr => (h raws hr).up hm
theorem CodeV.mono {f : Value} {vs : List Value} {Q' : Value → AH → Prop} (h : CodeV S n σ f vs Q) (hQ : ∀ v σ', Q v σ' → Q' v σ') : CodeV S n σ f vs Q' := fun raws hr A s R G =>
  codeAny_mono (h raws hr A s R G) fun r s' ⟨v, σ', e, a, b, c⟩ => ⟨v, σ', e, a, b, hQ _ _ c⟩
theorem CodeV.up {m : Nat} {f : Value} {vs : List Value} (h : CodeV S n σ f vs Q) (hm : n ≤ m) : CodeV S m σ f vs Q := fun raws hr A s R G => h raws hr A s (R.le hm) G

/-- what may be called in an expression -/
def Callee (S : Stat) (f : Value) : Prop := ∀ h : Heap, S.K.In h → ∃ k, (k = Keeper.frame ∨ k = Keeper.machine ∨ k = Keeper.boundFrame) ∧ Looks (model S.prog S.w) h (keeperOf f) k
theorem Callee.ref {a : Addr} (hk : keepIn S.K (.ref a) = true) : Callee S (.ref a) := fun h X => keeps_K hk h X
theorem Callee.builtin {i : String} : Callee S (.builtin i) := fun h X => ⟨.machine, .inr (.inl rfl), Looks.of_pure rfl⟩
theorem Callee.type {i : String} : Callee S (.type i) := fun h X => ⟨.machine, .inr (.inl rfl), Looks.of_pure rfl⟩

theorem spl_nil : spliced (backTo pos (starEach [] env)) = pure [] := rfl
theorem CallWith.of {f : Value} {first : List Value} {es : List PySem.Expr} {A : Around} {s : Shared} {p' : Pos} {T : Value → Shared → Prop} (hc : Callee S f) (hes : (backTo p' (starEach es env)).any (·.1) = false)
    (h : wpAny (model S.prog S.w) A (evalArgs f true (backTo p' (starEach es env)) []) (fun a s₁ => S.K.In s₁.heap ∧ wpAny (model S.prog S.w) A (call f (first ++ a.pos) a.kw) T NoE s₁) NoE s) :
    wpAny (model S.prog S.w) A (callWith pos f first (backTo p' (starEach es env)) []) T NoE s :=
  callWith_of (P := fun h => S.K.In h) (by rw [hes]; rfl) (fun h X => hc h X) h
theorem evalArgs_L {f : Value} {es : List PySem.Expr} {A : Around} {s : Shared} {p' : Pos} {T : Args → Shared → Prop} (hes : (backTo p' (starEach es env)).any (·.1) = false)
    (h : wpAny (model S.prog S.w) A (spliced (backTo p' (starEach es env))) (fun vs s₁ => T ⟨vs, []⟩ s₁) NoE s) : wpAny (model S.prog S.w) A (evalArgs f true (backTo p' (starEach es env)) []) T NoE s := by
  cases e : backTo p' (starEach es env) with
  | nil =>
    rw [e] at h
    unfold evalArgs
    show wpAny _ A (spliced [] >>= _) T NoE s
    refine wpAny_bind (wpAny_mono h (fun vs s' h' => wpAny_bind (wpAny_pure ?_)) fun _ _ x => x)
    refine wpAny_holding ?_
    exact wpAny_bind (wpAny_pure (wpAny_bind (wpAny_pure (wpAny_pure h'))))
  | cons x rest =>
    obtain ⟨b, x⟩ := x
    rw [e] at h hes
    have hb : b = false := by
      cases b with
      | false => rfl
      | true => simp at hes
    subst hb
    exact evalArgs_plain h
end

section
variable {S : Stat} {n : Nat} {env : Env} {ρ : Str → Option Value} {σ : AH} {Q : Value → AH → Prop} {pos : Pos}

theorem Tr.callWith {f : Value} {first : List Value} {es : List PySem.Expr} {p' : Pos} (hc : Callee S f) (hes : (backTo p' (starEach es env)).any (·.1) = false)
    (h : EvL S n env ρ σ p' es (fun vs σ₁ => CallV S n σ₁ f (first.map nrm ++ vs) Q)) : Tr S n env ρ σ nrm (callWith pos f first (backTo p' (starEach es env)) []) Q := fun A s R G F => by
  refine CallWith.of hc hes (evalArgs_L hes (wpAny_mono (h A s R G F) (fun vs s₁ ⟨σ₁, G₁, T₁, q⟩ => ⟨S.KX.keeps G₁.keep, ?_⟩) fun _ _ x => x))
  exact wpAny_mono (q (first ++ vs) (by simp) A s₁ R G₁) (fun v s₂ ⟨σ₂, G₂, T₂, q⟩ => ⟨σ₂, G₂, T₁.trans T₂, q⟩) fun _ _ x => x

theorem of_plain_callee {S : Stat} {u v : Value} (hn : nrm u = v) (hv : (∃ a, v = .ref a) ∨ (∃ i, v = .builtin i) ∨ ∃ t, v = .type t) : u = v := by
  rcases hv with ⟨a, rfl⟩ | ⟨a, rfl⟩ | ⟨a, rfl⟩
  · exact of_nrm_ref hn
  · exact of_nrm_builtin hn
  · exact of_nrm_type hn

theorem Ev.call {f : PySem.Expr} {es : List PySem.Expr} (h : Ev S n env ρ σ f (fun fv σ₁ => ((∃ a, fv = .ref a) ∨ (∃ i, fv = .builtin i) ∨ ∃ t, fv = .type t) ∧ Callee S fv ∧ EvL S n env ρ σ₁ pos es (fun vs σ₂ => CallV S n σ₂ fv vs Q)))
    (he : eval (.Call f es [] pos) env = (do callWith pos (← eval f env) [] (backTo pos (starEach es env)) [])) (hes : (backTo pos (starEach es env)).any (·.1) = false) : Ev S n env ρ σ (.Call f es [] pos) Q := by
  refine Tr.eq he (Tr.bind (h.mono fun fv σ₁ ⟨hv, hc, h₁⟩ u hu => ?_))
  cases of_plain_callee (S := S) hu hv
  exact Tr.callWith hc hes h₁

/-- a method's two halves -/
def MethV (S : Stat) (n : Nat) (σ : AH) (ov : Value) (name : Str) (Q : Value → List Value → AH → Prop) : Prop := ∀ u (pl : Sem Bool), nrm u = ov → Pr S n σ (fun p : Value × List Value => p) (getMethod u name pl) (fun p σ' => Q p.1 p.2 σ')
theorem Ev.mcall {o : PySem.Expr} {name : Str} {apos : Pos} {es : List PySem.Expr}
    (h : Ev S n env ρ σ o (fun ov σ₁ => MethV S n σ₁ ov name (fun f first σ₂ => Callee S f ∧ EvL S n env ρ σ₂ pos es (fun vs σ₃ => CallV S n σ₃ f (first.map nrm ++ vs) Q))))
    (hes : (backTo pos (starEach es env)).any (·.1) = false)
    (he : ∃ pl : Sem Bool, eval (.Call (.Attribute o name apos) es [] pos) env = (do
      let ov ← eval o env
      PySem.standAt apos.atName
      let (f, first) ← PySem.holding [ov] (getMethod ov name pl)
      PySem.callWith pos f first (backTo pos (starEach es env)) [])) : Ev S n env ρ σ (.Call (.Attribute o name apos) es [] pos) Q := by
  obtain ⟨pl, he⟩ := he
  refine Tr.eq he (Tr.bind (h.mono fun ov σ₁ h₁ u hu => Tr.standAt (Tr.bind (Tr.holding ((Tr.of_pr (h₁ u pl hu)).mono fun p σ₂ ⟨hc, h₂⟩ a ha => ?_)))))
  subst ha
  exact Tr.callWith hc hes h₂
theorem MethV.own {a C f : Addr} {at_ : List (Str × Value)} {name : Str} {Q : Value → List Value → AH → Prop} (hσ : σ a = some (.inst C at_)) (hc : ClsOk S C) (hf : findIn S.K (.ref C) name = some (some (.ref f))) (ht : isFn S.K (.ref f) = true) (hl : at_.lookup name = Option.none)
    (h : Q (.ref f) [.ref a] σ) : MethV S n σ (.ref a) name Q := fun u pl hu A s R G => by
  cases of_nrm_ref hu
  obtain ⟨d, es, ep, e, ha, hd, I⟩ := G.inst hσ
  refine method_fn (S.KX.keeps G.keep) I (plainGet_of hc.get).1 (plainGet_of hc.get).2 hf (beq_iff_eq.mp ht) ?_ ⟨σ, G, .refl, h⟩
  show (lookIn name (dictOf es ep)).map _ = _
  rw [lookIn_dict, (ha.getL name).2 hl]; rfl
theorem MethV.list {l : Addr} {vs : List Value} {name : Str} {id : String} {Q : Value → List Value → AH → Prop} (hσ : σ l = some (.list vs)) (slot : Slot "list" name id) (hty : typeOf (.builtin id) = Pure.pure (.type "method_descriptor")) (h : Q (.builtin id) [.ref l] σ) : MethV S n σ (.ref l) name Q := fun u pl hu A s R G => by
  cases of_nrm_ref hu
  obtain ⟨xs, k, hx, hv⟩ := G.lst hσ
  exact getMethod_builtin ⟨_, hx, rfl⟩ PySem.F.plainAttrs_list slot hty (fun a e => by cases e; exact ⟨_, hx, rfl⟩) ⟨σ, G, .refl, h⟩
theorem Good.dicti {h : Heap} {a : Addr} {kvs : List (Int × Value)} (G : Good S σ h) (hσ : σ a = some (.dicti kvs)) : ∃ raw : List (Int × Value), h.DictOf (intKind S.prog S.w) a raw ∧ raw.map (fun p => (p.1, nrm p.2)) = kvs := G.rep _ _ hσ
theorem Good.dicts {h : Heap} {a : Addr} {kvs : List (Str × Value)} (G : Good S σ h) (hσ : σ a = some (.dicts kvs)) : ∃ raw : List (Str × Value), h.DictOf (PySem.strKind S.prog S.w) a raw ∧ raw.map (fun p => (p.1, nrm p.2)) = kvs := G.rep _ _ hσ
theorem MethV.dicti {l : Addr} {vs : List (Int × Value)} {name : Str} {id : String} {Q : Value → List Value → AH → Prop} (hσ : σ l = some (.dicti vs)) (slot : Slot "dict" name id) (hty : typeOf (.builtin id) = Pure.pure (.type "method_descriptor")) (h : Q (.builtin id) [.ref l] σ) : MethV S n σ (.ref l) name Q := fun u pl hu A s R G => by
  cases of_nrm_ref hu
  obtain ⟨raw, hx, hv⟩ := G.dicti hσ
  exact getMethod_builtin hx.typeIs PySem.F.plainAttrs_dict slot hty hx.mapOf.noDict ⟨σ, G, .refl, h⟩
theorem MethV.dicts {l : Addr} {vs : List (Str × Value)} {name : Str} {id : String} {Q : Value → List Value → AH → Prop} (hσ : σ l = some (.dicts vs)) (slot : Slot "dict" name id) (hty : typeOf (.builtin id) = Pure.pure (.type "method_descriptor")) (h : Q (.builtin id) [.ref l] σ) : MethV S n σ (.ref l) name Q := fun u pl hu A s R G => by
  cases of_nrm_ref hu
  obtain ⟨raw, hx, hv⟩ := G.dicts hσ
  exact getMethod_builtin hx.typeIs PySem.F.plainAttrs_dict slot hty hx.mapOf.noDict ⟨σ, G, .refl, h⟩

/-! # making objects -/
theorem Room.make {A : Around} {C : Addr} {vals : List Value} (h : Room (n + 1) A) : Room n (A.under (.builtin "type.__call__" ⟨.ref C :: vals, []⟩)) := by
  refine ⟨h.1, ?_, ?_⟩
  · rw [depth_under_make]; have := h.2.1; omega
  · rw [units_under_make]; have := h.2.2; omega
theorem CodeV.make {C fI : Addr} {vs : List Value} (hc : ClsOk S C) (hi : findIn S.K (.ref C) "__init__" = some (some (.ref fI))) (hf : typeIn S.K (.ref fI) = some (.type "function"))
    (h : ∀ x, σ x = Option.none → ¬ fp σ x → CodeV S n (put σ x (.inst C [])) (.ref fI) (.ref x :: vs) (fun r σ' => r = .none ∧ Q (.ref x) σ')) : CodeV S (n + 1) σ (.ref C) vs Q := fun raws hr A s R G => by
  have hn1 := get?_size s.heap
  have hn2 : s.heap.get? (s.heap.objs.size + 1) = Option.none := by
    cases e : s.heap.get? (s.heap.objs.size + 1) with
    | none => rfl
    | some o => exact absurd (Heap.lt_size e) (Nat.not_lt.mpr (Nat.le_succ _))
  have hs1 := G.size_ne
  obtain ⟨hp, g, dr, tk, os⟩ := s
  dsimp only at hn1 hn2 hs1
  have G' : Good S σ hp := G
  have k : ∀ b o, hp.get? b = some o → ((hp.push emptyDict).push (instObj C hp.objs.size)).get? b = some o := fun b o e => Heap.get?_push_of_some _ (Heap.get?_push_of_some _ e)
  have e1 : ((hp.push emptyDict).push (instObj C hp.objs.size)).get? (hp.objs.size + 1) = some (instObj C hp.objs.size) := by
    have := Heap.get?_push_size (hp.push emptyDict) (o := instObj C hp.objs.size) rfl
    rwa [Heap.size_push] at this
  have e2 : ((hp.push emptyDict).push (instObj C hp.objs.size)).get? hp.objs.size = some emptyDict := Heap.get?_push_of_some _ (Heap.get?_push_size _ rfl)
  have gt : hp.objs.size + 1 ≠ sysModules := by
    obtain ⟨o, _, _, e, _⟩ := S.g
    have h1 := Heap.lt_size (G'.keep _ _ e)
    intro q
    have h2 : mainGlobals = 3 := rfl
    have h3 : sysModules = 1 := rfl
    rw [h2] at h1
    rw [h3] at q
    have h1' : (3 : Nat) < hp.objs.size := h1
    have q' : hp.objs.size + 1 = (1 : Nat) := q
    omega
  have G1 : Good S (put σ (hp.objs.size + 1) (.inst C [])) ((hp.push emptyDict).push (instObj C hp.objs.size)) :=
    G'.newI hn1 hn2 hs1 gt k ⟨hp.objs.size, [], 0, rfl, e1, e2, trivial⟩
  have none1 : σ (hp.objs.size + 1) = Option.none := by
    cases q : σ (hp.objs.size + 1) with
    | none => rfl
    | some o => exact absurd (fp_self q) (G'.free hn2)
  refine make_core (makes_of (S.KX.keeps G'.keep) hc.makes) (looks_findIn (S.KX.keeps G'.keep) hi) (fun self => bind_fn (S.KX.keeps G'.keep) self hf) (.inl rfl) ?_
  refine codeAny_mono (h (hp.objs.size + 1) none1 (G'.free hn2) (.ref (hp.objs.size + 1) :: raws) (by simp [hr]) _ ⟨_, g, dr, tk, os⟩ R.make G1) fun r s' ⟨v, σ', e, a, b, c, q⟩ => ?_
  subst e
  refine ⟨of_nrm_none c, _, σ', rfl, a, ?_, q⟩
  exact (Step.newI (s := ⟨hp, g, dr, tk, os⟩) (s' := ⟨_, g, dr, tk, os⟩) hn1 hn2 k rfl rfl).trans b
theorem CallV.make {C fI : Addr} {vs : List Value} (hc : ClsOk S C) (hi : findIn S.K (.ref C) "__init__" = some (some (.ref fI))) (hf : typeIn S.K (.ref fI) = some (.type "function"))
    (h : ∀ x, σ x = Option.none → ¬ fp σ x → CodeV S n (put σ x (.inst C [])) (.ref fI) (.ref x :: vs) (fun r σ' => r = .none ∧ Q (.ref x) σ')) : CallV S (n + 1) σ (.ref C) vs Q := CallV.of_code (CodeV.make hc hi hf h)

/-! # calling a def -/
theorem bindL_look (kind : Str → Option NameKind) : ∀ (binds : List (Str × Value)) (m : Str → Option Value) (x : Str), kind x = some .local → bindL kind binds m x = (binds.reverse.lookup x).or (m x)
  | [], m, x, _ => rfl
  | (k, v) :: r, m, x, hx => by
    unfold bindL
    rw [bindL_look kind r _ x hx, List.reverse_cons, List.lookup_append]
    by_cases hk : kind k = some .local
    · rw [if_pos hk]
      by_cases q : x = k
      · subst q; simp
      · have : (x == k) = false := beq_eq_false_iff_ne.mpr q
        simp [List.lookup_cons, this, q]
    · rw [if_neg hk]
      have q : x ≠ k := fun q => hk (q ▸ hx)
      have : (x == k) = false := beq_eq_false_iff_ne.mpr q
      simp [List.lookup_cons, this]
theorem bindC_look (kind : Str → Option NameKind) : ∀ (binds : List (Str × Value)) (m : Str → Option Value) (x : Str), kind x ≠ some .local → bindC kind binds m x = (binds.reverse.lookup x).or (m x)
  | [], m, x, _ => rfl
  | (k, v) :: r, m, x, hx => by
    unfold bindC
    rw [bindC_look kind r _ x hx, List.reverse_cons, List.lookup_append]
    by_cases hk : kind k = some .local
    · rw [if_pos hk]
      have q : x ≠ k := fun q => hx (q ▸ hk)
      have : (x == k) = false := beq_eq_false_iff_ne.mpr q
      simp [List.lookup_cons, this]
    · rw [if_neg hk]
      by_cases q : x = k
      · subst q; simp
      · have : (x == k) = false := beq_eq_false_iff_ne.mpr q
        simp [List.lookup_cons, this, q]
theorem lookup_zip_nrm (names : List Str) (raws : List Value) (x : Str) : ((names.zip raws).reverse.lookup x).map nrm = ((names.zip (raws.map nrm)).reverse.lookup x) := by
  have e : names.zip (raws.map nrm) = (names.zip raws).map (fun p => (p.1, nrm p.2)) := by
    rw [List.zip_map_right]; rfl
  rw [e, ← List.map_reverse]
  generalize (names.zip raws).reverse = l
  induction l with
  | nil => rfl
  | cons p r ih =>
    obtain ⟨k, v⟩ := p
    simp only [List.map_cons, List.lookup_cons]
    cases x == k <;> simp [ih]

structure FnAt (S : Stat) (f : Addr) (fd : FuncData) : Prop where
  look : ∃ oc od osl, S.K.lookup f = some ⟨oc, od, .func fd, osl⟩
  code : codeIn S.K fd.code fd.qualname = true
  clo : fd.closure = []
  glob : fd.globals = mainGlobals
  bl : fd.builtins = builtinsNs
def rho0 (names : List Str) (vs : List Value) : Str → Option Value := fun x => (names.zip vs).reverse.lookup x

theorem CodeV.ofDef {f : Addr} {fd : FuncData} {names : List Str} {vs : List Value} {body : List PySem.Stmt} (hf : FnAt S f fd) (hbody : fd.body = .stmts body)
    (hbind : ∀ raws : List Value, raws.length = vs.length → bindArgs fd ⟨raws, []⟩ = Pure.pure (names.zip raws))
    (hkind : ∀ x ∈ names, fd.scope.names.lookup x = some .local ∨ (fd.scope.names.lookup x = some .cell ∧ ∀ L, ((cellsFrom L fd.scope.names []).lookup x).isSome = true))
    (hcells : ∀ x ∈ (cellsFrom 0 fd.scope.names []).map (·.1), fd.scope.names.lookup x ≠ some .local)
    (h : ∀ L, Ts S n (callEnvC fd L f) (rho0 names vs) σ (execs body (callEnvC fd L f)) (fun fl _ σ' => Q (match fl with | .ret v => v | _ => .none) σ'))
    (hco : fd.scope.isCoroutine = false) (hgen : fd.scope.isGenerator = false) (hk : fd.scope.kind = .function) : CodeV S (n + 1) σ (.ref f) vs Q := fun raws hr A s R G => by
  obtain ⟨oc, od, osl, hl⟩ := hf.look
  have X := S.KX.keeps G.keep
  have hlen : raws.length = vs.length := by rw [← hr, List.length_map]
  have hroom : A.depth < recursionLimit := by have := R.2.1; show _ < 1000; omega
  refine codeAny_call_cells (fd := fd) (body := body) (binds := names.zip raws) hroom (X _ _ hl) rfl (S.lim.keeps G.keep) (codeRec_of X hf.code) hbody (hbind raws hlen) hf.clo (fun x hx => ?_) (fun s₁ I => ?_) hco hgen hk
  · rcases hkind x.1 (by obtain ⟨a, b⟩ := x; exact (List.of_mem_zip hx).1) with h | h
    · exact .inl h
    · exact .inr ⟨h.1, h.2 _⟩
  obtain ⟨⟨⟨h₁, tk, hs₁⟩, hns, hkeep, hfresh⟩, hcell, hap, hab⟩ := I
  subst hs₁
  dsimp only at hns hkeep hcell
  have hL : s.heap.get? s.heap.objs.size = Option.none := get?_size _
  have hge : ∀ c, s.heap.objs.size ≤ c → s.heap.get? c = Option.none := fun c hc => by
    cases e : s.heap.get? c with
    | none => rfl
    | some o => exact absurd (Heap.lt_size e) (Nat.not_lt.mpr hc)
  have hbase : ∀ c, s.heap.get? c = Option.none → S.base.get? c = Option.none := fun c hc => by
    cases e : S.base.get? c with
    | none => rfl
    | some o => rw [G.keep _ _ e] at hc; cases hc
  have F : FrOk S (callEnvC fd s.heap.objs.size f) h₁ σ (rho0 names vs) := by
    refine ⟨hk, hf.glob, hf.bl, ⟨_, hns, fun x hx => ?_⟩, G.free hL, hbase _ hL, fun x c e => ?_, hap, fun x hx => ?_⟩
    · rw [bindL_look _ _ _ _ hx, Option.or_none, lookup_zip_nrm, hr]; rfl
    · have hc := hab x c (mem_of_lookup e)
      have hcn : s.heap.get? c = Option.none := hge c (Nat.le_of_lt hc)
      refine ⟨⟨_, hcell x c e, ?_⟩, G.free hcn, hbase _ hcn, Nat.ne_of_gt hc⟩
      have hx : (callEnvC fd s.heap.objs.size f).kindOf x ≠ some .local := by
        refine hcells x ?_
        have := mem_of_lookup e
        have e1 := cellsFrom_names fd.scope.names (s.heap.objs.size + 1) 0 [] [] rfl
        rw [← e1]; exact List.mem_map_of_mem (f := Prod.fst) this
      rw [bindC_look _ _ _ _ hx, Option.or_none, lookup_zip_nrm, hr]; rfl
    · cases q : (callEnvC fd s.heap.objs.size f).cells.lookup x with
      | none => rfl
      | some c =>
        refine absurd hx (hcells x ?_)
        have := mem_of_lookup q
        have e1 := cellsFrom_names fd.scope.names (s.heap.objs.size + 1) 0 [] [] rfl
        rw [← e1]; exact List.mem_map_of_mem (f := Prod.fst) this
  refine wpAny_mono (h s.heap.objs.size (A.deeper _) _ R.deeper (G.grow hkeep) F) (fun fl s' ⟨σ', ρ', G', F', T', q⟩ => ?_) (fun _ _ x => x.elim)
  refine ⟨_, σ', rfl, G', ⟨fun b o hb e => ?_, fun b hb => ?_, T'.gens, T'.os⟩, ?_⟩
  · refine T'.keep b o hb (fun q => ?_) (fun x q => ?_) (hkeep b o e)
    · have : b < s.heap.objs.size := Heap.lt_size e
      exact absurd q (Nat.ne_of_lt this)
    · have h1 := hab x b (mem_of_lookup q)
      have : b < s.heap.objs.size := Heap.lt_size e
      exact absurd this (Nat.not_lt.mpr (Nat.le_of_lt h1))
  · rcases T'.own b hb with h | h
    · exact .inl h
    · right
      cases e : s.heap.get? b with
      | none => rfl
      | some o => rw [hkeep _ _ e] at h; cases h
  · cases fl <;> exact q
theorem CallV.ofDef {f : Addr} {vs : List Value} (h : CodeV S n σ (.ref f) vs Q) : CallV S n σ (.ref f) vs Q := CallV.of_code h
end

section
variable {S : Stat} {n : Nat} {env : Env} {ρ : Str → Option Value} {σ : AH} {Q : Value → AH → Prop} {pos : Pos}

theorem list_noInst {vs : List Value} : ∀ C at_, AObj.list vs ≠ .inst C at_ := fun _ _ e => by cases e
theorem dicti_noInst {vs : List (Int × Value)} : ∀ C at_, AObj.dicti vs ≠ .inst C at_ := fun _ _ e => by cases e
theorem dicts_noInst {vs : List (Str × Value)} : ∀ C at_, AObj.dicts vs ≠ .inst C at_ := fun _ _ e => by cases e
theorem sz_le {k : Nat} (h : k ≤ 100000) : k ≤ sizeLine := by rw [sizeLine_eq]; omega
theorem map1 {raws : List Value} {a : Value} (h : raws.map nrm = [a]) : ∃ u, raws = [u] ∧ nrm u = a := by
  match raws, h with
  | [u], h => exact ⟨u, rfl, by simpa using h⟩
theorem map2 {raws : List Value} {a b : Value} (h : raws.map nrm = [a, b]) : ∃ u v, raws = [u, v] ∧ nrm u = a ∧ nrm v = b := by
  match raws, h with
  | [u, v], h => exact ⟨u, v, rfl, by simpa using h⟩
theorem map3 {raws : List Value} {a b c : Value} (h : raws.map nrm = [a, b, c]) : ∃ u v w, raws = [u, v, w] ∧ nrm u = a ∧ nrm v = b ∧ nrm w = c := by
  match raws, h with
  | [u, v, w], h => exact ⟨u, v, w, rfl, by simpa using h⟩
theorem size_of_map {xs : Array Value} {vs : List Value} (h : xs.toList.map nrm = vs) : xs.size = vs.length := by rw [← h, List.length_map, Array.length_toList]
theorem item_of_map {xs : Array Value} {vs : List Value} {k : Nat} {v : Value} (h : xs.toList.map nrm = vs) (hv : vs[k]? = some v) : ∃ u, xs[k]? = some u ∧ nrm u = v := by
  rw [← h, List.getElem?_map] at hv
  obtain ⟨u, a, b⟩ := Option.map_eq_some_iff.mp hv
  exact ⟨u, by rw [← Array.getElem?_toList]; exact a, b⟩
theorem eraseIdx_map' (f : Value → Value) : ∀ (l : List Value) (k : Nat), (l.eraseIdx k).map f = (l.map f).eraseIdx k
  | [], k => by simp
  | a :: r, 0 => rfl
  | a :: r, k + 1 => by simp [List.eraseIdx_cons_succ, eraseIdx_map' f r k]
theorem asList {h : Heap} {a : Addr} {xs : Array Value} {k : Nat} (e : h.get? a = some (listOf xs k)) : h.IsList a xs := ⟨_, e, rfl, k, rfl⟩
theorem asTup {h : Heap} {a : Addr} {xs : Array Value} {k : Nat} (e : h.get? a = some (tupOf xs k)) : h.IsTuple a xs := ⟨_, e, rfl, k, rfl⟩

/-- a list of the abstract heap is changed in place -/
theorem setList {s s' : Shared} {l : Addr} {vs ws : List Value} {xs ys : Array Value} {k k' : Nat} (G : Good S σ s.heap) (hσ : σ l = some (.list vs)) (hx : s.heap.get? l = some (listOf xs k)) (f : Array Value → Array Value)
    (hs : s'.heap = s.heap.update l (Obj.mapSeq f)) (hf : (f xs).toList.map nrm = ws) (hg : s'.gens = s.gens) (hos : s'.os = s.os) : Good S (put σ l (.list ws)) s'.heap ∧ Step σ s (put σ l (.list ws)) s' := by
  have hb : Heap.SameBut l s.heap s'.heap := by rw [hs]; exact Heap.SameBut.update ..
  refine ⟨G.set1 hσ list_noInst list_noInst hb ⟨f xs, if (f xs).size == xs.size then k else k + 1, ?_, hf⟩, Step.set1 hσ list_noInst hb hg hos⟩
  rw [hs, Heap.get?_update_self _ hx rfl]; rfl

/-! # lists -/
theorem CallV.len {l : Addr} {vs : List Value} (hσ : σ l = some (.list vs)) (hl : vs.length ≤ 100000) (h : Q (VI vs.length) σ) : CallV S n σ (.builtin "len") [.ref l] Q := fun raws hr A s R G => by
  obtain ⟨u, rfl, hu⟩ := map1 hr
  cases of_nrm_ref hu
  obtain ⟨xs, k, hx, hv⟩ := G.lst hσ
  have hz := size_of_map hv
  refine call_len_list (asList hx) (by rw [hz]; omega) ⟨σ, G, .same fun _ _ e => e, ?_⟩
  rw [nrm_int, hz]; exact h
theorem CallV.append {l : Addr} {vs : List Value} {v : Value} (hσ : σ l = some (.list vs)) (hl : vs.length ≤ 100000) (h : Q .none (put σ l (.list (vs ++ [v])))) : CallV S n σ (.builtin "list.append") [.ref l, v] Q := fun raws hr A s R G => by
  obtain ⟨u, w, rfl, hu, hw⟩ := map2 hr
  cases of_nrm_ref hu
  obtain ⟨xs, k, hx, hv⟩ := G.lst hσ
  have hz := size_of_map hv
  refine call_meets PySem.F.slot_list_append ⟨_, hx, rfl⟩ PySem.F.entry_list_append (PySem.F.args_list_append_2 _ _) (list_append l xs k w (by rw [hz]; exact sz_le hl)) ⟨hx, ?_⟩
  obtain ⟨g1, g2⟩ := setList (s' := { s with heap := s.heap.update l (Obj.mapSeq fun x => x.push w), toks := s.toks }) (ys := xs) (k' := 0) G hσ hx (fun x => x.push w) rfl (by simp [hv, hw]; rfl) rfl rfl
  exact ⟨_, g1, g2, h⟩
theorem CallV.popLast {l : Addr} {vs : List Value} {v : Value} (hσ : σ l = some (.list (vs ++ [v]))) (hl : vs.length ≤ 90000) (h : Q v (put σ l (.list vs))) : CallV S n σ (.builtin "list.pop") [.ref l] Q := fun raws hr A s R G => by
  obtain ⟨u, rfl, hu⟩ := map1 hr
  cases of_nrm_ref hu
  obtain ⟨xs, k, hx, hv⟩ := G.lst hσ
  have hz := size_of_map hv
  rw [List.length_append, List.length_singleton] at hz
  obtain ⟨y, hy, hyn⟩ := item_of_map (k := xs.size - 1) (v := v) hv (by rw [hz]; simp)
  refine call_meets PySem.F.slot_list_pop ⟨_, hx, rfl⟩ PySem.F.entry_list_pop (PySem.F.args_list_pop_1 _) (MeetsSeq.list_pop_last l xs k y hy (sz_le (by omega))) ⟨hx, ?_⟩
  obtain ⟨g1, g2⟩ := setList (s' := { s with heap := s.heap.update l (Obj.mapSeq fun x => x.eraseIdxIfInBounds (xs.size - 1)) }) (ws := vs) (ys := xs) (k' := 0) G hσ hx (fun x => x.eraseIdxIfInBounds (xs.size - 1)) rfl (by
    rw [Array.toList_eraseIdxIfInBounds, eraseIdx_map', hv, hz]; simp [List.eraseIdx_append_of_length_le]) rfl rfl
  exact ⟨_, g1, g2, hyn ▸ h⟩
theorem CallV.popFirst {l : Addr} {vs : List Value} {v : Value} (hσ : σ l = some (.list (v :: vs))) (hl : vs.length ≤ 90000) (h : Q v (put σ l (.list vs))) : CallV S n σ (.builtin "list.pop") [.ref l, VI 0] Q := fun raws hr A s R G => by
  obtain ⟨u, w, rfl, hu, hw⟩ := map2 hr
  cases of_nrm_ref hu
  obtain ⟨t, rfl⟩ := of_nrm_int hw
  obtain ⟨xs, k, hx, hv⟩ := G.lst hσ
  have hz := size_of_map hv
  rw [List.length_cons] at hz
  obtain ⟨y, hy, hyn⟩ := item_of_map (k := 0) (v := v) hv rfl
  refine call_meets PySem.F.slot_list_pop ⟨_, hx, rfl⟩ PySem.F.entry_list_pop (PySem.F.args_list_pop_2 _ _) (MeetsSeq.list_pop_at l xs k 0 t 0 y (by decide) (by unfold seqIndex?; rw [hz]; simp) hy (sz_le (by omega))) ⟨hx, ?_⟩
  obtain ⟨g1, g2⟩ := setList (s' := { s with heap := s.heap.update l (Obj.mapSeq fun x => x.eraseIdxIfInBounds 0) }) (ws := vs) (ys := xs) (k' := 0) G hσ hx (fun x => x.eraseIdxIfInBounds 0) rfl (by
    rw [Array.toList_eraseIdxIfInBounds, eraseIdx_map', hv]; rfl) rfl rfl
  exact ⟨_, g1, g2, hyn ▸ h⟩
theorem CallV.extend {l b : Addr} {vs ws : List Value} (hσ : σ l = some (.list vs)) (hb : σ b = some (.list ws)) (hl : vs.length + ws.length ≤ 90000) (h : Q .none (put σ l (.list (vs ++ ws)))) : CallV S n σ (.builtin "list.extend") [.ref l, .ref b] Q := fun raws hr A s R G => by
  obtain ⟨u, w, rfl, hu, hw⟩ := map2 hr
  cases of_nrm_ref hu
  cases of_nrm_ref hw
  obtain ⟨xs, k, hx, hv⟩ := G.lst hσ
  obtain ⟨ys, k2, hy, hv2⟩ := G.lst hb
  have hz := size_of_map hv
  have hz2 := size_of_map hv2
  refine call_meets PySem.F.slot_list_extend ⟨_, hx, rfl⟩ PySem.F.entry_list_extend (PySem.F.args_list_extend_2 _ _) (AutoSeq1.list_extend_list_list_0 l xs k b ys k2 (extend_door (sz_le (by omega))) (sz_le (by omega)) (by have := @sz_le (xs.size + ys.size) (by omega); omega)) ⟨hx, hy, ?_⟩
  obtain ⟨g1, g2⟩ := setList (s' := { s with heap := s.heap.update l (Obj.mapSeq fun x => x ++ ys), toks := s.toks }) (ws := vs ++ ws) (ys := xs) (k' := 0) G hσ hx (fun x => x ++ ys) rfl (by simp [hv, hv2]) rfl rfl
  exact ⟨_, g1, g2, h⟩
theorem Bin.addList {l b : Addr} {vs ws : List Value} (hσ : σ l = some (.list vs)) (hb : σ b = some (.list ws)) (hl : vs.length + ws.length ≤ 90000) (h : ∀ a, ¬ fp σ a → Q (.ref a) (put σ a (.list (vs ++ ws)))) : Bin S n σ .Add (.ref l) (.ref b) Q := fun u w hu hw A s R G => by
  cases of_nrm_ref hu
  cases of_nrm_ref hw
  obtain ⟨xs, k, hx, hv⟩ := G.lst hσ
  obtain ⟨ys, k2, hy, hv2⟩ := G.lst hb
  have hz := size_of_map hv
  have hz2 := size_of_map hv2
  refine PySem.P.add_list hx hy ?_ (sz_le (by omega))
  have hn := get?_size s.heap
  have hk : ∀ c x, s.heap.get? c = some x → (s.heap.push { cls := .type "list", data := .seq (xs ++ ys) }).get? c = some x := fun c x e => Heap.get?_push_of_some _ e
  exact ⟨_, G.new1 list_noInst hn G.size_ne hk ⟨xs ++ ys, 0, Heap.get?_push_size _ rfl, by simp [hv, hv2]⟩, Step.new1 list_noInst hn hk rfl rfl, h _ (G.free hn)⟩

/-! # items -/
def SubV (S : Stat) (n : Nat) (σ : AH) (slice : PySem.Expr) (ov iv : Value) (Q : Value → AH → Prop) : Prop := ∀ (value : PySem.Expr) u w, nrm u = ov → nrm w = iv → Pr S n σ nrm (subscriptTail value slice u w) Q
theorem Ev.sub {o i : PySem.Expr} (h : Ev S n env ρ σ o (fun ov σ₁ => Ev S n env ρ σ₁ i (fun iv σ₂ => SubV S n σ₂ i ov iv Q))) : Ev S n env ρ σ (.Subscript o i pos) Q := fun A s R G F =>
  Subscript_ (wpAny_mono (h A s R G F) (fun u s₁ ⟨σ₁, G₁, T₁, h₁⟩ => wpAny_mono (h₁ A s₁ R G₁ (F.step T₁)) (fun w s₂ ⟨σ₂, G₂, T₂, h₂⟩ =>
    wpAny_mono (h₂ o u w rfl rfl A s₂ R G₂) (fun v s₃ ⟨σ₃, G₃, T₃, q⟩ => ⟨σ₃, G₃, (T₁.trans T₂).trans T₃, q⟩) fun _ _ x => x) fun _ _ x => x) fun _ _ x => x)
def NoSlice (slice : PySem.Expr) : Prop := ∀ o i : Value, ∃ ops, subscripted slice false o i = PySem.operate ops (getItem o i)
theorem SubV.list {slice : PySem.Expr} {l : Addr} {vs : List Value} {k : Nat} {v : Value} (hσ : σ l = some (.list vs)) (hv : vs[k]? = some v) (hl : vs.length ≤ 100000) (h : Q v σ) (hs : NoSlice slice) : SubV S n σ slice (.ref l) (VI k) Q := fun value u w hu hw A s R G => by
  cases of_nrm_ref hu
  obtain ⟨t, rfl⟩ := of_nrm_int hw
  obtain ⟨xs, c, hx, hm⟩ := G.lst hσ
  obtain ⟨y, hy, rfl⟩ := item_of_map hm hv
  obtain ⟨ops, hs⟩ := hs (.ref l) (.int k t)
  have hk : k < vs.length := by
    have := List.getElem?_eq_some_iff.mp hv
    exact this.1
  exact tail_any ⟨_, hx, rfl⟩ slot_list_getitem.lookup (wpAny_getItem_list (asList hx) (Int.natCast_nonneg k) (by omega) (by simpa using hy) ⟨σ, G, .refl, h⟩) hs
theorem SubV.last {slice : PySem.Expr} {l : Addr} {vs : List Value} {v : Value} (hσ : σ l = some (.list (vs ++ [v]))) (hl : vs.length ≤ 90000) (h : Q v σ) (hs : NoSlice slice) : SubV S n σ slice (.ref l) (VI (-1)) Q := fun value u w hu hw A s R G => by
  cases of_nrm_ref hu
  obtain ⟨t, rfl⟩ := of_nrm_int hw
  obtain ⟨xs, c, hx, hm⟩ := G.lst hσ
  have hz := size_of_map hm
  rw [List.length_append, List.length_singleton] at hz
  obtain ⟨y, hy, rfl⟩ := item_of_map (k := vs.length) (v := v) hm (by simp)
  obtain ⟨ops, hs⟩ := hs (.ref l) (.int (-1) t)
  refine tail_any ⟨_, hx, rfl⟩ slot_list_getitem.lookup (wpAny_getItem_list_neg (asList hx) (by decide) (by omega) (by decide) ?_ ⟨σ, G, .refl, h⟩) hs
  rw [show (-1 + (xs.size : Int)).toNat = vs.length by omega]; exact hy
theorem SubV.tup {slice : PySem.Expr} {l : Addr} {vs : List Value} {k : Nat} {v : Value} (hσ : σ l = some (.tuple vs)) (hv : vs[k]? = some v) (hl : vs.length ≤ 100000) (h : Q v σ) (hs : NoSlice slice) : SubV S n σ slice (.ref l) (VI k) Q := fun value u w hu hw A s R G => by
  cases of_nrm_ref hu
  obtain ⟨t, rfl⟩ := of_nrm_int hw
  obtain ⟨xs, c, hx, hm⟩ := G.tup hσ
  obtain ⟨y, hy, rfl⟩ := item_of_map hm hv
  have hz := size_of_map hm
  obtain ⟨ops, hs⟩ := hs (.ref l) (.int k t)
  have hk : k < vs.length := (List.getElem?_eq_some_iff.mp hv).1
  refine tail_any ⟨_, hx, rfl⟩ slot_tuple_getitem.lookup (getItem_tuple (j := k) ⟨_, hx, rfl, c, rfl⟩ (by omega) (by omega) ?_ hy ⟨σ, G, .refl, h⟩) hs
  unfold seqIndex?
  have : ¬ (k : Int) < 0 := by omega
  simp [this]; omega
theorem valueAt_map {raw : List (Int × Value)} {kvs : List (Int × Value)} (hr : raw.map (fun p => (p.1, nrm p.2)) = kvs) (k : Int) : (valueAt raw k).map nrm = valueAt kvs k := by
  subst hr
  unfold valueAt
  induction raw with
  | nil => rfl
  | cons p r ih =>
    rw [List.map_cons, List.find?_cons, List.find?_cons]
    by_cases q : p.1 = k
    · simp [q]
    · simp only [q, decide_false]; exact ih
theorem isInt_self {i : Int} {t : Tok} : (intKind S.prog S.w).is i (.int i t) = true := by show Value.isInt i (.int i t) = true; simp [Value.isInt]
theorem SubV.dicti {slice : PySem.Expr} {d : Addr} {kvs : List (Int × Value)} {k : Int} {v : Value} (hσ : σ d = some (.dicti kvs)) (hv : valueAt kvs k = some v) (h : Q v σ) (hs : NoSlice slice) : SubV S n σ slice (.ref d) (VI k) Q := fun value u w hu hw A s R G => by
  cases of_nrm_ref hu
  obtain ⟨t, rfl⟩ := of_nrm_int hw
  obtain ⟨raw, hx, hm⟩ := G.dicti hσ
  rw [← valueAt_map hm] at hv
  obtain ⟨y, hy, rfl⟩ := Option.map_eq_some_iff.mp hv
  obtain ⟨ops, hs⟩ := hs (.ref d) (.int k t)
  exact tail_any hx.typeIs slot_dict_getitem.lookup (wpAny_getItem_of isInt_self hx.mapOf hy ⟨σ, G, .same fun _ _ e => e, h⟩) hs
theorem SetI.list {l : Addr} {vs : List Value} {k : Nat} {v : Value} {Q : AH → Prop} (hσ : σ l = some (.list vs)) (hk : k < vs.length) (hl : vs.length ≤ 100000) (h : Q (put σ l (.list (vs.set k (nrm v))))) : SetI S n σ (.ref l) (VI k) v Q := fun u w hu hw A s R G => by
  cases of_nrm_ref hu
  obtain ⟨t, rfl⟩ := of_nrm_int hw
  obtain ⟨xs, c, hx, hm⟩ := G.lst hσ
  have hz := size_of_map hm
  refine ki_setAt hx (Int.natCast_nonneg k) (by omega) (by omega) ?_
  obtain ⟨g1, g2⟩ := setList (s' := { s with heap := s.heap.update l (Obj.mapSeq fun x => x.setIfInBounds (k : Int).toNat v) }) (ws := vs.set k (nrm v)) (ys := xs) (k' := 0) G hσ hx (fun x => x.setIfInBounds (k : Int).toNat v) rfl (by
    rw [Int.toNat_natCast, Array.toList_setIfInBounds, List.map_set, hm]) rfl rfl
  exact ⟨_, g1, g2, h⟩
theorem stored_map {raw kvs : List (Int × Value)} (hr : raw.map (fun p => (p.1, nrm p.2)) = kvs) (k : Int) (v : Value) : (stored raw k v).map (fun p => (p.1, nrm p.2)) = stored kvs k (nrm v) := by
  subst hr
  unfold stored
  have e : ((raw.map fun p => (p.1, nrm p.2)).any fun kv => decide (kv.1 = k)) = raw.any fun kv => decide (kv.1 = k) := by
    rw [List.any_map]; rfl
  rw [e]
  split
  · rw [List.map_map, List.map_map]
    apply List.map_congr_left
    intro p hp
    by_cases q : p.1 = k <;> simp [q]
  · simp
theorem SetI.dicti {d : Addr} {kvs : List (Int × Value)} {k : Int} {v : Value} {Q : AH → Prop} (hσ : σ d = some (.dicti kvs)) (hl : kvs.length ≤ 100000) (h : Q (put σ d (.dicti (stored kvs k (nrm v))))) : SetI S n σ (.ref d) (VI k) v Q := fun u w hu hw A s R G => by
  cases of_nrm_ref hu
  obtain ⟨t, rfl⟩ := of_nrm_int hw
  obtain ⟨raw, hx, hm⟩ := G.dicti hσ
  refine wpAny_setItem_pairs isInt_self hx (fun h' hd' hs => ?_) (by have := congrArg List.length hm; rw [List.length_map] at this; rw [this]; exact sz_le hl)
  exact ⟨_, G.set1 hσ dicti_noInst dicti_noInst hs ⟨_, hd', stored_map hm k v⟩, Step.set1 hσ dicti_noInst hs rfl rfl, h⟩
end

section
variable {S : Stat} {n : Nat} {env : Env} {ρ : Str → Option Value} {σ : AH} {Q : Value → AH → Prop} {pos : Pos}
theorem obj_noInst {o : Obj} : ∀ C at_, AObj.obj o ≠ .inst C at_ := fun _ _ e => by cases e
theorem tuple_noInst {vs : List Value} : ∀ C at_, AObj.tuple vs ≠ .inst C at_ := fun _ _ e => by cases e
theorem Room.line {A : Around} (R : Room n A) : A.units < cLine := by have := R.2.2; show _ < 9900; omega
theorem Room.line1 {A : Around} (R : Room n A) : A.in1.units < cLine := by have := R.2.2; show _ + 1 < 9900; omega
theorem Room.line64 {A : Around} (R : Room n A) : A.units + 64 < cLine := by have := R.2.2; show _ < 9900; omega

/-! # arithmetic, comparison -/
theorem Bin.add {a b : Int} (h : Q (VI (a + b)) σ) : Bin S n σ .Add (VI a) (VI b) Q := fun u v hu hv A s R G => by
  obtain ⟨t, rfl⟩ := of_nrm_int hu; obtain ⟨t', rfl⟩ := of_nrm_int hv
  exact PyProof.Rows.add_int ⟨σ, G, .same fun _ _ e => e, h⟩
theorem Bin.subI {a b : Int} (h : Q (VI (a - b)) σ) : Bin S n σ .Sub (VI a) (VI b) Q := fun u v hu hv A s R G => by
  obtain ⟨t, rfl⟩ := of_nrm_int hu; obtain ⟨t', rfl⟩ := of_nrm_int hv
  exact PyProof.Rows.sub_int ⟨σ, G, .same fun _ _ e => e, h⟩
theorem Bin.mod {a b : Int} (hb : b ≠ 0) (h : Q (VI (a.fmod b)) σ) : Bin S n σ .Mod (VI a) (VI b) Q := fun u v hu hv A s R G => by
  obtain ⟨t, rfl⟩ := of_nrm_int hu; obtain ⟨t', rfl⟩ := of_nrm_int hv
  exact PyProof.Rows.mod_int hb ⟨σ, G, .same fun _ _ e => e, h⟩
theorem Cmp.eqI {a b : Int} (h : Q (.bool (a == b)) σ) : Cmp S n σ .Eq (VI a) (VI b) Q := fun u v hu hv A s R G => by
  obtain ⟨t, rfl⟩ := of_nrm_int hu; obtain ⟨t', rfl⟩ := of_nrm_int hv
  exact PyProof.Rows.eq_int ⟨σ, G, .refl, h⟩
theorem Cmp.neI {a b : Int} (h : Q (.bool (a != b)) σ) : Cmp S n σ .NotEq (VI a) (VI b) Q := fun u v hu hv A s R G => by
  obtain ⟨t, rfl⟩ := of_nrm_int hu; obtain ⟨t', rfl⟩ := of_nrm_int hv
  exact PyProof.Rows.ne_int ⟨σ, G, .refl, h⟩
theorem Cmp.ltI {a b : Int} (h : Q (.bool (decide (a < b))) σ) : Cmp S n σ .Lt (VI a) (VI b) Q := fun u v hu hv A s R G => by
  obtain ⟨t, rfl⟩ := of_nrm_int hu; obtain ⟨t', rfl⟩ := of_nrm_int hv
  exact PyProof.Rows.lt_int ⟨σ, G, .refl, h⟩
theorem Cmp.geI {a b : Int} (h : Q (.bool (decide (b ≤ a))) σ) : Cmp S n σ .GtE (VI a) (VI b) Q := fun u v hu hv A s R G => by
  obtain ⟨t, rfl⟩ := of_nrm_int hu; obtain ⟨t', rfl⟩ := of_nrm_int hv
  exact PyProof.Rows.ge_int ⟨σ, G, .refl, h⟩
theorem Cmp.eqS {a b : Str} (h : Q (.bool (a == b)) σ) : Cmp S n σ .Eq (VS a) (VS b) Q := fun u v hu hv A s R G => by
  obtain ⟨t, rfl⟩ := of_nrm_str hu; obtain ⟨t', rfl⟩ := of_nrm_str hv
  exact PyProof.Rows.eq_str ⟨σ, G, .refl, h⟩
theorem Cmp.neB {a b : Bool} (h : Q (.bool (!(a == b))) σ) : Cmp S n σ .NotEq (.bool a) (.bool b) Q := fun u v hu hv A s R G => by
  cases of_nrm_bool hu; cases of_nrm_bool hv
  exact cmp_ofNotEq (SeqAt.RcNeAt.bool_bool a b _ _ _ _ ⟨σ, G, .refl, h⟩)

/-! # the same thing? -/
theorem nrm_beq_none (v : Value) : (v == Value.none) = (nrm v == Value.none) := by cases v <;> rfl
theorem Cmp.isNone {v : Value} (h : Q (.bool (v == Value.none)) σ) : Cmp S n σ .Is v .none Q := fun u w hu hw A s R G => by
  cases of_nrm_none hw
  exact PySem.is_none ⟨σ, G, .refl, by rw [nrm_bool, nrm_beq_none, hu]; exact h⟩
theorem Cmp.isNotNone {v : Value} (h : Q (.bool (!(v == Value.none))) σ) : Cmp S n σ .IsNot v .none Q := fun u w hu hw A s R G => by
  cases of_nrm_none hw
  exact PySem.isNot_none ⟨σ, G, .refl, by rw [nrm_bool, nrm_beq_none, hu]; exact h⟩
theorem Good.notTup {h : Heap} {a : Addr} {C : Addr} {at_} (G : Good S σ h) (hσ : σ a = some (.inst C at_)) : ∃ o, h.get? a = some o ∧ o.cls ≠ .type "tuple" := by
  obtain ⟨d, es, k, e, e1, _⟩ := G.rep _ _ hσ
  exact ⟨_, e1, by intro q; cases q⟩
theorem isSame_inst {a b : Addr} {C D : Addr} {at_ bt} {A : Around} {s : Shared} {T : Bool → Shared → Prop} (G : Good S σ s.heap) (ha : σ a = some (.inst C at_)) (hb : σ b = some (.inst D bt)) (h : T (a == b) s) : wpAny (model S.prog S.w) A (isSame (.ref a) (.ref b)) T NoE s := by
  by_cases q : a = b
  · subst q; rw [beq_self_eq_true] at h; exact wpAny_isSame_ref_self h
  · obtain ⟨oa, e1, e2⟩ := G.notTup ha
    obtain ⟨ob, e3, e4⟩ := G.notTup hb
    rw [beq_eq_false_iff_ne.mpr q] at h
    exact wpAny_isSame_ref_other q e1 e3 e2 h
theorem Cmp.isRef {a b C D : Addr} {at_ bt} (ha : σ a = some (.inst C at_)) (hb : σ b = some (.inst D bt)) (h : Q (.bool (a == b)) σ) : Cmp S n σ .Is (.ref a) (.ref b) Q := fun u v hu hv A s R G => by
  cases of_nrm_ref hu; cases of_nrm_ref hv
  show wpAny _ A (do return Value.bool (← isSame (.ref a) (.ref b))) _ _ s
  exact wpAny_bind (isSame_inst G ha hb (wpAny_pure ⟨σ, G, .refl, h⟩))
theorem Cmp.isNotRef {a b C D : Addr} {at_ bt} (ha : σ a = some (.inst C at_)) (hb : σ b = some (.inst D bt)) (h : Q (.bool (!(a == b))) σ) : Cmp S n σ .IsNot (.ref a) (.ref b) Q := fun u v hu hv A s R G => by
  cases of_nrm_ref hu; cases of_nrm_ref hv
  show wpAny _ A (do return Value.bool (!(← isSame (.ref a) (.ref b)))) _ _ s
  exact wpAny_bind (isSame_inst G ha hb (wpAny_pure ⟨σ, G, .refl, h⟩))

/-! # membership -/
theorem any_of_map {xs : Array Value} {vs : List Value} (h : xs.toList.map nrm = vs) (e : Value → Bool) (he : ∀ v, e (nrm v) = e v) : xs.any e = vs.any e := by
  rw [← h, ← Array.any_toList, List.any_map]
  congr 1
  funext v
  exact (he v).symm
def isS (x : Str) : Value → Bool
  | .str y _ => y == x
  | _ => false
def isB (x : Bool) : Value → Bool
  | .bool y => y == x
  | _ => false
theorem Cmp.inTup {t : Addr} {x : Str} {vs : List Value} (hσ : σ t = some (.tuple vs)) (hs : ∀ v ∈ vs, ∃ y, v = VS y) (h : Q (.bool (vs.any (isS x))) σ) : Cmp S n σ .In (VS x) (.ref t) Q := fun u v hu hv A s R G => by
  obtain ⟨tk, rfl⟩ := of_nrm_str hu; cases of_nrm_ref hv
  obtain ⟨xs, c, hx, hm⟩ := G.tup hσ
  refine SeqAt.in_tupleAt (isS x) (asTup hx) (fun y hy => ?_) ⟨σ, G, .refl, by rw [nrm_bool, any_of_map hm (isS x) (fun v => by cases v <;> rfl)]; exact h⟩
  obtain ⟨z, hz⟩ := hs (nrm y) (by rw [← hm]; exact List.mem_map_of_mem (by simpa using hy))
  obtain ⟨t', rfl⟩ := of_nrm_str hz
  exact SeqAt.EqAt.str_str _ _ _ _
theorem Cmp.inListS {t : Addr} {x : Str} {vs : List Value} (hσ : σ t = some (.list vs)) (hs : ∀ v ∈ vs, ∃ y, v = VS y) (h : Q (.bool (vs.any (isS x))) σ) : Cmp S n σ .In (VS x) (.ref t) Q := fun u v hu hv A s R G => by
  obtain ⟨tk, rfl⟩ := of_nrm_str hu; cases of_nrm_ref hv
  obtain ⟨xs, c, hx, hm⟩ := G.lst hσ
  refine SeqAt.in_listAt (isS x) (asList hx) (fun y hy => ?_) ⟨σ, G, .refl, by rw [nrm_bool, any_of_map hm (isS x) (fun v => by cases v <;> rfl)]; exact h⟩
  obtain ⟨z, hz⟩ := hs (nrm y) (by rw [← hm]; exact List.mem_map_of_mem (by simpa using hy))
  obtain ⟨t', rfl⟩ := of_nrm_str hz
  exact SeqAt.EqAt.str_str _ _ _ _
theorem Cmp.inListB {t : Addr} {x : Bool} {vs : List Value} (hσ : σ t = some (.list vs)) (hs : ∀ v ∈ vs, ∃ y, v = .bool y) (h : Q (.bool (vs.any (isB x))) σ) : Cmp S n σ .In (.bool x) (.ref t) Q := fun u v hu hv A s R G => by
  cases of_nrm_bool hu; cases of_nrm_ref hv
  obtain ⟨xs, c, hx, hm⟩ := G.lst hσ
  refine SeqAt.in_listAt (isB x) (asList hx) (fun y hy => ?_) ⟨σ, G, .refl, by rw [nrm_bool, any_of_map hm (isB x) (fun v => by cases v <;> rfl)]; exact h⟩
  obtain ⟨z, hz⟩ := hs (nrm y) (by rw [← hm]; exact List.mem_map_of_mem (by simpa using hy))
  cases of_nrm_bool hz
  exact SeqAt.EqAt.bool_bool _ _
theorem notSys {a : Addr} {h : Heap} {o : AObj} (G : Good S σ h) (hσ : σ a = some o) : (a == sysModules) = false := beq_eq_false_iff_ne.mpr (G.new a (fp_self hσ)).2
theorem Cmp.inDict {d : Addr} {k : Int} {kvs : List (Int × Value)} (hσ : σ d = some (.dicti kvs)) (h : Q (.bool (valueAt kvs k).isSome) σ) : Cmp S n σ .In (VI k) (.ref d) Q := fun u v hu hv A s R G => by
  obtain ⟨tk, rfl⟩ := of_nrm_int hu; cases of_nrm_ref hv
  obtain ⟨raw, hx, hm⟩ := G.dicti hσ
  refine wpAny_in_of isInt_self (notSys G hσ) hx.mapOf ⟨σ, G, .same fun _ _ e => e, ?_⟩
  rw [← valueAt_map hm, Option.isSome_map] at h
  exact h
theorem Cmp.notInDict {d : Addr} {k : Int} {kvs : List (Int × Value)} (hσ : σ d = some (.dicti kvs)) (h : Q (.bool (!(valueAt kvs k).isSome)) σ) : Cmp S n σ .NotIn (VI k) (.ref d) Q := fun u v hu hv A s R G => by
  obtain ⟨tk, rfl⟩ := of_nrm_int hu; cases of_nrm_ref hv
  obtain ⟨raw, hx, hm⟩ := G.dicti hσ
  refine wpAny_notIn_of isInt_self (notSys G hσ) hx.mapOf ⟨σ, G, .same fun _ _ e => e, ?_⟩
  rw [← valueAt_map hm, Option.isSome_map] at h
  exact h

/-! # lists compared -/
theorem Cmp.eqNil {a b : Addr} {vs : List Value} (ha : σ a = some (.list vs)) (hb : σ b = some (.list [])) (h : Q (.bool vs.isEmpty) σ) : Cmp S n σ .Eq (.ref a) (.ref b) Q := fun u v hu hv A s R G => by
  cases of_nrm_ref hu; cases of_nrm_ref hv
  obtain ⟨xs, c, hx, hm⟩ := G.lst ha
  obtain ⟨ys, c2, hy, hm2⟩ := G.lst hb
  have z1 := size_of_map hm
  have z2 := size_of_map hm2
  cases vs with
  | nil =>
    refine SeqAt.eq_listAt (e := fun _ => true) (asList hx) (asList hy) (by rw [z1, z2]) R.line (fun j h1 => absurd h1 (by rw [z1]; exact Nat.not_lt_zero _)) ⟨σ, G, .refl, ?_⟩
    rw [z1]; exact h
  | cons v r => exact SeqAt.eq_list_lengthsAt (asList hx) (asList hy) (by rw [z1, z2]; rfl) R.line ⟨σ, G, .refl, h⟩
theorem Cmp.neNil {a b : Addr} {vs : List Value} (ha : σ a = some (.list vs)) (hb : σ b = some (.list [])) (h : Q (.bool (!vs.isEmpty)) σ) : Cmp S n σ .NotEq (.ref a) (.ref b) Q := fun u v hu hv A s R G => by
  cases of_nrm_ref hu; cases of_nrm_ref hv
  obtain ⟨xs, c, hx, hm⟩ := G.lst ha
  obtain ⟨ys, c2, hy, hm2⟩ := G.lst hb
  have z1 := size_of_map hm
  have z2 := size_of_map hm2
  cases vs with
  | nil =>
    refine cmp_ofNotEq (SeqAt.RcNeAt.lists (e := fun _ => true) (asList hx) (asList hy) (by rw [z1, z2]) R.line (fun j h1 => absurd h1 (by rw [z1]; exact Nat.not_lt_zero _)) _ _ _ _ ⟨σ, G, .refl, ?_⟩)
    rw [z1]; exact h
  | cons v r => exact cmp_ofNotEq (SeqAt.RcNeAt.lists_lengths (asList hx) (asList hy) (by rw [z1, z2]; rfl) R.line _ _ _ _ ⟨σ, G, .refl, h⟩)
theorem intsAre_of : ∀ {xs : List Value} {ns : List Int}, xs.map nrm = ns.map VI → IntsAre xs ns
  | [], [], _ => .nil
  | x :: xs, k :: ks, h => by
    simp only [List.map_cons, List.cons.injEq] at h
    obtain ⟨t, rfl⟩ := of_nrm_int h.1
    exact .cons _ t (intsAre_of h.2)
  | [], k :: ks, h => by simp at h
  | x :: xs, [], h => by simp at h
theorem Cmp.eqInts {a b : Addr} {ns ms : List Int} (ha : σ a = some (.list (ns.map VI))) (hb : σ b = some (.list (ms.map VI))) (h : Q (.bool (decide (ns = ms))) σ) : Cmp S n σ .Eq (.ref a) (.ref b) Q := fun u v hu hv A s R G => by
  cases of_nrm_ref hu; cases of_nrm_ref hv
  obtain ⟨xs, c, hx, hm⟩ := G.lst ha
  obtain ⟨ys, c2, hy, hm2⟩ := G.lst hb
  exact eq_intsK (asList (by rw [Array.toArray_toList]; exact hx)) (intsAre_of hm) (asList (by rw [Array.toArray_toList]; exact hy)) (intsAre_of hm2) R.line64 ⟨σ, G, .refl, h⟩
theorem Cmp.neInts {a b : Addr} {ns ms : List Int} (ha : σ a = some (.list (ns.map VI))) (hb : σ b = some (.list (ms.map VI))) (h : Q (.bool (!decide (ns = ms))) σ) : Cmp S n σ .NotEq (.ref a) (.ref b) Q := fun u v hu hv A s R G => by
  cases of_nrm_ref hu; cases of_nrm_ref hv
  obtain ⟨xs, c, hx, hm⟩ := G.lst ha
  obtain ⟨ys, c2, hy, hm2⟩ := G.lst hb
  exact ne_intsK (asList (by rw [Array.toArray_toList]; exact hx)) (intsAre_of hm) (asList (by rw [Array.toArray_toList]; exact hy)) (intsAre_of hm2) R.line64 ⟨σ, G, .refl, h⟩

/-! # isinstance -/
theorem CallV.isiInt {i : Int} {c : Value} {b : Bool} (hc : (∃ a, c = .ref a) ∨ (∃ i, c = .builtin i) ∨ ∃ t, c = .type t) (e : kitOne S.K (.type "int") c = some b) (h : Q (.bool b) σ) : CallV S n σ (.builtin "isinstance") [VI i, c] Q := fun raws hr A s R G => by
  obtain ⟨u, w, rfl, hu, hw⟩ := map2 hr
  obtain ⟨t, rfl⟩ := of_nrm_int hu
  cases of_plain_callee (S := S) hw hc
  exact kia_one (H := fun _ => True) kitx_int (S.KX.keeps G.keep) trivial e (by intro q; cases q) fun tk => ⟨σ, G, .same fun _ _ e => e, h⟩
theorem CallV.isiInst {a D : Addr} {at_ : List (Str × Value)} {c : Value} {b : Bool} (hσ : σ a = some (.inst D at_)) (hD : ClsOk S D) (hc : (∃ a, c = .ref a) ∨ (∃ i, c = .builtin i) ∨ ∃ t, c = .type t) (e : kitOne S.K (.ref D) c = some b) (h : Q (.bool b) σ) : CallV S n σ (.builtin "isinstance") [.ref a, c] Q := fun raws hr A s R G => by
  obtain ⟨u, w, rfl, hu, hw⟩ := map2 hr
  cases of_nrm_ref hu
  cases of_plain_callee (S := S) hw hc
  obtain ⟨d, es, ep, e0, ha, hd, I⟩ := G.inst hσ
  exact kia_one (kitx_own hD.get hD.dict hD.cls hD.cget hD.ctk hD.top) (S.KX.keeps G.keep) I e (by intro q; cases q) fun tk => ⟨σ, G, .same fun _ _ e => e, h⟩
theorem raw_refs : ∀ {xs vs : List Value}, xs.map nrm = vs → (∀ v ∈ vs, ∃ a, v = .ref a) → xs = vs
  | [], [], _, _ => rfl
  | x :: xs, v :: vs, h, hr => by
    simp only [List.map_cons, List.cons.injEq] at h
    obtain ⟨a, rfl⟩ := hr v (by simp)
    rw [of_nrm_ref h.1, raw_refs h.2 fun v hv => hr v (by simp [hv])]
  | [], v :: vs, h, _ => by simp at h
  | x :: xs, [], h, _ => by simp at h
theorem CallV.isiIntT {i : Int} {t : Addr} {cs : List Value} {b : Bool} (ht : σ t = some (.tuple cs)) (hcs : ∀ v ∈ cs, ∃ a, v = .ref a) (e : kitAny S.K (.type "int") cs = some b) (h : Q (.bool b) σ) : CallV S n σ (.builtin "isinstance") [VI i, .ref t] Q := fun raws hr A s R G => by
  obtain ⟨u, w, rfl, hu, hw⟩ := map2 hr
  obtain ⟨t', rfl⟩ := of_nrm_int hu
  cases of_nrm_ref hw
  obtain ⟨xs, c, hx, hm⟩ := G.tup ht
  have hx' := raw_refs hm hcs
  exact kia_tup (H := fun _ => True) (its := cs) (dd := Option.none) (sl := #[]) (n := c) kitx_int (S.KX.keeps G.keep) trivial (by rw [hx, ← hx', Array.toArray_toList]) e (by intro q; cases q) fun tk => ⟨σ, G, .same fun _ _ e => e, h⟩
theorem CallV.isiInstT {a D t : Addr} {at_ : List (Str × Value)} {cs : List Value} {b : Bool} (hσ : σ a = some (.inst D at_)) (hD : ClsOk S D) (ht : σ t = some (.tuple cs)) (hcs : ∀ v ∈ cs, ∃ a, v = .ref a) (e : kitAny S.K (.ref D) cs = some b) (h : Q (.bool b) σ) : CallV S n σ (.builtin "isinstance") [.ref a, .ref t] Q := fun raws hr A s R G => by
  obtain ⟨u, w, rfl, hu, hw⟩ := map2 hr
  cases of_nrm_ref hu
  cases of_nrm_ref hw
  obtain ⟨d, es, ep, e0, ha, hd, I⟩ := G.inst hσ
  obtain ⟨xs, c, hx, hm⟩ := G.tup ht
  have hx' := raw_refs hm hcs
  exact kia_tup (its := cs) (dd := Option.none) (sl := #[]) (n := c) (kitx_own hD.get hD.dict hD.cls hD.cget hD.ctk hD.top) (S.KX.keeps G.keep) I (by rw [hx, ← hx', Array.toArray_toList]) e (by intro q; cases q) fun tk => ⟨σ, G, .same fun _ _ e => e, h⟩

/-! # other built-ins -/
theorem CallV.abs {a : Int} (h : Q (VI (if a < 0 then -a else a)) σ) : CallV S n σ (.builtin "abs") [VI a] Q := fun raws hr A s R G => by
  obtain ⟨u, rfl, hu⟩ := map1 hr
  obtain ⟨t, rfl⟩ := of_nrm_int hu
  exact call_abs_int fun u tk => ⟨σ, G, .same fun _ _ e => e, h⟩
theorem isStr_self {i : Str} {t : Tok} : (PySem.strKind S.prog S.w).is i (.str i t) = true := by show Value.isStrOf i (.str i t) = true; simp [Value.isStrOf]
theorem CallV.get0 {d : Addr} {x : Str} (hσ : σ d = some (.dicts [])) (h : Q .none σ) : CallV S n σ (.builtin "dict.get") [.ref d, VS x, .none] Q := fun raws hr A s R G => by
  obtain ⟨u, v, w, rfl, hu, hv, hw⟩ := map3 hr
  cases of_nrm_ref hu
  obtain ⟨t, rfl⟩ := of_nrm_str hv
  cases of_nrm_none hw
  obtain ⟨raw, hx, hm⟩ := G.dicts hσ
  cases raw with
  | cons p r => simp at hm
  | nil =>
    refine call_meetsIn PySem.F.slot_dict_get hx.typeIs PySem.F.entry_dict_get (PySem.F.args_dict_get_3 _ _ _) (meets_dict_get_default (PySem.strKind S.prog S.w) d isStr_self (notSys G hσ) .none) ⟨_, hx.mapOf, ?_⟩
    exact ⟨σ, G, .same fun _ _ e => e, h⟩
theorem SetI.dicts0 {d : Addr} {x : Str} {v : Value} {Q : AH → Prop} (hσ : σ d = some (.dicts [])) (h : Q (put σ d (.dicts [(x, nrm v)]))) : SetI S n σ (.ref d) (VS x) v Q := fun u w hu hw A s R G => by
  cases of_nrm_ref hu
  obtain ⟨t, rfl⟩ := of_nrm_str hw
  obtain ⟨raw, hx, hm⟩ := G.dicts hσ
  cases raw with
  | cons p r => simp at hm
  | nil =>
    refine wpAny_setItem_pairs isStr_self hx (fun h' hd' hs => ?_) (Nat.zero_le _)
    exact ⟨_, G.set1 hσ dicts_noInst dicts_noInst hs ⟨_, hd', rfl⟩, Step.set1 hσ dicts_noInst hs rfl rfl, h⟩
theorem Ev.dicti0 (h : ∀ a, ¬ fp σ a → Q (.ref a) (put σ a (.dicti []))) : Ev S n env ρ σ (.Dict [] [] pos) Q := fun A s R G F => by
  rw [eval_Dict_empty]
  have hn := get?_size s.heap
  have hk : ∀ c x, s.heap.get? c = some x → (s.heap.push { cls := .type "dict", data := .dict #[] }).get? c = some x := fun c x e => Heap.get?_push_of_some _ e
  refine wpAny_bind (wpAny_standAt (wpAny_newObj_type ?_))
  exact ⟨_, G.new1 dicti_noInst hn G.size_ne hk ⟨[], Heap.DictOf.new _, rfl⟩, Step.new1 dicti_noInst hn hk rfl rfl, h _ (G.free hn)⟩
theorem Ev.dicts0 (h : ∀ a, ¬ fp σ a → Q (.ref a) (put σ a (.dicts []))) : Ev S n env ρ σ (.Dict [] [] pos) Q := fun A s R G F => by
  rw [eval_Dict_empty]
  have hn := get?_size s.heap
  have hk : ∀ c x, s.heap.get? c = some x → (s.heap.push { cls := .type "dict", data := .dict #[] }).get? c = some x := fun c x e => Heap.get?_push_of_some _ e
  refine wpAny_bind (wpAny_standAt (wpAny_newObj_type ?_))
  exact ⟨_, G.new1 dicts_noInst hn G.size_ne hk ⟨[], Heap.DictOf.new _, rfl⟩, Step.new1 dicts_noInst hn hk rfl rfl, h _ (G.free hn)⟩
end

section
variable {S : Stat} {n : Nat} {env : Env} {ρ : Str → Option Value} {σ : AH} {Q : Value → AH → Prop} {pos : Pos} {QS : Flow → (Str → Option Value) → AH → Prop}

/-! # an object that no abstract heap owns -/
structure Hid (S : Stat) (env : Env) (σ : AH) (it : Addr) : Prop where
  fp : ¬ fp σ it
  base : S.base.get? it = none
  loc : it ≠ env.locals
  cel : ∀ x, env.cells.lookup x ≠ some it
theorem Good.but {h h' : Heap} {it : Addr} (G : Good S σ h) (H : Hid S env σ it) (hk : ∀ b o, b ≠ it → h.get? b = some o → h'.get? b = some o) : Good S σ h' :=
  G.ext fun b o e hb => hk b o (fun q => by subst q; rcases hb with hb | hb; exact H.fp hb; rw [H.base] at hb; cases hb) e
theorem FrOk.but {h h' : Heap} {it : Addr} (F : FrOk S env h σ ρ) (H : Hid S env σ it) (hk : ∀ b o, b ≠ it → h.get? b = some o → h'.get? b = some o) : FrOk S env h' σ ρ where
  kind := F.kind
  glob := F.glob
  bl := F.bl
  ns := by
    obtain ⟨m, ⟨o, es, ep, e, r⟩, q⟩ := F.ns
    exact ⟨m, ⟨o, es, ep, hk _ _ (Ne.symm H.loc) e, r⟩, q⟩
  nL := F.nL
  bL := F.bL
  cells x c e := by
    obtain ⟨⟨v, ⟨o, ho, hd⟩, hv⟩, n1, n2, n3⟩ := F.cells x c e
    exact ⟨⟨v, ⟨o, hk _ _ (fun q => H.cel x (q ▸ e)) ho, hd⟩, hv⟩, n1, n2, n3⟩
  apart := F.apart
  sepn := F.sepn
theorem Hid.step {s s' : Shared} {σ' : AH} {it : Addr} {o : Obj} (H : Hid S env σ it) (ho : s.heap.get? it = some o) (T : StepF env σ s σ' s') : Hid S env σ' it ∧ s'.heap.get? it = some o :=
  ⟨⟨fun q => (by rcases T.own it q with h | h; exact H.fp h; rw [ho] at h; cases h), H.base, H.loc, H.cel⟩, T.keep it o H.fp H.loc H.cel ho⟩

/-! # iterators -/
structure IterOk (S : Stat) (it : Addr) (At : Nat → Heap → Prop) (nx : Nat → AH → Option Value → Prop) : Prop where
  next : ∀ (i : Nat) (σ : AH) (A : Around) (s : Shared) (r : Option Value) (T : Option Value → Shared → Prop), A.handled = none → Good S σ s.heap → At i s.heap → ¬ fp σ it → nx i σ r →
    (match r with
      | some v => ∀ u h' tk, nrm u = v → At (i + 1) h' → (∀ b o, b ≠ it → s.heap.get? b = some o → h'.get? b = some o) → T (some u) { s with heap := h', toks := tk }
      | none => ∀ h' tk, (∀ b o, b ≠ it → s.heap.get? b = some o → h'.get? b = some o) → T none { s with heap := h', toks := tk }) →
    wpAny (model S.prog S.w) A (pyNext (.ref it)) T NoE s
  keep : ∀ i h h', At i h → (∀ o, h.get? it = some o → h'.get? it = some o) → At i h'
  there : ∀ i h, At i h → ∃ o, h.get? it = some o
  self : ∀ i (A : Around) (s : Shared) (T : Value → Shared → Prop), At i s.heap → T (.ref it) s → wpAny (model S.prog S.w) A (pyIter (.ref it)) T NoE s
inductive ItOut (S : Stat) (σ : AH) (s : Shared) (r : Value) (s' : Shared) (K : (Nat → AH → Option Value → Prop) → AH → Prop) : Prop
  | mk (it : Addr) (At : Nat → Heap → Prop) (nx : Nat → AH → Option Value → Prop) (σ' : AH) (e : r = .ref it) (O : IterOk S it At nx) (hat : At 0 s'.heap) (G : Good S σ' s'.heap) (T : Step σ s σ' s') (hf : ¬ fp σ' it) (hn : s.heap.get? it = none) (hk : K nx σ')
inductive FInv (S : Stat) (env : Env) (I : Nat → (Str → Option Value) → AH → Prop) (At : Nat → Heap → Prop) (σ : AH) (s : Shared) (it : Addr) (N : Nat) (k : Nat) (s' : Shared) : Prop
  | mk (i : Nat) (ρ' : Str → Option Value) (σ' : AH) (hI : I i ρ' σ') (G : Good S σ' s'.heap) (F : FrOk S env s'.heap σ' ρ') (T : StepF env σ s σ' s') (hat : At i s'.heap) (H : Hid S env σ' it) (hk : k = N + 1 - i)
inductive WInv (S : Stat) (env : Env) (I : Nat → (Str → Option Value) → AH → Prop) (σ : AH) (s : Shared) (k : Nat) (s' : Shared) : Prop
  | mk (ρ' : Str → Option Value) (σ' : AH) (hI : I k ρ' σ') (G : Good S σ' s'.heap) (F : FrOk S env s'.heap σ' ρ') (T : StepF env σ s σ' s')
/-- taking an iterator -/
def PyIt (S : Stat) (n : Nat) (σ : AH) (v : Value) (K : (Nat → AH → Option Value → Prop) → AH → Prop) : Prop :=
  ∀ u, nrm u = v → ∀ (A : Around) (s : Shared), Room n A → Good S σ s.heap →
    wpAny (model S.prog S.w) A (pyIter u) (fun r s' => ItOut S σ s r s' K) NoE s

theorem iterList (it l : Addr) (hne : l ≠ it) : IterOk S it (fun i h => h.IsListIter it l i) (fun i σ r => ∃ vs, σ l = some (.list vs) ∧ r = vs[i]?) where
  next i σ A s r T hA G hat hf hx k := by
    obtain ⟨vs, hσ, rfl⟩ := hx
    obtain ⟨xs, c, hx, hm⟩ := G.lst hσ
    cases e : vs[i]? with
    | some v =>
      rw [e] at k
      obtain ⟨y, hy, hyn⟩ := item_of_map hm e
      refine wpAny_pyNext_list_item hat (asList hx) hy fun h' hit hs => ?_
      exact k y h' s.toks hyn hit fun b o hb e => hs.extBut b o hb e
    | none =>
      rw [e] at k
      have hz := size_of_map hm
      have hn : xs[i]? = none := by
        have := List.getElem?_eq_none_iff.mp e
        exact Array.getElem?_eq_none (by omega)
      exact wpAny_pyNext_list_end hA hat (asList hx) hn fun h' he => k h' s.toks he
  keep i h h' x k := by obtain ⟨o, ho, r⟩ := x; exact ⟨o, k _ ho, r⟩
  there i h x := by obtain ⟨o, ho, _⟩ := x; exact ⟨o, ho⟩
  self i A s T x q := wpAny_pyIter_listiter x q
theorem PyIt.list {l : Addr} {vs : List Value} {K : (Nat → AH → Option Value → Prop) → AH → Prop} (hσ : σ l = some (.list vs)) (h : K (fun i σ r => ∃ vs, σ l = some (.list vs) ∧ r = vs[i]?) σ) : PyIt S n σ (.ref l) K := fun u hu A s R G => by
  cases of_nrm_ref hu
  obtain ⟨xs, c, hx, hm⟩ := G.lst hσ
  refine wpAny_pyIter_list (asList hx) ?_
  have hn := get?_size s.heap
  have hk : ∀ b x, s.heap.get? b = some x → (s.heap.push { cls := .type "list_iterator", data := .fields #[.ref l, .int 0 0] }).get? b = some x := fun b x e => Heap.get?_push_of_some _ e
  exact ⟨_, _, _, σ, rfl, iterList _ l (Nat.ne_of_lt (Heap.lt_size hx)), ⟨_, Heap.get?_push_size _ rfl, rfl, rfl⟩, G.grow hk, .same hk, G.free hn, hn, h⟩

theorem iterRange (it : Addr) (k : Nat) : IterOk S it (fun i h => i ≤ k ∧ IsRangeIter h it (0 + (i : Nat) * 1) ((k : Int) - (i : Nat)) 1) (fun i _ r => r = if i < k then some (VI i) else none) where
  next i σ A s r T hA G hat hf hx kk := by
    subst hx
    by_cases e : i < k
    · rw [if_pos e] at kk
      refine wpAny_pyNext_range_item hat.2 (by omega) fun h' hit hs => ?_
      refine kk _ h' _ ?_ ⟨e, ?_⟩ fun b o hb e => hs.extBut b o hb e
      · rw [nrm_int]; congr 1; omega
      · have e1 : (0 : Int) + ((i + 1 : Nat) : Int) * 1 = 0 + (i : Int) * 1 + 1 := by push_cast; omega
        have e2 : (k : Int) - ((i + 1 : Nat) : Int) = (k : Int) - (i : Int) - 1 := by push_cast; omega
        rw [e1, e2]; exact hit
    · rw [if_neg e] at kk
      exact wpAny_pyNext_range_end hA hat.2 (by omega) fun h' he => kk h' s.toks he
  keep i h h' x k := ⟨x.1, k _ x.2⟩
  there i h x := ⟨_, x.2⟩
  self i A s T x q := wpAny_pyIter_rangeiter x.2 q
def isRangeObj (k : Nat) (o : Obj) : Prop := ∃ t u v, o = { cls := .type "range", data := .fields #[.int 0 t, .int k u, .int 1 v] }
theorem CallV.range {k : Nat} (h : ∀ a o, ¬ fp σ a → isRangeObj k o → Q (.ref a) (put σ a (.obj o))) : CallV S n σ (.type "range") [VI k] Q := fun raws hr A s R G => by
  obtain ⟨u, rfl, hu⟩ := map1 hr
  obtain ⟨t, rfl⟩ := of_nrm_int hu
  refine call_range_1 ?_
  have hn := get?_size s.heap
  have hk : ∀ b x, s.heap.get? b = some x → (s.heap.push { cls := .type "range", data := .fields #[.int 0 s.toks, .int k t, .int 1 (s.toks + 1)] }).get? b = some x := fun b x e => Heap.get?_push_of_some _ e
  exact ⟨_, G.new1 obj_noInst hn G.size_ne hk (Heap.get?_push_size _ rfl), Step.new1 obj_noInst hn hk rfl rfl, h _ _ (G.free hn) ⟨_, _, _, rfl⟩⟩
theorem PyIt.range {a : Addr} {k : Nat} {o : Obj} {K : (Nat → AH → Option Value → Prop) → AH → Prop} (hσ : σ a = some (.obj o)) (ho : isRangeObj k o) (hk : k ≤ 100000) (h : K (fun i _ r => r = if i < k then some (VI i) else none) σ) : PyIt S n σ (.ref a) K := fun u hu A s R G => by
  cases of_nrm_ref hu
  obtain ⟨t, u, v, rfl⟩ := ho
  have hx : s.heap.get? a = some _ := G.rep _ _ hσ
  have hsize : Builtin.Range.rangeSize 0 k 1 = k := by
    unfold Builtin.Range.rangeSize
    split <;> (try split) <;> omega
  have hsmall : Builtin.Range.small 0 k 1 = true := by
    unfold Builtin.Range.small
    rw [hsize]
    unfold Builtin.Range.rangeFitsLong
    simp only [Bool.and_eq_true, decide_eq_true_eq, Bool.or_eq_true]
    refine ⟨⟨⟨⟨?_, ?_⟩, ?_⟩, ?_⟩, Or.inr ?_⟩ <;> (try split) <;> simp <;> omega
  refine wpAny_pyIter_range hx hsmall ?_
  have hn := get?_size s.heap
  rw [hsize]
  have hk' : ∀ b x, s.heap.get? b = some x → (s.heap.push { cls := .type "range_iterator", data := .fields #[rawInt 0, rawInt k, rawInt 1] }).get? b = some x := fun b x e => Heap.get?_push_of_some _ e
  refine ⟨_, _, _, σ, rfl, iterRange _ k, ⟨Nat.zero_le _, ?_⟩, G.grow hk', .same hk', G.free hn, hn, h⟩
  have := Heap.get?_push_size s.heap (o := { cls := .type "range_iterator", data := .fields #[rawInt 0, rawInt k, rawInt 1] }) rfl
  simpa using this

/-! # for -/
theorem Ts.forC {x : Str} {px : Pos} {iter : PySem.Expr} {body : List PySem.Stmt} (I : Nat → (Str → Option Value) → AH → Prop) (N : Nat) (hx : CellOk env x)
    (h : Ev S n env ρ σ iter (fun v σ₁ => PyIt S n σ₁ v (fun nx σ₂ => I 0 ρ σ₂ ∧ ∀ i ρ' σ', I i ρ' σ' → i ≤ N ∧ ∃ r, nx i σ' r ∧ match r with
      | some v => Ts S n env (setv ρ' x v) σ' (execs body env) (fun f ρ'' σ'' => match f with | .next | .cont => I (i + 1) ρ'' σ'' | .brk => QS .next ρ'' σ'' | .ret v => QS (.ret v) ρ'' σ'')
      | none => QS .next ρ' σ')))
    (hs : ∀ x, foldedSetIterable iter env x = Pure.pure x) : Ts S n env ρ σ (exec (.For (.Name x px) iter body [] pos) env) QS := fun A s R G F => by
  refine wpAny_For (wpAny_mono (h A s R G F) (fun v s₁ ⟨σ₁, G₁, T₁, h₁⟩ => wpAny_mono (h₁ v rfl A s₁ R G₁) (fun r s₂ ⟨it, At, nx, σ₂, e, O, hat, G₂, T₂, hfp, hnone, hI, turn⟩ => ?_) fun _ _ x => x) fun _ _ x => x) hs
  subst e
  have F₁ := F.step T₁
  have F₂ := F₁.step T₂
  have hbase : S.base.get? it = none := by
    cases e : S.base.get? it with
    | none => rfl
    | some o => rw [G₁.keep _ _ e] at hnone; cases hnone
  have hfree := F₁.frees hnone
  have H₂ : Hid S env σ₂ it := ⟨hfp, hbase, hfree.1, hfree.2⟩
  have T02 : StepF env σ s σ₂ s₂ := (T₁.trans T₂).toF
  have hnone0 : s.heap.get? it = none ∨ fp σ it := by
    by_cases q : fp σ it
    · exact .inr q
    · left
      cases e : s.heap.get? it with
      | none => rfl
      | some o => have := T₁.keep it o q e; rw [hnone] at this; cases this
  have away : ∀ b o, ¬ fp σ b → s.heap.get? b = some o → b ≠ it := fun b o hb e q => by
    subst q
    rcases hnone0 with h0 | h0
    · rw [h0] at e; cases e
    · exact hb h0
  refine codeAny_forLoop (FInv S env I At σ s it N) ?_ (N + 1) ⟨0, ρ, σ₂, hI, G₂, F₂, T02, hat, H₂, rfl⟩
  rintro k s' ⟨i, ρ', σ', hI', G', F', T', hat', H', rfl⟩
  obtain ⟨hiN, r, hnx, hr⟩ := turn i ρ' σ' hI'
  refine wpAny_mono (O.next i σ' A s' r _ R.1 G' hat' H'.fp hnx ?_) (fun _ _ q => q) (fun _ _ x => x.elim)
  have up : ∀ (h' : Heap) (tk : Nat), (∀ b o, b ≠ it → s'.heap.get? b = some o → h'.get? b = some o) → StepF env σ s σ' { s' with heap := h', toks := tk } := fun h' tk hk =>
    ⟨fun b o hb h1 h2 e => hk b o (away b o hb e) (T'.keep b o hb h1 h2 e), T'.own, T'.gens, T'.os⟩
  cases r with
  | none =>
    intro h' tk hk
    exact wpAny_execs_nil ⟨σ', ρ', G'.but H' hk, F'.but H' hk, up h' tk hk, hr⟩
  | some v =>
    intro u h' tk hu hat1 hk
    subst hu
    obtain ⟨oi, hoi⟩ := O.there _ _ hat1
    have Ta := Tu.name (S := S) (n := n) (env := env) (ρ := ρ') (σ := σ') (pos := px) (v := u) (QU := fun ρ'' σ'' => ρ'' = setv ρ' x (nrm u) ∧ σ'' = σ') hx ⟨rfl, rfl⟩
    refine wpAny_mono (Ta A { s' with heap := h', toks := tk } R (G'.but H' hk) (F'.but H' hk)) (fun _ s₃ ⟨σ₃, ρ₃, G₃, F₃, T₃, e1, e2⟩ => ?_) (fun _ _ x => x.elim)
    subst e1; subst e2
    obtain ⟨H₃, hoi3⟩ := H'.step hoi T₃
    have TT := (up h' tk hk).trans (F'.but H' hk) T₃
    refine wpAny_mono (hr A s₃ R G₃ F₃) (fun f s₄ ⟨σ₄, ρ₄, G₄, F₄, T₄, q⟩ => ?_) (fun _ _ x => x.elim)
    obtain ⟨H₄, hoi4⟩ := H₃.step hoi3 T₄
    have TT4 := TT.trans F₃ T₄
    have hat4 : At (i + 1) s₄.heap := O.keep _ _ _ hat1 fun o e => by rw [hoi] at e; cases e; exact hoi4
    cases f with
    | next => exact ⟨N + 1 - (i + 1), by omega, i + 1, ρ₄, σ₄, q, G₄, F₄, TT4, hat4, H₄, rfl⟩
    | cont => exact ⟨N + 1 - (i + 1), by omega, i + 1, ρ₄, σ₄, q, G₄, F₄, TT4, hat4, H₄, rfl⟩
    | brk => exact ⟨σ₄, ρ₄, G₄, F₄, TT4, q⟩
    | ret w => exact ⟨σ₄, ρ₄, G₄, F₄, TT4, q⟩

/-! # while -/
theorem Ts.whileC {t : PySem.Expr} {body : List PySem.Stmt} (I : Nat → (Str → Option Value) → AH → Prop) {k₀ : Nat} (h0 : I k₀ ρ σ)
    (turn : ∀ k ρ' σ', I k ρ' σ' → IsT S n env ρ' σ' t (fun c σ₁ => if c then Ts S n env ρ' σ₁ (execs body env) (fun f ρ'' σ'' => match f with | .next | .cont => ∃ k', k' < k ∧ I k' ρ'' σ'' | .brk => QS .next ρ'' σ'' | .ret v => QS (.ret v) ρ'' σ'')
      else QS .next ρ' σ₁)) : Ts S n env ρ σ (exec (.While t body [] pos) env) QS := fun A s R G F => by
  refine wpAny_While (codeAny_whileLoop (WInv S env I σ s) ?_ k₀ ⟨ρ, σ, h0, G, F, .refl⟩)
  rintro k s' ⟨ρ', σ', hI, G', F', T'⟩
  refine wpAny_mono (turn k ρ' σ' hI A s' R G' F') (fun c s₁ ⟨σ₁, G₁, T₁, q⟩ => ?_) (fun _ _ x => x.elim)
  have F₁ := F'.step T₁
  have TT := T'.trans F' T₁.toF
  cases c with
  | false =>
    simp only [Bool.false_eq_true, if_false] at q ⊢
    exact wpAny_execs_nil ⟨σ₁, ρ', G₁, F₁, TT, q⟩
  | true =>
    simp only [if_true] at q ⊢
    refine wpAny_mono (q A s₁ R G₁ F₁) (fun f s₂ ⟨σ₂, ρ₂, G₂, F₂, T₂, q⟩ => ?_) (fun _ _ x => x.elim)
    have TT2 := TT.trans F₁ T₂
    cases f with
    | next => obtain ⟨k', hk, q⟩ := q; exact ⟨k', hk, ρ₂, σ₂, q, G₂, F₂, TT2⟩
    | cont => obtain ⟨k', hk, q⟩ := q; exact ⟨k', hk, ρ₂, σ₂, q, G₂, F₂, TT2⟩
    | brk => exact ⟨σ₂, ρ₂, G₂, F₂, TT2, q⟩
    | ret v => exact ⟨σ₂, ρ₂, G₂, F₂, TT2, q⟩
end


/-- what a block's scope must be -/
structure BlockOk (env : Env) (scope : Scope) (cl : List (Str × Addr)) : Prop where
  clos : closureFor scope env = pure cl
  kind : scope.kind = .function
  names : ∀ x ∈ scope.names, x.2 = .local → scope.names.lookup x.1 = some .local
  nocell : ∀ y ∈ scope.names, y.2 ≠ .cell
  sub : ∀ x c, cl.lookup x = some c → env.cells.lookup x = some c
  apart : cl.Pairwise fun x y => x.2 ≠ y.2
  sep : ∀ x, scope.names.lookup x = some .local → cl.lookup x = none

section
variable {S : Stat} {n : Nat} {env : Env} {ρ : Str → Option Value} {σ : AH} {Q : Value → AH → Prop} {pos : Pos} {QS : Flow → (Str → Option Value) → AH → Prop}
  {scope : Scope} {cl : List (Str × Addr)}

theorem relabel_local {env : Env} : ∀ {names : List (Str × NameKind)} {x : Str},
    (names.map fun (n, k) => if (k == NameKind.free && env.scope.kind == .function && env.kindOf n == some .cell) then (n, NameKind.cell) else (n, k)).lookup x = some .local → names.lookup x = some .local
  | [], _, h => by simp at h
  | (n, k) :: r, x, h => by
    have ih := @relabel_local env r x
    simp only [List.map_cons] at h
    rw [List.lookup_cons] at h ⊢
    have e1 : (if (k == NameKind.free && env.scope.kind == .function && env.kindOf n == some .cell) = true then (n, NameKind.cell) else (n, k)).1 = n := by split <;> rfl
    rw [e1] at h
    cases hx : x == n with
    | false => rw [hx] at h; exact ih h
    | true =>
      rw [hx] at h
      by_cases q : (k == NameKind.free && env.scope.kind == .function && env.kindOf n == some .cell) = true
      · rw [if_pos q] at h; cases h
      · rw [if_neg q] at h; exact h
theorem ce_local {C : Addr} {x : Str} (h : (compEnvC scope cl C env).kindOf x = some .local) : scope.names.lookup x = some .local := relabel_local h

/-- the frame of a block -/
theorem BlockOk.frame {h : Heap} {C : Addr} {m : Str → Option Value} {ρc : Str → Option Value} (B : BlockOk env scope cl) (F : FrOk S env h σ ρ) (hC : ¬ fp σ C) (bC : S.base.get? C = none) (cC : ∀ x c, env.cells.lookup x = some c → c ≠ C)
    (hn : h.Ns C m) (hm : ∀ y, (compEnvC scope cl C env).kindOf y = some .local → (m y).map nrm = ρc y) (ho : ∀ y, (compEnvC scope cl C env).kindOf y ≠ some .local → ρc y = ρ y) : FrOk S (compEnvC scope cl C env) h σ ρc where
  kind := B.kind
  glob := F.glob
  bl := F.bl
  ns := ⟨m, hn, hm⟩
  nL := hC
  bL := bC
  cells x c e := by
    have e' := B.sub x c e
    obtain ⟨⟨v, hv, q⟩, n1, n2, n3⟩ := F.cells x c e'
    refine ⟨⟨v, hv, ?_⟩, n1, n2, cC x c e'⟩
    rw [ho x]; exact q
    intro hl
    have e'' : cl.lookup x = some c := e
    rw [B.sep x (ce_local hl)] at e''; cases e''
  apart := B.apart
  sepn x hx := B.sep x (ce_local hx)

/-- what a block leaves -/
inductive CompFin (S : Stat) (env : Env) (ρ : Str → Option Value) (σ : AH) (s : Shared) (D C : Addr) (K : List Value → AH → Prop) (s' : Shared) : Prop
  | mk (σ' : AH) (xs : Array Value) (k : Nat) (m : Str → Option Value) (acc : List Value) (G : Good S σ' s'.heap) (T : Step σ s σ' s') (hD : s'.heap.get? D = some (listOf xs k)) (hacc : xs.toList.map nrm = acc) (hC : s'.heap.Ns C m) (HD : Hid S env σ' D) (HC : Hid S env σ' C)
    (hne : D ≠ C) (oD : s.heap.get? D = none ∨ fp σ D) (sD : D ≠ sysModules) (oC : s.heap.get? C = none ∨ fp σ C) (hk : K acc σ')
inductive CInv (S : Stat) (env : Env) (ρ : Str → Option Value) (x : Str) (I : Nat → List Value → AH → Prop) (At : Nat → Heap → Prop) (σ₀ : AH) (s₀ : Shared) (it D C : Addr) (N : Nat) (k : Nat) (s' : Shared) : Prop
  | mk (i : Nat) (acc : List Value) (σ' : AH) (xs : Array Value) (kk : Nat) (m : Str → Option Value) (hI : I i acc σ') (G : Good S σ' s'.heap) (T : Step σ₀ s₀ σ' s') (F : FrOk S env s'.heap σ' ρ) (hat : At i s'.heap) (H : Hid S env σ' it) (hD : s'.heap.get? D = some (listOf xs kk))
    (hacc : xs.toList.map nrm = acc) (HD : Hid S env σ' D) (hC : s'.heap.Ns C m) (HC : Hid S env σ' C) (hm : ∀ y, y ≠ x → m y = none) (hk : k = N + 1 - i)

theorem compCore {elt iter : PySem.Expr} {x : Str} {px : Pos} {ifs : List PySem.Expr} (B : BlockOk env scope cl) (hx : scope.names.lookup x = some .local) (I : Nat → List Value → AH → Prop) (N : Nat) (K : List Value → AH → Prop)
    {A : Around} {σ₀ : AH} {s₀ s₂ : Shared} {it : Addr} {At : Nat → Heap → Prop} {nx : Nat → AH → Option Value → Prop} {RR : Value → Addr → Result → Shared → Prop} (R : Room n A) (G₂ : Good S σ s₂.heap) (F₂ : FrOk S env s₂.heap σ ρ) (O : IterOk S it At nx) (hat : At 0 s₂.heap) (H₂ : Hid S env σ it) (T02 : Step σ₀ s₀ σ s₂) (hit0 : s₀.heap.get? it = none ∨ fp σ₀ it) (hI : I 0 [] σ)
    (turn : ∀ i acc σ', I i acc σ' → i ≤ N ∧ acc.length ≤ 1000 ∧ ∃ r, nx i σ' r ∧ match r with
      | some v => ∀ C ρc, ρc x = some v → (∀ y, (compEnvC scope cl C env).kindOf y ≠ some .local → ρc y = ρ y) →
          Tr S n (compEnvC scope cl C env) ρc σ' (fun b : Bool => b) (forIn ifs true fun c r => if r = true then do let ok ← isTrue c (compEnvC scope cl C env) (eval c (compEnvC scope cl C env)); Pure.pure (ForInStep.yield ok) else Pure.pure (ForInStep.yield r))
            (fun ok σ₁ => if ok then Ev S n (compEnvC scope cl C env) ρc σ₁ elt (fun u σ₂ => I (i + 1) (acc ++ [u]) σ₂) else I (i + 1) acc σ₁)
      | none => K acc σ')
    (hRR : ∀ D C s', CompFin S env ρ σ₀ s₀ D C K s' → it ≠ D → it ≠ C → RR (.ref D) C (.ok .next) s') :
    wpAny (model S.prog S.w) A (newList []) (fun acc s₃ => wpAny (model S.prog S.w) A (newFunctionEnv scope env.globals cl [] env.qual none .none (some env)) (fun cenv s₄ =>
      codeAny (model S.prog S.w) A (.compStart (.ListComp elt [⟨.Name x px, iter, ifs, 0⟩] scope pos) 0 (.ref it) acc { cenv with scope := relabel scope env }) (RR acc cenv.locals) s₄) NoE s₃) NoE s₂ := by
  refine wpAny_newObj_type (wpAny_newFunctionEnv B.nocell (by intro y hy; simp at hy) (fun h₁ hns₁ hsb₁ => ?_) B.kind)
  dsimp only at hns₁ hsb₁ ⊢
  have hD0 := get?_size s₂.heap
  obtain ⟨oit, hoit⟩ := O.there _ _ hat
  have bS : ∀ c, s₂.heap.get? c = none → S.base.get? c = none := fun c hc => by
    cases e : S.base.get? c with
    | none => rfl
    | some o => rw [G₂.keep _ _ e] at hc; cases hc
  generalize hH2 : s₂.heap.push { cls := .type "list", dict := none, data := .seq ([] : List Value).toArray } = H2 at hns₁ hsb₁ ⊢
  have hC : H2.objs.size = s₂.heap.objs.size + 1 := by rw [← hH2, Heap.size_push]
  have hC0 : s₂.heap.get? H2.objs.size = none := by
    cases e : s₂.heap.get? H2.objs.size with
    | none => rfl
    | some o => have := Heap.lt_size e; rw [hC] at this; exact absurd this (Nat.not_lt.mpr (Nat.le_succ _))
  generalize hDe : s₂.heap.objs.size = D at *
  generalize hCe : H2.objs.size = C at *
  have hDC : D ≠ C := by rw [hC]; exact Nat.ne_of_lt (Nat.lt_succ_self _)
  have hk1 : ∀ b o, s₂.heap.get? b = some o → h₁.get? b = some o := fun b o e => by
    have hbC : b ≠ C := fun q => by rw [q, hC0] at e; cases e
    have : H2.get? b = some o := by rw [← hH2]; exact Heap.get?_push_of_some _ e
    exact hsb₁.extBut b o hbC (Heap.get?_push_of_some _ this)
  have hD1 : h₁.get? D = some (listOf #[] 0) := by
    have : H2.get? D = some (listOf #[] 0) := by rw [← hH2, ← hDe]; exact Heap.get?_push_size _ rfl
    exact hsb₁.extBut D _ hDC (Heap.get?_push_of_some _ this)
  have frD := F₂.frees hD0
  have frC := F₂.frees hC0
  have HD : Hid S env σ D := ⟨G₂.free hD0, bS _ hD0, frD.1, frD.2⟩
  have HC : Hid S env σ C := ⟨G₂.free hC0, bS _ hC0, frC.1, frC.2⟩
  have itD : it ≠ D := fun q => by rw [q, hD0] at hoit; cases hoit
  have itC : it ≠ C := fun q => by rw [q, hC0] at hoit; cases hoit
  have gone : ∀ c, s₂.heap.get? c = none → s₀.heap.get? c = none ∨ fp σ₀ c := fun c hc => by
    by_cases q : fp σ₀ c
    · exact .inr q
    · left
      cases e : s₀.heap.get? c with
      | none => rfl
      | some o => have := T02.keep c o q e; rw [hc] at this; cases this
  have off : ∀ c, (s₀.heap.get? c = none ∨ fp σ₀ c) → ∀ b o, ¬ fp σ₀ b → s₀.heap.get? b = some o → b ≠ c := fun c hc b o hb e q => by
    subst q
    rcases hc with h0 | h0
    · rw [h0] at e; cases e
    · exact hb h0
  have offI := off it hit0
  have offD := off D (gone D hD0)
  have offC := off C (gone C hC0)
  have loop : ∀ s₃ : Shared, s₃ = { s₂ with heap := h₁, toks := s₂.toks + ([] : List (Str × Value)).length } →
      codeAny (model S.prog S.w) A (.compLoop (.ListComp elt [⟨.Name x px, iter, ifs, 0⟩] scope pos) 0 (.ref it) (.ref D) (compEnvC scope cl C env)) (RR (.ref D) C) s₃ := by
    rintro s₃ rfl
    refine codeAny_compLoop_tests (CInv S env ρ x I At σ₀ s₀ it D C N) ?_ (N + 1)
      ⟨0, [], σ, #[], 0, _, hI, G₂.grow hk1, T02.trans (.same hk1), F₂.keeps (fun b o _ e => hk1 b o e) (fun b hb => .inl hb), O.keep _ _ _ hat fun o e => hk1 _ _ e, H₂, hD1, rfl, HD, hns₁, HC, fun y _ => rfl, rfl⟩
    rintro k s' ⟨i, acc, σ', xs, kk, m, hI', G', T', F', hat', H', hDx, hacc, HD', hnC, HC', hm0, rfl⟩
    obtain ⟨hiN, hal, r, hnx, hr⟩ := turn i acc σ' hI'
    refine wpAny_mono (O.next i σ' A s' r _ R.1 G' hat' H'.fp hnx ?_) (fun _ _ q => q) (fun _ _ x => x.elim)
    have nsC : ∀ h' : Heap, (∀ b o, b ≠ it → s'.heap.get? b = some o → h'.get? b = some o) → h'.Ns C m := fun h' hk => by
      obtain ⟨o, es, ep, e, r⟩ := hnC
      exact ⟨o, es, ep, hk _ _ (Ne.symm itC) e, r⟩
    cases r with
    | none =>
      intro h' tk hk
      exact hRR D C _ ⟨σ', xs, kk, m, acc, G'.but H' hk, ⟨fun b o hb e => hk b o (offI b o hb e) (T'.keep b o hb e), T'.own, T'.gens, T'.os⟩, hk _ _ (Ne.symm itD) hDx, hacc, nsC h' hk, HD', HC', hDC, gone D hD0, hDe ▸ G₂.size_ne, gone C hC0, hr⟩ itD itC
    | some v =>
      intro u h' tk hu hat1 hk
      subst hu
      have hxl : (compEnvC scope cl C env).kindOf x = some .local := lookup_relabel_local hx
      refine wpAny_assign_Name (wpAny_storeName_local hxl (nsC h' hk) (fun h2 hn2 hs2 => ?_) (by show (scope.kind == .class || (scope.kind == .module && _)) = false; rw [B.kind]; rfl))
      have hk2 : ∀ b o, b ≠ C → h'.get? b = some o → h2.get? b = some o := fun b o hb e => hs2.extBut b o hb e
      have Gh : Good S σ' h' := G'.but H' hk
      have G2 : Good S σ' h2 := Gh.but HC' hk2
      have F2 : FrOk S env h2 σ' ρ := (F'.but H' hk).but HC' hk2
      have hat2 : At (i + 1) h2 := O.keep _ _ _ hat1 fun o e => hk2 _ _ itC e
      have hD2 : h2.get? D = some (listOf xs kk) := hk2 _ _ hDC (hk _ _ (Ne.symm itD) hDx)
      have T2 : Step σ₀ s₀ σ' { s' with heap := h2, toks := tk + 1 } := ⟨fun b o hb e => hk2 b o (offC b o hb e) (hk b o (offI b o hb e) (T'.keep b o hb e)), T'.own, T'.gens, T'.os⟩
      let ρc : Str → Option Value := fun y => if y = x then some (nrm u) else if (compEnvC scope cl C env).kindOf y = some .local then none else ρ y
      have Fc : FrOk S (compEnvC scope cl C env) h2 σ' ρc := by
        refine B.frame F2 HC'.fp HC'.base (fun y c e q => HC'.cel y (q ▸ e)) hn2 (fun y hy => ?_) (fun y hy => ?_)
        · show Option.map nrm (if y = x then some u else m y) = if y = x then some (nrm u) else _
          by_cases q : y = x
          · rw [if_pos q, if_pos q]; rfl
          · rw [if_neg q, if_neg q, if_pos hy, hm0 y q]; rfl
        · show (if y = x then some (nrm u) else _) = ρ y
          have hyx : y ≠ x := by intro q; subst q; exact hy hxl
          rw [if_neg hyx, if_neg hy]
      obtain ⟨oi, hoi⟩ := O.there _ _ hat2
      refine wpAny_mono (hr C ρc (if_pos rfl) (fun y hy => by have hyx : y ≠ x := (by intro q; subst q; exact hy hxl); show (if y = x then some (nrm u) else _) = ρ y; rw [if_neg hyx, if_neg hy]) A { s' with heap := h2, toks := tk + 1 } R G2 Fc) (fun ok s₃ ⟨σ₃, G₃, T₃, q⟩ => ?_) (fun _ _ x => x.elim)
      have fin : ∀ (σ₄ : AH) (s₄ : Shared) (acc' : List Value) (ys : Array Value) (k' : Nat), Good S σ₄ s₄.heap → Step σ' { s' with heap := h2, toks := tk + 1 } σ₄ s₄ → s₄.heap.get? D = some (listOf xs kk) → ys.toList.map nrm = acc' → I (i + 1) acc' σ₄ →
          ∀ s₅ : Shared, s₅.gens = s₄.gens → s₅.os = s₄.os → (∀ b o, b ≠ D → s₄.heap.get? b = some o → s₅.heap.get? b = some o) → s₅.heap.get? D = some (listOf ys k') →
          ∃ m', m' < N + 1 - i ∧ CInv S env ρ x I At σ₀ s₀ it D C N m' s₅ := by
        intro σ₄ s₄ acc' ys k' G₄ T₄ hD4 hys hI4 s₅ hg5 ho5 hk5 hD5
        obtain ⟨H4, hoi4⟩ := H'.step hoi T₄.toF
        obtain ⟨HD4, _⟩ := HD'.step hD2 T₄.toF
        obtain ⟨oC, esC, epC, hoC, rC⟩ := hn2
        obtain ⟨HC4, hoC4⟩ := HC'.step hoC T₄.toF
        refine ⟨N + 1 - (i + 1), by omega, i + 1, acc', σ₄, ys, k', _, hI4, G₄.but HD4 hk5, ?_, (F2.step T₄).but HD4 hk5, O.keep _ _ _ hat2 (fun o e => hk5 _ _ itD (by rw [hoi] at e; cases e; exact hoi4)), H4, hD5, hys, HD4, ⟨oC, esC, epC, hk5 _ _ (Ne.symm hDC) hoC4, rC⟩, HC4, fun y hy => by simp only [if_neg hy]; exact hm0 y hy, rfl⟩
        have T5 := T2.trans T₄
        exact ⟨fun b o hb e => hk5 b o (offD b o hb e) (T5.keep b o hb e), T5.own, hg5.trans T5.gens, ho5.trans T5.os⟩
      have hD3 : s₃.heap.get? D = some (listOf xs kk) := (HD'.step hD2 T₃.toF).2
      cases ok with
      | false =>
        simp only [Bool.false_eq_true, if_false] at q ⊢
        exact fin σ₃ s₃ acc xs kk G₃ T₃ hD3 hacc q s₃ rfl rfl (fun _ _ _ e => e) hD3
      | true =>
        simp only [if_true] at q ⊢
        refine wpAny_mono (q A s₃ R G₃ (Fc.step T₃)) (fun w s₄ ⟨σ₄, G₄, T₄, q4⟩ => ?_) (fun _ _ x => x.elim)
        have T34 := T₃.trans T₄
        have hD4 : s₄.heap.get? D = some (listOf xs kk) := (HD'.step hD2 T34.toF).2
        have hz := size_of_map hacc
        refine call_meets PySem.F.slot_list_append ⟨_, hD4, rfl⟩ PySem.F.entry_list_append (PySem.F.args_list_append_2 _ _) (list_append D xs kk w (by rw [hz]; exact sz_le (by omega))) ⟨hD4, ?_⟩
        refine fin σ₄ s₄ (acc ++ [nrm w]) (xs.push w) (if (xs.push w).size == xs.size then kk else kk + 1) G₄ T34 hD4 (by simp [hacc]) q4 _ rfl rfl (fun b o hb e => ?_) ?_
        · exact (Heap.get?_update_other _ _ (Ne.symm hb)).trans e
        · show (s₄.heap.update D _).get? D = _
          rw [Heap.get?_update_self _ hD4 rfl]; rfl
  exact codeAny_compStart_list (loop _ rfl) (wpAny_mono (O.self 0 A { s₂ with heap := h₁, toks := s₂.toks + ([] : List (Str × Value)).length } _ (O.keep _ _ _ hat fun o e => hk1 _ _ e) (loop _ rfl)) (fun _ _ q => q) fun _ _ x => x.elim)
end

section
variable {S : Stat} {n : Nat} {env : Env} {ρ : Str → Option Value} {σ : AH} {Q : Value → AH → Prop} {pos : Pos} {QS : Flow → (Str → Option Value) → AH → Prop}
  {scope : Scope} {cl : List (Str × Addr)}

/-- an object that stands comes to be owned -/
theorem Good.adopt {h : Heap} {a : Addr} {o : AObj} (G : Good S σ h) (ho : ∀ C at_, o ≠ .inst C at_) (hf : ¬ fp σ a) (hb : S.base.get? a = none) (hs : a ≠ sysModules) (hr : Rep S h a o) : Good S (put σ a o) h where
  keep := G.keep
  rep b x e := by
    by_cases q : b = a
    · subst q; rw [put_self] at e; cases e; exact hr
    · rw [put_ne q] at e; exact G.rep b x e
  sep b C at_ e := by
    by_cases q : b + 1 = a
    · rw [q, put_self] at e; exact absurd (Option.some.inj e) (ho _ _)
    · rw [put_ne q] at e
      have hne : b ≠ a := fun q => by subst q; exact hf (fp_dict e)
      rw [put_ne hne]; exact G.sep b C at_ e
  new b q := by
    rcases fp_put ho q with q | rfl
    · exact G.new b q
    · exact ⟨hb, hs⟩
theorem Step.adopt {σ₀ : AH} {s s' : Shared} {a : Addr} {o : AObj} (T : Step σ₀ s σ s') (ho : ∀ C at_, o ≠ .inst C at_) (h : s.heap.get? a = none ∨ fp σ₀ a) : Step σ₀ s (put σ a o) s' :=
  ⟨T.keep, fun b hb => by rcases fp_put ho hb with q | rfl; exact T.own b q; exact h.symm, T.gens, T.os⟩

/-- the source of a block is taken -/
theorem comp_source {p2 : Pos} {elt iter : PySem.Expr} {x : Str} {px : Pos} {ifs : List PySem.Expr} (B : BlockOk env scope cl) (hx : scope.names.lookup x = some .local) (I : Nat → List Value → AH → Prop) (N : Nat) (K : List Value → AH → Prop) {use : Option (Value → Sem Unit)} {T : Value → Shared → Prop} {A : Around} {s : Shared} (R : Room n A) (G : Good S σ s.heap) (F : FrOk S env s.heap σ ρ)
    (h : Ev S n env ρ σ iter (fun v σ₁ => PyIt S n σ₁ v (fun nx σ₂ => I 0 [] σ₂ ∧ ∀ i acc σ', I i acc σ' → i ≤ N ∧ acc.length ≤ 1000 ∧ ∃ r, nx i σ' r ∧ match r with
      | some v => ∀ C ρc, ρc x = some v → (∀ y, (compEnvC scope cl C env).kindOf y ≠ some .local → ρc y = ρ y) →
          Tr S n (compEnvC scope cl C env) ρc σ' (fun b : Bool => b) (forIn ifs true fun c r => if r = true then do let ok ← isTrue c (compEnvC scope cl C env) (eval c (compEnvC scope cl C env)); Pure.pure (ForInStep.yield ok) else Pure.pure (ForInStep.yield r))
            (fun ok σ₁ => if ok then Ev S n (compEnvC scope cl C env) ρc σ₁ elt (fun u σ₂ => I (i + 1) (acc ++ [u]) σ₂) else I (i + 1) acc σ₁)
      | none => K acc σ')))
    (hs : ∀ x, foldedSetIterable iter env x = Pure.pure x)
    (hfin : ∀ D C s', CompFin S env ρ σ s D C K s' → compPost (model S.prog S.w) A NoE use T (.ref D) C (.ok .next) s') :
    wpAny (model S.prog S.w) A (comprehension (.ListComp elt [⟨.Name x px, iter, ifs, 0⟩] scope pos) scope env p2 (newList []) false (eval iter env) use) T NoE s := by
  refine wpAny_comprehension_free (g := ⟨.Name x px, iter, ifs, 0⟩) (gs := []) rfl hs B.clos B.kind B.names (wpAny_mono (h A s R G F) (fun v s₁ ⟨σ₁, G₁, T₁, h₁⟩ => wpAny_mono (h₁ v rfl A s₁ R G₁) (fun r s₂ ⟨it, At, nx, σ₂, e, O, hat, G₂, T₂, hfp, hnone, hI, turn⟩ => ?_) fun _ _ x => x) fun _ _ x => x)
  subst e
  have F₁ := F.step T₁
  have F₂ := F₁.step T₂
  have hbase : S.base.get? it = none := by
    cases e : S.base.get? it with
    | none => rfl
    | some o => rw [G₁.keep _ _ e] at hnone; cases hnone
  have hfree := F₁.frees hnone
  have hit0 : s.heap.get? it = none ∨ fp σ it := by
    by_cases q : fp σ it
    · exact .inr q
    · left
      cases e : s.heap.get? it with
      | none => rfl
      | some o => have := T₁.keep it o q e; rw [hnone] at this; cases this
  exact compCore B hx I N K R G₂ F₂ O hat ⟨hfp, hbase, hfree.1, hfree.2⟩ (T₁.trans T₂) hit0 hI turn fun D C s' hf _ _ => hfin D C s' hf

theorem CompFin.use {D C : Addr} {s s' : Shared} {K : List Value → AH → Prop} (hf : CompFin S env ρ σ s D C K s') : ∃ m, s'.heap.Ns C m ∧ ∀ h', Heap.SameBut C s'.heap h' → ∃ σ' acc, Good S (put σ' D (.list acc)) h' ∧ Step σ s (put σ' D (.list acc)) { s' with heap := h' } ∧ ¬ fp σ' D ∧ K acc σ' := by
  obtain ⟨σ', xs, k, m, acc, G, T, hD, hacc, hn, HD, HC, hDC, h0, hs, hC0, q⟩ := hf
  refine ⟨m, hn, fun h' hs' => ?_⟩
  have hk : ∀ b o, b ≠ C → s'.heap.get? b = some o → h'.get? b = some o := fun b o hb e => hs'.extBut b o hb e
  refine ⟨σ', acc, (G.but HC hk).adopt list_noInst HD.fp HD.base hs ⟨xs, k, hk _ _ hDC hD, hacc⟩, ?_, HD.fp, q⟩
  have T' : Step σ s σ' { s' with heap := h' } := ⟨fun b o hb e => hk b o (fun q => by
    subst q
    rcases hC0 with h | h
    · rw [h] at e; cases e
    · exact hb h) (T.keep b o hb e), T.own, T.gens, T.os⟩
  exact T'.adopt list_noInst h0

abbrev CE (scope : Scope) (cl : List (Str × Addr)) (C : Addr) (env : Env) : Env := compEnvC scope cl C env
/-- a block without tests -/
theorem Ev.comp {elt iter : PySem.Expr} {x : Str} {px : Pos} (cl : List (Str × Addr)) (I : Nat → List Value → AH → Prop) (N : Nat) (B : BlockOk env scope cl) (hx : scope.names.lookup x = some .local)
    (h : Ev S n env ρ σ iter (fun v σ₁ => PyIt S n σ₁ v (fun nx σ₂ => I 0 [] σ₂ ∧ ∀ i acc σ', I i acc σ' → i ≤ N ∧ acc.length ≤ 1000 ∧ ∃ r, nx i σ' r ∧ match r with
      | some v => ∀ C ρc, ρc x = some v → (∀ y, (CE scope cl C env).kindOf y ≠ some .local → ρc y = ρ y) → Ev S n (CE scope cl C env) ρc σ' elt (fun u σ₂ => I (i + 1) (acc ++ [u]) σ₂)
      | none => ∀ a, ¬ fp σ' a → Q (.ref a) (put σ' a (.list acc)))))
    (hs : ∀ x, foldedSetIterable iter env x = Pure.pure x) : Ev S n env ρ σ (.ListComp elt [⟨.Name x px, iter, [], 0⟩] scope pos) Q := fun A s R G F => by
  rw [eval_ListComp]
  refine comp_source B hx I N (fun acc σ' => ∀ a, ¬ fp σ' a → Q (.ref a) (put σ' a (.list acc))) R G F (h.mono fun v σ₁ h₁ u hu A s R G => ?_) hs fun D C s' hf => ?_
  · refine wpAny_mono (h₁ u hu A s R G) (fun r s' ⟨it, At, nx, σ', a, b, c, d, e, f, g, i0, tn⟩ => ⟨it, At, nx, σ', a, b, c, d, e, f, g, i0, fun i acc σ'' hI => ?_⟩) fun _ _ x => x
    obtain ⟨k1, k2, r, k3, k4⟩ := tn i acc σ'' hI
    refine ⟨k1, k2, r, k3, ?_⟩
    cases r with
    | none => exact k4
    | some v => exact fun C ρc e1 e2 => Tr.pure (k4 C ρc e1 e2)
  · obtain ⟨m, hn, k⟩ := hf.use
    refine ⟨m, hn, fun h' hs' => ?_⟩
    obtain ⟨σ', acc, g, t, nf, q⟩ := k h' hs'
    exact ⟨_, g, t, q D nf⟩
theorem test1 {c : PySem.Expr} {env' : Env} {ρ' : Str → Option Value} {P : Bool → AH → Prop} (h : IsT S n env' ρ' σ c P) : Tr S n env' ρ' σ (fun b : Bool => b) (forIn [c] true fun c r => if r = true then do let ok ← isTrue c env' (eval c env'); Pure.pure (ForInStep.yield ok) else Pure.pure (ForInStep.yield r)) P := by
  rw [List.forIn_cons]
  refine Tr.bind (f := fun r : ForInStep Bool => match r with | .yield b => b | .done b => b) ?_ (Q := P)
  · simp only [if_true]
    refine Tr.bind (f := fun b : Bool => b) (h.mono fun b σ₁ hb a ha => ?_)
    subst ha
    refine Tr.pure ?_
    intro a ha
    cases a with
    | yield b' =>
      dsimp only at ha
      subst ha
      dsimp only
      rw [List.forIn_nil]
      exact Tr.pure hb
    | done b' =>
      dsimp only at ha
      subst ha
      exact Tr.pure hb
/-- a block with one test -/
theorem Ev.compIf {elt iter c : PySem.Expr} {x : Str} {px : Pos} (cl : List (Str × Addr)) (I : Nat → List Value → AH → Prop) (N : Nat) (B : BlockOk env scope cl) (hx : scope.names.lookup x = some .local)
    (h : Ev S n env ρ σ iter (fun v σ₁ => PyIt S n σ₁ v (fun nx σ₂ => I 0 [] σ₂ ∧ ∀ i acc σ', I i acc σ' → i ≤ N ∧ acc.length ≤ 1000 ∧ ∃ r, nx i σ' r ∧ match r with
      | some v => ∀ C ρc, ρc x = some v → (∀ y, (CE scope cl C env).kindOf y ≠ some .local → ρc y = ρ y) → IsT S n (CE scope cl C env) ρc σ' c (fun ok σ₁ => if ok then Ev S n (CE scope cl C env) ρc σ₁ elt (fun u σ₂ => I (i + 1) (acc ++ [u]) σ₂) else I (i + 1) acc σ₁)
      | none => ∀ a, ¬ fp σ' a → Q (.ref a) (put σ' a (.list acc)))))
    (hs : ∀ x, foldedSetIterable iter env x = Pure.pure x) : Ev S n env ρ σ (.ListComp elt [⟨.Name x px, iter, [c], 0⟩] scope pos) Q := fun A s R G F => by
  rw [eval_ListComp]
  refine comp_source B hx I N (fun acc σ' => ∀ a, ¬ fp σ' a → Q (.ref a) (put σ' a (.list acc))) R G F (h.mono fun v σ₁ h₁ u hu A s R G => ?_) hs fun D C s' hf => ?_
  · refine wpAny_mono (h₁ u hu A s R G) (fun r s' ⟨it, At, nx, σ', a, b, c, d, e, f, g, i0, tn⟩ => ⟨it, At, nx, σ', a, b, c, d, e, f, g, i0, fun i acc σ'' hI => ?_⟩) fun _ _ x => x
    obtain ⟨k1, k2, r, k3, k4⟩ := tn i acc σ'' hI
    refine ⟨k1, k2, r, k3, ?_⟩
    cases r with
    | none => exact k4
    | some v => exact fun C ρc e1 e2 => test1 (k4 C ρc e1 e2)
  · obtain ⟨m, hn, k⟩ := hf.use
    refine ⟨m, hn, fun h' hs' => ?_⟩
    obtain ⟨σ', acc, g, t, nf, q⟩ := k h' hs'
    exact ⟨_, g, t, q D nf⟩

/-- «y = [..]» on one row: the stores are exchanged -/
theorem Ts.assignComp {elt iter : PySem.Expr} {x y : Str} {px py spos : Pos} (cl : List (Str × Addr)) (I : Nat → List Value → AH → Prop) (N : Nat) (B : BlockOk env scope cl) (hx : scope.names.lookup x = some .local) (hy : CellOk env y) (hyl : env.kindOf y = some .local)
    (hsw : swapsWith (.ListComp elt [⟨.Name x px, iter, [], 0⟩] scope pos) (some (.Name y py)) spos.line env = Pure.pure true)
    (h : Ev S n env ρ σ iter (fun v σ₁ => PyIt S n σ₁ v (fun nx σ₂ => I 0 [] σ₂ ∧ ∀ i acc σ', I i acc σ' → i ≤ N ∧ acc.length ≤ 1000 ∧ ∃ r, nx i σ' r ∧ match r with
      | some v => ∀ C ρc, ρc x = some v → (∀ y, (CE scope cl C env).kindOf y ≠ some .local → ρc y = ρ y) → Ev S n (CE scope cl C env) ρc σ' elt (fun u σ₂ => I (i + 1) (acc ++ [u]) σ₂)
      | none => ∀ a, ¬ fp σ' a → QS .next (setv ρ y (.ref a)) (put σ' a (.list acc)))))
    (hs : ∀ x, foldedSetIterable iter env x = Pure.pure x) : Ts S n env ρ σ (exec (.Assign [.Name y py] (.ListComp elt [⟨.Name x px, iter, [], 0⟩] scope pos) spos) env) QS := fun A s R G F => by
  rw [exec_Assign_Name_used _ _ _ _ hsw]
  refine wpAny_bind (wpAny_standAt (wpAny_bind ?_))
  show wpAny _ A (do let _ ← comprehension (.ListComp elt [⟨.Name x px, iter, [], 0⟩] scope pos) scope env _ (newList []) false (eval iter env) (some (assign (.Name y py) env))) _ _ s
  let P : Shared → Prop := fun s' => OutF S env σ s s' (QS .next)
  refine wpAny_bind (wpAny_mono (Q := fun _ s' => P s') (comp_source B hx I N (fun acc σ' => ∀ a, ¬ fp σ' a → QS .next (setv ρ y (.ref a)) (put σ' a (.list acc))) R G F (h.mono fun v σ₁ h₁ u hu A s R G => ?_) hs fun D C s' hf => ?_)
    (fun _ s' hp => wpAny_pure (wpAny_pure hp)) fun _ _ x => x)
  · refine wpAny_mono (h₁ u hu A s R G) (fun r s' ⟨it, At, nx, σ', a, b, c, d, e, f, g, i0, tn⟩ => ⟨it, At, nx, σ', a, b, c, d, e, f, g, i0, fun i acc σ'' hI => ?_⟩) fun _ _ x => x
    obtain ⟨k1, k2, r, k3, k4⟩ := tn i acc σ'' hI
    refine ⟨k1, k2, r, k3, ?_⟩
    cases r with
    | none => exact k4
    | some v => exact fun C ρc e1 e2 => Tr.pure (k4 C ρc e1 e2)
  · obtain ⟨σ', xs, k, m, acc, G', T', hD, hacc, hn, HD, HC, hDC, h0, hsys, hC0, q⟩ := hf
    have F' := F.step T'
    obtain ⟨mm, hnn, hmm⟩ := F'.ns
    refine wpAny_assign_Name (wpAny_storeName_local hyl hnn (fun h' hn' hs' => ?_) (by rw [F.kind]; rfl))
    refine ⟨m, hn.sameBut hs' HC.loc, fun h'' hs'' => ?_⟩
    have hk : ∀ b o, b ≠ C → b ≠ env.locals → s'.heap.get? b = some o → h''.get? b = some o := fun b o h1 h2 e => hs''.extBut b o h1 (hs'.extBut b o h2 e)
    have G1 : Good S σ' h' := G'.ext fun b o e hb => hs'.extBut b o (fun qq => by subst qq; rcases hb with hb | hb; exact F'.nL hb; rw [F'.bL] at hb; cases hb) e
    have G2 : Good S σ' h'' := G1.but HC fun b o hb e => hs''.extBut b o hb e
    have F1 : FrOk S env h' σ' (setv ρ y (.ref D)) := F'.setL hyl hmm hn' hs'
    have F2 : FrOk S env h'' σ' (setv ρ y (.ref D)) := F1.but HC fun b o hb e => hs''.extBut b o hb e
    refine ⟨put σ' D (.list acc), setv ρ y (.ref D), G2.adopt list_noInst HD.fp HD.base hsys ⟨xs, k, hk _ _ hDC HD.loc hD, hacc⟩, ?_, ?_, q D HD.fp⟩
    · refine ⟨F2.kind, F2.glob, F2.bl, F2.ns, fun qq => ?_, F2.bL, fun x c e => ?_, F2.apart, F2.sepn⟩
      · rcases fp_put list_noInst qq with qq | qq
        · exact F2.nL qq
        · exact HD.loc qq.symm
      · obtain ⟨a1, a2, a3, a4⟩ := F2.cells x c e
        refine ⟨a1, fun qq => ?_, a3, a4⟩
        rcases fp_put list_noInst qq with qq | qq
        · exact a2 qq
        · exact HD.cel x (qq ▸ e)
    · refine ⟨fun b o hb h1 h2 e => hk b o (fun qq => ?_) h1 (T'.keep b o hb e), fun b hb => ?_, T'.gens, T'.os⟩
      · subst qq
        rcases hC0 with h | h
        · rw [h] at e; cases e
        · exact hb h
      · rcases fp_put list_noInst hb with qq | rfl
        · exact T'.own b qq
        · exact h0.symm
end

section
variable {S : Stat} {n : Nat} {env : Env} {ρ : Str → Option Value} {σ : AH} {Q : Value → AH → Prop} {pos : Pos} {QS : Flow → (Str → Option Value) → AH → Prop}

theorem Ts.exprD {e : PySem.Expr} (h : Ev S n env ρ σ e (fun v σ₁ => QS .next ρ σ₁)) (hi : interactive env = false) (hs : swapsWith e none pos.line env = pure false) : Ts S n env ρ σ (exec (.Expr e pos) env) QS := fun A s R G F => by
  rw [exec_Expr env e pos hi hs]
  exact wpAny_bind (wpAny_standAt (wpAny_bind (wpAny_mono (h A s R G F) (fun v s₁ ⟨σ₁, G₁, T₁, q⟩ => wpAny_dropValue ⟨σ₁, ρ, G₁, F.step T₁, T₁.toF, q⟩) fun _ _ x => x)))

def ListAt (S : Stat) (σ : AH) (l : Addr) (vs : List Value) : Prop := σ l = some (.list vs) ∨ ∃ xs : Array Value, S.base.IsList l xs ∧ xs.toList.map nrm = vs
theorem ListAt.get {h : Heap} {l : Addr} {vs : List Value} (G : Good S σ h) (H : ListAt S σ l vs) : ∃ xs : Array Value, h.IsList l xs ∧ xs.toList.map nrm = vs := by
  rcases H with H | ⟨xs, H, e⟩
  · obtain ⟨xs, k, hx, hv⟩ := G.lst H
    exact ⟨xs, asList hx, hv⟩
  · obtain ⟨o, ho, r⟩ := H
    exact ⟨xs, ⟨o, G.keep _ _ ho, r⟩, e⟩

theorem Good.newList {h h' : Heap} {a : Addr} {ys : Array Value} (G : Good S σ h) (ha : h.get? a = none) (hs : a ≠ sysModules) (hk : ∀ b x, h.get? b = some x → h'.get? b = some x) (hr : h'.get? a = some { cls := .type "list", data := .seq ys }) : Good S (put σ a (.list (ys.toList.map nrm))) h' :=
  G.new1 list_noInst ha hs hk ⟨ys, 0, hr, rfl⟩

theorem Ev.sliceUp {o hi : PySem.Expr} {sp : Pos} (h : Ev S n env ρ σ o (fun ov σ₁ => Ev S n env ρ σ₁ hi (fun iv σ₂ => ∃ l vs k, ov = .ref l ∧ iv = VI (k : Nat) ∧ ListAt S σ₂ l vs ∧ vs.length ≤ 10000 ∧ ∀ a, ¬ fp σ₂ a → Q (.ref a) (put σ₂ a (.list (vs.take k)))))) :
    Ev S n env ρ σ (.Subscript o (.Slice none (some hi) none sp) pos) Q := fun A s R G F =>
  Subscript_ (wpAny_mono (h A s R G F) (fun u s₁ ⟨σ₁, G₁, T₁, h₁⟩ => by
    refine wpAny_Slice ?_
    rw [evalPart_none, evalPart_some]
    refine wpAny_pure (wpAny_mono (h₁ A s₁ R G₁ (F.step T₁)) (fun w s₂ ⟨σ₂, G₂, T₂, l, vs, k, e1, e2, e3, e4, q⟩ => ?_) fun _ _ x => x)
    refine wpAny_pure ?_
    cases of_nrm_ref e1
    obtain ⟨t, rfl⟩ := of_nrm_int e2
    obtain ⟨xs, hl, hm⟩ := e3.get G₂
    have hz := size_of_map hm
    have h5 : xs.size ≤ sizeLine := sz_le (by omega)
    refine tail_any (Heap.IsList.typeIs (s := { s₂ with heap := s₂.heap.push { cls := .type "slice", data := .fields #[.none, .int k t, .none] } }) (hl.push _)) list_getitem_lookup
      (wpAny_getItem_list_slice (hl.push _) (Heap.IsSliceOf.new ..) .none (.int _ _) .none (by simp) ?_ h5) (ops := [.ref s₂.heap.objs.size, .ref l]) rfl
    rw [Heap.size_push]
    have hn : s₂.heap.get? (s₂.heap.objs.size + 1) = none := by
      cases e : s₂.heap.get? (s₂.heap.objs.size + 1) with
      | none => rfl
      | some o => exact absurd (Heap.lt_size e) (Nat.not_lt.mpr (Nat.le_succ _))
    have hs1 : s₂.heap.objs.size + 1 ≠ sysModules := by
      obtain ⟨o, _, _, e, _⟩ := S.g
      have h1 := Heap.lt_size (G₂.keep _ _ e)
      have h2 : mainGlobals = 3 := rfl
      have h3 : sysModules = 1 := rfl
      rw [h2] at h1
      intro q
      rw [h3] at q
      have h1' : (3 : Nat) < s₂.heap.objs.size := h1
      have q' : s₂.heap.objs.size + 1 = (1 : Nat) := q
      omega
    have hk : ∀ b x, s₂.heap.get? b = some x → ((s₂.heap.push { cls := .type "slice", data := .fields #[.none, .int k t, .none] }).push { cls := .type "list", data := .seq (slicePick xs none (some (k : Int)) none) }).get? b = some x := fun b x e => Heap.get?_push_of_some _ (Heap.get?_push_of_some _ e)
    have hr : ((s₂.heap.push { cls := .type "slice", data := .fields #[.none, .int k t, .none] }).push { cls := .type "list", data := .seq (slicePick xs none (some (k : Int)) none) }).get? (s₂.heap.objs.size + 1) = some { cls := .type "list", data := .seq (slicePick xs none (some (k : Int)) none) } := by
      have := Heap.get?_push_size (s₂.heap.push { cls := .type "slice", data := .fields #[.none, .int k t, .none] }) (o := { cls := .type "list", data := .seq (slicePick xs none (some (k : Int)) none) }) rfl
      rwa [Heap.size_push] at this
    have hlist : (slicePick xs none (some (k : Int)) none).toList.map nrm = vs.take k := by
      rw [slicePick_upto', List.toList_toArray, ← hm, List.map_take]
    refine ⟨_, G₂.newList hn hs1 hk hr, (T₁.trans T₂).trans (Step.new1 list_noInst hn hk rfl rfl), ?_⟩
    rw [hlist]
    exact q _ (G₂.free hn)) fun _ _ x => x)

/-- a copy of a list -/
theorem CallV.listOf {l : Addr} {vs : List Value} (hσ : σ l = some (.list vs)) (hl : vs.length ≤ 90000) (h : ∀ a, ¬ fp σ a → Q (.ref a) (put σ a (.list vs))) : CallV S n σ (.type "list") [.ref l] Q := fun raws hr A s R G => by
  obtain ⟨u, rfl, hu⟩ := map1 hr
  cases of_nrm_ref hu
  obtain ⟨xs, k, hx, hv⟩ := G.lst hσ
  have hz := size_of_map hv
  have hn := get?_size s.heap
  refine call_list_seq l (.inl rfl) hx rfl rfl (fun h' c' hk hr => ?_) (by rw [hz]; exact sz_le (by omega))
  refine ⟨_, G.new1 list_noInst hn G.size_ne hk ⟨xs, c', hr, hv⟩, Step.new1 list_noInst hn hk rfl rfl, h _ (G.free hn)⟩
end


/-! # the program's defs -/
def stAt (k : Nat) : PySem.Stmt := (PySem.Challenge.pw_pq1021_01.main.body)[k]?.getD (.Pass ⟨0, 0, 0, 0⟩)
def bodyS : PySem.Stmt → List PySem.Stmt
  | .FunctionDef _ _ b .. => b
  | .ClassDef _ _ _ b .. => b
  | _ => []
def inCls (c k : Nat) : PySem.Stmt := (bodyS (stAt c))[k]?.getD (.Pass ⟨0, 0, 0, 0⟩)
def scopeS : PySem.Stmt → Scope
  | .FunctionDef _ _ _ _ _ _ s .. => s
  | _ => default
def fdOf (d : PySem.Stmt) (qual : Str) (pm code : Value) : FuncData := match d with
  | .FunctionDef name args body _ _ _ scope _ _ _ => { name, qualname := qual, params := args, body := .stmts body, scope, globals := mainGlobals, closure := [], defaults := .none, kwdefaults := .none, doc := .none, pyModule := pm, annotations := none, code, closureTuple := .none, builtins := builtinsNs }
  | _ => { name := "", qualname := qual, params := default, body := .stmts [], scope := default, globals := mainGlobals, closure := [], defaults := .none, kwdefaults := .none, doc := .none, pyModule := pm, annotations := none, code, closureTuple := .none, builtins := builtinsNs }
theorem fdOf_body (d : PySem.Stmt) (q pm c) : (fdOf d q pm c).body = .stmts (match d with | .FunctionDef _ _ b .. => b | _ => []) := by unfold fdOf; split <;> rfl
theorem fdOf_scope (d : PySem.Stmt) (q pm c) : (fdOf d q pm c).scope = scopeS d := by unfold fdOf scopeS; split <;> rfl
def bodyF : PySem.Stmt → List PySem.Stmt
  | .FunctionDef _ _ b .. => b
  | _ => []
def isFun : PySem.Stmt → Bool
  | .FunctionDef .. => true
  | _ => false

def okFn (d : PySem.Stmt) (names : List Str) : Bool :=
  let ns := (scopeS d).names
  let cs := (cellsFrom 0 ns []).map (·.1)
  names.all (fun x => ns.lookup x == some .local || (ns.lookup x == some .cell && cs.contains x)) && cs.all (fun x => ns.lookup x != some .local) && (scopeS d).isCoroutine == false && (scopeS d).isGenerator == false && (scopeS d).kind == .function

abbrev EnvF (d : PySem.Stmt) (q : Str) (pm cd : Value) (L f : Addr) : Env := callEnvC (fdOf d q pm cd) L f
section
variable {S : Stat} {n : Nat} {env : Env} {ρ : Str → Option Value} {σ : AH} {Q : Value → AH → Prop} {pos : Pos} {QS : Flow → (Str → Option Value) → AH → Prop}

theorem lookup_isSome_of_mem {α : Type} {x : Str} : ∀ {l : List (Str × α)}, x ∈ l.map (·.1) → (l.lookup x).isSome = true
  | [], h => by cases h
  | (k, v) :: r, h => by
    rw [List.lookup_cons]
    by_cases q : x = k
    · subst q; simp
    · have : (x == k) = false := beq_eq_false_iff_ne.mpr q
      rw [this]
      simp only [List.map_cons, List.mem_cons] at h
      exact lookup_isSome_of_mem (h.resolve_left q)

theorem CodeV.fn {f : Addr} {d : PySem.Stmt} {q : Str} (names : List Str) {vs : List Value} (hf : ∃ pm cd, FnAt S f (fdOf d q pm cd))
    (hok : okFn d names = true) (hbind : ∀ pm cd (raws : List Value), raws.length = vs.length → bindArgs (fdOf d q pm cd) ⟨raws, []⟩ = Pure.pure (names.zip raws))
    (h : ∀ pm cd L, Ts S n (EnvF d q pm cd L f) (rho0 names vs) σ (execs (bodyF d) (EnvF d q pm cd L f)) (fun fl _ σ' => Q (match fl with | .ret v => v | _ => .none) σ')) : CodeV S (n + 1) σ (.ref f) vs Q := by
  obtain ⟨pm, cd, hf⟩ := hf
  have hs : (fdOf d q pm cd).scope = scopeS d := fdOf_scope ..
  unfold okFn at hok
  simp only [Bool.and_eq_true, List.all_eq_true, Bool.or_eq_true, beq_iff_eq, bne_iff_ne, ne_eq] at hok
  obtain ⟨⟨⟨⟨h1, h2⟩, h3⟩, h4⟩, h5⟩ := hok
  refine CodeV.ofDef (fd := fdOf d q pm cd) (body := bodyF d) (names := names) hf (by unfold fdOf bodyF; split <;> rfl) (hbind pm cd) (fun x hx => ?_) (fun x hx => ?_) (h pm cd) (by rw [hs]; exact h3) (by rw [hs]; exact h4) (by rw [hs]; exact h5)
  · rw [hs]
    rcases h1 x hx with h | ⟨h, hc⟩
    · exact .inl h
    · refine .inr ⟨h, fun L => lookup_isSome_of_mem ?_⟩
      rw [cellsFrom_names (scopeS d).names L 0 [] [] rfl]
      exact List.contains_iff_mem.mp hc
  · rw [hs] at hx ⊢
    exact h2 x hx

/-- a name of the frame, local or cell -/
def nameOk (env : Env) (x : Str) : Bool := match env.kindOf x with
  | some .local => true
  | some .cell => (env.cells.lookup x).isSome
  | _ => false
theorem cellOk_of {x : Str} (h : nameOk env x = true) : CellOk env x := by
  unfold nameOk at h
  split at h
  · exact .inl (by assumption)
  · exact .inr ⟨by assumption, h⟩
  · cases h
theorem Ev.name {x : Str} {v : Value} (hl : nameOk env x = true) (hv : ρ x = some v) (h : Q v σ) (hd : (x == ("__debug__" : Str)) = false) : Ev S n env ρ σ (.Name x pos) Q := by
  rcases cellOk_of hl with hl | ⟨hl, hc⟩
  · exact Ev.local hl hv h hd
  · exact Ev.cellv hl hc hv h hd
theorem setv_self {x : Str} {v : Value} : setv ρ x v x = some v := by simp [setv]
theorem setv_old {x y : Str} {v w : Value} (hne : (y == x) = false) (h : ρ y = some w) : setv ρ x v y = some w := by
  have : y ≠ x := beq_eq_false_iff_ne.mp hne
  simp [setv, this, h]
end

/-! # what the program's facts are -/
inductive Cl where
  | Symbol
  | Table
  | Pair
  | Text
  | Vector
  | Alias
  | Scope
  | Names
inductive Fu where
  | rootSymbol
  | aliasOf
  | stripOne
  | strip
  | hasAlias
  | plain
  | draw
  | things
  | isOne
  | parts
  | mates
  | reached
  | kept
  | law
inductive Me where
  | tblSymbol
  | nFresh
  | nSymbol
inductive Bi where
  | isinstanceB
  | lenB
  | rangeB
  | intB
  | absB
  | zipB
  | listB
def nameC : Cl → Str
  | .Symbol => "Symbol"
  | .Table => "SymbolTable"
  | .Pair => "Pair"
  | .Text => "Text"
  | .Vector => "Vector"
  | .Alias => "Alias"
  | .Scope => "Scope"
  | .Names => "Names"
def attrsC : Cl → List Str
  | .Symbol => ["number", "text"]
  | .Table => ["rows", "by_text"]
  | .Pair => ["car", "cdr", "mark"]
  | .Text => ["codes", "mark"]
  | .Vector => ["things", "mark"]
  | .Alias => ["number", "base", "scope", "root", "depth"]
  | .Scope => ["parent", "names"]
  | .Names => ["table", "last", "titles", "ops", "root"]
def initD : Cl → PySem.Stmt
  | .Symbol => inCls 2 0
  | .Table => inCls 3 0
  | .Pair => inCls 4 0
  | .Text => inCls 5 0
  | .Vector => inCls 6 0
  | .Alias => inCls 12 0
  | .Scope => inCls 15 0
  | .Names => inCls 22 0
def initQ : Cl → Str
  | .Symbol => "Symbol.__init__"
  | .Table => "SymbolTable.__init__"
  | .Pair => "Pair.__init__"
  | .Text => "Text.__init__"
  | .Vector => "Vector.__init__"
  | .Alias => "Alias.__init__"
  | .Scope => "Scope.__init__"
  | .Names => "Names.__init__"
def eqC : Cl → Cl → Bool
  | .Symbol, .Symbol => true
  | .Table, .Table => true
  | .Pair, .Pair => true
  | .Text, .Text => true
  | .Vector, .Vector => true
  | .Alias, .Alias => true
  | .Scope, .Scope => true
  | .Names, .Names => true
  | _, _ => false
def nameF : Fu → Str
  | .rootSymbol => "root_symbol"
  | .aliasOf => "alias_of"
  | .stripOne => "strip_one"
  | .strip => "strip"
  | .hasAlias => "has_alias"
  | .plain => "plain"
  | .draw => "_law_draw"
  | .things => "_law_things"
  | .isOne => "_law_is_one"
  | .parts => "_law_parts"
  | .mates => "_law_mates"
  | .reached => "_law_reached"
  | .kept => "_law_is_kept"
  | .law => "law"
def dF : Fu → PySem.Stmt
  | .rootSymbol => stAt 14
  | .aliasOf => stAt 16
  | .stripOne => stAt 17
  | .strip => stAt 18
  | .hasAlias => stAt 19
  | .plain => stAt 20
  | .draw => stAt 24
  | .things => stAt 25
  | .isOne => stAt 26
  | .parts => stAt 27
  | .mates => stAt 28
  | .reached => stAt 29
  | .kept => stAt 30
  | .law => stAt 31
def clsM : Me → Cl
  | .tblSymbol => .Table
  | .nFresh => .Names
  | .nSymbol => .Names
def nameM : Me → Str
  | .tblSymbol => "symbol"
  | .nFresh => "fresh"
  | .nSymbol => "symbol"
def dM : Me → PySem.Stmt
  | .tblSymbol => inCls 3 1
  | .nFresh => inCls 22 1
  | .nSymbol => inCls 22 2
def qM : Me → Str
  | .tblSymbol => "SymbolTable.symbol"
  | .nFresh => "Names.fresh"
  | .nSymbol => "Names.symbol"
def nameB : Bi → Str
  | .isinstanceB => "isinstance"
  | .lenB => "len"
  | .rangeB => "range"
  | .intB => "int"
  | .absB => "abs"
  | .zipB => "zip"
  | .listB => "list"
def valB : Bi → Value
  | .isinstanceB => .builtin "isinstance"
  | .lenB => .builtin "len"
  | .rangeB => .type "range"
  | .intB => .type "int"
  | .absB => .builtin "abs"
  | .zipB => .type "zip"
  | .listB => .type "list"
structure Prg (S : Stat) where
  c : Cl → Addr
  i : Cl → Addr
  f : Fu → Addr
  m : Me → Addr
  ok : ∀ x, ClsOk S (c x)
  free : ∀ x name, (attrsC x).contains name = true → NameFree S (c x) name
  init : ∀ x, findIn S.K (.ref (c x)) "__init__" = some (some (.ref (i x)))
  initT : ∀ x, typeIn S.K (.ref (i x)) = some (.type "function")
  initF : ∀ x, ∃ pm cd, FnAt S (i x) (fdOf (initD x) (initQ x) pm cd)
  gC : ∀ x, nsIn S.K mainGlobals (nameC x) = some (some (.ref (c x)))
  keepC : ∀ x, keepIn S.K (.ref (c x)) = true
  kit : ∀ x y, kitOne S.K (.ref (c x)) (.ref (c y)) = some (eqC x y)
  kitI : ∀ x, kitOne S.K (.ref (c x)) (.type "int") = some false
  iKit : ∀ y, kitOne S.K (.type "int") (.ref (c y)) = some false
  gF : ∀ x, nsIn S.K mainGlobals (nameF x) = some (some (.ref (f x)))
  keepF : ∀ x, keepIn S.K (.ref (f x)) = true
  fnF : ∀ x, ∃ pm cd, FnAt S (f x) (fdOf (dF x) (nameF x) pm cd)
  fM : ∀ x, findIn S.K (.ref (c (clsM x))) (nameM x) = some (some (.ref (m x)))
  keepM : ∀ x, keepIn S.K (.ref (m x)) = true
  isM : ∀ x, isFn S.K (.ref (m x)) = true
  fnM : ∀ x, ∃ pm cd, FnAt S (m x) (fdOf (dM x) (qM x) pm cd)
  gB : ∀ x, nsIn S.K mainGlobals (nameB x) = some none
  deep : ∃ t, nsIn S.K mainGlobals "MOST_DEEP" = some (some (.int 3000 t))

theorem bootB (x : Bi) : bootBuiltins (nameB x) = some (valB x) := by cases x <;> kernel_rfl
theorem nameB_ne (x : Bi) : nameB x ≠ "__name__" := by cases x <;> decide +kernel
section
variable {S : Stat} {n : Nat} {env : Env} {ρ : Str → Option Value} {σ : AH} {Q : Value → AH → Prop} {pos : Pos}
theorem Ev.gl {x : Str} {a : Addr} (hx : (env.kindOf x) = some .globalImplicit) (e : nsIn S.K mainGlobals x = some (some (.ref a))) (hd : (x == ("__debug__" : Str)) = false) (h : Q (.ref a) σ) : Ev S n env ρ σ (.Name x pos) Q := Ev.global hx e h hd
theorem Ev.bi (P : Prg S) (b : Bi) {x : Str} (hx : env.kindOf x = some .globalImplicit) (e : nameB b = x) (hd : (x == ("__debug__" : Str)) = false) (h : Q (nrm (valB b)) σ) : Ev S n env ρ σ (.Name x pos) Q := by
  subst e
  exact Ev.builtin hx (P.gB b) (bootB b) h hd (nameB_ne b)
theorem Ev.deep (P : Prg S) (hx : env.kindOf ("MOST_DEEP" : Str) = some .globalImplicit) (hd : ((("MOST_DEEP" : Str)) == ("__debug__" : Str)) = false) (h : Q (VI 3000) σ) : Ev S n env ρ σ (.Name "MOST_DEEP" pos) Q := by
  obtain ⟨t, e⟩ := P.deep
  exact Ev.global hx e h hd
theorem Ev.gSymbol (P : Prg S) (hx : env.kindOf ("Symbol" : Str) = some .globalImplicit) (hd : (("Symbol" : Str) == ("__debug__" : Str)) = false) (h : Q (.ref (P.c .Symbol)) σ) : Ev S n env ρ σ (.Name "Symbol" pos) Q := Ev.gl hx (P.gC .Symbol) hd h
theorem Ev.gTable (P : Prg S) (hx : env.kindOf ("SymbolTable" : Str) = some .globalImplicit) (hd : (("SymbolTable" : Str) == ("__debug__" : Str)) = false) (h : Q (.ref (P.c .Table)) σ) : Ev S n env ρ σ (.Name "SymbolTable" pos) Q := Ev.gl hx (P.gC .Table) hd h
theorem Ev.gPair (P : Prg S) (hx : env.kindOf ("Pair" : Str) = some .globalImplicit) (hd : (("Pair" : Str) == ("__debug__" : Str)) = false) (h : Q (.ref (P.c .Pair)) σ) : Ev S n env ρ σ (.Name "Pair" pos) Q := Ev.gl hx (P.gC .Pair) hd h
theorem Ev.gText (P : Prg S) (hx : env.kindOf ("Text" : Str) = some .globalImplicit) (hd : (("Text" : Str) == ("__debug__" : Str)) = false) (h : Q (.ref (P.c .Text)) σ) : Ev S n env ρ σ (.Name "Text" pos) Q := Ev.gl hx (P.gC .Text) hd h
theorem Ev.gVector (P : Prg S) (hx : env.kindOf ("Vector" : Str) = some .globalImplicit) (hd : (("Vector" : Str) == ("__debug__" : Str)) = false) (h : Q (.ref (P.c .Vector)) σ) : Ev S n env ρ σ (.Name "Vector" pos) Q := Ev.gl hx (P.gC .Vector) hd h
theorem Ev.gAlias (P : Prg S) (hx : env.kindOf ("Alias" : Str) = some .globalImplicit) (hd : (("Alias" : Str) == ("__debug__" : Str)) = false) (h : Q (.ref (P.c .Alias)) σ) : Ev S n env ρ σ (.Name "Alias" pos) Q := Ev.gl hx (P.gC .Alias) hd h
theorem Ev.gScope (P : Prg S) (hx : env.kindOf ("Scope" : Str) = some .globalImplicit) (hd : (("Scope" : Str) == ("__debug__" : Str)) = false) (h : Q (.ref (P.c .Scope)) σ) : Ev S n env ρ σ (.Name "Scope" pos) Q := Ev.gl hx (P.gC .Scope) hd h
theorem Ev.gNames (P : Prg S) (hx : env.kindOf ("Names" : Str) = some .globalImplicit) (hd : (("Names" : Str) == ("__debug__" : Str)) = false) (h : Q (.ref (P.c .Names)) σ) : Ev S n env ρ σ (.Name "Names" pos) Q := Ev.gl hx (P.gC .Names) hd h
theorem Ev.frootSymbol (P : Prg S) (hx : env.kindOf ("root_symbol" : Str) = some .globalImplicit) (hd : (("root_symbol" : Str) == ("__debug__" : Str)) = false) (h : Q (.ref (P.f .rootSymbol)) σ) : Ev S n env ρ σ (.Name "root_symbol" pos) Q := Ev.gl hx (P.gF .rootSymbol) hd h
theorem Ev.faliasOf (P : Prg S) (hx : env.kindOf ("alias_of" : Str) = some .globalImplicit) (hd : (("alias_of" : Str) == ("__debug__" : Str)) = false) (h : Q (.ref (P.f .aliasOf)) σ) : Ev S n env ρ σ (.Name "alias_of" pos) Q := Ev.gl hx (P.gF .aliasOf) hd h
theorem Ev.fstripOne (P : Prg S) (hx : env.kindOf ("strip_one" : Str) = some .globalImplicit) (hd : (("strip_one" : Str) == ("__debug__" : Str)) = false) (h : Q (.ref (P.f .stripOne)) σ) : Ev S n env ρ σ (.Name "strip_one" pos) Q := Ev.gl hx (P.gF .stripOne) hd h
theorem Ev.fstrip (P : Prg S) (hx : env.kindOf ("strip" : Str) = some .globalImplicit) (hd : (("strip" : Str) == ("__debug__" : Str)) = false) (h : Q (.ref (P.f .strip)) σ) : Ev S n env ρ σ (.Name "strip" pos) Q := Ev.gl hx (P.gF .strip) hd h
theorem Ev.fhasAlias (P : Prg S) (hx : env.kindOf ("has_alias" : Str) = some .globalImplicit) (hd : (("has_alias" : Str) == ("__debug__" : Str)) = false) (h : Q (.ref (P.f .hasAlias)) σ) : Ev S n env ρ σ (.Name "has_alias" pos) Q := Ev.gl hx (P.gF .hasAlias) hd h
theorem Ev.fplain (P : Prg S) (hx : env.kindOf ("plain" : Str) = some .globalImplicit) (hd : (("plain" : Str) == ("__debug__" : Str)) = false) (h : Q (.ref (P.f .plain)) σ) : Ev S n env ρ σ (.Name "plain" pos) Q := Ev.gl hx (P.gF .plain) hd h
theorem Ev.fdraw (P : Prg S) (hx : env.kindOf ("_law_draw" : Str) = some .globalImplicit) (hd : (("_law_draw" : Str) == ("__debug__" : Str)) = false) (h : Q (.ref (P.f .draw)) σ) : Ev S n env ρ σ (.Name "_law_draw" pos) Q := Ev.gl hx (P.gF .draw) hd h
theorem Ev.fthings (P : Prg S) (hx : env.kindOf ("_law_things" : Str) = some .globalImplicit) (hd : (("_law_things" : Str) == ("__debug__" : Str)) = false) (h : Q (.ref (P.f .things)) σ) : Ev S n env ρ σ (.Name "_law_things" pos) Q := Ev.gl hx (P.gF .things) hd h
theorem Ev.fisOne (P : Prg S) (hx : env.kindOf ("_law_is_one" : Str) = some .globalImplicit) (hd : (("_law_is_one" : Str) == ("__debug__" : Str)) = false) (h : Q (.ref (P.f .isOne)) σ) : Ev S n env ρ σ (.Name "_law_is_one" pos) Q := Ev.gl hx (P.gF .isOne) hd h
theorem Ev.fparts (P : Prg S) (hx : env.kindOf ("_law_parts" : Str) = some .globalImplicit) (hd : (("_law_parts" : Str) == ("__debug__" : Str)) = false) (h : Q (.ref (P.f .parts)) σ) : Ev S n env ρ σ (.Name "_law_parts" pos) Q := Ev.gl hx (P.gF .parts) hd h
theorem Ev.fmates (P : Prg S) (hx : env.kindOf ("_law_mates" : Str) = some .globalImplicit) (hd : (("_law_mates" : Str) == ("__debug__" : Str)) = false) (h : Q (.ref (P.f .mates)) σ) : Ev S n env ρ σ (.Name "_law_mates" pos) Q := Ev.gl hx (P.gF .mates) hd h
theorem Ev.freached (P : Prg S) (hx : env.kindOf ("_law_reached" : Str) = some .globalImplicit) (hd : (("_law_reached" : Str) == ("__debug__" : Str)) = false) (h : Q (.ref (P.f .reached)) σ) : Ev S n env ρ σ (.Name "_law_reached" pos) Q := Ev.gl hx (P.gF .reached) hd h
theorem Ev.fkept (P : Prg S) (hx : env.kindOf ("_law_is_kept" : Str) = some .globalImplicit) (hd : (("_law_is_kept" : Str) == ("__debug__" : Str)) = false) (h : Q (.ref (P.f .kept)) σ) : Ev S n env ρ σ (.Name "_law_is_kept" pos) Q := Ev.gl hx (P.gF .kept) hd h
theorem Ev.flaw (P : Prg S) (hx : env.kindOf ("law" : Str) = some .globalImplicit) (hd : (("law" : Str) == ("__debug__" : Str)) = false) (h : Q (.ref (P.f .law)) σ) : Ev S n env ρ σ (.Name "law" pos) Q := Ev.gl hx (P.gF .law) hd h
theorem Ev.bisinstance (P : Prg S) (hx : env.kindOf ("isinstance" : Str) = some .globalImplicit) (hd : (("isinstance" : Str) == ("__debug__" : Str)) = false) (h : Q (.builtin "isinstance") σ) : Ev S n env ρ σ (.Name "isinstance" pos) Q := Ev.bi P .isinstanceB hx rfl hd h
theorem Ev.blen (P : Prg S) (hx : env.kindOf ("len" : Str) = some .globalImplicit) (hd : (("len" : Str) == ("__debug__" : Str)) = false) (h : Q (.builtin "len") σ) : Ev S n env ρ σ (.Name "len" pos) Q := Ev.bi P .lenB hx rfl hd h
theorem Ev.brange (P : Prg S) (hx : env.kindOf ("range" : Str) = some .globalImplicit) (hd : (("range" : Str) == ("__debug__" : Str)) = false) (h : Q (.type "range") σ) : Ev S n env ρ σ (.Name "range" pos) Q := Ev.bi P .rangeB hx rfl hd h
theorem Ev.bint (P : Prg S) (hx : env.kindOf ("int" : Str) = some .globalImplicit) (hd : (("int" : Str) == ("__debug__" : Str)) = false) (h : Q (.type "int") σ) : Ev S n env ρ σ (.Name "int" pos) Q := Ev.bi P .intB hx rfl hd h
theorem Ev.babs (P : Prg S) (hx : env.kindOf ("abs" : Str) = some .globalImplicit) (hd : (("abs" : Str) == ("__debug__" : Str)) = false) (h : Q (.builtin "abs") σ) : Ev S n env ρ σ (.Name "abs" pos) Q := Ev.bi P .absB hx rfl hd h
theorem Ev.bzip (P : Prg S) (hx : env.kindOf ("zip" : Str) = some .globalImplicit) (hd : (("zip" : Str) == ("__debug__" : Str)) = false) (h : Q (.type "zip") σ) : Ev S n env ρ σ (.Name "zip" pos) Q := Ev.bi P .zipB hx rfl hd h
theorem Ev.blist (P : Prg S) (hx : env.kindOf ("list" : Str) = some .globalImplicit) (hd : (("list" : Str) == ("__debug__" : Str)) = false) (h : Q (.type "list") σ) : Ev S n env ρ σ (.Name "list" pos) Q := Ev.bi P .listB hx rfl hd h
theorem Prg.calC (P : Prg S) (x : Cl) : Callee S (.ref (P.c x)) := Callee.ref (P.keepC x)
theorem Prg.calF (P : Prg S) (x : Fu) : Callee S (.ref (P.f x)) := Callee.ref (P.keepF x)
theorem Prg.calM (P : Prg S) (x : Me) : Callee S (.ref (P.m x)) := Callee.ref (P.keepM x)
theorem lk0 {k : Str} {v : Value} {r : List (Str × Value)} : List.lookup k ((k, v) :: r) = some v := by simp
theorem lk1 {k k' : Str} {v w : Value} {r : List (Str × Value)} (h : (k == k') = false) (h2 : List.lookup k r = some v) : List.lookup k ((k', w) :: r) = some v := by rw [List.lookup_cons, h]; exact h2
theorem put_old {a b : Addr} {x o : AObj} (hf : ¬ fp σ a) (h : σ b = some o) : put σ a x b = some o := by
  rw [put_ne]; exact h
  intro q; subst q; exact hf (fp_self h)
theorem put_oth {a b : Addr} {x o : AObj} (hf : b ≠ a) (h : σ b = some o) : put σ a x b = some o := by rw [put_ne hf]; exact h
end

def ke (P : Params) (x : Str) (t : Tok) (v : Value) : DictEntry := { hash := PyData.keyHash P x, key := .str x t, val := v }
noncomputable def KF (P : Params) : Frag := [
  (3, { cls := .type "dict", data := .dict #[ke P "__name__" 165 (.str "law_pq1021_01" 740), ke P "__doc__" 166 (.none), ke P "__package__" 167 (.none), ke P "__loader__" 168 (.builtin "__main__.__loader__#opaque"), ke P "__spec__" 169 (.none), ke P "__annotations__" 170 (.ref 6), ke P "__builtins__" 171 (.ref 4), ke P "__file__" 173 (.str "/claim/cut.py" 172), ke P "__cached__" 174 (.none), ke P "_wall" 193 (.ref 21), ke P "Symbol" 226 (.ref 38), ke P "SymbolTable" 304 (.ref 101), ke P "Pair" 336 (.ref 122), ke P "Text" 366 (.ref 143), ke P "Vector" 396 (.ref 164), ke P "SchemeError" 429 (.ref 185), ke P "SyntaxTrouble" 456 (.ref 205), ke P "MOST_DEEP" 460 (.int 3000 459), ke P "Alias" 495 (.ref 224), ke P "key_of" 502 (.ref 235), ke P "root_symbol" 509 (.ref 242), ke P "Scope" 589 (.ref 301), ke P "alias_of" 598 (.ref 312), ke P "strip_one" 606 (.ref 319), ke P "strip" 612 (.ref 324), ke P "has_alias" 625 (.ref 331), ke P "plain" 632 (.ref 338), ke P "Names" 739 (.ref 418), ke P "_law_draw" 749 (.ref 429), ke P "_law_things" 755 (.ref 434), ke P "_law_is_one" 763 (.ref 441), ke P "_law_parts" 770 (.ref 448), ke P "_law_mates" 776 (.ref 453), ke P "_law_reached" 787 (.ref 460), ke P "_law_is_kept" 793 (.ref 465), ke P "law" 799 (.ref 470)] 36 }),
  (34, { cls := .type "code", data := .fields #[.str "__init__" 208, .str "Symbol.__init__" 209, .str "/claim/cut.py" 210, .int 7 0, .int 3 0, .int 0 0, .int 0 0, .int 3 0, .ref 29, .bool true, .int 181 0, .ref 30, .none, .ref 31, .ref 32, .ref 33, .int 214 0, .int 7 0, .str "/claim/cut.py" 215] }),
  (35, { cls := .type "function", data := .func (fdOf (initD .Symbol) (initQ .Symbol) (.str "scheme.data" 194) (.ref 34)) }),
  (37, { cls := .type "dict", data := .dict #[ke P "__module__" 203 (.str "scheme.data" 194), ke P "__firstlineno__" 207 (.int 5 206), ke P "__init__" 216 (.ref 35), ke P "__static_attributes__" 219 (.ref 36), ke P "__dict__" 221 (.ref 39), ke P "__weakref__" 223 (.ref 40), ke P "__doc__" 224 (.none)] 4 }),
  (38, { cls := .type "type", data := .cls { name := "Symbol", bases := [.type "object"], mro := [.ref 38, .type "object"], ns := 37, qualname := "Symbol" }, slots := #[none, none, some (.str "Symbol" 196), some (.str "Symbol" 204), some (.builtin "object.__new__"), some (.bool true)] }),
  (55, { cls := .type "code", data := .fields #[.str "__init__" 239, .str "SymbolTable.__init__" 240, .str "/claim/cut.py" 241, .int 12 0, .int 1 0, .int 0 0, .int 0 0, .int 3 0, .ref 50, .bool true, .int 181 0, .ref 51, .none, .ref 52, .ref 53, .ref 54, .int 243 0, .int 12 0, .str "/claim/cut.py" 244] }),
  (56, { cls := .type "function", data := .func (fdOf (initD .Table) (initQ .Table) (.str "scheme.data" 194) (.ref 55)) }),
  (62, { cls := .type "code", data := .fields #[.str "symbol" 246, .str "SymbolTable.symbol" 247, .str "/claim/cut.py" 248, .int 16 0, .int 2 0, .int 0 0, .int 0 0, .int 3 0, .ref 57, .bool true, .int 181 0, .ref 58, .none, .ref 59, .ref 60, .ref 61, .int 252 0, .int 16 0, .str "/claim/cut.py" 253] }),
  (63, { cls := .type "function", data := .func (fdOf (dM .tblSymbol) (qM .tblSymbol) (.str "scheme.data" 194) (.ref 62)) }),
  (100, { cls := .type "dict", data := .dict #[ke P "__module__" 234 (.str "scheme.data" 194), ke P "__firstlineno__" 238 (.int 10 237), ke P "__init__" 245 (.ref 56), ke P "symbol" 254 (.ref 63), ke P "fresh" 263 (.ref 70), ke P "by_number" 271 (.ref 77), ke P "find" 279 (.ref 84), ke P "is_interned" 287 (.ref 91), ke P "size" 294 (.ref 98), ke P "__static_attributes__" 297 (.ref 99), ke P "__dict__" 299 (.ref 102), ke P "__weakref__" 301 (.ref 103), ke P "__doc__" 302 (.none)] 4 }),
  (101, { cls := .type "type", data := .cls { name := "SymbolTable", bases := [.type "object"], mro := [.ref 101, .type "object"], ns := 100, qualname := "SymbolTable" }, slots := #[none, none, some (.str "SymbolTable" 227), some (.str "SymbolTable" 235), some (.builtin "object.__new__"), some (.bool true)] }),
  (118, { cls := .type "code", data := .fields #[.str "__init__" 317, .str "Pair.__init__" 318, .str "/claim/cut.py" 319, .int 42 0, .int 3 0, .int 0 0, .int 0 0, .int 3 0, .ref 113, .bool true, .int 181 0, .ref 114, .none, .ref 115, .ref 116, .ref 117, .int 323 0, .int 42 0, .str "/claim/cut.py" 324] }),
  (119, { cls := .type "function", data := .func (fdOf (initD .Pair) (initQ .Pair) (.str "scheme.data" 194) (.ref 118)) }),
  (121, { cls := .type "dict", data := .dict #[ke P "__module__" 312 (.str "scheme.data" 194), ke P "__firstlineno__" 316 (.int 40 315), ke P "__init__" 325 (.ref 119), ke P "__static_attributes__" 329 (.ref 120), ke P "__dict__" 331 (.ref 123), ke P "__weakref__" 333 (.ref 124), ke P "__doc__" 334 (.none)] 4 }),
  (122, { cls := .type "type", data := .cls { name := "Pair", bases := [.type "object"], mro := [.ref 122, .type "object"], ns := 121, qualname := "Pair" }, slots := #[none, none, some (.str "Pair" 305), some (.str "Pair" 313), some (.builtin "object.__new__"), some (.bool true)] }),
  (139, { cls := .type "code", data := .fields #[.str "__init__" 349, .str "Text.__init__" 350, .str "/claim/cut.py" 351, .int 48 0, .int 2 0, .int 0 0, .int 0 0, .int 3 0, .ref 134, .bool true, .int 181 0, .ref 135, .none, .ref 136, .ref 137, .ref 138, .int 354 0, .int 48 0, .str "/claim/cut.py" 355] }),
  (140, { cls := .type "function", data := .func (fdOf (initD .Text) (initQ .Text) (.str "scheme.data" 194) (.ref 139)) }),
  (142, { cls := .type "dict", data := .dict #[ke P "__module__" 344 (.str "scheme.data" 194), ke P "__firstlineno__" 348 (.int 46 347), ke P "__init__" 356 (.ref 140), ke P "__static_attributes__" 359 (.ref 141), ke P "__dict__" 361 (.ref 144), ke P "__weakref__" 363 (.ref 145), ke P "__doc__" 364 (.none)] 4 }),
  (143, { cls := .type "type", data := .cls { name := "Text", bases := [.type "object"], mro := [.ref 143, .type "object"], ns := 142, qualname := "Text" }, slots := #[none, none, some (.str "Text" 337), some (.str "Text" 345), some (.builtin "object.__new__"), some (.bool true)] }),
  (160, { cls := .type "code", data := .fields #[.str "__init__" 379, .str "Vector.__init__" 380, .str "/claim/cut.py" 381, .int 53 0, .int 2 0, .int 0 0, .int 0 0, .int 3 0, .ref 155, .bool true, .int 181 0, .ref 156, .none, .ref 157, .ref 158, .ref 159, .int 384 0, .int 53 0, .str "/claim/cut.py" 385] }),
  (161, { cls := .type "function", data := .func (fdOf (initD .Vector) (initQ .Vector) (.str "scheme.data" 194) (.ref 160)) }),
  (163, { cls := .type "dict", data := .dict #[ke P "__module__" 374 (.str "scheme.data" 194), ke P "__firstlineno__" 378 (.int 51 377), ke P "__init__" 386 (.ref 161), ke P "__static_attributes__" 389 (.ref 162), ke P "__dict__" 391 (.ref 165), ke P "__weakref__" 393 (.ref 166), ke P "__doc__" 394 (.none)] 4 }),
  (164, { cls := .type "type", data := .cls { name := "Vector", bases := [.type "object"], mro := [.ref 164, .type "object"], ns := 163, qualname := "Vector" }, slots := #[none, none, some (.str "Vector" 367), some (.str "Vector" 375), some (.builtin "object.__new__"), some (.bool true)] }),
  (220, { cls := .type "code", data := .fields #[.str "__init__" 473, .str "Alias.__init__" 474, .str "/claim/cut.py" 475, .int 72 0, .int 4 0, .int 0 0, .int 0 0, .int 3 0, .ref 215, .bool true, .int 181 0, .ref 216, .none, .ref 217, .ref 218, .ref 219, .int 480 0, .int 72 0, .str "/claim/cut.py" 481] }),
  (221, { cls := .type "function", data := .func (fdOf (initD .Alias) (initQ .Alias) (.str "scheme.scopes" 457) (.ref 220)) }),
  (223, { cls := .type "dict", data := .dict #[ke P "__module__" 468 (.str "scheme.scopes" 457), ke P "__firstlineno__" 472 (.int 70 471), ke P "__init__" 482 (.ref 221), ke P "__static_attributes__" 488 (.ref 222), ke P "__dict__" 490 (.ref 225), ke P "__weakref__" 492 (.ref 226), ke P "__doc__" 493 (.none)] 4 }),
  (224, { cls := .type "type", data := .cls { name := "Alias", bases := [.type "object"], mro := [.ref 224, .type "object"], ns := 223, qualname := "Alias" }, slots := #[none, none, some (.str "Alias" 461), some (.str "Alias" 469), some (.builtin "object.__new__"), some (.bool true)] }),
  (241, { cls := .type "code", data := .fields #[.str "root_symbol" 503, .str "root_symbol" 504, .str "/claim/cut.py" 505, .int 82 0, .int 1 0, .int 0 0, .int 0 0, .int 3 0, .ref 236, .bool true, .int 181 0, .ref 237, .none, .ref 238, .ref 239, .ref 240, .int 507 0, .int 82 0, .str "/claim/cut.py" 508] }),
  (242, { cls := .type "function", data := .func (fdOf (dF .rootSymbol) (nameF .rootSymbol) (.str "scheme.scopes" 457) (.ref 241)) }),
  (255, { cls := .type "code", data := .fields #[.str "__init__" 522, .str "Scope.__init__" 523, .str "/claim/cut.py" 524, .int 86 0, .int 2 0, .int 0 0, .int 0 0, .int 3 0, .ref 250, .bool true, .int 181 0, .ref 251, .none, .ref 252, .ref 253, .ref 254, .int 527 0, .int 86 0, .str "/claim/cut.py" 528] }),
  (256, { cls := .type "function", data := .func (fdOf (initD .Scope) (initQ .Scope) (.str "scheme.scopes" 457) (.ref 255)) }),
  (300, { cls := .type "dict", data := .dict #[ke P "__module__" 517 (.str "scheme.scopes" 457), ke P "__firstlineno__" 521 (.int 84 520), ke P "__init__" 529 (.ref 256), ke P "bind" 538 (.ref 263), ke P "own" 546 (.ref 270), ke P "bound" 554 (.ref 277), ke P "find" 562 (.ref 284), ke P "outermost" 570 (.ref 291), ke P "depth" 579 (.ref 298), ke P "__static_attributes__" 582 (.ref 299), ke P "__dict__" 584 (.ref 302), ke P "__weakref__" 586 (.ref 303), ke P "__doc__" 587 (.none)] 4 }),
  (301, { cls := .type "type", data := .cls { name := "Scope", bases := [.type "object"], mro := [.ref 301, .type "object"], ns := 300, qualname := "Scope" }, slots := #[none, none, some (.str "Scope" 510), some (.str "Scope" 518), some (.builtin "object.__new__"), some (.bool true)] }),
  (311, { cls := .type "code", data := .fields #[.str "alias_of" 590, .str "alias_of" 591, .str "/claim/cut.py" 592, .int 115 0, .int 3 0, .int 0 0, .int 0 0, .int 3 0, .ref 306, .bool true, .int 181 0, .ref 307, .none, .ref 308, .ref 309, .ref 310, .int 596 0, .int 115 0, .str "/claim/cut.py" 597] }),
  (312, { cls := .type "function", data := .func (fdOf (dF .aliasOf) (nameF .aliasOf) (.str "scheme.scopes" 457) (.ref 311)) }),
  (318, { cls := .type "code", data := .fields #[.str "strip_one" 599, .str "strip_one" 600, .str "/claim/cut.py" 601, .int 119 0, .int 2 0, .int 0 0, .int 0 0, .int 3 0, .ref 313, .bool true, .int 181 0, .ref 314, .none, .ref 315, .ref 316, .ref 317, .int 604 0, .int 119 0, .str "/claim/cut.py" 605] }),
  (319, { cls := .type "function", data := .func (fdOf (dF .stripOne) (nameF .stripOne) (.str "scheme.scopes" 457) (.ref 318)) }),
  (323, { cls := .type "code", data := .fields #[.str "strip" 607, .str "strip" 608, .str "/claim/cut.py" 609, .int 131 0, .int 1 0, .int 0 0, .int 0 0, .int 3 0, .ref 320, .bool true, .int 181 0, .ref 321, .none, .none, .none, .ref 322, .int 610 0, .int 131 0, .str "/claim/cut.py" 611] }),
  (324, { cls := .type "function", data := .func (fdOf (dF .strip) (nameF .strip) (.str "scheme.scopes" 457) (.ref 323)) }),
  (330, { cls := .type "code", data := .fields #[.str "has_alias" 613, .str "has_alias" 614, .str "/claim/cut.py" 615, .int 146 0, .int 1 0, .int 0 0, .int 0 0, .int 3 0, .ref 325, .bool true, .int 181 0, .ref 326, .none, .ref 327, .ref 328, .ref 329, .int 623 0, .int 146 0, .str "/claim/cut.py" 624] }),
  (331, { cls := .type "function", data := .func (fdOf (dF .hasAlias) (nameF .hasAlias) (.str "scheme.scopes" 457) (.ref 330)) }),
  (337, { cls := .type "code", data := .fields #[.str "plain" 626, .str "plain" 627, .str "/claim/cut.py" 628, .int 163 0, .int 1 0, .int 0 0, .int 0 0, .int 3 0, .ref 332, .bool true, .int 181 0, .ref 333, .none, .ref 334, .ref 335, .ref 336, .int 630 0, .int 163 0, .str "/claim/cut.py" 631] }),
  (338, { cls := .type "function", data := .func (fdOf (dF .plain) (nameF .plain) (.str "scheme.scopes" 457) (.ref 337)) }),
  (351, { cls := .type "code", data := .fields #[.str "__init__" 647, .str "Names.__init__" 648, .str "/claim/cut.py" 649, .int 170 0, .int 1 0, .int 0 0, .int 0 0, .int 3 0, .ref 346, .bool true, .int 181 0, .ref 347, .none, .ref 348, .ref 349, .ref 350, .int 651 0, .int 170 0, .str "/claim/cut.py" 652] }),
  (352, { cls := .type "function", data := .func (fdOf (initD .Names) (initQ .Names) (.str "scheme.names" 633) (.ref 351)) }),
  (358, { cls := .type "code", data := .fields #[.str "fresh" 654, .str "Names.fresh" 655, .str "/claim/cut.py" 656, .int 177 0, .int 1 0, .int 0 0, .int 0 0, .int 3 0, .ref 353, .bool true, .int 181 0, .ref 354, .none, .ref 355, .ref 356, .ref 357, .int 658 0, .int 177 0, .str "/claim/cut.py" 659] }),
  (359, { cls := .type "function", data := .func (fdOf (dM .nFresh) (qM .nFresh) (.str "scheme.names" 633) (.ref 358)) }),
  (365, { cls := .type "code", data := .fields #[.str "symbol" 661, .str "Names.symbol" 662, .str "/claim/cut.py" 663, .int 181 0, .int 2 0, .int 0 0, .int 0 0, .int 3 0, .ref 360, .bool true, .int 181 0, .ref 361, .none, .ref 362, .ref 363, .ref 364, .int 666 0, .int 181 0, .str "/claim/cut.py" 667] }),
  (366, { cls := .type "function", data := .func (fdOf (dM .nSymbol) (qM .nSymbol) (.str "scheme.names" 633) (.ref 365)) }),
  (417, { cls := .type "dict", data := .dict #[ke P "__module__" 642 (.str "scheme.names" 633), ke P "__firstlineno__" 646 (.int 168 645), ke P "__init__" 653 (.ref 352), ke P "fresh" 660 (.ref 359), ke P "symbol" 668 (.ref 366), ke P "number_of_name" 676 (.ref 373), ke P "text_of_symbol" 684 (.ref 380), ke P "set_title" 693 (.ref 387), ke P "title_of" 701 (.ref 394), ke P "give_ops" 709 (.ref 401), ke P "op_at" 717 (.ref 408), ke P "fold" 726 (.ref 415), ke P "__static_attributes__" 732 (.ref 416), ke P "__dict__" 734 (.ref 419), ke P "__weakref__" 736 (.ref 420), ke P "__doc__" 737 (.none)] 4 }),
  (418, { cls := .type "type", data := .cls { name := "Names", bases := [.type "object"], mro := [.ref 418, .type "object"], ns := 417, qualname := "Names" }, slots := #[none, none, some (.str "Names" 635), some (.str "Names" 643), some (.builtin "object.__new__"), some (.bool true)] }),
  (428, { cls := .type "code", data := .fields #[.str "_law_draw" 742, .str "_law_draw" 743, .str "/claim/cut.py" 744, .int 205 0, .int 2 0, .int 0 0, .int 0 0, .int 3 0, .ref 423, .bool true, .int 181 0, .ref 424, .none, .ref 425, .ref 426, .ref 427, .int 747 0, .int 205 0, .str "/claim/cut.py" 748] }),
  (429, { cls := .type "function", data := .func (fdOf (dF .draw) (nameF .draw) (.str "law_pq1021_01" 740) (.ref 428)) }),
  (433, { cls := .type "code", data := .fields #[.str "_law_things" 750, .str "_law_things" 751, .str "/claim/cut.py" 752, .int 207 0, .int 2 0, .int 0 0, .int 0 0, .int 3 0, .ref 430, .bool true, .int 181 0, .ref 431, .none, .none, .none, .ref 432, .int 753 0, .int 207 0, .str "/claim/cut.py" 754] }),
  (434, { cls := .type "function", data := .func (fdOf (dF .things) (nameF .things) (.str "law_pq1021_01" 740) (.ref 433)) }),
  (440, { cls := .type "code", data := .fields #[.str "_law_is_one" 756, .str "_law_is_one" 757, .str "/claim/cut.py" 758, .int 235 0, .int 2 0, .int 0 0, .int 0 0, .int 3 0, .ref 435, .bool true, .int 181 0, .ref 436, .none, .ref 437, .ref 438, .ref 439, .int 761 0, .int 235 0, .str "/claim/cut.py" 762] }),
  (441, { cls := .type "function", data := .func (fdOf (dF .isOne) (nameF .isOne) (.str "law_pq1021_01" 740) (.ref 440)) }),
  (447, { cls := .type "code", data := .fields #[.str "_law_parts" 764, .str "_law_parts" 765, .str "/claim/cut.py" 766, .int 239 0, .int 1 0, .int 0 0, .int 0 0, .int 3 0, .ref 442, .bool true, .int 181 0, .ref 443, .none, .ref 444, .ref 445, .ref 446, .int 768 0, .int 239 0, .str "/claim/cut.py" 769] }),
  (448, { cls := .type "function", data := .func (fdOf (dF .parts) (nameF .parts) (.str "law_pq1021_01" 740) (.ref 447)) }),
  (452, { cls := .type "code", data := .fields #[.str "_law_mates" 771, .str "_law_mates" 772, .str "/claim/cut.py" 773, .int 241 0, .int 4 0, .int 0 0, .int 0 0, .int 3 0, .ref 449, .bool true, .int 181 0, .ref 450, .none, .none, .none, .ref 451, .int 774 0, .int 241 0, .str "/claim/cut.py" 775] }),
  (453, { cls := .type "function", data := .func (fdOf (dF .mates) (nameF .mates) (.str "law_pq1021_01" 740) (.ref 452)) }),
  (459, { cls := .type "code", data := .fields #[.str "_law_reached" 777, .str "_law_reached" 778, .str "/claim/cut.py" 779, .int 265 0, .int 2 0, .int 0 0, .int 0 0, .int 3 0, .ref 454, .bool true, .int 181 0, .ref 455, .none, .ref 456, .ref 457, .ref 458, .int 785 0, .int 265 0, .str "/claim/cut.py" 786] }),
  (460, { cls := .type "function", data := .func (fdOf (dF .reached) (nameF .reached) (.str "law_pq1021_01" 740) (.ref 459)) }),
  (464, { cls := .type "code", data := .fields #[.str "_law_is_kept" 788, .str "_law_is_kept" 789, .str "/claim/cut.py" 790, .int 274 0, .int 2 0, .int 0 0, .int 0 0, .int 3 0, .ref 461, .bool true, .int 181 0, .ref 462, .none, .none, .none, .ref 463, .int 791 0, .int 274 0, .str "/claim/cut.py" 792] }),
  (465, { cls := .type "function", data := .func (fdOf (dF .kept) (nameF .kept) (.str "law_pq1021_01" 740) (.ref 464)) }),
  (469, { cls := .type "code", data := .fields #[.str "law" 794, .str "law" 795, .str "/claim/cut.py" 796, .int 284 0, .int 1 0, .int 0 0, .int 0 0, .int 3 0, .ref 466, .bool true, .int 181 0, .ref 467, .none, .none, .none, .ref 468, .int 797 0, .int 284 0, .str "/claim/cut.py" 798] }),
  (470, { cls := .type "function", data := .func (fdOf (dF .law) (nameF .law) (.str "law_pq1021_01" 740) (.ref 469)) })]
def kAs : List Addr := [3, 34, 35, 37, 38, 55, 56, 62, 63, 100, 101, 118, 119, 121, 122, 139, 140, 142, 143, 160, 161, 163, 164, 220, 221, 223, 224, 241, 242, 255, 256, 300, 301, 311, 312, 318, 319, 323, 324, 330, 331, 337, 338, 351, 352, 358, 359, 365, 366, 417, 418, 428, 429, 433, 434, 440, 441, 447, 448, 452, 453, 459, 460, 464, 465, 469, 470]
theorem kAs_eq (P : Params) : kAs = (KF P).map (·.1) := by kernel_rfl
noncomputable def qv : Program := view PySem.Challenge.pw_pq1021_01 [0, 2, 3, 4, 5, 6, 8, 9, 11, 12, 13, 14, 15, 16, 17, 18, 19, 20, 22, 24, 25, 26, 27, 28, 29, 30, 31]
noncomputable def Hk : Hook := kHook KF kAs kAs_eq
noncomputable abbrev Xt : Shared → Bool := fun s => xlAt qv [] s && recOk (RowW.records PySem.Challenge.rw_pq1021_01.row.toRowW) s
theorem left_of {p q : Program} {loose : List Str} {Xt : Shared → Bool} {α : Type} {Yf : Shared → α} {Ya : World → α} {N m₀ k₀ : Nat} {H₀ : Params → Heap} {d₀ : Drawn} {ann : Option Value}
    (open_ : ∀ w : World, (fencedOpening treeTable p w N).map (fun s => (s.heap, s.gens, s.drawn, s.toks)) = some (H₀ w.params, Array.mk [], d₀, k₀))
    (size : ∀ P : Params, ((H₀ P).isNs mainGlobals = true ∧ (H₀ P).objs.size = m₀) ∧ (H₀ P).nsMap mainGlobals "__annotations__" = ann)
    (run : ∀ w : World, (fun os : OsState => (topRun treeTable p w m₀ ann N ⟨H₀ w.params, Array.mk [], d₀, k₀, os⟩ (topStub p)).map (fun s =>
      (staticsOk (importedModules p.main.body) (H₀ w.params) s.heap && namesBound p s.heap && gensDone s && laidKept (H₀ w.params) s.heap,
        openSeen q loose (importedModules p.main.body) Xt true s, Yf s))) = fun _ => some (true, openGood q loose, Ya w)) : LeftO p q loose Xt Yf Ya N := fun w => by
  obtain ⟨⟨h, gs, d, k, os⟩, e, e'⟩ := Option.map_eq_some_iff.mp (open_ w)
  obtain ⟨rfl, rfl, rfl, rfl⟩ : h = H₀ w.params ∧ gs = #[] ∧ d = d₀ ∧ k = k₀ := by simpa using e'
  obtain ⟨s, hs, hv⟩ := Option.map_eq_some_iff.mp (congrFun (run w) os)
  obtain ⟨l1, l2, l3⟩ : _ ∧ _ ∧ _ := by simpa only [Prod.mk.injEq] using hv
  have t : topFrom treeTable p w N ⟨H₀ w.params, #[], d, k, os⟩ = some s := by
    unfold topFrom
    dsimp only
    rw [(size w.params).1.1, (size w.params).1.2, (size w.params).2]
    show (Option.bind (topRun treeTable p w m₀ ann N ⟨H₀ w.params, Array.mk [], d, k, os⟩ (topStub p)) _) = _
    rw [hs]
    show (match (staticsOk _ _ _ && _ && _ && _) with | true => some s | false => none) = _
    rw [l1]
  unfold openEnds
  rw [e]
  show (topFrom treeTable p w N _).map _ = _
  rw [t]
  exact congrArg some (Prod.ext l2 l3)
noncomputable def runT (stp : SharedT → Thread → Option (SharedT × Thread)) (ok : Thread → Bool) : Nat → SharedT → Thread → Option SharedT
  | 0, _, _ => none
  | n + 1, s, t => match through t with
    | true => some s
    | false => match ok t with
      | false => none
      | true => match stp s t with
        | some (s', t') => runT stp ok n s' t'
        | none => none
theorem runT_of {tb : String → Option Builtin} {p : Program} {w : World} {n₀ : Nat} {ann : Option Value} : ∀ {n : Nat} {s s' : SharedT} {t : Thread}, runT (stepT (denote tb) p w) (stepOk n₀ ann) n s t = some s' → topRun tb p w n₀ ann n s.abs t = some s'.abs
  | 0, _, _, _, h => nomatch h
  | n + 1, s, s', t, h => by
    unfold runT at h
    unfold topRun
    cases hg : through t with
    | true => rw [hg] at h; cases h; rfl
    | false =>
      rw [hg] at h
      cases hk : stepOk n₀ ann t with
      | false => rw [hk] at h; cases h
      | true =>
        rw [hk] at h
        cases hs : stepT (denote tb) p w s t with
        | none => rw [hs] at h; cases h
        | some r =>
          rw [hs] at h
          show (match step (denote tb) p w s.abs t with | .go s' t' => topRun tb p w n₀ ann n s' t' | .halt _ _ => none) = _
          rw [stepT_spec (s' := r.1) (t' := r.2) hs]
          exact runT_of h
theorem runs_of {β : Type} {tb : String → Option Builtin} {p : Program} {w : World} {n₀ N : Nat} {ann : Option Value} {s : SharedT} {z : Shared} {t : Thread} {f : Shared → β} {r : β} (e : s.abs = z)
    (h : (runT (stepT (denote tb) p w) (stepOk n₀ ann) N s t).map (fun s => f s.abs) = some r) : (topRun tb p w n₀ ann N z t).map f = some r := by
  obtain ⟨s', h1, h2⟩ := Option.map_eq_some_iff.mp h
  rw [← e, runT_of h1]
  exact congrArg some h2
noncomputable def bootT (P : Params) : BT := (.node (boot_o_0 P) (.node (boot_o_1 P) (.node (boot_o_3 P) (.node (boot_o_7 P) .nil .nil) .nil) (.node (boot_o_5 P) (.node (boot_o_9 P) .nil .nil) .nil)) (.node (boot_o_2 P) (.node (boot_o_4 P) (.node (boot_o_8 P) .nil .nil) .nil) (.node (boot_o_6 P) (.node (boot_o_10 P) .nil .nil) .nil)))
noncomputable def bootS (P : Params) (os : OsState) : SharedT := ⟨bootT P, 11, (boot_heap P).life, Array.mk [], boot_drawn, boot_toks, os⟩
theorem bootS_eq (P : Params) (os : OsState) : (bootS P os).abs = ⟨boot_heap P, Array.mk [], boot_drawn, boot_toks, os⟩ := by kernel_rfl
theorem run3 {σ α β γ : Type} {o : Option σ} {f : σ → α} {g : σ → β} {h : σ → γ} {a : α} {b : β} {c : γ} (e1 : o.map f = some a) (e2 : o.map g = some b) (e3 : o.map h = some c) : ∃ s, o = some s ∧ f s = a ∧ g s = b ∧ h s = c := by
  cases o with
  | none => cases e1
  | some s => exact ⟨s, rfl, Option.some.inj e1, Option.some.inj e2, Option.some.inj e3⟩
theorem look1 : ∀ w : World, (fun os : OsState => (runT (stepT (denote treeTable) PySem.Challenge.pw_pq1021_01 w) (stepOk 11 (some (.ref 6))) 7054 (bootS w.params os) (topStub PySem.Challenge.pw_pq1021_01)).map (fun s => ((staticsOk (importedModules PySem.Challenge.pw_pq1021_01.main.body) (boot_heap w.params) s.abs.heap && namesBound PySem.Challenge.pw_pq1021_01 s.abs.heap && gensDone s.abs && laidKept (boot_heap w.params) s.abs.heap), kAs.map s.abs.heap.get?, (openSeen qv [] (importedModules PySem.Challenge.pw_pq1021_01.main.body) Xt true s.abs).1, (openSeen qv [] (importedModules PySem.Challenge.pw_pq1021_01.main.body) Xt true s.abs).2.1, (openSeen qv [] (importedModules PySem.Challenge.pw_pq1021_01.main.body) Xt true s.abs).2.2.2.2.1))) = fun _ => some (true, (KF w.params).map fun p => some p.2, expectedOf qv, bltViewBooted, pinGoodD (drecsOf qv)) := by
  intro w
  rw [PySem.W.Fast.te10156331382660048174, PySem.W.Fast.te11892475500146522536, PySem.W.Fast.te6613529449190102663, PySem.W.Fast.te14364793385576792824, PySem.W.Fast.te4187177175401517315]
  kernel_rfl
theorem look2 : ∀ w : World, (fun os : OsState => (runT (stepT (denote treeTable) PySem.Challenge.pw_pq1021_01 w) (stepOk 11 (some (.ref 6))) 7054 (bootS w.params os) (topStub PySem.Challenge.pw_pq1021_01)).map (fun s => ((openSeen qv [] (importedModules PySem.Challenge.pw_pq1021_01.main.body) Xt true s.abs).2.2.2.2.2.1, (openSeen qv [] (importedModules PySem.Challenge.pw_pq1021_01.main.body) Xt true s.abs).2.2.2.2.2.2.1, (openSeen qv [] (importedModules PySem.Challenge.pw_pq1021_01.main.body) Xt true s.abs).2.2.2.2.2.2.2.1))) = fun _ => some (plainGoodE qv (looseW qv []), plainGoodD qv [], wideGood qv) := by
  intro w
  rw [PySem.W.Fast.te10156331382660048174, PySem.W.Fast.te11892475500146522536, PySem.W.Fast.te6613529449190102663, PySem.W.Fast.te14364793385576792824, PySem.W.Fast.te4187177175401517315]
  kernel_rfl
theorem look3 : ∀ w : World, (fun os : OsState => (runT (stepT (denote treeTable) PySem.Challenge.pw_pq1021_01 w) (stepOk 11 (some (.ref 6))) 7054 (bootS w.params os) (topStub PySem.Challenge.pw_pq1021_01)).map (fun s => ((openSeen qv [] (importedModules PySem.Challenge.pw_pq1021_01.main.body) Xt true s.abs).2.2.1, (openSeen qv [] (importedModules PySem.Challenge.pw_pq1021_01.main.body) Xt true s.abs).2.2.2.1, (openSeen qv [] (importedModules PySem.Challenge.pw_pq1021_01.main.body) Xt true s.abs).2.2.2.2.2.2.2.2))) = fun _ => some (true, true, clsGoodW qv []) := by
  intro w
  rw [PySem.W.Fast.te10156331382660048174, PySem.W.Fast.te11892475500146522536, PySem.W.Fast.te6613529449190102663, PySem.W.Fast.te14364793385576792824, PySem.W.Fast.te4187177175401517315]
  kernel_rfl
theorem topRunsT : ∀ w : World, (fun os : OsState => (runT (stepT (denote treeTable) PySem.Challenge.pw_pq1021_01 w) (stepOk 11 (some (.ref 6))) 7054 (bootS w.params os) (topStub PySem.Challenge.pw_pq1021_01)).map (fun s =>
    (staticsOk (importedModules PySem.Challenge.pw_pq1021_01.main.body) (boot_heap w.params) s.abs.heap && namesBound PySem.Challenge.pw_pq1021_01 s.abs.heap && gensDone s.abs && laidKept (boot_heap w.params) s.abs.heap,
      openSeen qv [] (importedModules PySem.Challenge.pw_pq1021_01.main.body) Xt true s.abs, kAs.map s.abs.heap.get?))) = fun _ => some (true, openGood qv [], (KF w.params).map fun p => some p.2) := by
  intro w
  funext os
  obtain ⟨s, e, h1, h2, h3⟩ := run3 (congrFun (look1 w) os) (congrFun (look2 w) os) (congrFun (look3 w) os)
  rw [e]
  obtain ⟨a, h1⟩ := Prod.mk.inj h1
  obtain ⟨b, h1⟩ := Prod.mk.inj h1
  obtain ⟨d0, h1⟩ := Prod.mk.inj h1
  obtain ⟨d1, d4⟩ := Prod.mk.inj h1
  obtain ⟨d5, h2⟩ := Prod.mk.inj h2
  obtain ⟨d6, d7⟩ := Prod.mk.inj h2
  obtain ⟨d2, h3⟩ := Prod.mk.inj h3
  obtain ⟨d3, d8⟩ := Prod.mk.inj h3
  exact congrArg some (Prod.ext a (Prod.ext (Prod.ext d0 (Prod.ext d1 (Prod.ext d2 (Prod.ext d3 (Prod.ext d4 (Prod.ext d5 (Prod.ext d6 (Prod.ext d7 d8)))))))) b))
theorem topRuns : ∀ w : World, (fun os : OsState => (topRun treeTable PySem.Challenge.pw_pq1021_01 w 11 (some (.ref 6)) 7054 ⟨boot_heap w.params, Array.mk [], boot_drawn, boot_toks, os⟩ (topStub PySem.Challenge.pw_pq1021_01)).map (fun s =>
    (staticsOk (importedModules PySem.Challenge.pw_pq1021_01.main.body) (boot_heap w.params) s.heap && namesBound PySem.Challenge.pw_pq1021_01 s.heap && gensDone s && laidKept (boot_heap w.params) s.heap,
      openSeen qv [] (importedModules PySem.Challenge.pw_pq1021_01.main.body) Xt true s, kAs.map s.heap.get?))) = fun _ => some (true, openGood qv [], (KF w.params).map fun p => some p.2) :=
  fun w => funext fun os => runs_of (f := fun s => (staticsOk (importedModules PySem.Challenge.pw_pq1021_01.main.body) (boot_heap w.params) s.heap && namesBound PySem.Challenge.pw_pq1021_01 s.heap && gensDone s && laidKept (boot_heap w.params) s.heap,
      openSeen qv [] (importedModules PySem.Challenge.pw_pq1021_01.main.body) Xt true s, kAs.map s.heap.get?)) (bootS_eq w.params os) (congrFun (topRunsT w) os)
theorem opening_eq : opening PySem.Challenge.pw_pq1021_01 = plainProg PySem.Challenge.pw_pq1021_01.main.scope.names := by kernel_rfl
theorem fence_eq (s : Shared) : fenceModules? PySem.Challenge.pw_pq1021_01 s = some s := by kernel_rfl
theorem boot_facts (P : Params) : ((boot_heap P).isNs mainGlobals = true ∧ (boot_heap P).objs.size = 11) ∧ (boot_heap P).nsMap mainGlobals "__annotations__" = some (.ref 6) := ⟨⟨by kernel_rfl, by kernel_rfl⟩, by kernel_rfl⟩
theorem left : LeftO PySem.Challenge.pw_pq1021_01 qv [] Xt (Hook.obs Hk) (Hook.val Hk) 7054 :=
  left_of (Yf := Hook.obs Hk) (Ya := Hook.val Hk) (boot_open (N := 7054) opening_eq (by kernel_rfl) fence_eq) boot_facts topRuns
theorem said_ok : (OpenLaw.wellSaid PySem.Challenge.rw_pq1021_01) = true := by
  unfold OpenLaw.wellSaid OpenRow.wellSaid OpenRow.partSaid looksOpen
  repeat' with_reducible refine look_both ?_ ?_
  all_goals (try rw [PySem.W.Fast.te8326940854005059898]); (try rw [PySem.W.Fast.te17119622794617984870]); (try rw [PySem.W.Fast.te9558739934217749035]); (try rw [PySem.W.Fast.te8179353310426384613]); (try rw [PySem.W.Fast.te16286561074155671207]); (try rw [PySem.W.Fast.te13343964577679436407]); (try rw [PySem.W.Fast.te8377067652309620493]); (try rw [PySem.W.Fast.te18344453789297297638]); (try rw [PySem.W.Fast.te2368527892694137696]); (try rw [PySem.W.Fast.te17868728402115742887]); (try rw [PySem.W.Fast.te5923862056798008813]); (try rw [PySem.W.Fast.te797321630700447069]); (try rw [PySem.W.Fast.te12862048085361865435])
  all_goals decide +kernel

def adC : Cl → Addr | .Symbol => 38 | .Table => 101 | .Pair => 122 | .Text => 143 | .Vector => 164 | .Alias => 224 | .Scope => 301 | .Names => 418
def adI : Cl → Addr | .Symbol => 35 | .Table => 56 | .Pair => 119 | .Text => 140 | .Vector => 161 | .Alias => 221 | .Scope => 256 | .Names => 352
def adF : Fu → Addr | .rootSymbol => 242 | .aliasOf => 312 | .stripOne => 319 | .strip => 324 | .hasAlias => 331 | .plain => 338 | .draw => 429 | .things => 434 | .isOne => 441 | .parts => 448 | .mates => 453 | .reached => 460 | .kept => 465 | .law => 470
def adM : Me → Addr | .tblSymbol => 63 | .nFresh => 359 | .nSymbol => 366
def pmOf (K : Frag) (a : Addr) : Value := match K.lookup a with
  | some ⟨_, _, .func fd, _⟩ => fd.pyModule
  | _ => .none
def cdOf (K : Frag) (a : Addr) : Value := match K.lookup a with
  | some ⟨_, _, .func fd, _⟩ => fd.code
  | _ => .none
def ocOf (K : Frag) (a : Addr) : Value := match K.lookup a with
  | some o => o.cls
  | _ => .none
def odOf (K : Frag) (a : Addr) : Option Addr := match K.lookup a with
  | some o => o.dict
  | _ => none
def oslOf (K : Frag) (a : Addr) : Array (Option Value) := match K.lookup a with
  | some o => o.slots
  | _ => #[]
theorem mkFn {S : Stat} {f : Addr} {d : PySem.Stmt} {q : Str} (h1 : S.K.lookup f = some ⟨ocOf S.K f, odOf S.K f, .func (fdOf d q (pmOf S.K f) (cdOf S.K f)), oslOf S.K f⟩) (h2 : codeIn S.K (cdOf S.K f) q = true) (hd : isFun d = true) : ∃ pm cd, FnAt S f (fdOf d q pm cd) := by
  refine ⟨pmOf S.K f, cdOf S.K f, ⟨_, _, _, h1⟩, ?_, ?_, ?_, ?_⟩
  · cases d <;> first | exact h2 | cases hd
  · cases d <;> rfl
  · cases d <;> rfl
  · cases d <;> rfl
theorem mkOk {S : Stat} {C : Addr} (a1 : plainGet S.K C "__class__" = true) (a2 : hasDictIn S.K C = true) (a3 : findIn S.K (.ref C) "__setattr__" = some (some (.builtin "object.__setattr__"))) (a4 : plainOver S.K C = true) (a5 : makesIn S.K C = true)
  (a6 : findIn S.K (.ref C) "__class__" = some (some (.builtin "object.__class__"))) (a7 : specialIn S.K (.builtin "object.__class__") "__get__" = some (some (.builtin "getset_descriptor.__get__"))) (a8 : takesIn S.K (.builtin "object.__class__") = some true) (a9 : mroIn S.K C (.type "object") = some true) : ClsOk S C := ⟨a1, a2, a3, a4, a5, a6, a7, a8, a9⟩
theorem free_of {S : Stat} {C : Addr} {l : List Str} (h : l.all (fun x => match findIn S.K (.ref C) x with | some none => true | _ => false) = true) : ∀ name, l.contains name = true → NameFree S C name := by
  intro name hn
  have := List.all_eq_true.mp h name (List.contains_iff_mem.mp hn)
  unfold NameFree
  split at this <;> simp_all

local macro_rules | `(tactic| k_search "rho") => `(tactic| first | with_reducible assumption | with_reducible exact setv_self | (with_reducible apply setv_old; (kernel_rfl); (k_search "rho")))
local macro_rules | `(tactic| k_search "lk") => `(tactic| first | with_reducible exact lk0 | (with_reducible apply lk1; (kernel_rfl); (k_search "lk")))
local macro_rules | `(tactic| k_search "glob") => `(tactic| first
  | with_reducible refine Ev.bisinstance (by assumption) (by kernel_rfl) (by kernel_rfl) ?_
  | with_reducible refine Ev.blen (by assumption) (by kernel_rfl) (by kernel_rfl) ?_
  | with_reducible refine Ev.brange (by assumption) (by kernel_rfl) (by kernel_rfl) ?_
  | with_reducible refine Ev.bint (by assumption) (by kernel_rfl) (by kernel_rfl) ?_
  | with_reducible refine Ev.babs (by assumption) (by kernel_rfl) (by kernel_rfl) ?_
  | with_reducible refine Ev.bzip (by assumption) (by kernel_rfl) (by kernel_rfl) ?_
  | with_reducible refine Ev.blist (by assumption) (by kernel_rfl) (by kernel_rfl) ?_
  | with_reducible refine Ev.gSymbol (by assumption) (by kernel_rfl) (by kernel_rfl) ?_
  | with_reducible refine Ev.gTable (by assumption) (by kernel_rfl) (by kernel_rfl) ?_
  | with_reducible refine Ev.gPair (by assumption) (by kernel_rfl) (by kernel_rfl) ?_
  | with_reducible refine Ev.gText (by assumption) (by kernel_rfl) (by kernel_rfl) ?_
  | with_reducible refine Ev.gVector (by assumption) (by kernel_rfl) (by kernel_rfl) ?_
  | with_reducible refine Ev.gAlias (by assumption) (by kernel_rfl) (by kernel_rfl) ?_
  | with_reducible refine Ev.gScope (by assumption) (by kernel_rfl) (by kernel_rfl) ?_
  | with_reducible refine Ev.gNames (by assumption) (by kernel_rfl) (by kernel_rfl) ?_
  | with_reducible refine Ev.frootSymbol (by assumption) (by kernel_rfl) (by kernel_rfl) ?_
  | with_reducible refine Ev.faliasOf (by assumption) (by kernel_rfl) (by kernel_rfl) ?_
  | with_reducible refine Ev.fstripOne (by assumption) (by kernel_rfl) (by kernel_rfl) ?_
  | with_reducible refine Ev.fstrip (by assumption) (by kernel_rfl) (by kernel_rfl) ?_
  | with_reducible refine Ev.fhasAlias (by assumption) (by kernel_rfl) (by kernel_rfl) ?_
  | with_reducible refine Ev.fplain (by assumption) (by kernel_rfl) (by kernel_rfl) ?_
  | with_reducible refine Ev.fdraw (by assumption) (by kernel_rfl) (by kernel_rfl) ?_
  | with_reducible refine Ev.fthings (by assumption) (by kernel_rfl) (by kernel_rfl) ?_
  | with_reducible refine Ev.fisOne (by assumption) (by kernel_rfl) (by kernel_rfl) ?_
  | with_reducible refine Ev.fparts (by assumption) (by kernel_rfl) (by kernel_rfl) ?_
  | with_reducible refine Ev.fmates (by assumption) (by kernel_rfl) (by kernel_rfl) ?_
  | with_reducible refine Ev.freached (by assumption) (by kernel_rfl) (by kernel_rfl) ?_
  | with_reducible refine Ev.fkept (by assumption) (by kernel_rfl) (by kernel_rfl) ?_
  | with_reducible refine Ev.deep (by assumption) (by kernel_rfl) (by kernel_rfl) ?_)
local macro_rules | `(tactic| k_search "cal") => `(tactic| first
  | with_reducible exact Callee.builtin
  | with_reducible exact Callee.type
  | with_reducible exact Prg.calC (by assumption) _
  | with_reducible exact Prg.calF (by assumption) _
  | with_reducible exact Prg.calM (by assumption) _)
local macro_rules | `(tactic| k_search "fv") => `(tactic| first
  | exact Or.inl ⟨_, rfl⟩ | exact Or.inr (Or.inl ⟨_, rfl⟩) | exact Or.inr (Or.inr ⟨_, rfl⟩))
local macro_rules | `(tactic| k_search "e") => `(tactic| first
  | with_reducible refine Ev.name (by kernel_rfl) (by k_search "rho") ?_ (by kernel_rfl)
  | with_reducible refine Ev.intC ?_
  | with_reducible refine Ev.strC ?_
  | with_reducible refine Ev.noneC ?_
  | with_reducible refine Ev.boolC ?_
  | k_search "glob"
  | with_reducible refine Ev.attr ?_ (by kernel_rfl)
  | with_reducible refine Ev.bin ?_
  | with_reducible refine Ev.cmp ?_ (by kernel_rfl)
  | with_reducible refine Ev.ifexp ?_
  | with_reducible refine Ev.and ?_
  | with_reducible refine Ev.or ?_
  | with_reducible refine Ev.bool1 ?_
  | with_reducible refine Ev.not ?_
  | with_reducible refine Ev.mcall ?_ (by kernel_rfl) ⟨_, rfl⟩
  | with_reducible refine Ev.call ?_ (by kernel_rfl) (by kernel_rfl)
  | with_reducible refine EvL.nil ?_
  | with_reducible refine EvL.cons ?_ (by kernel_rfl)
  | with_reducible refine Ev.list ?_
  | with_reducible refine Ev.tuple ?_
  | with_reducible refine Ev.sub ?_
  | with_reducible refine IsT.not ?_
  | with_reducible refine IsT.and_nil ?_
  | with_reducible refine IsT.or_nil ?_
  | with_reducible refine IsT.and_cons ?_
  | with_reducible refine IsT.or_cons ?_
  | with_reducible refine IsT.cmp ?_ (by kernel_rfl)
  | with_reducible refine IsT.plain ?_ (by kernel_rfl)
  | with_reducible refine Ts.retC ?_
  | with_reducible refine Ts.ifC ?_
  | refine ⟨by k_search "fv", by k_search "cal", ?_⟩)
local macro_rules | `(tactic| k_search "es") => `(tactic| repeat k_search "e")
local macro_rules | `(tactic| k_search "sg") => `(tactic| first
  | with_reducible assumption
  | with_reducible exact put_self _ _ _
  | (with_reducible apply put_old; (with_reducible assumption); (k_search "sg"))
  | (with_reducible apply put_oth; (with_reducible assumption); (k_search "sg")))
local macro_rules | `(tactic| k_search "at") => `(tactic| refine ⟨_, _, _, _, rfl, by k_search "sg", Prg.ok (by assumption) _, Prg.free (by assumption) _ _ (by kernel_rfl), by k_search "lk", ?_⟩)

section
variable {S : Stat} {n : Nat} {env : Env} {ρ : Str → Option Value} {σ : AH} {Q : Value → AH → Prop} {pos : Pos} {QS : Flow → (Str → Option Value) → AH → Prop} {rest : List PySem.Stmt}

/-! # rows of statements -/
def Then (S : Stat) (n : Nat) (env : Env) (rest : List PySem.Stmt) (QS : Flow → (Str → Option Value) → AH → Prop) : Flow → (Str → Option Value) → AH → Prop
  | .next, ρ, σ => Ts S n env ρ σ (execs rest env) QS
  | f, ρ, σ => QS f ρ σ
theorem Ts.then {st : PySem.Stmt} (h : Ts S n env ρ σ (exec st env) (Then S n env rest QS)) : Ts S n env ρ σ (execs (st :: rest) env) QS :=
  Ts.cons (h.mono fun f ρ' σ' q => by cases f <;> exact q)
theorem Ts.ret1 {e : PySem.Expr} (h : Ev S n env ρ σ e (fun v σ₁ => QS (.ret v) ρ σ₁)) : Ts S n env ρ σ (execs (.Return (some e) pos :: rest) env) QS := Ts.then (Ts.retC h)
theorem Ts.if1 {t : PySem.Expr} {b o : List PySem.Stmt} (h : IsT S n env ρ σ t (fun c σ₁ => if c then Ts S n env ρ σ₁ (execs b env) (Then S n env rest QS) else Ts S n env ρ σ₁ (execs o env) (Then S n env rest QS))) : Ts S n env ρ σ (execs (.If t b o pos :: rest) env) QS := Ts.then (Ts.ifC h)
theorem Ts.expr1 {e : PySem.Expr} (h : Ev S n env ρ σ e (fun v σ₁ => Ts S n env ρ σ₁ (execs rest env) QS)) (hi : interactive env = false) (hs : swapsWith e none pos.line env = pure false) : Ts S n env ρ σ (execs (.Expr e pos :: rest) env) QS := Ts.then (Ts.exprD h hi hs)
theorem Ts.asg1 {t value : PySem.Expr} (h : Ev S n env ρ σ value (fun v σ₁ => ∀ u, nrm u = v → Tu S n env ρ σ₁ (assign t env u) (fun ρ' σ' => Ts S n env ρ' σ' (execs rest env) QS)))
    (he : (assignEach [t] env).map (·.2) = [assign t env]) (hs : swapsWithSole [t] value pos.line env = pure false) (hw : swappedStores [t] value env = pure none) : Ts S n env ρ σ (execs (.Assign [t] value pos :: rest) env) QS := Ts.then (Ts.assign1 h he hs hw)
theorem Ts.asgN {x : Str} {px : Pos} {value : PySem.Expr} (h : Ev S n env ρ σ value (fun v σ₁ => Ts S n env (setv ρ x v) σ₁ (execs rest env) QS)) (hx : nameOk env x = true)
    (he : (assignEach [.Name x px] env).map (·.2) = [assign (.Name x px) env]) (hs : swapsWithSole [.Name x px] value pos.line env = pure false) (hw : swappedStores [.Name x px] value env = pure none) : Ts S n env ρ σ (execs (.Assign [.Name x px] value pos :: rest) env) QS :=
  Ts.asg1 (h.mono fun v σ₁ q u hu => Tu.name (cellOk_of hx) (by rw [hu]; exact q)) he hs hw
theorem Ts.asgSwap {elts : List PySem.Expr} {k : Nat} {tpos : Pos} {value : PySem.Expr} (x y : Str)
    (h : Ev S n env ρ σ value (fun v σ₁ => ∃ t a b, v = .ref t ∧ σ₁ t = some (.tuple [a, b]) ∧ Ts S n env (setv (setv ρ y b) x a) σ₁ (execs rest env) QS)) (hx : nameOk env x = true) (hy : nameOk env y = true)
    (hs : swapsWithSole [.Tuple elts k tpos] value pos.line env = pure false) (hw : swappedStores [.Tuple elts k tpos] value env = pure (some [x, y])) : Ts S n env ρ σ (execs (.Assign [.Tuple elts k tpos] value pos :: rest) env) QS :=
  Ts.then (Ts.assignSwap (h.mono fun v σ₁ ⟨t, a, b, e1, e2, q⟩ => ⟨t, a, b, e1, e2, cellOk_of hx, cellOk_of hy, q⟩) hs hw)
theorem Ts.asgTup2 {x y : Str} {px py tpos : Pos} {k : Nat} {value : PySem.Expr}
    (h : Ev S n env ρ σ value (fun v σ₁ => ∃ t a b, v = .ref t ∧ σ₁ t = some (.tuple [a, b]) ∧ Ts S n env (setv (setv ρ x a) y b) σ₁ (execs rest env) QS)) (hx : nameOk env x = true) (hy : nameOk env y = true)
    (he : (assignEach [.Tuple [.Name x px, .Name y py] k tpos] env).map (·.2) = [assign (.Tuple [.Name x px, .Name y py] k tpos) env])
    (he2 : assignEach [.Name x px, .Name y py] env = [(false, assign (.Name x px) env), (false, assign (.Name y py) env)])
    (hs : swapsWithSole [.Tuple [.Name x px, .Name y py] k tpos] value pos.line env = pure false) (hw : swappedStores [.Tuple [.Name x px, .Name y py] k tpos] value env = pure none) : Ts S n env ρ σ (execs (.Assign [.Tuple [.Name x px, .Name y py] k tpos] value pos :: rest) env) QS :=
  Ts.asg1 (h.mono fun v σ₁ ⟨t, a, b, e1, e2, q⟩ u hu => by
    subst e1
    rw [of_nrm_ref hu]
    exact Tu.tup2 e2 (fun u1 u2 h1 h2 => Tu.name (cellOk_of hx) (Tu.name (cellOk_of hy) (by rw [h1, h2]; exact q))) he2) he hs hw
theorem Ts.for1 {x : Str} {px : Pos} {iter : PySem.Expr} {body : List PySem.Stmt} (I : Nat → (Str → Option Value) → AH → Prop) (N : Nat) (hx : nameOk env x = true)
    (h : Ev S n env ρ σ iter (fun v σ₁ => PyIt S n σ₁ v (fun nx σ₂ => I 0 ρ σ₂ ∧ ∀ i ρ' σ', I i ρ' σ' → i ≤ N ∧ ∃ r, nx i σ' r ∧ match r with
      | some v => Ts S n env (setv ρ' x v) σ' (execs body env) (fun f ρ'' σ'' => match f with | .next | .cont => I (i + 1) ρ'' σ'' | .brk => Ts S n env ρ'' σ'' (execs rest env) QS | .ret v => QS (.ret v) ρ'' σ'')
      | none => Ts S n env ρ' σ' (execs rest env) QS)))
    (hs : ∀ x, foldedSetIterable iter env x = Pure.pure x) : Ts S n env ρ σ (execs (.For (.Name x px) iter body [] pos :: rest) env) QS :=
  Ts.then (Ts.forC I N (cellOk_of hx) (h.mono fun v σ₁ q u hu A s R G => wpAny_mono (q u hu A s R G) (fun r s' ⟨it, At, nx, σ', a, b, c, d, e, f, g, i0, tn⟩ => ⟨it, At, nx, σ', a, b, c, d, e, f, g, i0, fun i ρ' σ'' hI => by
    obtain ⟨k1, r, k2, k3⟩ := tn i ρ' σ'' hI
    refine ⟨k1, r, k2, ?_⟩
    cases r with
    | none => exact k3
    | some v => exact k3.mono fun f ρ' σ' q => by cases f <;> exact q⟩) fun _ _ x => x) hs)
theorem Ts.while1 {t : PySem.Expr} {body : List PySem.Stmt} (I : Nat → (Str → Option Value) → AH → Prop) {k₀ : Nat} (h0 : I k₀ ρ σ)
    (turn : ∀ k ρ' σ', I k ρ' σ' → IsT S n env ρ' σ' t (fun c σ₁ => if c then Ts S n env ρ' σ₁ (execs body env) (fun f ρ'' σ'' => match f with | .next | .cont => ∃ k', k' < k ∧ I k' ρ'' σ'' | .brk => Ts S n env ρ'' σ'' (execs rest env) QS | .ret v => QS (.ret v) ρ'' σ'')
      else Ts S n env ρ' σ₁ (execs rest env) QS)) : Ts S n env ρ σ (execs (.While t body [] pos :: rest) env) QS :=
  Ts.then (Ts.whileC I h0 fun k ρ' σ' hI => (turn k ρ' σ' hI).mono fun c σ₁ q => by
    cases c with
    | false => exact q
    | true => simp only [if_true] at q ⊢; exact q.mono fun f ρ' σ' q => by cases f <;> exact q)

theorem at_of {P : Prg S} {c : Cl} {a : Addr} {at_ : List (Str × Value)} {name : Str} {u : Value} (hσ : σ a = some (.inst (P.c c) at_)) (hn : (attrsC c).contains name = true) (hu : List.lookup name at_ = some u) (h : Q u σ) :
    ∃ a' C at' u', (Value.ref a) = .ref a' ∧ σ a' = some (.inst C at') ∧ ClsOk S C ∧ NameFree S C name ∧ List.lookup name at' = some u' ∧ Q u' σ := ⟨_, _, _, _, rfl, hσ, P.ok c, P.free c _ hn, hu, h⟩

/-! # the small defs -/
theorem ct_root (P : Prg S) {a : Addr} {at_ : List (Str × Value)} {r : Value} (hσ : σ a = some (.inst (P.c .Alias) at_)) (hr : List.lookup ("root" : Str) at_ = some r) (h : Q r σ) : CodeV S 1 σ (.ref (P.f .rootSymbol)) [.ref a] Q := by
  refine CodeV.fn (d := dF .rootSymbol) ["identifier"] (P.fnF .rootSymbol) (by kernel_rfl) (fun pm cd raws hr => ?_) (fun pm cd L => ?_)
  · match raws, hr with
    | [a], _ => kernel_rfl
  · have r1 : rho0 ["identifier"] [.ref a] "identifier" = some (.ref a) := by kernel_rfl
    generalize hρ : rho0 ["identifier"] [.ref a] = ρ at r1 ⊢
    refine Ts.ret1 ?_
    iterate 10 k_search "e"
    refine CallV.isiInst hσ (P.ok _) (.inl ⟨_, rfl⟩) (P.kit .Alias .Alias) (Truthy.ofBool ?_)
    simp only [eqC, if_true]
    iterate 2 k_search "e"
    exact at_of (P := P) hσ (by kernel_rfl) hr h
end

section
variable {S : Stat} {n : Nat} {env : Env} {ρ : Str → Option Value} {σ : AH} {Q : Value → AH → Prop} {pos : Pos} {QS : Flow → (Str → Option Value) → AH → Prop} {rest : List PySem.Stmt}
theorem hin_of {u v : Value} (h : nrm u = v) (hv : handedIn v = true) : handedIn u = true := by
  subst h; cases u <;> exact hv
theorem put_put {a : Addr} {x y : AObj} : put (put σ a x) a y = put σ a y := by
  funext b; unfold put; split <;> rfl
/-- «o.name = value» -/
theorem Ts.asgA {P : Prg S} {c : Cl} {o value : PySem.Expr} {name : Str} {apos : Pos}
    (h : Ev S n env ρ σ value (fun v σ₁ => Ev S n env ρ σ₁ o (fun ov σ₂ => ∃ a at_, ov = .ref a ∧ σ₂ a = some (.inst (P.c c) at_) ∧ (attrsC c).contains name = true ∧ handedIn v = true ∧ Nat.ble at_.length 900 = true ∧ Ts S n env ρ (put σ₂ a (.inst (P.c c) (setA name v at_))) (execs rest env) QS)))
    (he : (assignEach [.Attribute o name apos] env).map (·.2) = [assign (.Attribute o name apos) env]) (hs : swapsWithSole [.Attribute o name apos] value pos.line env = pure false) (hw : swappedStores [.Attribute o name apos] value env = pure none) :
    Ts S n env ρ σ (execs (.Assign [.Attribute o name apos] value pos :: rest) env) QS :=
  Ts.asg1 (h.mono fun v σ₁ q u hu => Tu.attr (q.mono fun ov σ₂ ⟨a, at_, e1, e2, e3, e4, e5, e6⟩ => ⟨a, _, at_, e1, e2, P.ok c, P.free c _ e3, hin_of hu e4, Nat.le_of_ble_eq_true e5, by rw [hu]; exact e6⟩)) he hs hw
theorem Ts.nil1 (h : QS .next ρ σ) : Ts S n env ρ σ (execs [] env) QS := Ts.nil h


theorem ct_initPair (P : Prg S) {x : Addr} {a : Value} {b : Value} (ha : handedIn a = true) (hb : handedIn b = true) (hσ : σ x = some (.inst (P.c .Pair) [])) (h : Q .none (put σ x (.inst (P.c .Pair) [("car", a), ("cdr", b), ("mark", .none)]))) : CodeV S 1 σ (.ref (P.i .Pair)) [.ref x, a, b] Q := by
  refine CodeV.fn (d := initD .Pair) ["self", "car", "cdr"] (P.initF .Pair) (by kernel_rfl) (fun pm cd raws hr => ?_) (fun pm cd L => ?_)
  · match raws, hr with
    | [x0, x1, x2], _ => kernel_rfl
  · have r0 : rho0 ["self", "car", "cdr"] [.ref x, a, b] "self" = some (.ref x) := by kernel_rfl
    have r1 : rho0 ["self", "car", "cdr"] [.ref x, a, b] "car" = some a := by kernel_rfl
    have r2 : rho0 ["self", "car", "cdr"] [.ref x, a, b] "cdr" = some b := by kernel_rfl
    generalize hρ : rho0 ["self", "car", "cdr"] [.ref x, a, b] = ρ at r0 r1 r2 ⊢
    refine Ts.asgA (P := P) (c := .Pair) ?_ (by kernel_rfl) (by kernel_rfl) (by kernel_rfl)
    k_search "es"
    refine ⟨_, _, rfl, hσ, by kernel_rfl, by first | assumption | rfl, by kernel_rfl, ?_⟩
    refine Ts.asgA (P := P) (c := .Pair) ?_ (by kernel_rfl) (by kernel_rfl) (by kernel_rfl)
    k_search "es"
    refine ⟨_, _, rfl, put_self _ _ _, by kernel_rfl, by first | assumption | rfl, by kernel_rfl, ?_⟩
    rw [put_put]
    refine Ts.asgA (P := P) (c := .Pair) ?_ (by kernel_rfl) (by kernel_rfl) (by kernel_rfl)
    k_search "es"
    refine ⟨_, _, rfl, put_self _ _ _, by kernel_rfl, by first | assumption | rfl, by kernel_rfl, ?_⟩
    rw [put_put]
    refine Ts.nil1 ?_
    exact h
theorem ct_initText (P : Prg S) {x : Addr} {a : Value} (ha : handedIn a = true) (hσ : σ x = some (.inst (P.c .Text) [])) (h : Q .none (put σ x (.inst (P.c .Text) [("codes", a), ("mark", .none)]))) : CodeV S 1 σ (.ref (P.i .Text)) [.ref x, a] Q := by
  refine CodeV.fn (d := initD .Text) ["self", "codes"] (P.initF .Text) (by kernel_rfl) (fun pm cd raws hr => ?_) (fun pm cd L => ?_)
  · match raws, hr with
    | [x0, x1], _ => kernel_rfl
  · have r0 : rho0 ["self", "codes"] [.ref x, a] "self" = some (.ref x) := by kernel_rfl
    have r1 : rho0 ["self", "codes"] [.ref x, a] "codes" = some a := by kernel_rfl
    generalize hρ : rho0 ["self", "codes"] [.ref x, a] = ρ at r0 r1 ⊢
    refine Ts.asgA (P := P) (c := .Text) ?_ (by kernel_rfl) (by kernel_rfl) (by kernel_rfl)
    k_search "es"
    refine ⟨_, _, rfl, hσ, by kernel_rfl, by first | assumption | rfl, by kernel_rfl, ?_⟩
    refine Ts.asgA (P := P) (c := .Text) ?_ (by kernel_rfl) (by kernel_rfl) (by kernel_rfl)
    k_search "es"
    refine ⟨_, _, rfl, put_self _ _ _, by kernel_rfl, by first | assumption | rfl, by kernel_rfl, ?_⟩
    rw [put_put]
    refine Ts.nil1 ?_
    exact h
theorem ct_initVector (P : Prg S) {x : Addr} {a : Value} (ha : handedIn a = true) (hσ : σ x = some (.inst (P.c .Vector) [])) (h : Q .none (put σ x (.inst (P.c .Vector) [("things", a), ("mark", .none)]))) : CodeV S 1 σ (.ref (P.i .Vector)) [.ref x, a] Q := by
  refine CodeV.fn (d := initD .Vector) ["self", "things"] (P.initF .Vector) (by kernel_rfl) (fun pm cd raws hr => ?_) (fun pm cd L => ?_)
  · match raws, hr with
    | [x0, x1], _ => kernel_rfl
  · have r0 : rho0 ["self", "things"] [.ref x, a] "self" = some (.ref x) := by kernel_rfl
    have r1 : rho0 ["self", "things"] [.ref x, a] "things" = some a := by kernel_rfl
    generalize hρ : rho0 ["self", "things"] [.ref x, a] = ρ at r0 r1 ⊢
    refine Ts.asgA (P := P) (c := .Vector) ?_ (by kernel_rfl) (by kernel_rfl) (by kernel_rfl)
    k_search "es"
    refine ⟨_, _, rfl, hσ, by kernel_rfl, by first | assumption | rfl, by kernel_rfl, ?_⟩
    refine Ts.asgA (P := P) (c := .Vector) ?_ (by kernel_rfl) (by kernel_rfl) (by kernel_rfl)
    k_search "es"
    refine ⟨_, _, rfl, put_self _ _ _, by kernel_rfl, by first | assumption | rfl, by kernel_rfl, ?_⟩
    rw [put_put]
    refine Ts.nil1 ?_
    exact h
theorem ct_initSymbol (P : Prg S) {x : Addr} {a : Value} {b : Value} (ha : handedIn a = true) (hb : handedIn b = true) (hσ : σ x = some (.inst (P.c .Symbol) [])) (h : Q .none (put σ x (.inst (P.c .Symbol) [("number", a), ("text", b)]))) : CodeV S 1 σ (.ref (P.i .Symbol)) [.ref x, a, b] Q := by
  refine CodeV.fn (d := initD .Symbol) ["self", "number", "text"] (P.initF .Symbol) (by kernel_rfl) (fun pm cd raws hr => ?_) (fun pm cd L => ?_)
  · match raws, hr with
    | [x0, x1, x2], _ => kernel_rfl
  · have r0 : rho0 ["self", "number", "text"] [.ref x, a, b] "self" = some (.ref x) := by kernel_rfl
    have r1 : rho0 ["self", "number", "text"] [.ref x, a, b] "number" = some a := by kernel_rfl
    have r2 : rho0 ["self", "number", "text"] [.ref x, a, b] "text" = some b := by kernel_rfl
    generalize hρ : rho0 ["self", "number", "text"] [.ref x, a, b] = ρ at r0 r1 r2 ⊢
    refine Ts.asgA (P := P) (c := .Symbol) ?_ (by kernel_rfl) (by kernel_rfl) (by kernel_rfl)
    k_search "es"
    refine ⟨_, _, rfl, hσ, by kernel_rfl, by first | assumption | rfl, by kernel_rfl, ?_⟩
    refine Ts.asgA (P := P) (c := .Symbol) ?_ (by kernel_rfl) (by kernel_rfl) (by kernel_rfl)
    k_search "es"
    refine ⟨_, _, rfl, put_self _ _ _, by kernel_rfl, by first | assumption | rfl, by kernel_rfl, ?_⟩
    rw [put_put]
    refine Ts.nil1 ?_
    exact h
end

section
variable {S : Stat} {n : Nat} {env : Env} {ρ : Str → Option Value} {σ : AH} {Q : Value → AH → Prop} {pos : Pos} {QS : Flow → (Str → Option Value) → AH → Prop} {rest : List PySem.Stmt}

theorem iteT {a b : Prop} (h : a) : if true = true then a else b := by rw [if_pos rfl]; exact h
theorem iteNT {a b : Prop} (h : a) : if (!false) = true then a else b := h
theorem iteNF {a b : Prop} (h : b) : if (!true) = true then a else b := h
theorem iteF {a b : Prop} (h : b) : if false = true then a else b := by rw [if_neg Bool.false_ne_true]; exact h
theorem CallV.isiII {P : Prg S} {i : Int} {y : Cl} (h : Q (.bool false) σ) : CallV S n σ (.builtin "isinstance") [VI i, .ref (P.c y)] Q := CallV.isiInt (b := false) (.inl ⟨_, rfl⟩) (P.iKit y) h
theorem CallV.isiCI {P : Prg S} {a : Addr} {x : Cl} {at_} (hσ : σ a = some (.inst (P.c x) at_)) (h : Q (.bool false) σ) : CallV S n σ (.builtin "isinstance") [.ref a, .type "int"] Q := CallV.isiInst hσ (P.ok _) (.inr (.inr ⟨_, rfl⟩)) (P.kitI x) h
theorem CallV.isiCC {P : Prg S} {a : Addr} {x y : Cl} {at_} {b : Bool} (hσ : σ a = some (.inst (P.c x) at_)) (e : eqC x y = b) (h : Q (.bool b) σ) : CallV S n σ (.builtin "isinstance") [.ref a, .ref (P.c y)] Q := CallV.isiInst hσ (P.ok _) (.inl ⟨_, rfl⟩) ((P.kit x y).trans (congrArg some e)) h
def AtV (S : Stat) (name : Str) (v : Value) (σ : AH) (Q : Value → AH → Prop) : Prop := ∃ a C at_ u, v = .ref a ∧ σ a = some (.inst C at_) ∧ ClsOk S C ∧ NameFree S C name ∧ at_.lookup name = some u ∧ Q u σ
theorem AtV.of {P : Prg S} {c : Cl} {a : Addr} {at_ : List (Str × Value)} {name : Str} {u : Value} (hσ : σ a = some (.inst (P.c c) at_)) (hn : (attrsC c).contains name = true) (hu : List.lookup name at_ = some u) (h : Q u σ) : AtV S name (.ref a) σ Q := ⟨_, _, _, _, rfl, hσ, P.ok c, P.free c _ hn, hu, h⟩
theorem Ev.attrV {e : PySem.Expr} {name : Str} (h : Ev S n env ρ σ e (fun v σ₁ => AtV S name v σ₁ Q)) (ho : attributeBase e name env (eval e env) = eval e env) : Ev S n env ρ σ (.Attribute e name pos) Q := Ev.attr h ho
theorem Ts.nilThen (h : Ts S n env ρ σ (execs rest env) QS) : Ts S n env ρ σ (execs [] env) (Then S n env rest QS) := Ts.nil1 h
end

local macro_rules | `(tactic| k_search "s") => `(tactic| first
  | with_reducible refine Ev.sliceUp ?_
  | with_reducible refine Ev.attrV ?_ (by kernel_rfl)
  | with_reducible refine iteT ?_
  | with_reducible refine iteF ?_
  | with_reducible refine iteNT ?_
  | with_reducible refine iteNF ?_
  | with_reducible refine Ts.nilThen ?_
  | with_reducible refine Ts.ret1 ?_
  | with_reducible refine Ts.if1 ?_
  | with_reducible refine Ts.asgN ?_ (by kernel_rfl) (by kernel_rfl) (by kernel_rfl) (by kernel_rfl)
  | with_reducible refine Ts.expr1 ?_ (by kernel_rfl) (by kernel_rfl))
local macro_rules | `(tactic| k_search "es") => `(tactic| repeat first | k_search "s" | k_search "e")
local macro_rules | `(tactic| k_search "isi") => `(tactic| ((first
  | with_reducible refine CallV.isiInt (b := true) (.inr (.inr ⟨_, rfl⟩)) (by kernel_rfl) ?_
  | with_reducible refine CallV.isiII ?_
  | (with_reducible apply CallV.isiCI; (k_search "sg"))
  | (with_reducible apply CallV.isiCC (b := true); (k_search "sg"); (decide))
  | (with_reducible apply CallV.isiCC (b := false); (k_search "sg"); (decide))); (try with_reducible refine Truthy.ofBool ?_)))
local macro_rules | `(tactic| k_search "at") => `(tactic| (with_reducible apply AtV.of; (k_search "sg"); (kernel_rfl); (k_search "lk")))

section
variable {S : Stat} {n : Nat} {env : Env} {ρ : Str → Option Value} {σ : AH} {Q : Value → AH → Prop} {pos : Pos} {QS : Flow → (Str → Option Value) → AH → Prop} {rest : List PySem.Stmt}
/-! # what may change -/
structure Up (X : Addr → Prop) (σ σ' : AH) : Prop where
  get : ∀ b o, ¬ X b → σ b = some o → σ' b = some o
  fp : ∀ b, fp σ b → fp σ' b
theorem Up.refl {X : Addr → Prop} {σ : AH} : Up X σ σ := ⟨fun _ _ _ h => h, fun _ h => h⟩
theorem Up.trans {X : Addr → Prop} {σ₁ σ₂ σ₃ : AH} (a : Up X σ₁ σ₂) (b : Up X σ₂ σ₃) : Up X σ₁ σ₃ := ⟨fun c o h e => b.get c o h (a.get c o h e), fun c h => b.fp c (a.fp c h)⟩
theorem Up.mono {X Y : Addr → Prop} {σ₁ σ₂ : AH} (a : Up X σ₁ σ₂) (h : ∀ b, X b → Y b) : Up Y σ₁ σ₂ := ⟨fun c o hc e => a.get c o (fun q => hc (h c q)) e, a.fp⟩
theorem Up.new {X : Addr → Prop} {σ : AH} {a : Addr} {o : AObj} (ha : ¬ Mine.fp σ a) : Up X σ (put σ a o) := ⟨fun b x _ e => put_old ha e, fun b hb => by
  rcases hb with hb | ⟨C, at_, hb⟩
  · obtain ⟨x, hx⟩ := Option.isSome_iff_exists.mp hb
    exact fp_self (put_old ha hx)
  · exact fp_dict (put_old ha hb)⟩
theorem Up.set {X : Addr → Prop} {σ : AH} {a : Addr} {x o : AObj} (ha : σ a = some x) (hx : X a) (h0 : ∀ C at_, x ≠ .inst C at_) : Up X σ (put σ a o) := ⟨fun b y hb e => put_oth (fun q => hb (q ▸ hx)) e, fun b hb => by
  rcases hb with hb | ⟨C, at_, hb⟩
  · by_cases q : b = a
    · subst q; exact fp_self (put_self _ _ _)
    · obtain ⟨y, hy⟩ := Option.isSome_iff_exists.mp hb
      exact fp_self (put_oth q hy)
  · by_cases q : b + 1 = a
    · subst q; rw [ha] at hb; exact absurd (Option.some.inj hb) (h0 _ _)
    · exact fp_dict (put_oth q hb)⟩
theorem Up.setI {X : Addr → Prop} {σ : AH} {a C : Addr} {at_ at'} (ha : σ a = some (.inst C at_)) (hx : X a) : Up X σ (put σ a (.inst C at')) := ⟨fun b y hb e => put_oth (fun q => hb (q ▸ hx)) e, fun b hb => by
  rcases hb with hb | ⟨C', at_', hb⟩
  · by_cases q : b = a
    · subst q; exact fp_self (put_self _ _ _)
    · obtain ⟨y, hy⟩ := Option.isSome_iff_exists.mp hb
      exact fp_self (put_oth q hy)
  · by_cases q : b + 1 = a
    · subst q; exact fp_dict (put_self _ _ _)
    · exact fp_dict (put_oth q hb)⟩

theorem ct_draw (P : Prg S) {dk : Addr} {ns : List Int} {k : Nat} (hk : 0 < k) (hl : ns.length ≤ 100) (hσ : σ dk = some (.list (ns.map VI)))
    (h : ∀ (r : Nat) (ns' : List Int) σ', r < k → ns'.length ≤ 100 → σ' dk = some (.list (ns'.map VI)) → Up (· = dk) σ σ' → Q (VI r) σ') : CodeV S 1 σ (.ref (P.f .draw)) [.ref dk, VI k] Q := by
  refine CodeV.fn (d := dF .draw) ["deck", "many"] (P.fnF .draw) (by kernel_rfl) (fun pm cd raws hr => ?_) (fun pm cd L => ?_)
  · match raws, hr with
    | [x0, x1], _ => kernel_rfl
  · have r1 : rho0 ["deck", "many"] [.ref dk, VI k] "deck" = some (.ref dk) := by kernel_rfl
    have r2 : rho0 ["deck", "many"] [.ref dk, VI k] "many" = some (VI k) := by kernel_rfl
    generalize hρ : rho0 ["deck", "many"] [.ref dk, VI k] = ρ at r1 r2 ⊢
    refine Ts.ret1 ?_
    k_search "es"
    refine ⟨by decide, fun a ha => Cmp.neNil (put_old ha hσ) (put_self _ _ _) (Truthy.ofBool ?_)⟩
    have hda : dk ≠ a := fun q => ha (q ▸ fp_self hσ)
    cases ns with
    | nil =>
      simp only [List.map_nil, List.isEmpty_nil, Bool.not_true, Bool.false_eq_true, if_false]
      k_search "es"
      exact h 0 [] _ hk (by decide) (put_old ha hσ) (Up.new ha)
    | cons x xs =>
      simp only [List.map_cons, List.isEmpty_cons, Bool.not_false, if_true]
      k_search "es"
      refine MethV.list (put_old ha hσ) PySem.F.slot_list_pop PySem.F.type_list_pop ⟨Callee.builtin, ?_⟩
      k_search "es"
      refine CallV.popFirst (v := VI x) (vs := xs.map VI) (put_old ha hσ) (by simp at hl ⊢; omega) ?_
      k_search "es"
      refine Bin.mod (by omega) ?_
      have e0 : (0 : Int) ≤ x.fmod k := Int.fmod_nonneg_of_pos _ (by omega)
      have e1 : x.fmod k < k := Int.fmod_lt_of_pos _ (by omega)
      obtain ⟨r, hr⟩ := Int.eq_ofNat_of_zero_le e0
      rw [hr] at e1 ⊢
      exact h r xs _ (by omega) (by simp at hl; omega) (put_self _ _ _) ((Up.new ha).trans (Up.set (put_old ha hσ) rfl list_noInst))

/-- numbers and objects -/
def Dom (P : Prg S) (σ : AH) (v : Value) : Prop := (∃ i, v = VI i) ∨ ∃ a c at_, v = .ref a ∧ σ a = some (.inst (P.c c) at_)
theorem Dom.up {P : Prg S} {X : Addr → Prop} {σ σ' : AH} {v : Value} (h : Dom P σ v) (U : Up X σ σ') (hx : ∀ a, v = .ref a → ¬ X a) : Dom P σ' v := by
  rcases h with h | ⟨a, c, at_, e, h⟩
  · exact .inl h
  · exact .inr ⟨a, c, at_, e, U.get _ _ (hx a e) h⟩
theorem ct_isOne (P : Prg S) {u v : Value} (hu : Dom P σ u) (hv : Dom P σ v) (h : ∀ b, (b = true ↔ u = v) → Q (.bool b) σ) : CodeV S 1 σ (.ref (P.f .isOne)) [u, v] Q := by
  refine CodeV.fn (d := dF .isOne) ["one", "other"] (P.fnF .isOne) (by kernel_rfl) (fun pm cd raws hr => ?_) (fun pm cd L => ?_)
  · match raws, hr with
    | [x0, x1], _ => kernel_rfl
  · have r1 : rho0 ["one", "other"] [u, v] "one" = some u := by kernel_rfl
    have r2 : rho0 ["one", "other"] [u, v] "other" = some v := by kernel_rfl
    generalize hρ : rho0 ["one", "other"] [u, v] = ρ at r1 r2 ⊢
    refine Ts.if1 ?_
    rcases hu with ⟨i, rfl⟩ | ⟨a, c, at_, rfl, ha⟩ <;> rcases hv with ⟨j, rfl⟩ | ⟨a', c', at', rfl, ha'⟩
    · k_search "es"; k_search "isi"; k_search "es"; k_search "isi"; k_search "es"; k_search "isi"; k_search "es"
      refine Cmp.eqI ?_
      exact h _ (by simp)
    · k_search "es"; k_search "isi"; k_search "es"; k_search "isi"; k_search "es"; k_search "isi"; k_search "es"
      exact h _ (by simp)
    · k_search "es"; k_search "isi"; k_search "es"; k_search "isi"; k_search "es"; k_search "isi"; k_search "es"
      exact h _ (by simp)
    · k_search "es"; k_search "isi"; k_search "es"; k_search "isi"; k_search "es"
      refine Cmp.isRef ha ha' ?_
      exact h _ (by simp)

theorem ct_partsP (P : Prg S) {a : Addr} {u v w : Value} (hσ : σ a = some (.inst (P.c .Pair) [("car", u), ("cdr", v), ("mark", w)])) (h : ∀ l σ', ¬ fp σ l → σ' l = some (.list [u, v]) → Up (fun _ => False) σ σ' → Q (.ref l) σ') : CodeV S 1 σ (.ref (P.f .parts)) [.ref a] Q := by
  refine CodeV.fn (d := dF .parts) ["thing"] (P.fnF .parts) (by kernel_rfl) (fun pm cd raws hr => ?_) (fun pm cd L => ?_)
  · match raws, hr with
    | [x0], _ => kernel_rfl
  · have r1 : rho0 ["thing"] [.ref a] "thing" = some (.ref a) := by kernel_rfl
    generalize hρ : rho0 ["thing"] [.ref a] = ρ at r1 ⊢
    refine Ts.ret1 ?_
    k_search "es"; k_search "isi"; k_search "es"
    k_search "at"
    k_search "es"
    k_search "at"
    k_search "es"
    exact ⟨by simp, fun l hl => h l _ hl (put_self _ _ _) (Up.new hl)⟩
theorem ct_partsV (P : Prg S) {a b : Addr} {w : Value} {vs : List Value} (hσ : σ a = some (.inst (P.c .Vector) [("things", .ref b), ("mark", w)])) (hb : σ b = some (.list vs)) (hl : vs.length ≤ 900) (h : ∀ l σ', ¬ fp σ l → σ' l = some (.list vs) → Up (fun _ => False) σ σ' → Q (.ref l) σ') : CodeV S 1 σ (.ref (P.f .parts)) [.ref a] Q := by
  refine CodeV.fn (d := dF .parts) ["thing"] (P.fnF .parts) (by kernel_rfl) (fun pm cd raws hr => ?_) (fun pm cd L => ?_)
  · match raws, hr with
    | [x0], _ => kernel_rfl
  · have r1 : rho0 ["thing"] [.ref a] "thing" = some (.ref a) := by kernel_rfl
    generalize hρ : rho0 ["thing"] [.ref a] = ρ at r1 ⊢
    refine Ts.ret1 ?_
    k_search "es"; k_search "isi"; k_search "es"
    k_search "at"
    k_search "es"
    exact CallV.listOf hb (by omega) fun l hl => h l _ hl (put_self _ _ _) (Up.new hl)
end

section
variable {S : Stat} {n : Nat} {env : Env} {ρ : Str → Option Value} {σ : AH} {Q : Value → AH → Prop} {pos : Pos} {QS : Flow → (Str → Option Value) → AH → Prop} {rest : List PySem.Stmt}

theorem Good.sub {σ' : AH} {h : Heap} (G : Good S σ' h) (hs : ∀ b o, σ b = some o → σ' b = some o) : Good S σ h where
  keep := G.keep
  rep a o e := G.rep a o (hs a o e)
  sep a C at_ e := by
    cases q : σ a with
    | none => rfl
    | some o => have := hs _ _ q; rw [G.sep a C at_ (hs _ _ e)] at this; cases this
  new a ha := G.new a (by
    rcases ha with ha | ⟨C, at_, ha⟩
    · obtain ⟨o, ho⟩ := Option.isSome_iff_exists.mp ha; exact fp_self (hs _ _ ho)
    · exact fp_dict (hs _ _ ha))
theorem fp_sub {σ' : AH} (hs : ∀ b o, σ b = some o → σ' b = some o) {a : Addr} (ha : fp σ a) : fp σ' a := by
  rcases ha with ha | ⟨C, at_, ha⟩
  · obtain ⟨o, ho⟩ := Option.isSome_iff_exists.mp ha; exact fp_self (hs _ _ ho)
  · exact fp_dict (hs _ _ ha)
theorem Step.sub {σ₀ σ' : AH} {s s' : Shared} (T : Step σ₀ s σ' s') (hs : ∀ b o, σ b = some o → σ' b = some o) : Step σ₀ s σ s' := ⟨T.keep, fun b hb => T.own b (fp_sub hs hb), T.gens, T.os⟩

/-! # a dict's values -/
theorem CallV.values {d : Addr} {kvs : List (Int × Value)} (hσ : σ d = some (.dicti kvs)) (h : ∀ a, ¬ fp σ a → Q (.ref a) (put σ a (.obj { cls := .type "dict_values", data := .fields #[.ref d] }))) : CallV S n σ (.builtin "dict.values") [.ref d] Q := fun raws hr A s R G => by
  obtain ⟨u, rfl, hu⟩ := map1 hr
  cases of_nrm_ref hu
  obtain ⟨raw, hx, hm⟩ := G.dicti hσ
  have hn := get?_size s.heap
  have hk : ∀ b x, s.heap.get? b = some x → (s.heap.push { cls := .type "dict_values", data := .fields #[.ref d] }).get? b = some x := fun b x e => Heap.get?_push_of_some _ e
  refine call_meetsIn PySem.F.slot_dict_values hx.typeIs PySem.F.entry_dict_values (PySem.F.args_dict_values_1 _) (meets_dict_values (intKind S.prog S.w) d (notSys G hσ)) ⟨⟨raw, hx⟩, ?_⟩
  exact ⟨_, G.new1 obj_noInst hn G.size_ne hk (Heap.get?_push_size _ rfl), Step.new1 obj_noInst hn hk rfl rfl, h _ (G.free hn)⟩
theorem CallV.listValues {d r : Addr} {kvs : List (Int × Value)} (hσ : σ d = some (.dicti kvs)) (hr : σ r = some (.obj { cls := .type "dict_values", data := .fields #[.ref d] })) (hl : kvs.length ≤ 90000)
    (h : ∀ a, ¬ fp σ a → Q (.ref a) (put σ a (.list (kvs.map (·.2))))) : CallV S n σ (.type "list") [.ref r] Q := fun raws hra A s R G => by
  obtain ⟨u, rfl, hu⟩ := map1 hra
  cases of_nrm_ref hu
  obtain ⟨raw, hx, hm⟩ := G.dicti hσ
  have hv : s.heap.get? r = some _ := G.rep _ _ hr
  obtain ⟨ep, hat⟩ := hx.dictAt
  have hlen : raw.length = kvs.length := by rw [← hm, List.length_map]
  refine kdl_call (kdl_values (knd := intKind S.prog S.w) (kvs := raw) (ep := ep) (r := r) (d := d)) R.1 ⟨⟨_, hv, rfl, rfl⟩, hat⟩ (sz_le (by omega)) fun h' tk acc' c' hk hD hacc => ?_
  have hn := get?_size s.heap
  have e1 : acc'.toList = raw.map (·.2) := kdl_vals_eq acc'.toList (by rw [Array.length_toList]; exact hacc.1) fun j v e => hacc.2 j v (by rw [← Array.getElem?_toList]; exact e)
  refine ⟨_, G.new1 list_noInst hn G.size_ne hk ⟨acc', c', hD, ?_⟩, Step.new1 list_noInst hn hk rfl rfl, h _ (G.free hn)⟩
  rw [e1, ← hm, List.map_map, List.map_map]; rfl

/-! # a dict's keys, iterated -/
def KeyObj (S : Stat) (o : Obj) (raw : List (Int × Value)) (ep : Nat) : Prop := ∀ (h : Heap) (d : Addr), h.get? d = some o → h.DictAt (intKind S.prog S.w) d raw ep
theorem keyObj_of {h : Heap} {d : Addr} {raw : List (Int × Value)} {ep : Nat} (x : h.DictAt (intKind S.prog S.w) d raw ep) : ∃ o, h.get? d = some o ∧ KeyObj S o raw ep := by
  obtain ⟨o, es, ho, r⟩ := x
  exact ⟨o, ho, fun h' d' e => ⟨o, es, e, r⟩⟩
theorem iterKeys {o : Obj} {raw : List (Int × Value)} {ep : Nat} (K : KeyObj S o raw ep) (it d : Addr) (hne : d ≠ it) : IterOk S it (fun i h => h.IsKeyIter it d i raw.length ep) (fun i σ r => σ d = some (.obj o) ∧ r = (raw[i]?).map fun p => VI p.1) where
  next i σ A s r T hA G hat hf hx k := by
    obtain ⟨hd, rfl⟩ := hx
    have hD := K s.heap d (G.rep _ _ hd)
    cases e : raw[i]? with
    | some p =>
      rw [e] at k
      obtain ⟨kk, x⟩ := p
      refine wpAny_pyNext_dict_item hat hD e fun key h' hkey hit' hs' => ?_
      obtain ⟨t, rfl⟩ := Value.isInt_shape hkey
      exact k _ h' s.toks rfl hit' fun b o hb e => hs'.extBut b o hb e
    | none =>
      rw [e] at k
      exact wpAny_pyNext_dict_end hA hat hD e fun h' he' => k h' s.toks fun b o hb e => he' b o hb e
  keep i h h' x k := x.at k
  there i h x := by obtain ⟨o, ho, _⟩ := x; exact ⟨o, ho⟩
  self i A s T x q := wpAny_pyIter_keyiter x q
theorem PyIt.dicti {d : Addr} {kvs : List (Int × Value)} {K : (Nat → AH → Option Value → Prop) → AH → Prop} (hσ : σ d = some (.dicti kvs))
    (h : ∀ o, K (fun i σ r => σ d = some (.obj o) ∧ r = (kvs[i]?).map fun p => VI p.1) (put σ d (.obj o))) : PyIt S n σ (.ref d) K := fun u hu A s R G => by
  cases of_nrm_ref hu
  obtain ⟨raw, hx, hm⟩ := G.dicti hσ
  obtain ⟨ep, hat⟩ := hx.dictAt
  obtain ⟨o, ho, hK⟩ := keyObj_of hat
  refine wpAny_pyIter_dict (notSys G hσ) hat ?_
  have hn := get?_size s.heap
  have hk : ∀ b x, s.heap.get? b = some x → (s.heap.push { cls := .type "dict_keyiterator", data := .fields #[.ref d, .int 0 0, .int raw.length 0, .int ep 0] }).get? b = some x := fun b x e => Heap.get?_push_of_some _ e
  have hdn : d ≠ s.heap.objs.size := fun q => by rw [← q, ho] at hn; cases hn
  have hf : ∀ b, fp (put σ d (.obj o)) b → fp σ b := fun b hb => (fp_put obj_noInst hb).elim id fun q => q ▸ fp_self hσ
  refine ⟨_, _, _, put σ d (.obj o), rfl, iterKeys hK _ d hdn, ⟨_, Heap.get?_push_size _ rfl, rfl, rfl⟩, ?_, ?_, fun q => G.free hn (hf _ q), hn, ?_⟩
  · exact (G.set1 (h' := s.heap) hσ dicti_noInst obj_noInst ⟨rfl, fun _ _ => rfl⟩ ho).grow hk
  · exact ⟨fun b x _ e => hk b x e, fun b hb => .inl (hf b hb), rfl, rfl⟩
  · have e : (fun (i : Nat) (σ : AH) (r : Option Value) => σ d = some (.obj o) ∧ r = (raw[i]?).map fun p => VI p.1) = (fun i σ r => σ d = some (.obj o) ∧ r = (kvs[i]?).map fun p => VI p.1) := by
      funext i σ r
      rw [← hm, List.getElem?_map, Option.map_map]; rfl
    rw [e]; exact h o

/-! # zip -/
structure ZipIn (σ₀ σ : AH) (z l1 l2 TI TO i1 i2 : Addr) : Prop where
  apart : ZipApart z TI TO i1 i2 l1 l2
  sub : ∀ b o, σ₀ b = some o → σ b = some o
  oz : σ z = some (.obj { cls := .type "zip", dict := none, data := .fields #[.none, .bool false, .bool false, .ref TI, .ref TO], slots := #[] })
  oTI : σ TI = some (.obj { cls := .type "tuple", data := .seq #[.ref i1, .ref i2] })
  oTO : σ TO = some (.obj { cls := .type "tuple", data := .seq #[.none, .none] })
  o1 : ∃ o, σ i1 = some (.obj o) ∧ o.cls = .type "list_iterator" ∧ o.data = .fields #[.ref l1, .int 0 0]
  o2 : ∃ o, σ i2 = some (.obj o) ∧ o.cls = .type "list_iterator" ∧ o.data = .fields #[.ref l2, .int 0 0]
  free : ∀ b ∈ [z, TI, TO, i1, i2], ¬ fp σ₀ b
/-- several objects come to be owned -/
theorem Good.adopts {h : Heap} : ∀ (L : List (Addr × AObj)) {σ : AH}, Good S σ h → (∀ p ∈ L, (∀ C at_, p.2 ≠ .inst C at_) ∧ ¬ fp σ p.1 ∧ S.base.get? p.1 = none ∧ p.1 ≠ sysModules ∧ Rep S h p.1 p.2) → (L.map Prod.fst).Nodup →
    ∃ σ', Good S σ' h ∧ (∀ b o, σ b = some o → σ' b = some o) ∧ (∀ p ∈ L, σ' p.1 = some p.2) ∧ (∀ b, fp σ' b → fp σ b ∨ b ∈ L.map Prod.fst)
  | [], σ, G, _, _ => ⟨σ, G, fun _ _ e => e, fun _ h => (by cases h), fun _ h => .inl h⟩
  | p :: L, σ, G, hL, nd => by
    obtain ⟨a1, a2, a3, a4, a5⟩ := hL p (.head _)
    rw [List.map_cons, List.nodup_cons] at nd
    have G1 := G.adopt a1 a2 a3 a4 a5
    obtain ⟨σ', g, sub, own, fpm⟩ := Good.adopts L G1 (fun q hq => by
      obtain ⟨b1, b2, b3, b4, b5⟩ := hL q (.tail _ hq)
      refine ⟨b1, fun x => (fp_put a1 x).elim b2 fun e => nd.1 (e ▸ List.mem_map_of_mem hq), b3, b4, b5⟩) nd.2
    refine ⟨σ', g, fun b o e => sub b o (put_old a2 e), fun q hq => ?_, fun b hb => ?_⟩
    · rcases List.mem_cons.mp hq with rfl | hq
      · exact sub _ _ (put_self _ _ _)
      · exact own q hq
    · rcases fpm b hb with hb | hb
      · rcases fp_put a1 hb with hb | rfl
        · exact .inl hb
        · exact .inr (.head _)
      · exact .inr (.tail _ hb)
theorem Step.adopts {σ₀ σ' : AH} {s s' : Shared} {L : List Addr} (T : Step σ₀ s σ s') (h : ∀ b, fp σ' b → fp σ b ∨ b ∈ L) (hL : ∀ b ∈ L, s.heap.get? b = none ∨ fp σ₀ b) : Step σ₀ s σ' s' :=
  ⟨T.keep, fun b hb => (h b hb).elim (T.own b) fun q => (hL b q).symm, T.gens, T.os⟩
theorem CallV.zip {l1 l2 : Addr} {vs ws : List Value} (h1 : σ l1 = some (.list vs)) (h2 : σ l2 = some (.list ws)) (h : ∀ z TI TO i1 i2 σ', ZipIn σ σ' z l1 l2 TI TO i1 i2 → Q (.ref z) σ') : CallV S n σ (.type "zip") [.ref l1, .ref l2] Q := fun raws hra A s R G => by
  obtain ⟨u, v, rfl, hu, hv⟩ := map2 hra
  cases of_nrm_ref hu
  cases of_nrm_ref hv
  obtain ⟨xs, c, hx, hm⟩ := G.lst h1
  obtain ⟨ys, c2, hy, hm2⟩ := G.lst h2
  refine call_zip_2 (asList hx) (asList hy) fun h' hz hTI hTO hi1 hi2 hsz hk => ?_
  have a1 : l1 < s.heap.objs.size := Heap.lt_size hx
  have a2 : l2 < s.heap.objs.size := Heap.lt_size hy
  obtain ⟨o1, ho1, c1, d1⟩ := hi1
  obtain ⟨o2, ho2, c2', d2⟩ := hi2
  have hge : ∀ k, s.heap.get? (s.heap.objs.size + k) = none := fun k => by
    cases e : s.heap.get? (s.heap.objs.size + k) with
    | none => rfl
    | some o => exact absurd (Heap.lt_size e) (Nat.not_lt.mpr (Nat.le_add_right _ _))
  have ap := zipApart_new a1 a2
  have g3 : (3 : Nat) < s.heap.objs.size := by
    obtain ⟨o, _, _, e, _⟩ := S.g
    exact Heap.lt_size (G.keep _ _ e)
  have ns : ∀ k, s.heap.objs.size + k ≠ sysModules := fun k q => by
    have h3 : sysModules = 1 := rfl
    rw [h3] at q
    have : s.heap.objs.size + k = (1 : Nat) := q
    omega
  have bn : ∀ k, S.base.get? (s.heap.objs.size + k) = none := fun k => by
    cases e : S.base.get? (s.heap.objs.size + k) with
    | none => rfl
    | some o => have := G.keep _ _ e; rw [hge k] at this; cases this
  generalize hN : s.heap.objs.size = N at *
  have hge0 := hge 0
  have G0 : Good S σ h' := G.grow hk
  have f0 : ∀ k, ¬ fp σ (N + k) := fun k => G.free (hge k)
  have ne : ∀ i j : Nat, i ≠ j → N + i ≠ N + j := fun i j hij q => hij (Nat.add_left_cancel q)
  obtain ⟨σ', G', sub, own, fpm⟩ := Good.adopts [(N + 0, .obj o1), (N + 1, .obj o2), (N + 2, .obj { cls := .type "tuple", data := .seq #[.ref N, .ref (N + 1)] }), (N + 3, .obj { cls := .type "tuple", data := .seq #[.none, .none] }),
      (N + 4, .obj { cls := .type "zip", dict := none, data := .fields #[.none, .bool false, .bool false, .ref (N + 2), .ref (N + 3)], slots := #[] })] G0 (by
    intro p hp
    simp only [List.mem_cons, List.not_mem_nil, or_false] at hp
    rcases hp with rfl | rfl | rfl | rfl | rfl
    · exact ⟨obj_noInst, f0 0, bn 0, ns 0, ho1⟩
    · exact ⟨obj_noInst, f0 1, bn 1, ns 1, ho2⟩
    · exact ⟨obj_noInst, f0 2, bn 2, ns 2, hTI⟩
    · exact ⟨obj_noInst, f0 3, bn 3, ns 3, hTO⟩
    · exact ⟨obj_noInst, f0 4, bn 4, ns 4, hz⟩) (by
    simp only [List.map_cons, List.map_nil, List.nodup_cons, List.mem_cons, List.not_mem_nil, or_false, not_or, not_false_eq_true, List.nodup_nil, and_true]
    exact ⟨⟨ne _ _ (by decide), ne _ _ (by decide), ne _ _ (by decide), ne _ _ (by decide)⟩, ⟨ne _ _ (by decide), ne _ _ (by decide), ne _ _ (by decide)⟩, ⟨ne _ _ (by decide), ne _ _ (by decide)⟩, ne _ _ (by decide)⟩)
  refine ⟨σ', G', Step.adopts (.same hk) fpm (fun b hb => ?_), h (N + 4) (N + 2) (N + 3) N (N + 1) σ' ⟨ap, sub, own _ (.tail _ (.tail _ (.tail _ (.tail _ (.head _))))), own _ (.tail _ (.tail _ (.head _))), own _ (.tail _ (.tail _ (.tail _ (.head _)))), ⟨o1, own _ (.head _), c1, d1⟩, ⟨o2, own _ (.tail _ (.head _)), c2', d2⟩, ?_⟩⟩
  · simp only [List.map_cons, List.map_nil, List.mem_cons, List.not_mem_nil, or_false] at hb
    rcases hb with rfl | rfl | rfl | rfl | rfl
    · exact .inl (hge 0)
    · exact .inl (hge 1)
    · exact .inl (hge 2)
    · exact .inl (hge 3)
    · exact .inl (hge 4)
  · intro b hb
    simp only [List.mem_cons, List.not_mem_nil, or_false] at hb
    rcases hb with rfl | rfl | rfl | rfl | rfl
    · exact f0 4
    · exact f0 2
    · exact f0 3
    · exact f0 0
    · exact f0 1

/-! ## what comes when the tuple handed out last is held -/
abbrev IsZipF (h : Heap) (z TI TO : Addr) (f0 : Value) (f : Bool) : Prop :=
  h.get? z = some { cls := .type "zip", dict := none, data := .fields #[f0, .bool f, .bool false, .ref TI, .ref TO], slots := #[] }
theorem zq_next {A : Around} {E : Value → Shared → Prop} {s : Shared} {prog : Program} {w : World} {z TI TO i1 i2 l1 l2 T : Addr} {oT : Obj} {f : Bool} {k1 k2 : Nat} {xs ys : Array Value} {x y : Value} {Q : Option Value → Shared → Prop} (D : ZipApart z TI TO i1 i2 l1 l2)
    (hz : IsZipF s.heap z TI TO (rawInt T) f) (hT : s.heap.get? T = some oT) (hTI : IsPair s.heap TI (.ref i1) (.ref i2))
    (h1 : s.heap.IsListIter i1 l1 k1) (h2 : s.heap.IsListIter i2 l2 k2) (hl1 : s.heap.IsList l1 xs) (hl2 : s.heap.IsList l2 ys) (hx : xs[k1]? = some x) (hy : ys[k2]? = some y)
    (hQ : ∀ h', IsZipF h' z TI TO (rawInt T) true → h'.IsListIter i1 l1 (k1 + 1) → h'.IsListIter i2 l2 (k2 + 1) → IsPair h' s.heap.objs.size x y → h'.objs.size = s.heap.objs.size + 1 →
      (∀ c o, c ≠ z → c ≠ i1 → c ≠ i2 → s.heap.get? c = some o → h'.get? c = some o) → Q (some (.ref s.heap.objs.size)) { s with heap := h' }) :
    wpAny (model prog w) A (pyNext (.ref z)) Q E s := by
  obtain ⟨hp, g, dr, tk, os⟩ := s
  have hTy : Shared.TypeIs ⟨hp, g, dr, tk, os⟩ (.ref z) "zip" := ⟨_, hz, rfl⟩
  unfold pyNext
  refine wpAny_bind (wpAny_attempt (wpAny_callSpecial?_slot (name := Str.ofString "__next__") hTy PySem.F.slot_zip_next
    (wpAny_call_entry PySem.F.slot_zip_next hTy PySem.F.entry_zip_next ?_ (PySem.F.args_zip_next_1 _))))
  show wpAny _ _ (field (.ref z) 2 >>= _) _ _ _
  refine wpAny_bind (wpAny_field hz rfl (x := .bool false) rfl ?_)
  show wpAny _ _ (field (.ref z) 3 >>= _) _ _ _
  refine wpAny_bind (wpAny_field hz rfl (x := .ref TI) rfl ?_)
  refine wpAny_bind (wpAny_seqItems hTI rfl ?_)
  show wpAny _ _ (Builtin.SmallTypes.ownedTupleIsFree (.ref z) >>= _) _ _ _
  refine wpAny_bind ?_
  unfold Builtin.SmallTypes.ownedTupleIsFree
  refine wpAny_bind (wpAny_field hz rfl (x := rawInt T) rfl ?_)
  show wpAny _ _ (loadIfAlive ((T : Int).toNat) >>= _) _ _ _
  rw [Int.toNat_natCast]
  refine wpAny_bind (kdx_alive hT ?_)
  simp only [Option.isNone_some, Bool.false_eq_true, if_false]
  refine wpAny_bind (wpAny_field hz rfl (x := .bool f) rfl ?_)
  have fin : ∀ h₁ h₂ h₄ : Heap, IsZipF h₁ z TI TO (rawInt T) true → Heap.SameBut z hp h₁ → h₂.IsListIter i1 l1 (k1 + 1) → Heap.SameBut i1 h₁ h₂ → h₄.IsListIter i2 l2 (k2 + 1) → Heap.SameBut i2 h₂ h₄ →
      wpAny (model prog w) A.in1 (do let r ← newTuple [x, y]; ret r) (fun fin s' => ∃ v, fin = Fin.done (Flow.ret v) ∧ wpAny (model prog w) A (pure (some v)) Q E s')
      (fun e s' => wpAny (model prog w) A (do let c ← isInstance e (Value.type "StopIteration"); if c = true then pure none else throw e) Q E s') ⟨h₄, g, dr, tk, os⟩ := by
    intro h₁ h₂ h₄ hz₁ hs₁ h1₂ hs₂ h2₄ hs₄
    refine wpAny_bind (wpAny_newTuple (wpAny_pure ⟨_, rfl, wpAny_pure ?_⟩))
    have hsz : h₄.objs.size = hp.objs.size := by rw [hs₄.1, hs₂.1, hs₁.1]
    have up : ∀ c o, h₄.get? c = some o → (h₄.push { cls := .type "tuple", data := .seq #[x, y] }).get? c = some o := fun c o e => Heap.get?_push_of_some _ e
    show Q (some (.ref h₄.objs.size)) _
    rw [hsz]
    refine hQ _ (up _ _ (hs₄.extBut _ _ D.i2z.symm (hs₂.extBut _ _ D.i1z.symm hz₁))) ((h1₂.extBut hs₄.extBut D.i12).at (up _)) (h2₄.at (up _)) ?_ ?_ ?_
    · show (h₄.push _).get? hp.objs.size = _
      rw [← hsz]; exact Heap.get?_push_size _ rfl
    · show (h₄.push _).objs.size = hp.objs.size + 1
      rw [Heap.size_push, hsz]
    · exact fun c o c1 c2 c3 e => up _ _ (hs₄.extBut _ _ c3 (hs₂.extBut _ _ c2 (hs₁.extBut _ _ c1 e)))
  cases f with
  | true =>
    rw [if_neg (show ¬ ((Value.bool true != Value.bool true) = true) from Bool.false_ne_true)]
    refine wpAny_pure ?_
    simp only [Bool.false_eq_true, if_false, List.forIn_toArray, List.forIn_cons, List.forIn_nil]
    have hs₁ : Heap.SameBut z hp hp := Heap.SameBut.refl _ _
    refine wpAny_bind ?_
    refine wpAny_bind (wpAny_bind (wpAny_holding ?_))
    show wpAny _ _ (Builtin.SmallTypes.nextOf (.ref i1) >>= _) _ _ _
    refine wpAny_bind (wpAny_nextOf_list_item (h1.extBut hs₁.extBut D.i1z) (hl1.extBut hs₁.extBut D.l1z) hx fun h₂ h1₂ hs₂ => wpAny_pure ?_)
    refine wpAny_pure ?_
    refine wpAny_bind (wpAny_bind (wpAny_holding ?_))
    show wpAny _ _ (Builtin.SmallTypes.nextOf (.ref i2) >>= _) _ _ _
    refine wpAny_bind (wpAny_nextOf_list_item ((h2.extBut hs₁.extBut D.i2z).extBut hs₂.extBut D.i12.symm) ((hl2.extBut hs₁.extBut D.l2z).extBut hs₂.extBut D.l2i1) hy fun h₄ h2₄ hs₄ => wpAny_pure ?_)
    exact wpAny_pure (wpAny_pure (fin _ _ _ hz hs₁ h1₂ hs₂ h2₄ hs₄))
  | false =>
    rw [if_pos (show (Value.bool false != Value.bool true) = true from rfl)]
    refine wpAny_bind (wpAny_setField_rec hz (by simp) fun h₁ hz₁ hs₁ => ?_)
    replace hz₁ : IsZipF h₁ z TI TO (rawInt T) true := hz₁
    replace hs₁ : Heap.SameBut z hp h₁ := hs₁
    refine wpAny_pure ?_
    simp only [Bool.false_eq_true, if_false, List.forIn_toArray, List.forIn_cons, List.forIn_nil]
    refine wpAny_bind ?_
    refine wpAny_bind (wpAny_bind (wpAny_holding ?_))
    show wpAny _ _ (Builtin.SmallTypes.nextOf (.ref i1) >>= _) _ _ _
    refine wpAny_bind (wpAny_nextOf_list_item (h1.extBut hs₁.extBut D.i1z) (hl1.extBut hs₁.extBut D.l1z) hx fun h₂ h1₂ hs₂ => wpAny_pure ?_)
    refine wpAny_pure ?_
    refine wpAny_bind (wpAny_bind (wpAny_holding ?_))
    show wpAny _ _ (Builtin.SmallTypes.nextOf (.ref i2) >>= _) _ _ _
    refine wpAny_bind (wpAny_nextOf_list_item ((h2.extBut hs₁.extBut D.i2z).extBut hs₂.extBut D.i12.symm) ((hl2.extBut hs₁.extBut D.l2z).extBut hs₂.extBut D.l2i1) hy fun h₄ h2₄ hs₄ => wpAny_pure ?_)
    exact wpAny_pure (wpAny_pure (fin _ _ _ hz₁ hs₁ h1₂ hs₂ h2₄ hs₄))
theorem zq_end {A : Around} {E : Value → Shared → Prop} {s : Shared} {prog : Program} {w : World} {z TI TO i1 i2 l1 l2 T : Addr} {oT : Obj} {f : Bool} {k1 k2 : Nat} {xs ys : Array Value} {Q : Option Value → Shared → Prop} (hh : A.handled = none) (D : ZipApart z TI TO i1 i2 l1 l2)
    (hz : IsZipF s.heap z TI TO (rawInt T) f) (hT : s.heap.get? T = some oT) (hTI : IsPair s.heap TI (.ref i1) (.ref i2))
    (h1 : s.heap.IsListIter i1 l1 k1) (h2 : s.heap.IsListIter i2 l2 k2) (hl1 : s.heap.IsList l1 xs) (hl2 : s.heap.IsList l2 ys) (hx : xs[k1]? = none)
    (hQ : ∀ h', (∀ c o, c ≠ z → c ≠ i1 → c ≠ i2 → s.heap.get? c = some o → h'.get? c = some o) → Q none { s with heap := h' }) :
    wpAny (model prog w) A (pyNext (.ref z)) Q E s := by
  obtain ⟨hp, g, dr, tk, os⟩ := s
  have hTy : Shared.TypeIs ⟨hp, g, dr, tk, os⟩ (.ref z) "zip" := ⟨_, hz, rfl⟩
  unfold pyNext
  refine wpAny_bind (wpAny_attempt (wpAny_callSpecial?_slot (name := Str.ofString "__next__") hTy PySem.F.slot_zip_next
    (wpAny_call_entry PySem.F.slot_zip_next hTy PySem.F.entry_zip_next ?_ (PySem.F.args_zip_next_1 _))))
  show wpAny _ _ (field (.ref z) 2 >>= _) _ _ _
  refine wpAny_bind (wpAny_field hz rfl (x := .bool false) rfl ?_)
  show wpAny _ _ (field (.ref z) 3 >>= _) _ _ _
  refine wpAny_bind (wpAny_field hz rfl (x := .ref TI) rfl ?_)
  refine wpAny_bind (wpAny_seqItems hTI rfl ?_)
  show wpAny _ _ (Builtin.SmallTypes.ownedTupleIsFree (.ref z) >>= _) _ _ _
  refine wpAny_bind ?_
  unfold Builtin.SmallTypes.ownedTupleIsFree
  refine wpAny_bind (wpAny_field hz rfl (x := rawInt T) rfl ?_)
  show wpAny _ _ (loadIfAlive ((T : Int).toNat) >>= _) _ _ _
  rw [Int.toNat_natCast]
  refine wpAny_bind (kdx_alive hT ?_)
  simp only [Option.isNone_some, Bool.false_eq_true, if_false]
  refine wpAny_bind (wpAny_field hz rfl (x := .bool f) rfl ?_)
  cases f with
  | true =>
    rw [if_neg (show ¬ ((Value.bool true != Value.bool true) = true) from Bool.false_ne_true)]
    refine wpAny_pure ?_
    simp only [Bool.false_eq_true, if_false, List.forIn_toArray, List.forIn_cons, List.forIn_nil]
    refine wpAny_bind ?_
    refine wpAny_bind (wpAny_bind (wpAny_holding ?_))
    show wpAny _ _ (Builtin.SmallTypes.nextOf (.ref i1) >>= _) _ _ _
    refine wpAny_bind (wpAny_nextOf_list_end hh h1 hl1 hx fun h₂ e hs₂ he => ?_)
    obtain ⟨oe, hoe, hce⟩ := he
    refine wpAny_bind (wpAny_isInstance (T := "StopIteration") (b := true) ⟨oe, hoe, hce⟩ isSubtype_stop ?_)
    exact wpAny_pure (hQ _ fun c o c1 c2 c3 e => hs₂ _ _ c2 e)
  | false =>
    rw [if_pos (show (Value.bool false != Value.bool true) = true from rfl)]
    refine wpAny_bind (wpAny_setField_rec hz (by simp) fun h₁ hz₁ hs₁ => ?_)
    replace hs₁ : Heap.SameBut z hp h₁ := hs₁
    refine wpAny_pure ?_
    simp only [Bool.false_eq_true, if_false, List.forIn_toArray, List.forIn_cons, List.forIn_nil]
    refine wpAny_bind ?_
    refine wpAny_bind (wpAny_bind (wpAny_holding ?_))
    show wpAny _ _ (Builtin.SmallTypes.nextOf (.ref i1) >>= _) _ _ _
    refine wpAny_bind (wpAny_nextOf_list_end hh (h1.extBut hs₁.extBut D.i1z) (hl1.extBut hs₁.extBut D.l1z) hx fun h₂ e hs₂ he => ?_)
    obtain ⟨oe, hoe, hce⟩ := he
    refine wpAny_bind (wpAny_isInstance (T := "StopIteration") (b := true) ⟨oe, hoe, hce⟩ isSubtype_stop ?_)
    exact wpAny_pure (hQ _ fun c o c1 c2 c3 e => hs₂ _ _ c2 (hs₁.extBut _ _ c1 e))

structure ZqSt (h : Heap) (z TI TO i1 i2 l1 l2 lo : Addr) (xs ys : Array Value) (i : Nat) : Prop where
  gTI : IsPair h TI (.ref i1) (.ref i2)
  g1 : h.IsListIter i1 l1 i
  g2 : h.IsListIter i2 l2 i
  gl1 : h.IsList l1 xs
  gl2 : h.IsList l2 ys
  st : (IsZip h z TI TO .none ∧ ∃ a b, IsPair h TO a b) ∨ ∃ (T : Addr) (f : Bool) (oT : Obj), IsZipF h z TI TO (rawInt T) f ∧ h.get? T = some oT ∧ lo ≤ T
structure ZqG (h : Heap) (lo : Addr) (xs ys : Array Value) (as : List Addr) : Prop where
  rise : as.Pairwise (· < ·)
  low : ∀ a ∈ as, lo ≤ a
  pairs : ∀ (j : Nat) (a : Addr), as[j]? = some a → ∃ x y, xs[j]? = some x ∧ ys[j]? = some y ∧ IsPair h a x y
theorem ZqG.mono {h h' : Heap} {lo : Addr} {xs ys : Array Value} {as : List Addr} (g : ZqG h lo xs ys as) (hk : ∀ b o, lo ≤ b → h.get? b = some o → h'.get? b = some o) : ZqG h' lo xs ys as :=
  ⟨g.rise, g.low, fun j a e => by obtain ⟨x, y, e1, e2, e3⟩ := g.pairs j a e; exact ⟨x, y, e1, e2, hk _ _ (g.low a (List.mem_of_getElem? e)) e3⟩⟩
structure ZqLow (L z TI TO i1 i2 l1 l2 lo : Addr) : Prop where
  kL : L < lo
  kz : z < lo
  kTI : TI < lo
  kTO : TO < lo
  k1 : i1 < lo
  k2 : i2 < lo
  Lz : L ≠ z
  LTI : L ≠ TI
  LTO : L ≠ TO
  Li1 : L ≠ i1
  Li2 : L ≠ i2
  Ll1 : L ≠ l1
  Ll2 : L ≠ l2
theorem zq_loop {A : Around} {s : Shared} {prog : Program} {w : World} {L z TI TO i1 i2 l1 l2 lo : Addr} {xs ys : Array Value} {h₁ : Heap} {R : Result → Shared → Prop} (hh : A.handled = none) (D : ZipApart z TI TO i1 i2 l1 l2) (B : ZqLow L z TI TO i1 i2 l1 l2 lo) (hxy : xs.size = ys.size) (hn : xs.size ≤ 1000) (res : Value)
    (hR : ∀ h' tk acc c as, (∀ b o, b ≠ L → b ≠ z → b ≠ TO → b ≠ i1 → b ≠ i2 → h₁.get? b = some o → h'.get? b = some o) → h'.get? L = some (listOf acc c) → as.length = xs.size → ZqG h' lo xs ys as → acc.toList = as.map Value.ref → R (.ok (.ret res)) { s with heap := h', toks := tk }) :
    ∀ (k i : Nat) (h : Heap) (tk c : Nat) (acc : Array Value) (as : List Addr), xs.size - i = k → i ≤ xs.size → ZqSt h z TI TO i1 i2 l1 l2 lo xs ys i → (∀ b o, b ≠ L → b ≠ z → b ≠ TO → b ≠ i1 → b ≠ i2 → h₁.get? b = some o → h.get? b = some o) →
      h.get? L = some (listOf acc c) → acc.toList = as.map Value.ref → as.length = i → ZqG h lo xs ys as → lo ≤ h.objs.size →
      codeAny (model prog w) A (.builtin "list.extend.loop" ⟨[.ref L, .ref z, res], []⟩) R { s with heap := h, toks := tk } := by
  have nle : ∀ {a b : Addr}, a < lo → lo ≤ b → b ≠ a := fun h1 h2 q => Nat.lt_irrefl _ (Nat.lt_of_lt_of_le (q ▸ h1) h2)
  intro k
  induction k with
  | zero =>
    intro i h tk c acc as hk hi hst hkeep hL hacc hal hG hlo
    have hin : i = xs.size := by omega
    have hx : xs[i]? = none := Array.getElem?_eq_none (by omega)
    refine codeAny_builtin PySem.F.entry_extend_loop ?_
    rw [Around.under_plainId PySem.F.plain_extend_loop _]
    show wpAny _ A.in1 (pyNext (.ref z) >>= _) _ _ _
    have fin : ∀ h' : Heap, (∀ c o, c ≠ z → c ≠ TO → c ≠ i1 → c ≠ i2 → h.get? c = some o → h'.get? c = some o) → R (.ok (.ret res)) { s with heap := h', toks := tk } := fun h' he =>
      hR h' tk acc c as (fun b o b1 b2 b3 b4 b5 e => he b o b2 b3 b4 b5 (hkeep b o b1 b2 b3 b4 b5 e)) (he _ _ B.Lz B.LTO B.Li1 B.Li2 hL) (by omega)
        (hG.mono fun b o hb e => he b o (nle B.kz hb) (nle B.kTO hb) (nle B.k1 hb) (nle B.k2 hb) e) hacc
    rcases hst.st with ⟨hz, a, b, hTO⟩ | ⟨T, f, oT, hz, hT, hTl⟩
    · refine wpAny_bind (wpAny_pyNext_zip_end (s := { s with heap := h, toks := tk }) (A := A.in1) hh D hz hst.gTI hTO hst.g1 hst.g2 hst.gl1 hst.gl2 (.inl hx) fun h' he => ?_)
      exact wpAny_pure (fin h' he)
    · refine wpAny_bind (zq_end (s := { s with heap := h, toks := tk }) (A := A.in1) hh D hz hT hst.gTI hst.g1 hst.g2 hst.gl1 hst.gl2 hx fun h' he => ?_)
      exact wpAny_pure (fin h' fun c o c1 _ c3 c4 e => he c o c1 c3 c4 e)
  | succ k ih =>
    intro i h tk c acc as hk hi hst hkeep hL hacc hal hG hlo
    have hlt : i < xs.size := by omega
    obtain ⟨x, hx⟩ : ∃ x, xs[i]? = some x := ⟨xs[i], Array.getElem?_eq_getElem hlt⟩
    obtain ⟨y, hy⟩ : ∃ y, ys[i]? = some y := ⟨ys[i]'(by omega), Array.getElem?_eq_getElem (by omega)⟩
    have hsz : acc.size = i := by rw [← Array.length_toList, hacc, List.length_map, hal]
    refine codeAny_builtin PySem.F.entry_extend_loop ?_
    rw [Around.under_plainId PySem.F.plain_extend_loop _]
    show wpAny _ A.in1 (pyNext (.ref z) >>= _) _ _ _
    have fin : ∀ h' : Heap, ((IsZip h' z TI TO (rawInt h.objs.size) ∧ IsPair h' TO x y) ∨ ∃ (T : Addr) (f : Bool) (oT : Obj), IsZipF h' z TI TO (rawInt T) f ∧ h.get? T = some oT ∧ lo ≤ T) → h'.IsListIter i1 l1 (i + 1) → h'.IsListIter i2 l2 (i + 1) → IsPair h' h.objs.size x y → h'.objs.size = h.objs.size + 1 →
        (∀ c o, c ≠ z → c ≠ TO → c ≠ i1 → c ≠ i2 → h.get? c = some o → h'.get? c = some o) →
        wpAny (model prog w) A.in1 (do Builtin.List.listUpdate (.ref L) (·.push (.ref h.objs.size)); again (.builtin "list.extend.loop" ⟨[.ref L, .ref z, res], []⟩))
          (fun fin s' => match fin with | .done f => R (.ok f) s' | .again c' => c'.quiet = true ∧ codeAny (model prog w) A c' R s') (fun e s' => R (.error e) s') { s with heap := h', toks := tk } := by
      intro h' hzz hi1 hi2 ht hz' hkp
      have hL' := hkp _ _ B.Lz B.LTO B.Li1 B.Li2 hL
      have up : ∀ b o, b ≠ L → h'.get? b = some o → (h'.update L (Obj.mapSeq (·.push (Value.ref h.objs.size)))).get? b = some o := fun b o hb e => (Heap.get?_update_other _ _ (Ne.symm hb)).trans e
      have hLN : h.objs.size ≠ L := nle B.kL hlo
      have l1n : h.get? l1 = some _ := hst.gl1.choose_spec.1
      show wpAny _ A.in1 (updateSeq L (·.push (Value.ref h.objs.size)) >>= _) _ _ _
      refine wpAny_bind ?_
      refine wpAny_updateSeq hL' rfl (wpAny_pure ⟨plainId_quiet PySem.F.plain_extend_loop _, ih (i + 1) _ tk _ (acc.push (Value.ref h.objs.size)) (as ++ [h.objs.size]) (by omega) hlt ⟨up _ _ (Ne.symm B.LTI) (hkp _ _ D.TIz D.TITO D.TIi1 D.TIi2 hst.gTI), hi1.at (up _ · (Ne.symm B.Li1)), hi2.at (up _ · (Ne.symm B.Li2)),
        hst.gl1.at fun o e => up _ o (Ne.symm B.Ll1) (hkp _ o D.l1z D.l1TO D.l1i1 D.l1i2 e), hst.gl2.at fun o e => up _ o (Ne.symm B.Ll2) (hkp _ o D.l2z D.l2TO D.l2i1 D.l2i2 e), ?_⟩
        (fun b o b1 b2 b3 b4 b5 e => up b o b1 (hkp b o b2 b3 b4 b5 (hkeep b o b1 b2 b3 b4 b5 e))) (Heap.get?_update_self _ hL' rfl) (by rw [Array.toList_push, hacc, List.map_append]; rfl) (by rw [List.length_append, hal]; rfl) ⟨?_, ?_, ?_⟩ ?_⟩) (by rw [hsz]; exact sz_le (by omega)) (by show (acc.push (Value.ref h.objs.size)).size ≤ sizeLine + 1; rw [Array.size_push, hsz]; exact Nat.succ_le_succ (sz_le (by omega)))
      · rcases hzz with ⟨a, b⟩ | ⟨T, f, oT, a, b, cc⟩
        · exact .inr ⟨h.objs.size, false, _, up _ _ (Ne.symm B.Lz) a, up _ _ hLN ht, hlo⟩
        · exact .inr ⟨T, f, oT, up _ _ (Ne.symm B.Lz) a, up _ _ (nle B.kL cc) (hkp _ _ (nle B.kz cc) (nle B.kTO cc) (nle B.k1 cc) (nle B.k2 cc) b), cc⟩
      · refine List.pairwise_append.mpr ⟨hG.rise, List.pairwise_singleton _ _, fun a ha b hb => ?_⟩
        rw [List.mem_singleton.mp hb]
        obtain ⟨j, hj⟩ := List.mem_iff_getElem?.mp ha
        obtain ⟨_, _, _, _, e⟩ := hG.pairs j a hj
        exact Heap.lt_size e
      · intro a ha
        rcases List.mem_append.mp ha with ha | ha
        · exact hG.low a ha
        · rw [List.mem_singleton.mp ha]; exact hlo
      · intro j b hj
        rcases Nat.lt_trichotomy j as.length with h1 | h1 | h1
        · rw [List.getElem?_append_left h1] at hj
          obtain ⟨x', y', e1, e2, e3⟩ := hG.pairs j b hj
          have hb := hG.low b (List.mem_of_getElem? hj)
          exact ⟨x', y', e1, e2, up b _ (nle B.kL hb) (hkp b _ (nle B.kz hb) (nle B.kTO hb) (nle B.k1 hb) (nle B.k2 hb) e3)⟩
        · subst h1
          have hb : h.objs.size = b := by simpa using hj
          subst hb
          exact ⟨x, y, by rw [hal]; exact hx, by rw [hal]; exact hy, up _ _ hLN ht⟩
        · have hnone : (as ++ [h.objs.size])[j]? = none := List.getElem?_eq_none (by rw [List.length_append, List.length_singleton]; omega)
          rw [hnone] at hj; cases hj
      · have e : (h'.update L (Obj.mapSeq (·.push (Value.ref h.objs.size)))).get? h.objs.size = _ := up _ _ hLN ht
        exact Nat.le_of_lt (Nat.lt_of_le_of_lt hlo (Heap.lt_size e))
    rcases hst.st with ⟨hz, a, b, hTO⟩ | ⟨T, f, oT, hz, hT, hTl⟩
    · refine wpAny_bind (wpAny_pyNext_zip_item (s := { s with heap := h, toks := tk }) D hz hst.gTI hTO hst.g1 hst.g2 hst.gl1 hst.gl2 hx hy fun h' a1 a2 a3 a4 a5 a6 hkp => ?_)
      exact fin h' (.inl ⟨a1, a2⟩) a3 a4 a5 a6 hkp
    · refine wpAny_bind (zq_next (s := { s with heap := h, toks := tk }) D hz hT hst.gTI hst.g1 hst.g2 hst.gl1 hst.gl2 hx hy fun h' a1 a3 a4 a5 a6 hkp => ?_)
      exact fin h' (.inr ⟨T, true, oT, a1, hT, hTl⟩) a3 a4 a5 a6 fun c o c1 _ c3 c4 e => hkp c o c1 c3 c4 e

theorem zip_no_len : typeLookup (.type "zip") "__len__" = pure none := by rw [typeLookup_type, builtinLookup_eq_fast]; kernel_rfl
theorem zip_no_hint : typeLookup (.type "zip") "__length_hint__" = pure none := by rw [typeLookup_type, builtinLookup_eq_fast]; kernel_rfl
theorem ZqSt.mono {h h' : Heap} {z TI TO i1 i2 l1 l2 lo : Addr} {xs ys : Array Value} (g : ZqSt h z TI TO i1 i2 l1 l2 lo xs ys 0) (hz : IsZip h z TI TO .none ∧ ∃ a b, IsPair h TO a b) (hk : ∀ b o, b = z ∨ b = TI ∨ b = TO ∨ b = i1 ∨ b = i2 ∨ b = l1 ∨ b = l2 → h.get? b = some o → h'.get? b = some o) : ZqSt h' z TI TO i1 i2 l1 l2 lo xs ys 0 :=
  ⟨hk _ _ (by simp) g.gTI, g.g1.at (hk _ · (by simp)), g.g2.at (hk _ · (by simp)), g.gl1.at (hk _ · (by simp)), g.gl2.at (hk _ · (by simp)), .inl ⟨hk _ _ (by simp) hz.1, by obtain ⟨a, b, e⟩ := hz.2; exact ⟨a, b, hk _ _ (by simp) e⟩⟩⟩
theorem zq_init {A : Around} {s : Shared} {prog : Program} {w : World} {L z TI TO i1 i2 l1 l2 : Addr} {xs ys : Array Value} {R : Result → Shared → Prop} (hh : A.handled = none) (D : ZipApart z TI TO i1 i2 l1 l2) (B : ZqLow L z TI TO i1 i2 l1 l2 s.heap.objs.size) (hxy : xs.size = ys.size) (hn : xs.size ≤ 1000)
    (hst : ZqSt s.heap z TI TO i1 i2 l1 l2 s.heap.objs.size xs ys 0) (hz : IsZip s.heap z TI TO .none ∧ ∃ a b, IsPair s.heap TO a b) (hS : s.heap.get? L = some { cls := .type "list", data := .seq #[] })
    (hR : ∀ h' tk acc c as, (∀ b o, b ≠ L → b ≠ z → b ≠ TO → b ≠ i1 → b ≠ i2 → s.heap.get? b = some o → h'.get? b = some o) → h'.get? L = some (listOf acc c) → as.length = xs.size → ZqG h' s.heap.objs.size xs ys as → acc.toList = as.map Value.ref → R (.ok (.ret .none)) { s with heap := h', toks := tk }) :
    wpAny (model prog w) A.in1 (Builtin.«list.__init__» ⟨[.ref L, .ref z], []⟩)
      (fun fin s' => match fin with | .done f => R (.ok f) s' | .again c' => c'.quiet = true ∧ codeAny (model prog w) A c' R s') (fun e s' => R (.error e) s') s := by
  show wpAny _ _ (do let old ← Builtin.List.listItems (.ref L); Builtin.List.listUpdate (.ref L) (fun _ => #[]); letGo old.toList.reverse; Builtin.List.listExtendWith (.ref L) (.ref z) .none) _ _ s
  refine wpAny_bind ?_
  unfold Builtin.List.listItems
  refine wpAny_bind (wpAny_seqItems hS rfl (wpAny_pure ?_))
  show wpAny _ _ (updateSeq L (fun _ => #[]) >>= fun _ => letGo (#[] : Array Value).toList.reverse >>= fun _ => Builtin.List.listExtendWith (.ref L) (.ref z) .none) _ _ s
  refine wpAny_bind (wpAny_updateSeq hS rfl ?_)
  have hS₂ := Heap.get?_update_self (Obj.mapSeq (fun _ => (#[] : Array Value))) hS rfl
  refine wpAny_bind (wpAny_letGo ?_)
  have o1 : ∀ b o, b ≠ L → s.heap.get? b = some o → (s.heap.update L (Obj.mapSeq (fun _ => (#[] : Array Value)))).get? b = some o := fun b o hb e => (Heap.get?_update_other _ _ (Ne.symm hb)).trans e
  have hz1 : IsZip (s.heap.update L (Obj.mapSeq (fun _ => (#[] : Array Value)))) z TI TO .none := o1 _ _ (Ne.symm B.Lz) hz.1
  unfold Builtin.List.listExtendWith
  refine wpAny_bind (wpAny_typeOf (T := "zip") ⟨_, hz1, rfl⟩ ?_)
  have h1 : Builtin.List.listSameRef (.ref L) (.ref z) = false := by simp [Builtin.List.listSameRef, B.Lz]
  have h2 : (Value.type "zip" == Value.type "list") = false := by decide
  have h3 : (Value.type "zip" == Value.type "tuple") = false := by decide
  simp only [h1, h2, h3, Bool.or_false, Bool.false_eq_true, if_false]
  refine wpAny_bind (wpAny_pyIter_zip hz1 ?_)
  refine wpAny_bind (wpAny_holding ?_)
  unfold Builtin.List.listLengthHint
  refine wpAny_bind (wpAny_specialOf (T := "zip") ⟨_, hz1, rfl⟩ zip_no_len ?_)
  show wpAny _ A.in1 (specialOf (Value.ref z) (Str.ofString "__length_hint__") >>= _) _ _ _
  refine wpAny_bind (wpAny_specialOf (T := "zip") ⟨_, hz1, rfl⟩ zip_no_hint ?_)
  refine wpAny_pure ?_
  show wpAny _ A.in1 (rule "list.extend.makes-room" >>= fun _ => Builtin.List.listTouch (.ref L) >>= fun _ =>
    again (.builtin "list.extend.loop" ⟨[.ref L, .ref z, .none], []⟩)) _ _ _
  refine wpAny_bind (wpAny_rule ?_)
  refine wpAny_bind ?_
  show wpAny _ A.in1 (updateSeq L (·.push .none) >>= fun _ => updateSeq L (·.pop)) _ _ _
  refine wpAny_bind (wpAny_updateSeq hS₂ rfl ?_)
  have hS₃ := Heap.get?_update_self (Obj.mapSeq (·.push Value.none)) hS₂ rfl
  refine wpAny_updateSeq (hz := by seq_fits) hS₃ rfl ?_
  have hS₄ := Heap.get?_update_self (Obj.mapSeq (·.pop)) hS₃ rfl
  have oth : ∀ b o, b ≠ L → s.heap.get? b = some o → (((s.heap.update L (Obj.mapSeq (fun _ => (#[] : Array Value)))).update L (Obj.mapSeq (·.push Value.none))).update L (Obj.mapSeq (·.pop))).get? b = some o :=
    fun b o hb e => (Heap.get?_update_other _ _ (Ne.symm hb)).trans ((Heap.get?_update_other _ _ (Ne.symm hb)).trans (o1 b o hb e))
  refine wpAny_pure ⟨plainId_quiet PySem.F.plain_extend_loop _, zq_loop (h₁ := s.heap) hh D B hxy hn .none hR (xs.size - 0) 0 _ _ _ #[] [] rfl (Nat.zero_le _) (hst.mono hz fun b o hb e => oth b o ?_ e) (fun b o b1 _ _ _ _ e => oth b o b1 e) hS₄ rfl rfl ⟨List.Pairwise.nil, fun _ h => (by cases h), fun j a e => (by simp at e)⟩ ?_⟩
  · rcases hb with rfl | rfl | rfl | rfl | rfl | rfl | rfl
    · exact Ne.symm B.Lz
    · exact Ne.symm B.LTI
    · exact Ne.symm B.LTO
    · exact Ne.symm B.Li1
    · exact Ne.symm B.Li2
    · exact Ne.symm B.Ll1
    · exact Ne.symm B.Ll2
  · show s.heap.objs.size ≤ ((((s.heap.update L _).update L _).update L _).objs.size)
    rw [Heap.size_update, Heap.size_update, Heap.size_update]
    exact Nat.le_refl _
theorem zq_call {A : Around} {E : Value → Shared → Prop} {s : Shared} {prog : Program} {w : World} {z TI TO i1 i2 l1 l2 : Addr} {xs ys : Array Value} {Q : Value → Shared → Prop} (hh : A.handled = none) (D : ZipApart z TI TO i1 i2 l1 l2) (hxy : xs.size = ys.size) (hn : xs.size ≤ 1000)
    (hz : IsZip s.heap z TI TO .none ∧ ∃ a b, IsPair s.heap TO a b) (gTI : IsPair s.heap TI (.ref i1) (.ref i2)) (g1 : s.heap.IsListIter i1 l1 0) (g2 : s.heap.IsListIter i2 l2 0) (gl1 : s.heap.IsList l1 xs) (gl2 : s.heap.IsList l2 ys)
    (hQ : ∀ h' tk acc c as, (∀ b o, b ≠ z → b ≠ TO → b ≠ i1 → b ≠ i2 → s.heap.get? b = some o → h'.get? b = some o) → h'.get? s.heap.objs.size = some (listOf acc c) → as.length = xs.size → ZqG h' (s.heap.objs.size + 1) xs ys as → acc.toList = as.map Value.ref → Q (.ref s.heap.objs.size) { s with heap := h', toks := tk }) :
    wpAny (model prog w) A (call (.type "list") [.ref z]) Q E s := by
  refine callType_codes (Q₁ := fun obj s₁ => obj = .ref s.heap.objs.size ∧ s₁ = { s with heap := s.heap.push { cls := .type "list", data := .seq #[] } }) PySem.F.called_list (PySem.F.typeCall_list_1 _) PySem.F.entry_list_init
    (code_list_new _ ⟨rfl, rfl⟩) fun obj s₁ h₁ => ?_
  obtain ⟨rfl, rfl⟩ := h₁
  have hS : (s.heap.push { cls := .type "list", data := .seq #[] }).get? s.heap.objs.size = some { cls := .type "list", data := .seq #[] } := Heap.get?_push_size _ rfl
  have up : ∀ b o, s.heap.get? b = some o → (s.heap.push { cls := .type "list", data := .seq #[] }).get? b = some o := fun b o e => Heap.get?_push_of_some _ e
  have lt : ∀ {b o}, s.heap.get? b = some o → b < s.heap.objs.size := fun e => Heap.lt_size e
  obtain ⟨a, b, hTO⟩ := hz.2
  have q1 := g1.choose_spec.1
  have q2 := g2.choose_spec.1
  have p1 := gl1.choose_spec.1
  have p2 := gl2.choose_spec.1
  have sz : (s.heap.push { cls := .type "list", data := .seq #[] }).objs.size = s.heap.objs.size + 1 := Heap.size_push ..
  have l : ∀ {b o}, s.heap.get? b = some o → b < s.heap.objs.size + 1 := fun e => Nat.lt_succ_of_lt (Heap.lt_size e)
  have n : ∀ {b o}, s.heap.get? b = some o → s.heap.objs.size ≠ b := fun e => Nat.ne_of_gt (Heap.lt_size e)
  have B : ZqLow s.heap.objs.size z TI TO i1 i2 l1 l2 (s.heap.push { cls := .type "list", data := .seq #[] }).objs.size := by
    rw [sz]
    exact ⟨Nat.lt_succ_self _, l hz.1, l gTI, l hTO, l q1, l q2, n hz.1, n gTI, n hTO, n q1, n q2, n p1, n p2⟩
  refine ⟨⟨_, hS, rfl⟩, PySem.F.args_list_init_2 _ _, zq_init (A := A.in1) (s := { s with heap := s.heap.push { cls := .type "list", data := .seq #[] } }) hh D B hxy hn
    ⟨up _ _ gTI, g1.at (up _), g2.at (up _), gl1.at (up _), gl2.at (up _), .inl ⟨up _ _ hz.1, a, b, up _ _ hTO⟩⟩ ⟨up _ _ hz.1, a, b, up _ _ hTO⟩ hS fun h' tk acc c as hk hL hl hG hacc => ?_⟩
  exact ⟨rfl, hQ h' tk acc c as (fun b o b1 b2 b3 b4 e => hk b o (Ne.symm (n e)) b1 b2 b3 b4 (up b o e)) hL hl (by rw [← sz]; exact hG) hacc⟩

theorem ZipIn.raw {σ₀ : AH} {h : Heap} {z l1 l2 TI TO i1 i2 : Addr} (Z : ZipIn σ₀ σ z l1 l2 TI TO i1 i2) (G : Good S σ h) : (IsZip h z TI TO .none ∧ ∃ a b, IsPair h TO a b) ∧ IsPair h TI (.ref i1) (.ref i2) ∧ h.IsListIter i1 l1 0 ∧ h.IsListIter i2 l2 0 := by
  obtain ⟨o1, e1, c1, d1⟩ := Z.o1
  obtain ⟨o2, e2, c2, d2⟩ := Z.o2
  exact ⟨⟨G.rep _ _ Z.oz, _, _, G.rep _ _ Z.oTO⟩, G.rep _ _ Z.oTI, ⟨o1, G.rep _ _ e1, c1, d1⟩, ⟨o2, G.rep _ _ e2, c2, d2⟩⟩
theorem CallV.listZip {σ₀ : AH} {z l1 l2 TI TO i1 i2 : Addr} {vs ws : List Value} (Z : ZipIn σ₀ σ z l1 l2 TI TO i1 i2) (h1 : σ₀ l1 = some (.list vs)) (h2 : σ₀ l2 = some (.list ws)) (hlen : vs.length = ws.length) (hle : vs.length ≤ 1000)
    (h : ∀ l (as : List Addr) σ', ¬ fp σ₀ l → σ' l = some (.list (as.map Value.ref)) → as.length = vs.length → (∀ (j : Nat) (v w : Value), vs[j]? = some v → ws[j]? = some w → ∃ a, as[j]? = some a ∧ σ' a = some (.tuple [v, w])) → Up (fun _ => False) σ₀ σ' → Q (.ref l) σ') : CallV S n σ (.type "list") [.ref z] Q := fun raws hra A s R G => by
  obtain ⟨u, rfl, hu⟩ := map1 hra
  cases of_nrm_ref hu
  obtain ⟨hz, gTI, g1, g2⟩ := Z.raw G
  obtain ⟨xs, c, hx, hm⟩ := G.lst (Z.sub _ _ h1)
  obtain ⟨ys, c2, hy, hm2⟩ := G.lst (Z.sub _ _ h2)
  have z1 := size_of_map hm
  have z2 := size_of_map hm2
  refine zq_call R.1 Z.apart (by omega) (by omega) hz gTI g1 g2 (asList hx) (asList hy) fun h' tk acc c as hk hL hl hG hacc => ?_
  have hn := get?_size s.heap
  have bnone : ∀ b, s.heap.get? b = none → S.base.get? b = none := fun b hb => by
    cases e : S.base.get? b with
    | none => rfl
    | some o => have := G.keep _ _ e; rw [hb] at this; cases this
  have hge : ∀ b, s.heap.objs.size + 1 ≤ b → s.heap.get? b = none := fun b hb => by
    cases e : s.heap.get? b with
    | none => rfl
    | some o => exact absurd (Heap.lt_size e) (Nat.not_lt.mpr (Nat.le_of_succ_le hb))
  have G0 : Good S σ₀ h' := by
    have Gs : Good S σ₀ s.heap := G.sub Z.sub
    refine Gs.ext fun b o e hb => hk b o ?_ ?_ ?_ ?_ e
    all_goals
      rintro rfl
      rcases hb with hb | hb
      · exact Z.free _ (by simp) hb
      · first
        | (have := (G.new _ (fp_self Z.oz)).1; rw [hb] at this; cases this; done)
        | (have := (G.new _ (fp_self Z.oTO)).1; rw [hb] at this; cases this; done)
        | (have := (G.new _ (fp_self Z.o1.choose_spec.1)).1; rw [hb] at this; cases this; done)
        | (have := (G.new _ (fp_self Z.o2.choose_spec.1)).1; rw [hb] at this; cases this; done)
  have f0 : ∀ b, s.heap.get? b = none → ¬ fp σ₀ b := fun b hb q => G.free hb (fp_sub Z.sub q)
  have g3 : (3 : Nat) < s.heap.objs.size := by
    obtain ⟨o, _, _, e, _⟩ := S.g
    exact Heap.lt_size (G.keep _ _ e)
  have pair : ∀ j (a : Addr), as[j]? = some a → ∃ v w, vs[j]? = some v ∧ ws[j]? = some w ∧ Rep S h' a (.tuple [v, w]) := fun j a e => by
    obtain ⟨x, y, e1, e2, e3⟩ := hG.pairs j a e
    refine ⟨nrm x, nrm y, ?_, ?_, ⟨#[x, y], 0, e3, rfl⟩⟩
    · rw [← hm, List.getElem?_map, Array.getElem?_toList, e1]; rfl
    · rw [← hm2, List.getElem?_map, Array.getElem?_toList, e2]; rfl
  let tup : Nat → AObj := fun j => .tuple [(vs[j]?).getD .none, (ws[j]?).getD .none]
  have nd : as.Nodup := hG.rise.imp fun {a b} (hab : (a : Nat) < b) => Nat.ne_of_lt hab
  obtain ⟨σ', G', sub, own, fpm⟩ := Good.adopts ((s.heap.objs.size, AObj.list (as.map Value.ref)) :: as.zipIdx.map fun p => (p.1, tup p.2)) G0 (by
    intro p hp
    rcases List.mem_cons.mp hp with rfl | hp
    · refine ⟨list_noInst, f0 _ hn, bnone _ hn, G.size_ne, acc, c, hL, ?_⟩
      rw [hacc, List.map_map]; rfl
    · obtain ⟨⟨a, j⟩, hq, rfl⟩ := List.mem_map.mp hp
      have e : as[j]? = some a := by
        have := List.mem_zipIdx_iff_getElem?.mp hq
        simpa using this
      obtain ⟨v, w, e1, e2, e3⟩ := pair j a e
      have hlo := hG.low a (List.mem_of_getElem? e)
      refine ⟨tuple_noInst, f0 _ (hge _ hlo), bnone _ (hge _ hlo), ?_, ?_⟩
      · intro q
        have h3 : sysModules = 1 := rfl
        dsimp only at q
        have hlo' : (s.heap.objs.size + 1 : Nat) ≤ a := hlo
        rw [q, h3] at hlo'
        have : s.heap.objs.size + 1 ≤ (1 : Nat) := hlo'
        omega
      · show Rep S h' a (.tuple [(vs[j]?).getD .none, (ws[j]?).getD .none])
        rw [e1, e2]; exact e3) (by
    rw [List.map_cons, List.map_map]
    have e : (as.zipIdx.map (Prod.fst ∘ fun p => (p.1, tup p.2))) = as := by
      rw [show (Prod.fst ∘ fun (p : Addr × Nat) => (p.1, tup p.2)) = Prod.fst from rfl, List.zipIdx_map_fst]
    rw [e]
    exact List.nodup_cons.mpr ⟨fun hm => Nat.lt_irrefl _ (hG.low _ hm), nd⟩)
  refine ⟨σ', G', ?_, h _ as σ' (f0 _ hn) (own _ (.head _)) (by rw [hl, z1]) (fun j v w e1 e2 => ?_) ⟨fun b o _ e => sub b o e, fun b hb => fp_sub sub hb⟩⟩
  · refine Step.adopts (σ := σ₀) (L := (((s.heap.objs.size, AObj.list (as.map Value.ref)) :: as.zipIdx.map fun p => (p.1, tup p.2)).map Prod.fst)) ⟨fun b o hb e => hk b o ?_ ?_ ?_ ?_ e, fun b hb => .inl (fp_sub Z.sub hb), rfl, rfl⟩ fpm (fun b hb => ?_)
    · rintro rfl; exact hb (fp_self Z.oz)
    · rintro rfl; exact hb (fp_self Z.oTO)
    · rintro rfl; exact hb (fp_self Z.o1.choose_spec.1)
    · rintro rfl; exact hb (fp_self Z.o2.choose_spec.1)
    · left
      rw [List.map_cons] at hb
      rcases List.mem_cons.mp hb with rfl | hb
      · exact hn
      · obtain ⟨p, hp, rfl⟩ := List.mem_map.mp hb
        obtain ⟨⟨a, j⟩, hq, rfl⟩ := List.mem_map.mp hp
        have e : as[j]? = some a := by
          have := List.mem_zipIdx_iff_getElem?.mp hq
          simpa using this
        exact hge _ (hG.low a (List.mem_of_getElem? e))
  · have hj : j < as.length := by rw [hl, z1]; exact (List.getElem?_eq_some_iff.mp e1).1
    refine ⟨as[j], List.getElem?_eq_getElem hj, ?_⟩
    have := own (as[j], tup j) (.tail _ (List.mem_map.mpr ⟨(as[j], j), List.mem_zipIdx_iff_getElem?.mpr (by simp), rfl⟩))
    rw [this]
    show some (AObj.tuple [(vs[j]?).getD .none, (ws[j]?).getD .none]) = _
    rw [e1, e2]; rfl
end

section
variable {S : Stat} {n : Nat} {env : Env} {ρ : Str → Option Value} {σ : AH} {Q : Value → AH → Prop} {pos : Pos} {QS : Flow → (Str → Option Value) → AH → Prop} {rest : List PySem.Stmt} {scope : Scope} {cl : List (Str × Addr)}

theorem Good.butL {h h' : Heap} {L : List Addr} (G : Good S σ h) (H : ∀ b ∈ L, Hid S env σ b) (hk : ∀ b o, b ∉ L → h.get? b = some o → h'.get? b = some o) : Good S σ h' :=
  G.ext fun b o e hb => hk b o (fun q => by rcases hb with hb | hb; exact (H b q).fp hb; rw [(H b q).base] at hb; cases hb) e
theorem FrOk.butL {h h' : Heap} {L : List Addr} (F : FrOk S env h σ ρ) (H : ∀ b ∈ L, Hid S env σ b) (hk : ∀ b o, b ∉ L → h.get? b = some o → h'.get? b = some o) : FrOk S env h' σ ρ where
  kind := F.kind
  glob := F.glob
  bl := F.bl
  ns := by
    obtain ⟨m, ⟨o, es, ep, e, r⟩, q⟩ := F.ns
    exact ⟨m, ⟨o, es, ep, hk _ _ (fun q => (H _ q).loc rfl) e, r⟩, q⟩
  nL := F.nL
  bL := F.bL
  cells x c e := by
    obtain ⟨⟨v, ⟨o, ho, hd⟩, hv⟩, n1, n2, n3⟩ := F.cells x c e
    exact ⟨⟨v, ⟨o, hk _ _ (fun q => (H _ q).cel x e) ho, hd⟩, hv⟩, n1, n2, n3⟩
  apart := F.apart
  sepn := F.sepn

structure ZS (h : Heap) (z TI TO i1 i2 l1 l2 : Addr) (i : Nat) : Prop where
  z : IsZip h z TI TO .none
  t : IsPair h TI (.ref i1) (.ref i2)
  o : ∃ a b, IsPair h TO a b
  g1 : h.IsListIter i1 l1 i
  g2 : h.IsListIter i2 l2 i
theorem ZS.keep {h h' : Heap} {z TI TO i1 i2 l1 l2 : Addr} {i : Nat} (x : ZS h z TI TO i1 i2 l1 l2 i) (hk : ∀ b o, b ∈ [z, TI, TO, i1, i2] → h.get? b = some o → h'.get? b = some o) : ZS h' z TI TO i1 i2 l1 l2 i :=
  ⟨hk _ _ (by simp) x.z, hk _ _ (by simp) x.t, by obtain ⟨a, b, e⟩ := x.o; exact ⟨a, b, hk _ _ (by simp) e⟩, x.g1.at (hk _ · (by simp)), x.g2.at (hk _ · (by simp))⟩

structure ZipStep (S : Stat) (n : Nat) (env : Env) (ρ : Str → Option Value) (scope : Scope) (cl : List (Str × Addr)) (x y : Str) (elt : PySem.Expr) (I : Nat → List Value → AH → Prop) (Q : Value → AH → Prop) (l1 l2 : Addr) (vs ws : List Value) (i : Nat) (acc : List Value) (σ' : AH) : Prop where
  h1 : σ' l1 = some (.list vs)
  h2 : σ' l2 = some (.list ws)
  ha : acc.length ≤ 1000
  hi : i ≤ vs.length
  turn : ∀ v w, vs[i]? = some v → ws[i]? = some w → ∀ C ρc, ρc x = some v → ρc y = some w → (∀ u, (CE scope cl C env).kindOf u ≠ some .local → ρc u = ρ u) → Ev S n (CE scope cl C env) ρc σ' elt (fun u σ₂ => I (i + 1) (acc ++ [u]) σ₂)
  fin : i = vs.length → ∀ a, ¬ fp σ' a → Q (.ref a) (put σ' a (.list acc))
inductive ZipTurn (S : Stat) (n : Nat) (env : Env) (ρ : Str → Option Value) (scope : Scope) (cl : List (Str × Addr)) (x y : Str) (elt : PySem.Expr) (I : Nat → List Value → AH → Prop) (Q : Value → AH → Prop) (v : Value) (σ₁ : AH) : Prop
  | mk (σ₀ : AH) (z l1 l2 TI TO i1 i2 : Addr) (vs ws : List Value) (e : v = .ref z) (Z : ZipIn σ₀ σ₁ z l1 l2 TI TO i1 i2) (hlen : vs.length = ws.length) (hle : vs.length ≤ 1000) (hI : I 0 [] σ₀)
    (turn : ∀ i acc σ', I i acc σ' → ZipStep S n env ρ scope cl x y elt I Q l1 l2 vs ws i acc σ')
inductive ZInv (S : Stat) (env : Env) (ρ : Str → Option Value) (x y : Str) (I : Nat → List Value → AH → Prop) (σ : AH) (s : Shared) (D C z TI TO i1 i2 l1 l2 : Addr) (len : Nat) (k : Nat) (s' : Shared) : Prop
  | mk (i : Nat) (acc : List Value) (σ' : AH) (xs : Array Value) (kk : Nat) (m : Str → Option Value) (hI : I i acc σ') (G : Good S σ' s'.heap) (T : Step σ s σ' s') (F : FrOk S env s'.heap σ' ρ) (zs : ZS s'.heap z TI TO i1 i2 l1 l2 i)
    (H : ∀ b ∈ [z, TI, TO, i1, i2], Hid S env σ' b) (hD : s'.heap.get? D = some (listOf xs kk)) (hacc : xs.toList.map nrm = acc) (HD : Hid S env σ' D) (hC : s'.heap.Ns C m) (HC : Hid S env σ' C) (hm : ∀ u, u ≠ x → u ≠ y → m u = none) (hk : k = len + 1 - i)

theorem Ev.compZip {elt iter : PySem.Expr} {x y : Str} {px py pt : Pos} {kt : Nat} (cl : List (Str × Addr)) (I : Nat → List Value → AH → Prop) (B : BlockOk env scope cl) (hx : scope.names.lookup x = some .local) (hy : scope.names.lookup y = some .local) (hxy : x ≠ y)
    (h : Ev S n env ρ σ iter (ZipTurn S n env ρ scope cl x y elt I Q))
    (hs : ∀ x, foldedSetIterable iter env x = Pure.pure x) (he : ∀ C, assignEach [.Name x px, .Name y py] (CE scope cl C env) = [(false, assign (.Name x px) (CE scope cl C env)), (false, assign (.Name y py) (CE scope cl C env))]) :
    Ev S n env ρ σ (.ListComp elt [⟨.Tuple [.Name x px, .Name y py] kt pt, iter, [], 0⟩] scope pos) Q := fun A s R G F => by
  rw [eval_ListComp]
  refine wpAny_comprehension_free (g := ⟨.Tuple [.Name x px, .Name y py] kt pt, iter, [], 0⟩) (gs := []) rfl hs B.clos B.kind B.names (wpAny_mono (h A s R G F) (fun v s₁ ⟨σ₁, G₁, T₁, σ₀, z, l1, l2, TI, TO, i1, i2, vs, ws, e1, Z, hlen, hle, hI, turn⟩ => ?_) fun _ _ x => x)
  cases of_nrm_ref e1
  have F₁ := F.step T₁
  obtain ⟨hzz, gTI, g1, g2⟩ := Z.raw G₁
  refine wpAny_pyIter_zip hzz.1 ?_
  have own1 : ∀ b ∈ [z, TI, TO, i1, i2], fp σ₁ b := fun b hb => by
    simp only [List.mem_cons, List.not_mem_nil, or_false] at hb
    rcases hb with rfl | rfl | rfl | rfl | rfl
    · exact fp_self Z.oz
    · exact fp_self Z.oTI
    · exact fp_self Z.oTO
    · exact fp_self Z.o1.choose_spec.1
    · exact fp_self Z.o2.choose_spec.1
  have HZ : ∀ b ∈ [z, TI, TO, i1, i2], Hid S env σ₀ b := fun b hb => ⟨Z.free b hb, (G₁.new b (own1 b hb)).1, fun q => F₁.nL (q ▸ own1 b hb), fun u q => by
    obtain ⟨_, n1, _⟩ := F₁.cells u b q
    exact n1 (own1 b hb)⟩
  have G₂ : Good S σ₀ s₁.heap := G₁.sub Z.sub
  have T02 : Step σ s σ₀ s₁ := T₁.sub Z.sub
  have F₂ : FrOk S env s₁.heap σ₀ ρ := F.step T02
  have zs0 : ZS s₁.heap z TI TO i1 i2 l1 l2 0 := ⟨hzz.1, gTI, hzz.2, g1, g2⟩
  refine wpAny_newObj_type (wpAny_newFunctionEnv B.nocell (by intro y hy; simp at hy) (fun h₁ hns₁ hsb₁ => ?_) B.kind)
  dsimp only at hns₁ hsb₁ ⊢
  have hD0 := get?_size s₁.heap
  have bS : ∀ c, s₁.heap.get? c = none → S.base.get? c = none := fun c hc => by
    cases e : S.base.get? c with
    | none => rfl
    | some o => rw [G₂.keep _ _ e] at hc; cases hc
  generalize hH2 : s₁.heap.push { cls := .type "list", dict := none, data := .seq ([] : List Value).toArray } = H2 at hns₁ hsb₁ ⊢
  have hC : H2.objs.size = s₁.heap.objs.size + 1 := by rw [← hH2, Heap.size_push]
  have hC0 : s₁.heap.get? H2.objs.size = none := by
    cases e : s₁.heap.get? H2.objs.size with
    | none => rfl
    | some o => have := Heap.lt_size e; rw [hC] at this; exact absurd this (Nat.not_lt.mpr (Nat.le_succ _))
  generalize hDe : s₁.heap.objs.size = D at *
  generalize hCe : H2.objs.size = C at *
  have hDC : D ≠ C := by rw [hC]; exact Nat.ne_of_lt (Nat.lt_succ_self _)
  have hk1 : ∀ b o, s₁.heap.get? b = some o → h₁.get? b = some o := fun b o e => by
    have hbC : b ≠ C := fun q => by rw [q, hC0] at e; cases e
    have : H2.get? b = some o := by rw [← hH2]; exact Heap.get?_push_of_some _ e
    exact hsb₁.extBut b o hbC (Heap.get?_push_of_some _ this)
  have hD1 : h₁.get? D = some (listOf #[] 0) := by
    have : H2.get? D = some (listOf #[] 0) := by rw [← hH2, ← hDe]; exact Heap.get?_push_size _ rfl
    exact hsb₁.extBut D _ hDC (Heap.get?_push_of_some _ this)
  have frD := F₂.frees hD0
  have frC := F₂.frees hC0
  have HD : Hid S env σ₀ D := ⟨G₂.free hD0, bS _ hD0, frD.1, frD.2⟩
  have HC : Hid S env σ₀ C := ⟨G₂.free hC0, bS _ hC0, frC.1, frC.2⟩
  have alz : ∀ b ∈ [z, TI, TO, i1, i2], ∃ o, s₁.heap.get? b = some o := fun b hb => G₁.alive (own1 b hb)
  have zD : D ∉ [z, TI, TO, i1, i2] := fun q => by obtain ⟨o, e⟩ := alz _ q; rw [hD0] at e; cases e
  have zC : C ∉ [z, TI, TO, i1, i2] := fun q => by obtain ⟨o, e⟩ := alz _ q; rw [hC0] at e; cases e
  have gone : ∀ c, s₁.heap.get? c = none → s.heap.get? c = none ∨ fp σ c := fun c hc => by
    by_cases q : fp σ c
    · exact .inr q
    · left
      cases e : s.heap.get? c with
      | none => rfl
      | some o => have := T02.keep c o q e; rw [hc] at this; cases this
  have off : ∀ c, (s.heap.get? c = none ∨ fp σ c) → ∀ b o, ¬ fp σ b → s.heap.get? b = some o → b ≠ c := fun c hc b o hb e q => by
    subst q
    rcases hc with h0 | h0
    · rw [h0] at e; cases e
    · exact hb h0
  have offZ : ∀ b o, ¬ fp σ b → s.heap.get? b = some o → b ∉ [z, TI, TO, i1, i2] := fun b o hb e q => off b ((T₁.own b (own1 b q)).symm) b o hb e rfl
  have offD := off D (gone D hD0)
  have offC := off C (gone C hC0)
  have loop : codeAny (model S.prog S.w) A (.compLoop (.ListComp elt [⟨.Tuple [.Name x px, .Name y py] kt pt, iter, [], 0⟩] scope pos) 0 (.ref z) (.ref D) (compEnvC scope cl C env)) (compPost (model S.prog S.w) A NoE none (fun a s' => Out S σ s s' (Q (nrm a))) (.ref D) C) { s₁ with heap := h₁, toks := s₁.toks + ([] : List (Str × Value)).length } := by
    refine LCp.codeAny_compLoop_pair (ZInv S env ρ x y I σ s D C z TI TO i1 i2 l1 l2 vs.length) ?_ (vs.length + 1)
      ⟨0, [], σ₀, #[], 0, _, hI, G₂.grow hk1, T02.trans (.same hk1), F₂.keeps (fun b o _ e => hk1 b o e) (fun b hb => .inl hb), zs0.keep (fun b o _ e => hk1 b o e), HZ, hD1, rfl, HD, hns₁, HC, fun u _ _ => rfl, rfl⟩
    rintro k s' ⟨i, acc, σ', xs, kk, m, hI', G', T', F', zs, H', hDx, hacc, HD', hnC, HC', hm0, rfl⟩
    obtain ⟨hl1, hl2, hal, hi, hturn, hfin⟩ := turn i acc σ' hI'
    obtain ⟨as, c1, ha, hma⟩ := G'.lst hl1
    obtain ⟨bs, c2, hb, hmb⟩ := G'.lst hl2
    have za := size_of_map hma
    have zb := size_of_map hmb
    have dC : ∀ {b}, b ∈ [z, TI, TO, i1, i2] → b ≠ C := fun hb q => zC (q ▸ hb)
    have dD : ∀ {b}, b ∈ [z, TI, TO, i1, i2] → b ≠ D := fun hb q => zD (q ▸ hb)
    have hl1z : ∀ b ∈ [z, TI, TO, i1, i2], l1 ≠ b := fun b hb q => (H' b hb).fp (q ▸ fp_self hl1)
    have nsC : ∀ h' : Heap, (∀ b o, b ∉ [z, TI, TO, i1, i2] → s'.heap.get? b = some o → h'.get? b = some o) → h'.Ns C m := fun h' hk => by
      obtain ⟨o, es, ep, e, r⟩ := hnC
      exact ⟨o, es, ep, hk _ _ zC e, r⟩
    rcases Nat.lt_or_ge i vs.length with hlt | hge
    · -- an item
      obtain ⟨u1, hu1⟩ : ∃ u, as[i]? = some u := ⟨as[i]'(by omega), Array.getElem?_eq_getElem (by omega)⟩
      obtain ⟨u2, hu2⟩ : ∃ u, bs[i]? = some u := ⟨bs[i]'(by omega), Array.getElem?_eq_getElem (by omega)⟩
      have hv1 : vs[i]? = some (nrm u1) := by rw [← hma, List.getElem?_map, Array.getElem?_toList, hu1]; rfl
      have hv2 : ws[i]? = some (nrm u2) := by rw [← hmb, List.getElem?_map, Array.getElem?_toList, hu2]; rfl
      obtain ⟨ta, tb, hTO⟩ := zs.o
      refine wpAny_pyNext_zip_item Z.apart zs.z zs.t hTO zs.g1 zs.g2 (asList ha) (asList hb) hu1 hu2 fun h2 q1 q2 q3 q4 q5 q6 hk2 => ?_
      have hTn := get?_size s'.heap
      refine wpAny_letOwnedTupleGo_zip (s := { s' with heap := h2 }) q1 fun h3 q7 hs3 => ?_
      have hk3 : ∀ b o, b ∉ [z, TI, TO, i1, i2] → s'.heap.get? b = some o → h3.get? b = some o := fun b o hb e => by
        simp only [List.mem_cons, List.not_mem_nil, or_false, not_or] at hb
        exact hs3.extBut _ _ hb.1 (hk2 b o hb.1 hb.2.2.1 hb.2.2.2.1 hb.2.2.2.2 e)
      have zs3 : ZS h3 z TI TO i1 i2 l1 l2 (i + 1) := ⟨q7, hs3.extBut _ _ Z.apart.TIz (hk2 _ _ Z.apart.TIz Z.apart.TITO Z.apart.TIi1 Z.apart.TIi2 zs.t), ⟨_, _, hs3.extBut _ _ Z.apart.TOz q2⟩, q3.extBut hs3.extBut Z.apart.i1z, q4.extBut hs3.extBut Z.apart.i2z⟩
      have zne : s'.heap.objs.size ≠ z := Nat.ne_of_gt (Heap.lt_size zs.z)
      have hT3 : h3.get? s'.heap.objs.size = some { cls := .type "tuple", data := .seq #[u1, u2] } := hs3.extBut _ _ zne q5
      rw [assign_tup, he C]
      show wpAny _ A (PySem.standAt pt >>= fun _ => PySem.holding [.ref s'.heap.objs.size] (unpackItems (.ref s'.heap.objs.size) 2 Option.none) >>= fun items => assignInOrder [assign (.Name x px) (CE scope cl C env), assign (.Name y py) (CE scope cl C env)] items) _ _ _
      refine wpAny_bind (wpAny_standAt ?_)
      refine wpAny_bind (wpAny_holding ?_)
      refine unpackItems_tuple (items := #[u1, u2]) (s := { s' with heap := h3 }) R.1 ⟨_, hT3, rfl, 0, rfl⟩ fun h4 he4 => ?_
      have hk34 : ∀ b o, h3.get? b = some o → h4.get? b = some o := fun b o e => he4 b o (Nat.ne_of_lt (Heap.lt_size e)) e
      show wpAny _ A (PySem.holding [u2] (assign (.Name x px) (CE scope cl C env) u1) >>= fun _ => PySem.holding [] (assign (.Name y py) (CE scope cl C env) u2) >>= fun _ => assignInOrder [] []) _ _ _
      have hxl : (compEnvC scope cl C env).kindOf x = some .local := lookup_relabel_local hx
      have hyl : (compEnvC scope cl C env).kindOf y = some .local := lookup_relabel_local hy
      have hkf : ((compEnvC scope cl C env).scope.kind == .class || ((compEnvC scope cl C env).scope.kind == .module && (compEnvC scope cl C env).locals != (compEnvC scope cl C env).globals)) = false := by show (scope.kind == .class || (scope.kind == .module && _)) = false; rw [B.kind]; rfl
      have hk4 : ∀ b o, b ∉ [z, TI, TO, i1, i2] → s'.heap.get? b = some o → h4.get? b = some o := fun b o hb e => hk34 _ _ (hk3 b o hb e)
      refine wpAny_bind (wpAny_holding (wpAny_assign_Name (wpAny_storeName_local hxl (nsC h4 hk4) (fun h5 hn5 hs5 => ?_) hkf)))
      refine wpAny_bind (wpAny_holding (wpAny_assign_Name (wpAny_storeName_local hyl hn5 (fun h6 hn6 hs6 => ?_) hkf)))
      refine wpAny_pure ?_
      have hk6 : ∀ b o, b ≠ C → h4.get? b = some o → h6.get? b = some o := fun b o hb e => hs6.extBut b o hb (hs5.extBut b o hb e)
      have G4 : Good S σ' h4 := G'.butL H' hk4
      have G6 : Good S σ' h6 := G4.but HC' hk6
      have F6 : FrOk S env h6 σ' ρ := (F'.butL H' hk4).but HC' hk6
      have zs6 : ZS h6 z TI TO i1 i2 l1 l2 (i + 1) := zs3.keep fun b o hb e => hk6 b o (dC hb) (hk34 b o e)
      have hD6 : h6.get? D = some (listOf xs kk) := hk6 _ _ hDC (hk4 _ _ zD hDx)
      have hsz6 : ∀ (tk : Nat), Step σ s σ' { s' with heap := h6, toks := tk } := fun tk => ⟨fun b o hb e => hk6 b o (offC b o hb e) (hk4 b o (offZ b o hb e) (T'.keep b o hb e)), T'.own, T'.gens, T'.os⟩
      let ρc : Str → Option Value := fun u => if u = y then some (nrm u2) else if u = x then some (nrm u1) else if (compEnvC scope cl C env).kindOf u = some .local then none else ρ u
      have Fc : FrOk S (compEnvC scope cl C env) h6 σ' ρc := by
        refine B.frame F6 HC'.fp HC'.base (fun u c e q => HC'.cel u (q ▸ e)) hn6 (fun u hu => ?_) (fun u hu => ?_)
        · show Option.map nrm (if u = y then some u2 else if u = x then some u1 else m u) = if u = y then some (nrm u2) else if u = x then some (nrm u1) else _
          by_cases q : u = y
          · rw [if_pos q, if_pos q]; rfl
          · rw [if_neg q, if_neg q]
            by_cases q' : u = x
            · rw [if_pos q', if_pos q']; rfl
            · rw [if_neg q', if_neg q', if_pos hu, hm0 u q' q]; rfl
        · show (if u = y then some (nrm u2) else if u = x then some (nrm u1) else _) = ρ u
          have hux : u ≠ x := by intro q; subst q; exact hu hxl
          have huy : u ≠ y := by intro q; subst q; exact hu hyl
          rw [if_neg huy, if_neg hux, if_neg hu]
      have hρx : ρc x = some (nrm u1) := by show (if x = y then _ else if x = x then _ else _) = _; rw [if_neg hxy, if_pos rfl]
      have hρo : ∀ u, (compEnvC scope cl C env).kindOf u ≠ some .local → ρc u = ρ u := fun u hu => by
        show (if u = y then some (nrm u2) else if u = x then some (nrm u1) else _) = ρ u
        have hux : u ≠ x := by intro q; subst q; exact hu hxl
        have huy : u ≠ y := by intro q; subst q; exact hu hyl
        rw [if_neg huy, if_neg hux, if_neg hu]
      refine wpAny_mono (hturn _ _ hv1 hv2 C ρc hρx (if_pos rfl) hρo A _ R G6 Fc) (fun w s₄ ⟨σ₄, G₄, T₄, q4⟩ => ?_) (fun _ _ x => x.elim)
      have hD4 : s₄.heap.get? D = some (listOf xs kk) := (HD'.step hD6 T₄.toF).2
      have hzx := size_of_map hacc
      refine call_meets PySem.F.slot_list_append ⟨_, hD4, rfl⟩ PySem.F.entry_list_append (PySem.F.args_list_append_2 _ _) (list_append D xs kk w (by rw [hzx]; exact sz_le (by omega))) ⟨hD4, ?_⟩
      have alv : ∀ b ∈ [z, TI, TO, i1, i2], ∃ o, h6.get? b = some o := fun b hb => by
        simp only [List.mem_cons, List.not_mem_nil, or_false] at hb
        rcases hb with rfl | rfl | rfl | rfl | rfl
        · exact ⟨_, zs6.z⟩
        · exact ⟨_, zs6.t⟩
        · exact ⟨_, zs6.o.choose_spec.choose_spec⟩
        · exact ⟨_, zs6.g1.choose_spec.1⟩
        · exact ⟨_, zs6.g2.choose_spec.1⟩
      have st4 : ∀ b ∈ [z, TI, TO, i1, i2], Hid S env σ₄ b ∧ ∀ o, h6.get? b = some o → s₄.heap.get? b = some o := fun b hb => by
        obtain ⟨o, ho⟩ := alv b hb
        obtain ⟨a1, a2⟩ := (H' b hb).step ho T₄.toF
        exact ⟨a1, fun o' e => by rw [ho] at e; cases e; exact a2⟩
      obtain ⟨HD4, _⟩ := HD'.step hD6 T₄.toF
      obtain ⟨oC, esC, epC, hoC, rC⟩ := hn6
      obtain ⟨HC4, hoC4⟩ := HC'.step hoC T₄.toF
      have hk5 : ∀ b o, b ≠ D → s₄.heap.get? b = some o → (s₄.heap.update D (Obj.mapSeq (·.push w))).get? b = some o := fun b o hb e => (Heap.get?_update_other _ _ (Ne.symm hb)).trans e
      have T5 := (hsz6 _).trans T₄
      refine ⟨vs.length + 1 - (i + 1), by omega, i + 1, acc ++ [nrm w], σ₄, xs.push w, (if (xs.push w).size == xs.size then kk else kk + 1), _, q4, G₄.but HD4 hk5, ⟨fun b o hb e => hk5 b o (offD b o hb e) (T5.keep b o hb e), T5.own, T5.gens, T5.os⟩, (F6.step T₄).but HD4 hk5, zs6.keep fun b o hb e => hk5 b o (dD hb) ((st4 b hb).2 o e), fun b hb => (st4 b hb).1, ?_, by simp [hacc], HD4, ⟨oC, esC, epC, hk5 _ _ (Ne.symm hDC) hoC4, rC⟩, HC4, fun u h1 h2 => by simp only [if_neg h1, if_neg h2]; exact hm0 u h1 h2, rfl⟩
      show (s₄.heap.update D _).get? D = _
      rw [Heap.get?_update_self _ hD4 rfl]; rfl
    · -- the end
      have hie : i = vs.length := by omega
      obtain ⟨ta, tb, hTO⟩ := zs.o
      refine wpAny_pyNext_zip_end R.1 Z.apart zs.z zs.t hTO zs.g1 zs.g2 (asList ha) (asList hb) (.inl (Array.getElem?_eq_none (by omega))) fun h2 hk2 => ?_
      have hk3 : ∀ b o, b ∉ [z, TI, TO, i1, i2] → s'.heap.get? b = some o → h2.get? b = some o := fun b o hb e => by
        simp only [List.mem_cons, List.not_mem_nil, or_false, not_or] at hb
        exact hk2 b o hb.1 hb.2.2.1 hb.2.2.2.1 hb.2.2.2.2 e
      have hf : CompFin S env ρ σ s D C (fun acc σ' => ∀ a, ¬ fp σ' a → Q (.ref a) (put σ' a (.list acc))) { s' with heap := h2 } :=
        ⟨σ', xs, kk, m, acc, G'.butL H' hk3, ⟨fun b o hb e => hk3 b o (offZ b o hb e) (T'.keep b o hb e), T'.own, T'.gens, T'.os⟩, hk3 _ _ zD hDx, hacc, nsC h2 hk3, HD', HC', hDC, gone D hD0, hDe ▸ G₂.size_ne, gone C hC0, hfin hie⟩
      obtain ⟨m', hn', kf⟩ := hf.use
      refine ⟨m', hn', fun h' hs' => ?_⟩
      obtain ⟨σ'', acc', g, t, nf, q⟩ := kf h' hs'
      exact ⟨_, g, t, q D nf⟩
  refine codeAny_compStart_list loop (wpAny_pyIter_zip (s := { s₁ with heap := h₁, toks := s₁.toks + ([] : List (Str × Value)).length }) (hk1 _ _ hzz.1) loop)
end

/-! # the things -/
inductive Nd where
  | sym
  | num
  | ali
  | txt (cs : List Int)
  | pr (p q : Nat)
  | vec (ps : List Nat)
def Nd.parts : Nd → List Nat
  | .pr p q => [p, q]
  | .vec ps => ps
  | _ => []
def Nd.comp : Nd → Bool
  | .txt _ => true
  | .pr _ _ => true
  | .vec _ => true
  | _ => false
def Nd.isNum : Nd → Bool
  | .num => true
  | _ => false
def Nd.isAli : Nd → Bool
  | .ali => true
  | _ => false
structure Wd where
  nd : List Nd
  ad : Nat → Addr
  la : Nat → Addr
def Wd.val (W : Wd) (j : Nat) : Value := match W.nd[j]? with
  | some .num => VI 7
  | _ => .ref (W.ad j)
/-- what thing j becomes -/
def Wd.mate (W : Wd) (m : Nat → Addr) (j : Nat) : Value := match W.nd[j]? with
  | some .num => VI 7
  | some .sym => .ref (W.ad j)
  | some .ali => .ref (W.ad 0)
  | some _ => .ref (m j)
  | none => .none
def Wd.compAt (W : Wd) (j : Nat) : Prop := ∃ nd, W.nd[j]? = some nd ∧ nd.comp = true
structure WOk (W : Wd) : Prop where
  size : W.nd.length ≤ 9
  two : 2 ≤ W.nd.length
  zero : W.nd[0]? = some .sym
  part : ∀ (j : Nat) (nd : Nd), W.nd[j]? = some nd → ∀ p ∈ nd.parts, p < W.nd.length
  few : ∀ (j : Nat) (nd : Nd), W.nd[j]? = some nd → nd.parts.length ≤ 2
  inj : ∀ (i j : Nat) (a b : Nd), W.nd[i]? = some a → W.nd[j]? = some b → a.isNum = false → b.isNum = false → W.ad i = W.ad j → i = j
section
variable {S : Stat} {n : Nat} {env : Env} {ρ : Str → Option Value} {σ : AH} {Q : Value → AH → Prop} {pos : Pos} {QS : Flow → (Str → Option Value) → AH → Prop} {rest : List PySem.Stmt}
/-- thing j in the heap, its mark mk -/
def NodeAt (P : Prg S) (σ : AH) (W : Wd) (j : Nat) (mk : Value) : Nd → Prop
  | .sym => σ (W.ad j) = some (.inst (P.c .Symbol) [("number", VI 0), ("text", VS "a")])
  | .num => True
  | .ali => ∃ at_, σ (W.ad j) = some (.inst (P.c .Alias) at_) ∧ List.lookup ("root" : Str) at_ = some (.ref (W.ad 0))
  | .txt cs => σ (W.ad j) = some (.inst (P.c .Text) [("codes", .ref (W.la j)), ("mark", mk)]) ∧ σ (W.la j) = some (.list (cs.map VI)) ∧ cs.length ≤ 2
  | .pr p q => σ (W.ad j) = some (.inst (P.c .Pair) [("car", W.val p), ("cdr", W.val q), ("mark", mk)])
  | .vec ps => σ (W.ad j) = some (.inst (P.c .Vector) [("things", .ref (W.la j)), ("mark", mk)]) ∧ σ (W.la j) = some (.list (ps.map W.val))
/-- a mate as it is made -/
def Raw (P : Prg S) (F : Addr → Prop) (σ : AH) : Nd → AObj → Prop
  | .txt cs, o => ∃ l, o = .inst (P.c .Text) [("codes", .ref l), ("mark", .none)] ∧ σ l = some (.list (cs.map VI)) ∧ F l
  | .pr _ _, o => o = .inst (P.c .Pair) [("car", .none), ("cdr", .none), ("mark", .none)]
  | .vec _, o => ∃ l, o = .inst (P.c .Vector) [("things", .ref l), ("mark", .none)]
  | _, _ => False
/-- a mate when its parts are told -/
def Fill (P : Prg S) (F : Addr → Prop) (σ : AH) (W : Wd) (m : Nat → Addr) (M : List Nat) : Nd → AObj → Prop
  | .txt cs, o => ∃ l, o = .inst (P.c .Text) [("codes", .ref l), ("mark", .none)] ∧ σ l = some (.list (cs.map VI)) ∧ F l
  | .pr p q, o => o = .inst (P.c .Pair) [("car", W.mate m p), ("cdr", W.mate m q), ("mark", .none)] ∧ (W.compAt p → p ∈ M) ∧ (W.compAt q → q ∈ M)
  | .vec ps, o => ∃ l, o = .inst (P.c .Vector) [("things", .ref l), ("mark", .none)] ∧ σ l = some (.list (ps.map (W.mate m))) ∧ F l ∧ ∀ p ∈ ps, W.compAt p → p ∈ M
  | _, _ => False
open Classical in
noncomputable def mkOf (M : List Nat) (m : Nat → Addr) (j : Nat) : Value := if j ∈ M then .ref (m j) else .none

/-- the state within strip, has_alias: σ₀ at the call, the met things M, their mates m, what the mates are X -/
structure SI (P : Prg S) (σ₀ : AH) (W : Wd) (met : Addr) (σ : AH) (M : List Nat) (m : Nat → Addr) (X : Nat → AObj) : Prop where
  base : ∀ j nd, W.nd[j]? = some nd → NodeAt P σ₀ W j .none nd
  hmet : σ met = some (.list (M.map fun j => .ref (W.ad j)))
  metF : ¬ fp σ₀ met
  node : ∀ j nd, W.nd[j]? = some nd → NodeAt P σ W j (mkOf M m j) nd
  mate : ∀ j ∈ M, σ (m j) = some (X j)
  isI : ∀ j ∈ M, ∃ c at_, X j = .inst (P.c c) at_
  nodup : M.Nodup
  comp : ∀ j ∈ M, W.compAt j
  fresh : ∀ j ∈ M, ¬ fp σ₀ (m j)
  inj : ∀ i ∈ M, ∀ j ∈ M, m i = m j → i = j
  keep : ∀ b o, σ₀ b = some o → (∀ j, W.compAt j → b ≠ W.ad j) → σ b = some o
  fpm : ∀ b, fp σ₀ b → fp σ b
/-- what strip_one may change -/
def Xs (W : Wd) (met : Addr) (b : Addr) : Prop := b = met ∨ ∃ j, W.compAt j ∧ b = W.ad j

theorem NodeAt.self {P : Prg S} {W : Wd} {j : Nat} {mk : Value} {nd : Nd} (h : NodeAt P σ W j mk nd) (hn : nd.isNum = false) : ∃ c at_, σ (W.ad j) = some (.inst (P.c c) at_) := by
  cases nd with
  | sym => exact ⟨_, _, h⟩
  | num => cases hn
  | ali => obtain ⟨at_, e, _⟩ := h; exact ⟨_, _, e⟩
  | txt cs => exact ⟨_, _, h.1⟩
  | pr p q => exact ⟨_, _, h⟩
  | vec ps => exact ⟨_, _, h.1⟩
/-- things stand where what they lean on stands -/
theorem NodeAt.up {P : Prg S} {W : Wd} {j : Nat} {mk : Value} {nd : Nd} {σ' : AH} (h : NodeAt P σ W j mk nd) (h1 : ∀ o, σ (W.ad j) = some o → σ' (W.ad j) = some o) (h2 : ∀ vs, σ (W.la j) = some (.list vs) → σ' (W.la j) = some (.list vs)) : NodeAt P σ' W j mk nd := by
  cases nd with
  | sym => exact h1 _ h
  | num => trivial
  | ali => obtain ⟨at_, e, r⟩ := h; exact ⟨at_, h1 _ e, r⟩
  | txt cs => exact ⟨h1 _ h.1, h2 _ h.2.1, h.2.2⟩
  | pr p q => exact h1 _ h
  | vec ps => exact ⟨h1 _ h.1, h2 _ h.2⟩
theorem Raw.up {P : Prg S} {F : Addr → Prop} {nd : Nd} {o : AObj} {σ' : AH} (h : Raw P F σ nd o) (h2 : ∀ l vs, F l → σ l = some (.list vs) → σ' l = some (.list vs)) : Raw P F σ' nd o := by
  cases nd with
  | txt cs => obtain ⟨l, a, b, c⟩ := h; exact ⟨l, a, h2 _ _ c b, c⟩
  | pr p q => exact h
  | vec ps => exact h
  | sym => exact h
  | num => exact h
  | ali => exact h
theorem Wd.mate_congr {W : Wd} {m m' : Nat → Addr} {j : Nat} (h : W.compAt j → m j = m' j) : W.mate m j = W.mate m' j := by
  unfold Wd.mate
  cases e : W.nd[j]? with
  | none => rfl
  | some nd => cases nd <;> first | rfl | (rw [h ⟨_, e, rfl⟩])

theorem kitAny3 (P : Prg S) (t : Value) {a b c : Cl} {x y z : Bool} (h1 : kitOne S.K t (.ref (P.c a)) = some x) (h2 : kitOne S.K t (.ref (P.c b)) = some y) (h3 : kitOne S.K t (.ref (P.c c)) = some z) : kitAny S.K t [.ref (P.c a), .ref (P.c b), .ref (P.c c)] = some (x || y || z) := by
  unfold kitAny kitAny kitAny kitAny
  rw [h1, h2, h3]
  cases x <;> cases y <;> cases z <;> rfl

/-- made within the call -/
def FF (σ₀ : AH) (met b : Addr) : Prop := ¬ fp σ₀ b ∧ b ≠ met
/-- what strip_one adds -/
structure Grow (P : Prg S) (σ₀ : AH) (W : Wd) (met : Addr) (j : Nat) (M : List Nat) (m : Nat → Addr) (X : Nat → AObj) (σ' : AH) (M' : List Nat) (m' : Nat → Addr) (X' : Nat → AObj) : Prop where
  new : ∃ nw, M' = M ++ nw ∧ ∀ i ∈ nw, i = j ∧ ∃ nd, W.nd[i]? = some nd ∧ Raw P (FF σ₀ met) σ' nd (X' i)
  old : ∀ i ∈ M, m' i = m i ∧ X' i = X i
  has : W.compAt j → j ∈ M'
theorem Grow.none {P : Prg S} {σ₀ σ' : AH} {W : Wd} {j : Nat} {M : List Nat} {m : Nat → Addr} {X : Nat → AObj} {met : Addr} (h : W.compAt j → j ∈ M) : Grow P σ₀ W met j M m X σ' M m X :=
  ⟨⟨[], by simp, fun i hi => by cases hi⟩, fun i _ => ⟨rfl, rfl⟩, h⟩


theorem CallV.isi3 {P : Prg S} {a t : Addr} {x : Cl} {at_} {b : Bool} (hσ : σ a = some (.inst (P.c x) at_)) (ht : σ t = some (.tuple [.ref (P.c .Pair), .ref (P.c .Vector), .ref (P.c .Text)])) (e : (eqC x .Pair || eqC x .Vector || eqC x .Text) = b) (h : Q (.bool b) σ) : CallV S n σ (.builtin "isinstance") [.ref a, .ref t] Q :=
  CallV.isiInstT hσ (P.ok _) ht (by simp) ((kitAny3 P _ (P.kit x .Pair) (P.kit x .Vector) (P.kit x .Text)).trans (congrArg some e)) h
theorem CallV.isi3i {P : Prg S} {i : Int} {t : Addr} (ht : σ t = some (.tuple [.ref (P.c .Pair), .ref (P.c .Vector), .ref (P.c .Text)])) (h : Q (.bool false) σ) : CallV S n σ (.builtin "isinstance") [VI i, .ref t] Q :=
  CallV.isiIntT ht (by simp) (kitAny3 P _ (P.iKit .Pair) (P.iKit .Vector) (P.iKit .Text)) h

/-! # making -/
theorem CallV.mkPair (P : Prg S) {a b : Value} (ha : handedIn a = true) (hb : handedIn b = true) (h : ∀ x, ¬ fp σ x → Q (.ref x) (put σ x (.inst (P.c .Pair) [("car", a), ("cdr", b), ("mark", .none)]))) : CallV S 2 σ (.ref (P.c .Pair)) [a, b] Q :=
  CallV.make (P.ok _) (P.init _) (P.initT _) fun x _ hx => ct_initPair P ha hb (put_self _ _ _) (by rw [put_put]; exact ⟨rfl, h x hx⟩)
theorem CallV.mkText (P : Prg S) {a : Value} (ha : handedIn a = true) (h : ∀ x, ¬ fp σ x → Q (.ref x) (put σ x (.inst (P.c .Text) [("codes", a), ("mark", .none)]))) : CallV S 2 σ (.ref (P.c .Text)) [a] Q :=
  CallV.make (P.ok _) (P.init _) (P.initT _) fun x _ hx => ct_initText P ha (put_self _ _ _) (by rw [put_put]; exact ⟨rfl, h x hx⟩)
theorem CallV.mkVector (P : Prg S) {a : Value} (ha : handedIn a = true) (h : ∀ x, ¬ fp σ x → Q (.ref x) (put σ x (.inst (P.c .Vector) [("things", a), ("mark", .none)]))) : CallV S 2 σ (.ref (P.c .Vector)) [a] Q :=
  CallV.make (P.ok _) (P.init _) (P.initT _) fun x _ hx => ct_initVector P ha (put_self _ _ _) (by rw [put_put]; exact ⟨rfl, h x hx⟩)
theorem CallV.mkSymbol (P : Prg S) {a b : Value} (ha : handedIn a = true) (hb : handedIn b = true) (h : ∀ x, ¬ fp σ x → Q (.ref x) (put σ x (.inst (P.c .Symbol) [("number", a), ("text", b)]))) : CallV S 2 σ (.ref (P.c .Symbol)) [a, b] Q :=
  CallV.make (P.ok _) (P.init _) (P.initT _) fun x _ hx => ct_initSymbol P ha hb (put_self _ _ _) (by rw [put_put]; exact ⟨rfl, h x hx⟩)

theorem SI.up {P : Prg S} {σ₀ : AH} {W : Wd} {met : Addr} {M : List Nat} {m : Nat → Addr} {X : Nat → AObj} {σ' : AH} (I : SI P σ₀ W met σ M m X) (U : Up (fun _ => False) σ σ') : SI P σ₀ W met σ' M m X where
  base := I.base
  hmet := U.get _ _ id I.hmet
  metF := I.metF
  node j nd e := (I.node j nd e).up (fun o => U.get _ _ id) (fun vs => U.get _ _ id)
  mate j hj := U.get _ _ id (I.mate j hj)
  isI := I.isI
  nodup := I.nodup
  comp := I.comp
  fresh := I.fresh
  inj := I.inj
  keep b o e h := U.get _ _ id (I.keep b o e h)
  fpm b h := U.fp b (I.fpm b h)
/-- the ground of thing j -/
theorem NodeAt.fpA {P : Prg S} {W : Wd} {j : Nat} {mk : Value} {nd : Nd} (h : NodeAt P σ W j mk nd) (hn : nd.isNum = false) : fp σ (W.ad j) := by
  obtain ⟨c, at_, e⟩ := h.self hn
  exact fp_self e
theorem comp_notNum {nd : Nd} (h : nd.comp = true) : nd.isNum = false := by cases nd <;> first | rfl | cases h
def updN (m : Nat → Addr) (j : Nat) (a : Addr) : Nat → Addr := fun i => if i = j then a else m i
def updX (X : Nat → AObj) (j : Nat) (o : AObj) : Nat → AObj := fun i => if i = j then o else X i
theorem updN_self {m : Nat → Addr} {j : Nat} {a : Addr} : updN m j a j = a := if_pos rfl
theorem updN_ne {m : Nat → Addr} {i j : Nat} {a : Addr} (h : i ≠ j) : updN m j a i = m i := if_neg h
theorem updX_self {X : Nat → AObj} {j : Nat} {o : AObj} : updX X j o j = o := if_pos rfl
theorem updX_ne {X : Nat → AObj} {i j : Nat} {o : AObj} (h : i ≠ j) : updX X j o i = X i := if_neg h

theorem SI.push {P : Prg S} {σ₀ : AH} {W : Wd} {met : Addr} {M : List Nat} {m : Nat → Addr} {X : Nat → AObj} {j : Nat} {nd : Nd} (hW : WOk W) (hj : W.nd[j]? = some nd) (hc : nd.comp = true) (I : SI P σ₀ W met σ M m X) (hM : j ∉ M) {a : Addr} {c : Cl} {bt : List (Str × Value)}
    (ha : σ a = some (.inst (P.c c) bt)) (haf : ¬ fp σ₀ a) (han : ∀ i ∈ M, m i ≠ a) (hR : Raw P (FF σ₀ met) σ nd (.inst (P.c c) bt)) {C : Addr} {at0 at1 : List (Str × Value)} (hat : σ (W.ad j) = some (.inst C at0))
    (hN : ∀ σ', NodeAt P σ W j .none nd → σ' (W.ad j) = some (.inst C at1) → (∀ vs, fp σ₀ (W.la j) → σ (W.la j) = some (.list vs) → σ' (W.la j) = some (.list vs)) → NodeAt P σ' W j (.ref a) nd) :
    SI P σ₀ W met (put (put σ (W.ad j) (.inst C at1)) met (.list ((M.map fun j => Value.ref (W.ad j)) ++ [.ref (W.ad j)]))) (M ++ [j]) (updN m j a) (updX X j (.inst (P.c c) bt)) ∧
    Up (Xs W met) σ (put (put σ (W.ad j) (.inst C at1)) met (.list ((M.map fun j => Value.ref (W.ad j)) ++ [.ref (W.ad j)]))) ∧
    Grow P σ₀ W met j M m X (put (put σ (W.ad j) (.inst C at1)) met (.list ((M.map fun j => Value.ref (W.ad j)) ++ [.ref (W.ad j)]))) (M ++ [j]) (updN m j a) (updX X j (.inst (P.c c) bt)) := by
  have hcA : W.compAt j := ⟨nd, hj, hc⟩
  have mne : met ≠ W.ad j := fun q => by have := I.hmet; rw [q, hat] at this; cases this
  have f0 : fp σ₀ (W.ad j) := (I.base j nd hj).fpA (comp_notNum hc)
  have ane : a ≠ W.ad j := fun q => haf (q ▸ f0)
  have amet : a ≠ met := fun q => by rw [q, I.hmet] at ha; cases ha
  generalize hσ3 : put (put σ (W.ad j) (.inst C at1)) met (.list ((M.map fun j => Value.ref (W.ad j)) ++ [.ref (W.ad j)])) = σ3
  have g : ∀ b o, b ≠ met → b ≠ W.ad j → σ b = some o → σ3 b = some o := fun b o h1 h2 e => by rw [← hσ3, put_ne h1, put_ne h2]; exact e
  have gj : σ3 (W.ad j) = some (.inst C at1) := by rw [← hσ3, put_ne (Ne.symm mne), put_self]
  have gm : σ3 met = some (.list ((M ++ [j]).map fun j => Value.ref (W.ad j))) := by rw [← hσ3, put_self, List.map_append]; rfl
  have U : Up (Xs W met) σ σ3 := by
    rw [← hσ3]
    exact (Up.setI hat (.inr ⟨j, hcA, rfl⟩)).trans (Up.set (put_oth mne I.hmet) (.inl rfl) list_noInst)
  have gl : ∀ l vs, σ l = some (.list vs) → fp σ₀ l → σ3 l = some (.list vs) := fun l vs e hl => g _ _ (fun q => I.metF (q ▸ hl)) (fun q => by rw [q, hat] at e; cases e) e
  have node : ∀ i d, W.nd[i]? = some d → NodeAt P σ3 W i (mkOf (M ++ [j]) (updN m j a) i) d := fun i d e => by
    by_cases q : i = j
    · subst q
      rw [hj] at e; cases e
      have hmk : mkOf (M ++ [i]) (updN m i a) i = .ref a := by unfold mkOf; rw [if_pos (by simp), updN_self]
      have hmk0 : mkOf M m i = .none := if_neg hM
      rw [hmk]
      have N0 := I.node i nd hj
      rw [hmk0] at N0
      exact hN σ3 N0 gj fun vs hf hl => gl _ _ hl hf
    · have hmk : mkOf (M ++ [j]) (updN m j a) i = mkOf M m i := by
        unfold mkOf
        by_cases w : i ∈ M
        · rw [if_pos w, if_pos (by simp [w]), updN_ne q]
        · rw [if_neg w, if_neg (by simp [w, q])]
      rw [hmk]
      have N0 := I.node i d e
      have B0 := I.base i d e
      cases d with
      | num => trivial
      | sym => exact g _ _ (fun w => by have := N0; unfold NodeAt at this; rw [w, I.hmet] at this; cases this) (fun w => q (hW.inj i j _ _ e hj rfl (comp_notNum hc) w)) N0
      | ali =>
        obtain ⟨at_, h1, h2⟩ := N0
        exact ⟨at_, g _ _ (fun w => by rw [w, I.hmet] at h1; cases h1) (fun w => q (hW.inj i j _ _ e hj rfl (comp_notNum hc) w)) h1, h2⟩
      | txt cs => exact ⟨g _ _ (fun w => by have := N0.1; rw [w, I.hmet] at this; cases this) (fun w => q (hW.inj i j _ _ e hj rfl (comp_notNum hc) w)) N0.1, gl _ _ N0.2.1 (fp_self B0.2.1), N0.2.2⟩
      | pr p r => exact g _ _ (fun w => by have := N0; unfold NodeAt at this; rw [w, I.hmet] at this; cases this) (fun w => q (hW.inj i j _ _ e hj rfl (comp_notNum hc) w)) N0
      | vec ps => exact ⟨g _ _ (fun w => by have := N0.1; rw [w, I.hmet] at this; cases this) (fun w => q (hW.inj i j _ _ e hj rfl (comp_notNum hc) w)) N0.1, gl _ _ N0.2 (fp_self B0.2)⟩
  have mem : ∀ {i}, i ∈ M ++ [j] → i ∈ M ∨ i = j := fun h => by simpa using h
  have old : ∀ i ∈ M, updN m j a i = m i ∧ updX X j (.inst (P.c c) bt) i = X i := fun i hi => by
    have q : i ≠ j := fun q => hM (q ▸ hi)
    exact ⟨updN_ne q, updX_ne q⟩
  refine ⟨⟨I.base, gm, I.metF, node, fun i hi => ?_, fun i hi => ?_, ?_, fun i hi => ?_, fun i hi => ?_, fun i hi k hk e => ?_, fun b o e hb => ?_, fun b hb => U.fp b (I.fpm b hb)⟩, U, ⟨⟨[j], rfl, fun i hi => ?_⟩, old, fun _ => by simp⟩⟩
  · rcases mem hi with hi | rfl
    · rw [(old i hi).1, (old i hi).2]
      obtain ⟨c', at', e⟩ := I.isI i hi
      refine g _ _ (fun w => ?_) (fun w => I.fresh i hi (w ▸ f0)) (I.mate i hi)
      have := I.mate i hi
      rw [w, I.hmet, e] at this; cases this
    · rw [updN_self, updX_self]; exact g _ _ amet ane ha
  · rcases mem hi with hi | rfl
    · rw [(old i hi).2]; exact I.isI i hi
    · rw [updX_self]; exact ⟨_, _, rfl⟩
  · exact List.nodup_append.mpr ⟨I.nodup, by simp, fun x hx y hy => by simp at hy; subst hy; exact fun q => hM (q ▸ hx)⟩
  · rcases mem hi with hi | rfl
    · exact I.comp i hi
    · exact hcA
  · rcases mem hi with hi | rfl
    · rw [(old i hi).1]; exact I.fresh i hi
    · rw [updN_self]; exact haf
  · rcases mem hi with h1 | h1 <;> rcases mem hk with h2 | h2
    · rw [(old i h1).1, (old k h2).1] at e; exact I.inj i h1 k h2 e
    · subst h2; rw [(old i h1).1, updN_self] at e; exact absurd e (han i h1)
    · subst h1; rw [(old k h2).1, updN_self] at e; exact absurd e.symm (han k h2)
    · rw [h1, h2]
  · exact g b o (fun w => I.metF (w ▸ fp_self e)) (hb j hcA) (I.keep b o e hb)
  · simp only [List.mem_singleton] at hi
    subst hi
    refine ⟨rfl, nd, hj, ?_⟩
    rw [updX_self]
    exact hR.up fun l vs hl e => g _ _ hl.2 (fun q => hl.1 (q ▸ f0)) e
theorem fp_of {X : Addr → Prop} {σ' : AH} (U : Up X σ σ') {b : Addr} (h : fp σ b) : fp σ' b := U.fp b h
theorem nodup_le : ∀ (N : Nat) (l : List Nat), l.Nodup → (∀ x ∈ l, x < N) → l.length ≤ N
  | 0, l, _, h => by
    cases l with
    | nil => exact Nat.le_refl _
    | cons a r => exact absurd (h a (by simp)) (Nat.not_lt_zero _)
  | N + 1, l, nd, h => by
    by_cases hN : N ∈ l
    · have := nodup_le N (l.erase N) (nd.erase _) (fun x hx => by
        have h1 := h x (List.mem_of_mem_erase hx)
        have h2 : x ≠ N := fun q => by subst q; exact (List.Nodup.not_mem_erase nd) hx
        omega)
      rw [List.length_erase_of_mem hN] at this
      omega
    · have := nodup_le N l nd (fun x hx => by
        have h1 := h x hx
        have h2 : x ≠ N := fun q => hN (q ▸ hx)
        omega)
      omega
theorem M_le {P : Prg S} {σ₀ : AH} {W : Wd} {met : Addr} {M : List Nat} {m : Nat → Addr} {X : Nat → AObj} (hW : WOk W) (I : SI P σ₀ W met σ M m X) : M.length ≤ 9 :=
  Nat.le_trans (nodup_le _ M I.nodup fun i hi => by
    obtain ⟨nd, e, _⟩ := I.comp i hi
    exact (List.getElem?_eq_some_iff.mp e).1) hW.size
theorem ct_stripOne (P : Prg S) {σ₀ : AH} {W : Wd} {met : Addr} {M : List Nat} {m : Nat → Addr} {X : Nat → AObj} {j : Nat} {nd : Nd} (hW : WOk W) (hj : W.nd[j]? = some nd) (I : SI P σ₀ W met σ M m X)
    (h : ∀ σ' M' m' X', SI P σ₀ W met σ' M' m' X' → Up (Xs W met) σ σ' → Grow P σ₀ W met j M m X σ' M' m' X' → Q (W.mate m' j) σ') : CodeV S 3 σ (.ref (P.f .stripOne)) [W.val j, .ref met] Q := by
  refine CodeV.fn (d := dF .stripOne) ["datum", "met"] (P.fnF .stripOne) (by kernel_rfl) (fun pm cd raws hr => ?_) (fun pm cd L => ?_)
  · match raws, hr with
    | [x0, x1], _ => kernel_rfl
  · have r1 : rho0 ["datum", "met"] [W.val j, .ref met] "datum" = some (W.val j) := by kernel_rfl
    have r2 : rho0 ["datum", "met"] [W.val j, .ref met] "met" = some (.ref met) := by kernel_rfl
    generalize hρ : rho0 ["datum", "met"] [W.val j, .ref met] = ρ at r1 r2 ⊢
    have nocomp : nd.comp = false → W.compAt j → j ∈ M := fun h1 ⟨nd', e, h2⟩ => by rw [hj] at e; cases e; rw [h1] at h2; cases h2
    have N := I.node j nd hj
    have fin : ∀ σ', Up (fun _ => False) σ σ' → (W.compAt j → j ∈ M) → Q (W.mate m j) σ' := fun σ' U hM => h σ' M m X (I.up U) (U.mono fun _ q => q.elim) (.none hM)
    refine Ts.if1 ?_
    cases nd with
    | num =>
      have ev : W.val j = VI 7 := by unfold Wd.val; rw [hj]
      have em : W.mate m j = VI 7 := by unfold Wd.mate; rw [hj]
      rw [ev] at r1
      rw [em] at fin
      k_search "es"; k_search "isi"; k_search "es"
      refine ⟨by simp, fun t ht => ?_⟩
      k_search "es"
      refine CallV.isi3i (P := P) (put_self _ _ _) (Truthy.ofBool ?_)
      k_search "es"
      exact fin _ (Up.new ht) (nocomp rfl)
    | sym =>
      have ev : W.val j = .ref (W.ad j) := by unfold Wd.val; rw [hj]
      have em : W.mate m j = .ref (W.ad j) := by unfold Wd.mate; rw [hj]
      rw [ev] at r1
      rw [em] at fin
      have N' : σ (W.ad j) = some (.inst (P.c .Symbol) [("number", VI 0), ("text", VS "a")]) := N
      k_search "es"; k_search "isi"; k_search "es"
      refine ⟨by simp, fun t ht => ?_⟩
      k_search "es"
      refine CallV.isi3 (b := false) (put_old ht N') (put_self _ _ _) rfl (Truthy.ofBool ?_)
      k_search "es"
      exact fin _ (Up.new ht) (nocomp rfl)
    | ali =>
      have ev : W.val j = .ref (W.ad j) := by unfold Wd.val; rw [hj]
      have em : W.mate m j = .ref (W.ad 0) := by unfold Wd.mate; rw [hj]
      rw [ev] at r1
      rw [em] at fin
      obtain ⟨at_, N1, N2⟩ := N
      k_search "es"; k_search "isi"; k_search "es"
      refine AtV.of N1 (by kernel_rfl) N2 ?_
      exact fin _ Up.refl (nocomp rfl)
    | txt cs =>
      have ev : W.val j = .ref (W.ad j) := by unfold Wd.val; rw [hj]
      rw [ev] at r1
      by_cases hM : j ∈ M
      · have em : W.mate m j = .ref (m j) := by unfold Wd.mate; rw [hj]
        rw [em] at fin
        have N1 : σ (W.ad j) = some (.inst (P.c .Text) [("codes", .ref (W.la j)), ("mark", .ref (m j))]) := by have := N.1; unfold mkOf at this; rwa [if_pos hM] at this
        k_search "es"; k_search "isi"; k_search "es"
        refine ⟨by simp, fun t ht => ?_⟩
        k_search "es"
        refine CallV.isi3 (b := true) (put_old ht N1) (put_self _ _ _) rfl (Truthy.ofBool ?_)
        k_search "es"; k_search "at"; k_search "es"
        refine Cmp.isNone (Truthy.ofBool ?_)
        rw [show (Value.ref (m j) == Value.none) = false from rfl]
        k_search "es"; k_search "at"
        exact fin _ (Up.new ht) (fun _ => hM)
      · have N1 : σ (W.ad j) = some (.inst (P.c .Text) [("codes", .ref (W.la j)), ("mark", .none)]) := by have := N.1; unfold mkOf at this; rwa [if_neg hM] at this
        have em : ∀ a, W.mate (updN m j a) j = .ref a := fun a => by unfold Wd.mate; rw [hj]; show Value.ref (updN m j a j) = _; rw [updN_self]
        have mne : met ≠ W.ad j := fun q => by have := I.hmet; rw [q, N1] at this; cases this
        have hMl : (M.map fun j => Value.ref (W.ad j)).length ≤ 100000 := by rw [List.length_map]; exact Nat.le_trans (M_le hW I) (by decide)
        k_search "es"; k_search "isi"; k_search "es"
        refine ⟨by simp, fun t ht => ?_⟩
        k_search "es"
        refine CallV.isi3 (b := true) (put_old ht N1) (put_self _ _ _) rfl (Truthy.ofBool ?_)
        k_search "es"; k_search "at"; k_search "es"
        refine Cmp.isNone (Truthy.ofBool ?_)
        rw [show (Value.none == Value.none) = true from rfl]
        k_search "es"; k_search "isi"; k_search "es"
        refine Ts.asgA (P := P) (c := .Text) ?_ (by kernel_rfl) (by kernel_rfl) (by kernel_rfl)
        k_search "es"
        k_search "at"; k_search "es"
        have hl0 := put_old ht N.2.1 (x := .tuple [.ref (P.c .Pair), .ref (P.c .Vector), .ref (P.c .Text)])
        refine CallV.listOf hl0 (by have := N.2.2; rw [List.length_map]; omega) fun l hl => ?_
        k_search "es"
        refine (CallV.mkText P rfl fun x hxf => ?_).up (by decide)
        k_search "es"
        have U1 : Up (fun _ => False) σ _ := (Up.new ht).trans (Up.new (o := .list (cs.map VI)) hl)
        have U0 : Up (fun _ => False) σ _ := U1.trans (Up.new (o := .inst (P.c .Text) [("codes", .ref l), ("mark", .none)]) hxf)
        have hN := U0.get _ _ id N1
        have hm := U0.get _ _ id I.hmet
        refine ⟨_, _, rfl, hN, by kernel_rfl, rfl, rfl, ?_⟩
        k_search "es"
        refine MethV.list (vs := M.map fun j => .ref (W.ad j)) (put_oth mne hm) PySem.F.slot_list_append PySem.F.type_list_append ⟨Callee.builtin, ?_⟩
        k_search "es"
        refine CallV.append (vs := M.map fun j => .ref (W.ad j)) (put_oth mne hm) hMl ?_
        k_search "es"
        refine AtV.of (P := P) (c := .Text) (u := .ref x) (put_oth (Ne.symm mne) (put_self _ _ _)) (by kernel_rfl) (by kernel_rfl) ?_
        have J := SI.push (c := .Text) (bt := [("codes", .ref l), ("mark", .none)]) (a := x) (C := P.c .Text) (at0 := [("codes", .ref (W.la j)), ("mark", .none)]) (at1 := setA "mark" (.ref x) [("codes", .ref (W.la j)), ("mark", .none)]) hW hj rfl (I.up U0) hM (put_self _ _ _) (fun q => hxf (fp_of U1 (I.fpm _ q))) (fun i hi q => hxf (q ▸ fp_self (U1.get _ _ id (I.mate i hi)))) ⟨l, rfl, put_old hxf (put_self _ _ _), fun q => hl (fp_of (Up.new (X := fun _ => False) ht) (I.fpm _ q)), fun q => hl (q ▸ fp_self (put_old ht I.hmet))⟩ hN (fun σ' Nj e1 e2 => by
          have ea : setA "mark" (.ref x) ([("codes", .ref (W.la j)), ("mark", .none)] : List (Str × Value)) = ([("codes", .ref (W.la j)), ("mark", .ref x)] : List (Str × Value)) := by kernel_rfl
          rw [ea] at e1
          exact ⟨e1, e2 _ (fp_self (I.base j _ hj).2.1) Nj.2.1, Nj.2.2⟩)
        have H := h _ _ _ _ J.1 ((U0.mono fun _ q => q.elim).trans J.2.1) J.2.2
        rw [em x] at H
        exact H
    | pr p q =>
      have ev : W.val j = .ref (W.ad j) := by unfold Wd.val; rw [hj]
      rw [ev] at r1
      by_cases hM : j ∈ M
      · have em : W.mate m j = .ref (m j) := by unfold Wd.mate; rw [hj]
        rw [em] at fin
        have N1 : σ (W.ad j) = some (.inst (P.c .Pair) [("car", W.val p), ("cdr", W.val q), ("mark", .ref (m j))]) := by have := N; unfold mkOf at this; rwa [if_pos hM] at this
        k_search "es"; k_search "isi"; k_search "es"
        refine ⟨by simp, fun t ht => ?_⟩
        k_search "es"
        refine CallV.isi3 (b := true) (put_old ht N1) (put_self _ _ _) rfl (Truthy.ofBool ?_)
        k_search "es"; k_search "at"; k_search "es"
        refine Cmp.isNone (Truthy.ofBool ?_)
        rw [show (Value.ref (m j) == Value.none) = false from rfl]
        k_search "es"; k_search "at"
        exact fin _ (Up.new ht) (fun _ => hM)
      · have N1 : σ (W.ad j) = some (.inst (P.c .Pair) [("car", W.val p), ("cdr", W.val q), ("mark", .none)]) := by have := N; unfold mkOf at this; rwa [if_neg hM] at this
        have em : ∀ a, W.mate (updN m j a) j = .ref a := fun a => by unfold Wd.mate; rw [hj]; show Value.ref (updN m j a j) = _; rw [updN_self]
        have mne : met ≠ W.ad j := fun q => by have := I.hmet; rw [q, N1] at this; cases this
        have hMl : (M.map fun j => Value.ref (W.ad j)).length ≤ 100000 := by rw [List.length_map]; exact Nat.le_trans (M_le hW I) (by decide)
        k_search "es"; k_search "isi"; k_search "es"
        refine ⟨by simp, fun t ht => ?_⟩
        k_search "es"
        refine CallV.isi3 (b := true) (put_old ht N1) (put_self _ _ _) rfl (Truthy.ofBool ?_)
        k_search "es"; k_search "at"; k_search "es"
        refine Cmp.isNone (Truthy.ofBool ?_)
        rw [show (Value.none == Value.none) = true from rfl]
        k_search "es"; k_search "isi"; k_search "es"
        refine Ts.asgA (P := P) (c := .Pair) ?_ (by kernel_rfl) (by kernel_rfl) (by kernel_rfl)
        k_search "es"
        k_search "isi"; k_search "es"
        refine (CallV.mkPair P rfl rfl fun x hxf => ?_).up (by decide)
        k_search "es"
        have U1 : Up (fun _ => False) σ _ := Up.new (o := .tuple [.ref (P.c .Pair), .ref (P.c .Vector), .ref (P.c .Text)]) ht
        have U0 : Up (fun _ => False) σ _ := U1.trans (Up.new (o := .inst (P.c .Pair) [("car", .none), ("cdr", .none), ("mark", .none)]) hxf)
        have hN := U0.get _ _ id N1
        have hm := U0.get _ _ id I.hmet
        refine ⟨_, _, rfl, hN, by kernel_rfl, rfl, rfl, ?_⟩
        k_search "es"
        refine MethV.list (vs := M.map fun j => .ref (W.ad j)) (put_oth mne hm) PySem.F.slot_list_append PySem.F.type_list_append ⟨Callee.builtin, ?_⟩
        k_search "es"
        refine CallV.append (vs := M.map fun j => .ref (W.ad j)) (put_oth mne hm) hMl ?_
        k_search "es"
        refine AtV.of (P := P) (c := .Pair) (u := .ref x) (put_oth (Ne.symm mne) (put_self _ _ _)) (by kernel_rfl) (by kernel_rfl) ?_
        have J := SI.push (c := .Pair) (bt := [("car", .none), ("cdr", .none), ("mark", .none)]) (a := x) (C := P.c .Pair) (at0 := [("car", W.val p), ("cdr", W.val q), ("mark", .none)]) (at1 := setA "mark" (.ref x) [("car", W.val p), ("cdr", W.val q), ("mark", .none)]) hW hj rfl (I.up U0) hM (put_self _ _ _) (fun q => hxf (fp_of U1 (I.fpm _ q))) (fun i hi q => hxf (q ▸ fp_self (U1.get _ _ id (I.mate i hi)))) rfl hN (fun σ' Nj e1 e2 => by
          have ea : setA "mark" (.ref x) ([("car", W.val p), ("cdr", W.val q), ("mark", .none)] : List (Str × Value)) = ([("car", W.val p), ("cdr", W.val q), ("mark", .ref x)] : List (Str × Value)) := by kernel_rfl
          rw [ea] at e1
          exact e1)
        have H := h _ _ _ _ J.1 ((U0.mono fun _ q => q.elim).trans J.2.1) J.2.2
        rw [em x] at H
        exact H
    | vec ps =>
      have ev : W.val j = .ref (W.ad j) := by unfold Wd.val; rw [hj]
      rw [ev] at r1
      by_cases hM : j ∈ M
      · have em : W.mate m j = .ref (m j) := by unfold Wd.mate; rw [hj]
        rw [em] at fin
        have N1 : σ (W.ad j) = some (.inst (P.c .Vector) [("things", .ref (W.la j)), ("mark", .ref (m j))]) := by have := N.1; unfold mkOf at this; rwa [if_pos hM] at this
        k_search "es"; k_search "isi"; k_search "es"
        refine ⟨by simp, fun t ht => ?_⟩
        k_search "es"
        refine CallV.isi3 (b := true) (put_old ht N1) (put_self _ _ _) rfl (Truthy.ofBool ?_)
        k_search "es"; k_search "at"; k_search "es"
        refine Cmp.isNone (Truthy.ofBool ?_)
        rw [show (Value.ref (m j) == Value.none) = false from rfl]
        k_search "es"; k_search "at"
        exact fin _ (Up.new ht) (fun _ => hM)
      · have N1 : σ (W.ad j) = some (.inst (P.c .Vector) [("things", .ref (W.la j)), ("mark", .none)]) := by have := N.1; unfold mkOf at this; rwa [if_neg hM] at this
        have em : ∀ a, W.mate (updN m j a) j = .ref a := fun a => by unfold Wd.mate; rw [hj]; show Value.ref (updN m j a j) = _; rw [updN_self]
        have mne : met ≠ W.ad j := fun q => by have := I.hmet; rw [q, N1] at this; cases this
        have hMl : (M.map fun j => Value.ref (W.ad j)).length ≤ 100000 := by rw [List.length_map]; exact Nat.le_trans (M_le hW I) (by decide)
        k_search "es"; k_search "isi"; k_search "es"
        refine ⟨by simp, fun t ht => ?_⟩
        k_search "es"
        refine CallV.isi3 (b := true) (put_old ht N1) (put_self _ _ _) rfl (Truthy.ofBool ?_)
        k_search "es"; k_search "at"; k_search "es"
        refine Cmp.isNone (Truthy.ofBool ?_)
        rw [show (Value.none == Value.none) = true from rfl]
        k_search "es"; k_search "isi"; k_search "es"
        refine Ts.asgA (P := P) (c := .Vector) ?_ (by kernel_rfl) (by kernel_rfl) (by kernel_rfl)
        k_search "es"
        k_search "isi"; k_search "es"
        refine ⟨by simp, fun l hl => ?_⟩
        k_search "es"
        refine (CallV.mkVector P rfl fun x hxf => ?_).up (by decide)
        k_search "es"
        have U1 : Up (fun _ => False) σ _ := (Up.new ht).trans (Up.new (o := .list []) hl)
        have U0 : Up (fun _ => False) σ _ := U1.trans (Up.new (o := .inst (P.c .Vector) [("things", .ref l), ("mark", .none)]) hxf)
        have hN := U0.get _ _ id N1
        have hm := U0.get _ _ id I.hmet
        refine ⟨_, _, rfl, hN, by kernel_rfl, rfl, rfl, ?_⟩
        k_search "es"
        refine MethV.list (vs := M.map fun j => .ref (W.ad j)) (put_oth mne hm) PySem.F.slot_list_append PySem.F.type_list_append ⟨Callee.builtin, ?_⟩
        k_search "es"
        refine CallV.append (vs := M.map fun j => .ref (W.ad j)) (put_oth mne hm) hMl ?_
        k_search "es"
        refine AtV.of (P := P) (c := .Vector) (u := .ref x) (put_oth (Ne.symm mne) (put_self _ _ _)) (by kernel_rfl) (by kernel_rfl) ?_
        have J := SI.push (c := .Vector) (bt := [("things", .ref l), ("mark", .none)]) (a := x) (C := P.c .Vector) (at0 := [("things", .ref (W.la j)), ("mark", .none)]) (at1 := setA "mark" (.ref x) [("things", .ref (W.la j)), ("mark", .none)]) hW hj rfl (I.up U0) hM (put_self _ _ _) (fun q => hxf (fp_of U1 (I.fpm _ q))) (fun i hi q => hxf (q ▸ fp_self (U1.get _ _ id (I.mate i hi)))) ⟨l, rfl⟩ hN (fun σ' Nj e1 e2 => by
          have ea : setA "mark" (.ref x) ([("things", .ref (W.la j)), ("mark", .none)] : List (Str × Value)) = ([("things", .ref (W.la j)), ("mark", .ref x)] : List (Str × Value)) := by kernel_rfl
          rw [ea] at e1
          exact ⟨e1, e2 _ (fp_self (I.base j _ hj).2) Nj.2⟩)
        have H := h _ _ _ _ J.1 ((U0.mono fun _ q => q.elim).trans J.2.1) J.2.2
        rw [em x] at H
        exact H
end

section
variable {S : Stat} {n : Nat} {env : Env} {ρ : Str → Option Value} {σ : AH} {Q : Value → AH → Prop} {pos : Pos} {QS : Flow → (Str → Option Value) → AH → Prop} {rest : List PySem.Stmt}
  {P : Prg S} {σ₀ : AH} {W : Wd} {met : Addr} {M M' : List Nat} {m m' : Nat → Addr} {X X' : Nat → AObj} {σ' : AH} {R : Nat → Prop}

structure Evo (P : Prg S) (σ₀ : AH) (W : Wd) (met : Addr) (R : Nat → Prop) (σ : AH) (M : List Nat) (m : Nat → Addr) (X : Nat → AObj) (σ' : AH) (M' : List Nat) (m' : Nat → Addr) (X' : Nat → AObj) : Prop where
  new : ∃ nw, M' = M ++ nw ∧ ∀ i ∈ nw, R i ∧ ∃ nd, W.nd[i]? = some nd ∧ Raw P (FF σ₀ met) σ' nd (X' i)
  old : ∀ i ∈ M, m' i = m i ∧ X' i = X i
  up : Up (Xs W met) σ σ'
theorem Evo.refl : Evo P σ₀ W met R σ M m X σ M m X := ⟨⟨[], by simp, fun i hi => by cases hi⟩, fun i _ => ⟨rfl, rfl⟩, .refl⟩
theorem Grow.evo {j : Nat} (g : Grow P σ₀ W met j M m X σ' M' m' X') (U : Up (Xs W met) σ σ') (hR : R j) : Evo P σ₀ W met R σ M m X σ' M' m' X' := by
  obtain ⟨nw, e, h⟩ := g.new
  exact ⟨⟨nw, e, fun i hi => ⟨(h i hi).1 ▸ hR, (h i hi).2⟩⟩, g.old, U⟩
/-- what was made within the call is not what strip_one changes -/
theorem SI.ff (I : SI P σ₀ W met σ M m X) {l : Addr} (h : FF σ₀ met l) : ¬ Xs W met l := fun q => by
  rcases q with q | ⟨j, ⟨nd, e, hc⟩, q⟩
  · exact h.2 q
  · exact h.1 (q ▸ (I.base j nd e).fpA (comp_notNum hc))
theorem Evo.sub (e : Evo P σ₀ W met R σ M m X σ' M' m' X') : ∀ i ∈ M, i ∈ M' := fun i hi => by obtain ⟨nw, q, _⟩ := e.new; rw [q]; simp [hi]
theorem Evo.trans {σ'' : AH} {M'' : List Nat} {m'' : Nat → Addr} {X'' : Nat → AObj} (I : SI P σ₀ W met σ M m X) (a : Evo P σ₀ W met R σ M m X σ' M' m' X') (b : Evo P σ₀ W met R σ' M' m' X' σ'' M'' m'' X'') : Evo P σ₀ W met R σ M m X σ'' M'' m'' X'' := by
  obtain ⟨n1, e1, h1⟩ := a.new
  obtain ⟨n2, e2, h2⟩ := b.new
  refine ⟨⟨n1 ++ n2, by rw [e2, e1, List.append_assoc], fun i hi => ?_⟩, fun i hi => ?_, a.up.trans b.up⟩
  · rcases List.mem_append.mp hi with hi | hi
    · obtain ⟨r, nd, e, w⟩ := h1 i hi
      refine ⟨r, nd, e, ?_⟩
      rw [(b.old i (by rw [e1]; simp [hi])).2]
      exact w.up fun l vs hl => b.up.get _ _ (I.ff hl)
    · exact h2 i hi
  · exact ⟨(b.old i (a.sub i hi)).1.trans (a.old i hi).1, (b.old i (a.sub i hi)).2.trans (a.old i hi).2⟩
theorem Fill.evo {F : Addr → Prop} {nd : Nd} {o : AObj} (h : Fill P F σ W m M nd o) (h2 : ∀ l vs, F l → σ l = some (.list vs) → σ' l = some (.list vs)) (hm : ∀ i ∈ M, m' i = m i) (hs : ∀ i ∈ M, i ∈ M') : Fill P F σ' W m' M' nd o := by
  have hc : ∀ p, (W.compAt p → p ∈ M) → W.mate m p = W.mate m' p := fun p hp => Wd.mate_congr fun c => (hm p (hp c)).symm
  cases nd with
  | txt cs => obtain ⟨l, a, b, c⟩ := h; exact ⟨l, a, h2 _ _ c b, c⟩
  | pr p q => obtain ⟨a, b, c⟩ := h; exact ⟨by rw [a, hc p b, hc q c], fun x => hs _ (b x), fun x => hs _ (c x)⟩
  | vec ps =>
    obtain ⟨l, a, b, c, d⟩ := h
    refine ⟨l, a, ?_, c, fun p hp x => hs _ (d p hp x)⟩
    rw [List.map_congr_left fun p hp => hc p (d p hp)] at b
    exact h2 _ _ c b
  | sym => exact h
  | num => exact h
  | ali => exact h
/-- the things met, but the one in hand -/
def PX (P : Prg S) (σ₀ : AH) (W : Wd) (met : Addr) (σ : AH) (M : List Nat) (m : Nat → Addr) (X : Nat → AObj) (k : Nat) : Prop :=
  ∀ (i j : Nat), M[i]? = some j → i ≠ k → ∃ nd, W.nd[j]? = some nd ∧ (i < k → Fill P (FF σ₀ met) σ W m M nd (X j)) ∧ (k < i → Raw P (FF σ₀ met) σ nd (X j))
theorem PX.evo {k : Nat} (I : SI P σ₀ W met σ M m X) (h : PX P σ₀ W met σ M m X k) (e : Evo P σ₀ W met R σ M m X σ' M' m' X') (hk : k < M.length) : PX P σ₀ W met σ' M' m' X' k := fun i j hi hne => by
  obtain ⟨nw, q, hn⟩ := e.new
  rcases Nat.lt_or_ge i M.length with hl | hl
  · rw [q, List.getElem?_append_left hl] at hi
    obtain ⟨nd, a, b, c⟩ := h i j hi hne
    have hj := List.mem_of_getElem? hi
    rw [(e.old j hj).2]
    exact ⟨nd, a, fun x => (b x).evo (fun l vs hl => e.up.get _ _ (I.ff hl)) (fun i hi => (e.old i hi).1) e.sub, fun x => (c x).up fun l vs hl => e.up.get _ _ (I.ff hl)⟩
  · rw [q, List.getElem?_append_right hl] at hi
    obtain ⟨_, nd, a, b⟩ := hn j (List.mem_of_getElem? hi)
    exact ⟨nd, a, fun x => (by omega), fun _ => b⟩
/-- a mate in hand is written -/
theorem SI.setX (hW : WOk W) (I : SI P σ₀ W met σ M m X) {j : Nat} (hj : j ∈ M) {c : Cl} {at_ at' : List (Str × Value)} (hX : X j = .inst (P.c c) at_) :
    SI P σ₀ W met (put σ (m j) (.inst (P.c c) at')) M m (updX X j (.inst (P.c c) at')) := by
  have hs := I.mate j hj
  rw [hX] at hs
  have g : ∀ b o, b ≠ m j → σ b = some o → put σ (m j) (.inst (P.c c) at') b = some o := fun b o h e => put_oth h e
  have nl : ∀ l vs, σ l = some (.list vs) → l ≠ m j := fun l vs e q => by rw [q, hs] at e; cases e
  have f0 : ∀ b, fp σ₀ b → b ≠ m j := fun b hb q => I.fresh j hj (q ▸ hb)
  refine ⟨I.base, g _ _ (nl _ _ I.hmet) I.hmet, I.metF, fun i d e => ?_, fun i hi => ?_, fun i hi => ?_, I.nodup, I.comp, I.fresh, I.inj, fun b o e hb => g b o (f0 b (fp_self e)) (I.keep b o e hb), fun b hb => (Up.setI (X := fun _ => True) hs trivial).fp b (I.fpm b hb)⟩
  · have N := I.node i d e
    by_cases hn : d.isNum = true
    · cases d <;> first | trivial | cases hn
    · have hn' : d.isNum = false := by simpa using hn
      exact N.up (fun o e' => g _ _ (f0 _ ((I.base i d e).fpA hn')) e') fun vs e' => g _ _ (nl _ _ e') e'
  · by_cases q : i = j
    · subst q; rw [put_self, updX_self]
    · rw [updX_ne q]; exact g _ _ (fun w => q (I.inj i hi j hj w)) (I.mate i hi)
  · by_cases q : i = j
    · subst q; rw [updX_self]; exact ⟨_, _, rfl⟩
    · rw [updX_ne q]; exact I.isI i hi
theorem PX.setX {k : Nat} (I : SI P σ₀ W met σ M m X) (h : PX P σ₀ W met σ M m X k) {j : Nat} (hj : M[k]? = some j) {c : Cl} {at_ at' : List (Str × Value)} (hX : X j = .inst (P.c c) at_) : PX P σ₀ W met (put σ (m j) (.inst (P.c c) at')) M m (updX X j (.inst (P.c c) at')) k := fun i i' hi hne => by
  have hs := I.mate j (List.mem_of_getElem? hj)
  rw [hX] at hs
  have nl : ∀ l vs, σ l = some (.list vs) → put σ (m j) (.inst (P.c c) at') l = some (.list vs) := fun l vs e => put_oth (fun q => by rw [q, hs] at e; cases e) e
  have q : i' ≠ j := fun q => by
    subst q
    exact hne ((List.getElem?_inj (List.getElem?_eq_some_iff.mp hi).1 I.nodup).mp (hi.trans hj.symm))
  rw [updX_ne q]
  obtain ⟨nd, a, b, c'⟩ := h i i' hi hne
  exact ⟨nd, a, fun x => (b x).evo (fun l vs _ => nl l vs) (fun _ _ => rfl) (fun _ h => h), fun x => (c' x).up fun l vs _ => nl l vs⟩
theorem PX.step {k j : Nat} {nd : Nd} (h : PX P σ₀ W met σ M m X k) (hj : M[k]? = some j) (hn : W.nd[j]? = some nd) (hf : Fill P (FF σ₀ met) σ W m M nd (X j)) :
    PX P σ₀ W met σ M m X (k + 1) ∧ ∀ j', M[k + 1]? = some j' → ∃ nd, W.nd[j']? = some nd ∧ Raw P (FF σ₀ met) σ nd (X j') := by
  refine ⟨fun i i' hi hne => ?_, fun j' hj' => ?_⟩
  · by_cases q : i = k
    · subst q
      rw [hj] at hi; cases hi
      exact ⟨nd, hn, fun _ => hf, fun x => by omega⟩
    · obtain ⟨nd', a, b, c⟩ := h i i' hi q
      exact ⟨nd', a, fun x => b (by omega), fun x => c (by omega)⟩
  · obtain ⟨nd', a, _, c⟩ := h (k + 1) j' hj' (by omega)
    exact ⟨nd', a, c (by omega)⟩

theorem evo_raise {m1 m2 : Nat → Addr} {k : Nat} (hk : W.compAt k → k ∈ M) (h : ∀ i ∈ M, m2 i = m1 i) : W.mate m2 k = W.mate m1 k := Wd.mate_congr fun c => h k (hk c)

theorem mkBlock {env : Env} {scope : Scope} {cl : List (Str × Addr)} (h1 : closureFor scope env = pure cl) (h2 : scope.kind = .function) (h3 : ∀ x ∈ scope.names, x.2 = .local → scope.names.lookup x.1 = some .local) (h4 : ∀ y ∈ scope.names, y.2 ≠ .cell) (h5 : ∀ x c, cl.lookup x = some c → env.cells.lookup x = some c)
    (h6 : cl.Pairwise fun x y => x.2 ≠ y.2) (h7 : (cl.all fun p => scope.names.lookup p.1 != some .local) = true) : BlockOk env scope cl := ⟨h1, h2, h3, h4, h5, h6, fun x hx => by
  cases e : cl.lookup x with
  | none => rfl
  | some a => have := List.all_eq_true.mp h7 _ (mem_of_lookup e); rw [hx] at this; simp at this⟩
theorem notLocal {env : Env} {x : Str} {k : NameKind} (e : env.kindOf x = some k) (h : k ≠ .local) : env.kindOf x ≠ some .local := by rw [e]; simpa using h
theorem mate_handed {m1 : Nat → Addr} {p : Nat} {d : Nd} (hp : W.nd[p]? = some d) : handedIn (W.mate m1 p) = true := by
  unfold Wd.mate; rw [hp]; cases d <;> rfl
theorem mem_idx {nw : List Nat} {k j : Nat} (e : M' = M ++ nw) (h : M[k]? = some j) : M'[k]? = some j := by
  rw [e, List.getElem?_append_left (List.getElem?_eq_some_iff.mp h).1]; exact h
theorem Evo.idx {k j : Nat} (e : Evo P σ₀ W met R σ M m X σ' M' m' X') (h : M[k]? = some j) : M'[k]? = some j := by obtain ⟨nw, q, _⟩ := e.new; exact mem_idx q h
theorem Evo.len (e : Evo P σ₀ W met R σ M m X σ' M' m' X') : M.length ≤ M'.length := by obtain ⟨nw, q, _⟩ := e.new; rw [q, List.length_append]; omega
theorem node_mark {j : Nat} (hj : j ∈ M) : mkOf M m j = .ref (m j) := if_pos hj
/-- the state of strip's while -/
structure LI (P : Prg S) (σ₀ : AH) (W : Wd) (met : Addr) (k0 : Nat) (v : Value) (k : Nat) (σ : AH) (M : List Nat) (m : Nat → Addr) (X : Nat → AObj) : Prop where
  si : SI P σ₀ W met σ M m X
  px : PX P σ₀ W met σ M m X k
  raw : ∀ j, M[k]? = some j → ∃ nd, W.nd[j]? = some nd ∧ Raw P (FF σ₀ met) σ nd (X j)
  le : k ≤ M.length
  root : W.compAt k0 → k0 ∈ M
  val : v = W.mate m k0

theorem node_of (hW : WOk W) {j : Nat} {nd : Nd} (hj : W.nd[j]? = some nd) {p : Nat} (hp : p ∈ nd.parts) : ∃ d, W.nd[p]? = some d := ⟨W.nd[p]'(hW.part j nd hj p hp), List.getElem?_eq_getElem _⟩

/-- what strip leaves: the met things M, fresh mates m, what they are X -/
structure Iso (P : Prg S) (σ₀ : AH) (W : Wd) (k0 : Nat) (σ' : AH) (M : List Nat) (m : Nat → Addr) (X : Nat → AObj) : Prop where
  up : Up (fun _ => False) σ₀ σ'
  mate : ∀ j ∈ M, σ' (m j) = some (X j)
  isI : ∀ j ∈ M, ∃ c at_, X j = .inst (P.c c) at_
  fill : ∀ j ∈ M, ∃ nd, W.nd[j]? = some nd ∧ Fill P (fun b => ¬ fp σ₀ b) σ' W m M nd (X j)
  fresh : ∀ j ∈ M, ¬ fp σ₀ (m j)
  inj : ∀ i ∈ M, ∀ j ∈ M, m i = m j → i = j
  root : W.compAt k0 → k0 ∈ M
def XM (W : Wd) (b : Addr) : Prop := ∃ j, W.compAt j ∧ b = W.ad j
theorem mkOf_drop_other {i j k : Nat} (h : M[i]? = some j) (hne : k ≠ j) : mkOf (M.drop i) m k = mkOf (M.drop (i + 1)) m k := by
  have e : M.drop i = j :: M.drop (i + 1) := by
    have := List.getElem?_eq_some_iff.mp h
    rw [List.drop_eq_getElem_cons this.1, this.2]
  unfold mkOf
  rw [e]
  simp only [List.mem_cons, hne, false_or]
theorem mkOf_drop_self {i j : Nat} (nd : M.Nodup) (h : M[i]? = some j) : mkOf (M.drop (i + 1)) m j = .none := by
  unfold mkOf
  rw [if_neg]
  intro q
  obtain ⟨k, hk⟩ := List.mem_iff_getElem?.mp q
  rw [List.getElem?_drop] at hk
  have := (List.getElem?_inj (List.getElem?_eq_some_iff.mp h).1 nd).mp (h.trans hk.symm)
  omega
theorem unmark (hW : WOk W) (I : SI P σ₀ W met σ M m X) {i j : Nat} {nd : Nd} (hi : M[i]? = some j) (hj : W.nd[j]? = some nd) (hc : nd.comp = true) {σ2 : AH} (N : ∀ k d, W.nd[k]? = some d → NodeAt P σ2 W k (mkOf (M.drop i) m k) d) {C : Addr} {at0 at1 : List (Str × Value)} (hat : σ2 (W.ad j) = some (.inst C at0))
    (hN : (∀ vs, σ2 (W.la j) = some (.list vs) → put σ2 (W.ad j) (.inst C at1) (W.la j) = some (.list vs)) → NodeAt P (put σ2 (W.ad j) (.inst C at1)) W j .none nd) :
    (∀ k d, W.nd[k]? = some d → NodeAt P (put σ2 (W.ad j) (.inst C at1)) W k (mkOf (M.drop (i + 1)) m k) d) ∧ Up (XM W) σ2 (put σ2 (W.ad j) (.inst C at1)) := by
  have nl : ∀ l vs, σ2 l = some (.list vs) → put σ2 (W.ad j) (.inst C at1) l = some (.list vs) := fun l vs e => put_oth (fun q => by rw [q, hat] at e; cases e) e
  refine ⟨fun k d hk => ?_, Up.setI hat ⟨j, ⟨nd, hj, hc⟩, rfl⟩⟩
  by_cases q : k = j
  · subst q
    rw [hj] at hk; cases hk
    rw [mkOf_drop_self I.nodup hi]
    exact hN fun vs => nl _ vs
  · have N0 := N k d hk
    rw [mkOf_drop_other hi q] at N0
    by_cases hn : d.isNum = true
    · cases d <;> first | trivial | cases hn
    · have hn' : d.isNum = false := by simpa using hn
      exact N0.up (fun o e => put_oth (fun w => q (hW.inj k j d nd hk hj hn' (comp_notNum hc) w)) e) fun vs => nl _ vs
theorem node_obj {j : Nat} {nd : Nd} {mk : Value} {σ2 : AH} {o : AObj} (hc : nd.comp = true) (N : NodeAt P σ W j mk nd) (N2 : NodeAt P σ2 W j mk nd) (h : σ (W.ad j) = some o) : σ2 (W.ad j) = some o := by
  cases nd with
  | sym => cases hc
  | num => cases hc
  | ali => cases hc
  | txt cs => have := N.1; rw [h] at this; cases this; exact N2.1
  | pr p q => have N' : σ (W.ad j) = some _ := N; rw [h] at N'; cases N'; exact N2
  | vec ps => have := N.1; rw [h] at this; cases this; exact N2.1
/-- the marks are taken away -/
theorem iso_end (I : SI P σ₀ W met σ M m X) {k0 : Nat} (hr : W.compAt k0 → k0 ∈ M) (hf : ∀ j ∈ M, ∃ nd, W.nd[j]? = some nd ∧ Fill P (FF σ₀ met) σ W m M nd (X j)) {σ2 : AH} (U : Up (XM W) σ σ2) (N : ∀ k d, W.nd[k]? = some d → NodeAt P σ2 W k .none d) : Iso P σ₀ W k0 σ2 M m X := by
  have nx : ∀ b, ¬ fp σ₀ b → ¬ XM W b := fun b hb ⟨j, ⟨nd, e, hc⟩, q⟩ => hb (q ▸ (I.base j nd e).fpA (comp_notNum hc))
  refine ⟨⟨fun b o _ e => ?_, fun b hb => U.fp b (I.fpm b hb)⟩, fun j hj => U.get _ _ (nx _ (I.fresh j hj)) (I.mate j hj), I.isI, fun j hj => ?_, I.fresh, I.inj, hr⟩
  · by_cases q : XM W b
    · obtain ⟨j, ⟨nd, hj, hc⟩, rfl⟩ := q
      exact node_obj hc (I.base j nd hj) (N j nd hj) e
    · exact U.get b o q (I.keep b o e fun j hj w => q ⟨j, hj, w⟩)
  · obtain ⟨nd, e, f⟩ := hf j hj
    refine ⟨nd, e, ?_⟩
    have f' := f.evo (σ' := σ2) (m' := m) (M' := M) (fun l vs hl => U.get _ _ (nx _ hl.1)) (fun _ _ => rfl) (fun _ h => h)
    cases nd with
    | sym => exact f'
    | num => exact f'
    | ali => exact f'
    | txt cs => obtain ⟨l, a, b, c⟩ := f'; exact ⟨l, a, b, c.1⟩
    | pr p q => exact f'
    | vec ps => obtain ⟨l, a, b, c, d⟩ := f'; exact ⟨l, a, b, c.1, d⟩

theorem ct_strip (P : Prg S) {σ₀ : AH} {W : Wd} {k0 : Nat} {nd0 : Nd} (hW : WOk W) (hk0 : W.nd[k0]? = some nd0) (B : ∀ j nd, W.nd[j]? = some nd → NodeAt P σ₀ W j .none nd)
    (h : ∀ σ' M m X, Iso P σ₀ W k0 σ' M m X → Q (W.mate m k0) σ') : CodeV S 4 σ₀ (.ref (P.f .strip)) [W.val k0] Q := by
  refine CodeV.fn (d := dF .strip) ["datum"] (P.fnF .strip) (by kernel_rfl) (fun pm cd raws hr => ?_) (fun pm cd L => ?_)
  · match raws, hr with
    | [x0], _ => kernel_rfl
  · have r1 : rho0 ["datum"] [W.val k0] "datum" = some (W.val k0) := by kernel_rfl
    generalize hρ : rho0 ["datum"] [W.val k0] = ρ at r1 ⊢
    refine Ts.asgN ?_ (by kernel_rfl) (by kernel_rfl) (by kernel_rfl) (by kernel_rfl)
    k_search "es"
    refine ⟨by simp, fun met hmet => ?_⟩
    k_search "es"
    have I0 : SI P σ₀ W met (put σ₀ met (.list [])) [] (fun _ => 0) (fun _ => .list []) :=
      ⟨B, put_self _ _ _, hmet, fun j nd e => (B j nd e).up (fun o e' => put_old hmet e') (fun vs e' => put_old hmet e'), fun j hj => (by cases hj), fun j hj => (by cases hj), List.nodup_nil, fun j hj => (by cases hj), fun j hj => (by cases hj), fun j hj => (by cases hj), fun b o e _ => put_old hmet e, fun b hb => (Up.new (X := fun _ => True) hmet).fp b hb⟩
    refine CallV.of_code ((ct_stripOne P hW hk0 I0 fun σ1 M1 m1 X1 I1 U1 G1 => ?_).up (by decide))
    k_search "es"
    generalize hv : W.mate m1 k0 = v
    have q1 : (setv (setv (setv ρ "met" (.ref met)) "found" v) "at" (VI 0)) "met" = some (.ref met) := by k_search "rho"
    have q2 : (setv (setv (setv ρ "met" (.ref met)) "found" v) "at" (VI 0)) "found" = some v := by k_search "rho"
    have q3 : (setv (setv (setv ρ "met" (.ref met)) "found" v) "at" (VI 0)) "at" = some (VI 0) := by k_search "rho"
    generalize (setv (setv (setv ρ "met" (.ref met)) "found" v) "at" (VI 0)) = ρ1 at q1 q2 q3 ⊢
    refine Ts.while1 (fun k ρ' σ' => ∃ at_ M m X, LI P σ₀ W met k0 v at_ σ' M m X ∧ k = 10 - at_ ∧ ρ' "met" = some (.ref met) ∧ ρ' "found" = some v ∧ ρ' "at" = some (VI (at_ : Nat))) (k₀ := 10) ⟨0, M1, m1, X1, ?_, rfl, q1, q2, q3⟩ ?_
    · obtain ⟨nw, e, hn⟩ := G1.new
      rw [List.nil_append] at e
      subst e
      have raw : ∀ i j, M1[i]? = some j → ∃ nd, W.nd[j]? = some nd ∧ Raw P (FF σ₀ met) σ1 nd (X1 j) := fun i j hj => (hn j (List.mem_of_getElem? hj)).2
      exact ⟨I1, fun i j hi hne => by obtain ⟨nd, a, b⟩ := raw i j hi; exact ⟨nd, a, fun x => by omega, fun _ => b⟩, fun j hj => raw 0 j hj, Nat.zero_le _, G1.has, hv.symm⟩
    · rintro k ρ' σ' ⟨at_, M, m, X, I, rfl, q1, q2, q3⟩
      k_search "es"
      refine CallV.len I.si.hmet (by rw [List.length_map]; exact Nat.le_trans (M_le hW I.si) (by decide)) ?_
      k_search "es"
      refine Cmp.ltI (Truthy.ofBool ?_)
      rw [List.length_map]
      by_cases hlt : at_ < M.length
      · rw [decide_eq_true (by omega : (at_ : Int) < (M.length : Int))]
        obtain ⟨j, hj⟩ : ∃ j, M[at_]? = some j := ⟨M[at_], List.getElem?_eq_getElem hlt⟩
        have hjM := List.mem_of_getElem? hj
        k_search "es"
        refine SubV.list (k := at_) (v := .ref (W.ad j)) I.si.hmet (by rw [List.getElem?_map, hj]; rfl) (by rw [List.length_map]; exact Nat.le_trans (M_le hW I.si) (by decide)) ?_ (fun o i => ⟨_, rfl⟩)
        k_search "es"
        have hM9 := M_le hW I.si
        have fin : ∀ σ2 M2 m2 X2 (ρ2 : Str → Option Value), SI P σ₀ W met σ2 M2 m2 X2 → (PX P σ₀ W met σ2 M2 m2 X2 (at_ + 1) ∧ ∀ j', M2[at_ + 1]? = some j' → ∃ nd, W.nd[j']? = some nd ∧ Raw P (FF σ₀ met) σ2 nd (X2 j')) → M.length ≤ M2.length → (∀ i ∈ M, m2 i = m i ∧ i ∈ M2) → ρ2 "met" = some (.ref met) → ρ2 "found" = some v → ρ2 "at" = some (VI (at_ + 1)) →
            ∃ k', k' < 10 - at_ ∧ ∃ at_ M m X, LI P σ₀ W met k0 v at_ σ2 M m X ∧ k' = 10 - at_ ∧ ρ2 "met" = some (.ref met) ∧ ρ2 "found" = some v ∧ ρ2 "at" = some (VI (at_ : Nat)) :=
          fun σ2 M2 m2 X2 ρ2 J1 J2 hl hs h1 h2 h3 => ⟨10 - (at_ + 1), by omega, at_ + 1, M2, m2, X2, ⟨J1, J2.1, J2.2, by omega, fun c => (hs k0 (I.root c)).2, I.val.trans (evo_raise I.root fun i hi => (hs i hi).1).symm⟩, rfl, h1, h2, by rw [h3]; rfl⟩
        obtain ⟨nd, hn, hR⟩ := I.raw j hj
        have N := I.si.node j nd hn
        rw [node_mark hjM] at N
        cases nd with
        | sym => exact hR.elim
        | num => exact hR.elim
        | ali => exact hR.elim
        | txt cs =>
          have N1 := N.1
          k_search "isi"; k_search "es"; k_search "isi"; k_search "es"
          refine Bin.add ?_
          k_search "es"
          refine Ts.nil1 ?_
          exact fin _ M m X _ I.si (I.px.step hj hn hR) (Nat.le_refl _) (fun i hi => ⟨rfl, hi⟩) (by k_search "rho") (by k_search "rho") (by k_search "rho")
        | pr p q =>
          have N1 : σ' (W.ad j) = some (.inst (P.c .Pair) [("car", W.val p), ("cdr", W.val q), ("mark", .ref (m j))]) := N
          obtain ⟨dp, hp⟩ := node_of hW hn (p := p) (by simp [Nd.parts])
          obtain ⟨dq, hq⟩ := node_of hW hn (p := q) (by simp [Nd.parts])
          have hX : X j = .inst (P.c .Pair) [("car", .none), ("cdr", .none), ("mark", .none)] := hR
          k_search "isi"; k_search "es"
          refine Ts.asgA (P := P) (c := .Pair) ?_ (by kernel_rfl) (by kernel_rfl) (by kernel_rfl)
          k_search "es"; k_search "at"; k_search "es"
          refine CallV.of_code (ct_stripOne P hW hp I.si fun σ2 M2 m2 X2 I2 U2 G2 => ?_)
          have E2 : Evo P σ₀ W met (fun _ => True) σ' M m X σ2 M2 m2 X2 := G2.evo U2 trivial
          have hj2 := E2.idx hj
          have hjM2 := List.mem_of_getElem? hj2
          have N2 : σ2 (W.ad j) = some (.inst (P.c .Pair) [("car", W.val p), ("cdr", W.val q), ("mark", .ref (m2 j))]) := by have := I2.node j _ hn; rw [node_mark hjM2] at this; exact this
          have hX2 := (E2.old j hjM).2.trans hX
          have hm2 := I2.mate j hjM2
          rw [hX2] at hm2
          k_search "es"; k_search "at"
          refine ⟨_, _, rfl, hm2, by kernel_rfl, mate_handed hp, by kernel_rfl, ?_⟩
          have I3 := I2.setX hW hjM2 hX2 (at' := setA "car" (W.mate m2 p) [("car", .none), ("cdr", .none), ("mark", .none)])
          have P3 := (I.px.evo I.si E2 hlt).setX I2 hj2 hX2 (at' := setA "car" (W.mate m2 p) [("car", .none), ("cdr", .none), ("mark", .none)])
          have N3 := put_oth (x := .inst (P.c .Pair) (setA "car" (W.mate m2 p) [("car", .none), ("cdr", .none), ("mark", .none)])) (fun e : W.ad j = m2 j => I2.fresh j hjM2 (e ▸ (I.si.base j _ hn).fpA rfl)) N2
          refine Ts.asgA (P := P) (c := .Pair) ?_ (by kernel_rfl) (by kernel_rfl) (by kernel_rfl)
          k_search "es"
          refine AtV.of N3 (by kernel_rfl) (by k_search "lk") ?_
          k_search "es"
          refine CallV.of_code (ct_stripOne P hW hq I3 fun σ4 M4 m4 X4 I4 U4 G4 => ?_)
          have E4 : Evo P σ₀ W met (fun _ => True) _ M2 m2 _ σ4 M4 m4 X4 := G4.evo U4 trivial
          have hj4 := E4.idx hj2
          have hjM4 := List.mem_of_getElem? hj4
          have N4 : σ4 (W.ad j) = some (.inst (P.c .Pair) [("car", W.val p), ("cdr", W.val q), ("mark", .ref (m4 j))]) := by have := I4.node j _ hn; rw [node_mark hjM4] at this; exact this
          have hX4 := (E4.old j hjM2).2.trans updX_self
          have hm4 := I4.mate j hjM4
          rw [hX4] at hm4
          k_search "es"; k_search "at"
          refine ⟨_, _, rfl, hm4, by kernel_rfl, mate_handed hq, by kernel_rfl, ?_⟩
          have I5 := I4.setX hW hjM4 hX4 (at' := setA "cdr" (W.mate m4 q) (setA "car" (W.mate m2 p) [("car", .none), ("cdr", .none), ("mark", .none)]))
          have P5 := (P3.evo I3 E4 (Nat.lt_of_lt_of_le hlt E2.len)).setX I4 hj4 hX4 (at' := setA "cdr" (W.mate m4 q) (setA "car" (W.mate m2 p) [("car", .none), ("cdr", .none), ("mark", .none)]))
          have ea : setA "cdr" (W.mate m4 q) (setA "car" (W.mate m2 p) ([("car", .none), ("cdr", .none), ("mark", .none)] : List (Str × Value))) = ([("car", W.mate m2 p), ("cdr", W.mate m4 q), ("mark", .none)] : List (Str × Value)) := by kernel_rfl
          k_search "es"
          refine Bin.add ?_
          k_search "es"
          refine Ts.nil1 ?_
          refine fin _ M4 m4 _ _ I5 (P5.step hj4 hn ?_) (Nat.le_trans E2.len E4.len) (fun i hi => ⟨(E4.old i (E2.sub i hi)).1.trans (E2.old i hi).1, E4.sub i (E2.sub i hi)⟩) (by k_search "rho") (by k_search "rho") (by k_search "rho")
          rw [updX_self, ea]
          exact ⟨by rw [evo_raise (m2 := m4) (m1 := m2) G2.has fun i hi => (E4.old i hi).1], fun c => E4.sub p (G2.has c), G4.has⟩
        | vec ps =>
          have N1 := N.1
          k_search "isi"; k_search "es"; k_search "isi"; k_search "es"
          refine Ts.asgA (P := P) (c := .Vector) ?_ (by kernel_rfl) (by kernel_rfl) (by kernel_rfl)
          refine Ev.comp [("met", L + 1)] (fun i acc σ'' => ∃ M' m' X', SI P σ₀ W met σ'' M' m' X' ∧ Evo P σ₀ W met (fun _ => True) σ' M m X σ'' M' m' X' ∧ i ≤ ps.length ∧ acc = (ps.take i).map (W.mate m') ∧ ∀ p ∈ ps.take i, W.compAt p → p ∈ M') ps.length ?_ (by kernel_rfl) ?_ (fun _ => rfl)
          · exact mkBlock rfl (by kernel_rfl) (by decide +kernel) (by decide +kernel) (fun x c e => e) (by simp) (by kernel_rfl)
          have hps : ps.length ≤ 2 := hW.few j _ hn
          k_search "es"; k_search "at"
          refine PyIt.list N.2 ⟨⟨M, m, X, I.si, .refl, Nat.zero_le _, rfl, by simp⟩, ?_⟩
          rintro i acc σ'' ⟨M', m', X', I', E', hi, rfl, hcl⟩
          have N' := I'.node j _ hn
          have hj' := E'.idx hj
          have hjM' := List.mem_of_getElem? hj'
          rw [node_mark hjM'] at N'
          refine ⟨hi, by rw [List.length_map, List.length_take]; omega, (ps.map W.val)[i]?, ⟨_, N'.2, rfl⟩, ?_⟩
          rw [List.getElem?_map]
          cases e : ps[i]? with
          | some p =>
            obtain ⟨dp, hp⟩ := node_of hW hn (p := p) (List.mem_of_getElem? e)
            have e' := List.getElem?_eq_some_iff.mp e
            intro C ρc hc1 hc2
            have hc3 := (hc2 "met" (notLocal (k := .cell) (by kernel_rfl) (by decide))).trans (by k_search "rho" : setv ρ' "own" (.ref (W.ad j)) "met" = some (.ref met))
            k_search "es"
            refine CallV.of_code (ct_stripOne P hW hp I' fun σ3 M3 m3 X3 I3 U3 G3 => ?_)
            have E3 : Evo P σ₀ W met (fun _ => True) σ'' M' m' X' σ3 M3 m3 X3 := G3.evo U3 trivial
            refine ⟨M3, m3, X3, I3, E'.trans I.si E3, e'.1, ?_, fun p' hp' c => ?_⟩
            · rw [List.take_add_one, e, List.map_append]
              congr 1
              exact List.map_congr_left fun p' hp' => (evo_raise (hcl p' hp') fun i hi => (E3.old i hi).1).symm
            · rw [List.take_add_one, e] at hp'
              rcases List.mem_append.mp hp' with h1 | h1
              · exact E3.sub _ (hcl p' h1 c)
              · have : p' = p := by simpa using h1
                subst this; exact G3.has c
          | none =>
            have hie : ps.length ≤ i := List.getElem?_eq_none_iff.mp e
            rw [List.take_of_length_le hie] at hcl ⊢
            intro l hl
            have I2 := I'.up (Up.new (o := .list (ps.map (W.mate m'))) hl)
            have hX' := (E'.old j hjM).2
            obtain ⟨l0, hX0⟩ : ∃ l0, X j = .inst (P.c .Vector) [("things", .ref l0), ("mark", .none)] := hR
            rw [hX0] at hX'
            have hm2 := I2.mate j hjM'
            rw [hX'] at hm2
            have N2 := put_old (x := .list (ps.map (W.mate m'))) hl N'.1
            k_search "es"; k_search "at"
            refine ⟨_, _, rfl, hm2, by kernel_rfl, rfl, by kernel_rfl, ?_⟩
            have I5 := I2.setX hW hjM' hX' (at' := setA "things" (.ref l) [("things", .ref l0), ("mark", .none)])
            have E2 : Evo P σ₀ W met (fun _ => True) σ' M m X _ M' m' X' := E'.trans I.si (⟨⟨[], by simp, fun i hi => by cases hi⟩, fun i _ => ⟨rfl, rfl⟩, Up.new (o := .list (ps.map (W.mate m'))) hl⟩ : Evo P σ₀ W met (fun _ => True) σ'' M' m' X' _ M' m' X')
            have P5 := (I.px.evo I.si E2 hlt).setX I2 hj' hX' (at' := setA "things" (.ref l) [("things", .ref l0), ("mark", .none)])
            have ea : setA "things" (.ref l) ([("things", .ref l0), ("mark", .none)] : List (Str × Value)) = ([("things", .ref l), ("mark", .none)] : List (Str × Value)) := by kernel_rfl
            k_search "es"
            refine Bin.add ?_
            k_search "es"
            refine Ts.nil1 ?_
            refine fin _ M' m' _ _ I5 (P5.step hj' hn ?_) E'.len (fun i hi => ⟨(E'.old i hi).1, E'.sub i hi⟩) (by k_search "rho") (by k_search "rho") (by k_search "rho")
            rw [updX_self, ea]
            have hlm : m' j ≠ l := fun q => hl (q ▸ fp_self (I'.mate j hjM'))
            refine ⟨l, rfl, ?_, ⟨fun q => hl (I'.fpm _ q), fun q => hl (q ▸ fp_self I'.hmet)⟩, hcl⟩
            exact put_oth (Ne.symm hlm) (put_self _ _ _)
      · rw [decide_eq_false (by omega : ¬ (at_ : Int) < (M.length : Int))]
        have hat : at_ = M.length := by have := I.le; omega
        have hf : ∀ j ∈ M, ∃ nd, W.nd[j]? = some nd ∧ Fill P (FF σ₀ met) σ' W m M nd (X j) := fun j hj => by
          obtain ⟨i, hi⟩ := List.mem_iff_getElem?.mp hj
          have hlt' := (List.getElem?_eq_some_iff.mp hi).1
          obtain ⟨nd, a, b, _⟩ := I.px i j hi (by omega)
          exact ⟨nd, a, b (by omega)⟩
        have nm : ¬ XM W met := fun ⟨j, ⟨nd, e, hc⟩, q⟩ => hmet (q ▸ (B j nd e).fpA (comp_notNum hc))
        k_search "s"
        refine Ts.for1 (fun i ρ'' σ'' => i ≤ M.length ∧ Up (XM W) σ' σ'' ∧ (∀ k d, W.nd[k]? = some d → NodeAt P σ'' W k (mkOf (M.drop i) m k) d) ∧ ρ'' "found" = some v) M.length (by kernel_rfl) ?_ (fun _ => rfl)
        k_search "es"
        refine PyIt.list I.si.hmet ⟨⟨Nat.zero_le _, .refl, I.si.node, q2⟩, ?_⟩
        rintro i ρ'' σ'' ⟨hi, U, N, q2'⟩
        refine ⟨hi, (M.map fun j => Value.ref (W.ad j))[i]?, ⟨_, U.get _ _ nm I.si.hmet, rfl⟩, ?_⟩
        rw [List.getElem?_map]
        cases e : M[i]? with
        | some j =>
          have hjM := List.mem_of_getElem? e
          obtain ⟨nd, hn, hF⟩ := hf j hjM
          have Nj := N j nd hn
          have hmk : mkOf (M.drop i) m j = .ref (m j) := node_mark (List.mem_iff_getElem?.mpr ⟨0, by rw [List.getElem?_drop]; exact e⟩)
          rw [hmk] at Nj
          have hlt' := (List.getElem?_eq_some_iff.mp e).1
          show Ts _ _ _ _ _ _ _
          cases nd with
          | sym => exact hF.elim
          | num => exact hF.elim
          | ali => exact hF.elim
          | txt cs =>
            have N1 : σ'' (W.ad j) = some (.inst (P.c .Text) [("codes", .ref (W.la j)), ("mark", .ref (m j))]) := Nj.1
            have ea : setA "mark" .none ([("codes", .ref (W.la j)), ("mark", .ref (m j))] : List (Str × Value)) = ([("codes", .ref (W.la j)), ("mark", .none)] : List (Str × Value)) := by kernel_rfl
            refine Ts.asgA (P := P) (c := .Text) ?_ (by kernel_rfl) (by kernel_rfl) (by kernel_rfl)
            k_search "es"
            refine ⟨_, _, rfl, N1, by kernel_rfl, rfl, by kernel_rfl, ?_⟩
            refine Ts.nil1 ?_
            obtain ⟨N2, U2⟩ := unmark hW I.si e hn rfl N N1 (at1 := setA "mark" .none [("codes", .ref (W.la j)), ("mark", .ref (m j))]) fun hl => by
              rw [ea]; rw [ea] at hl; exact ⟨put_self _ _ _, hl _ Nj.2.1, Nj.2.2⟩
            exact ⟨hlt', U.trans U2, N2, by k_search "rho"⟩
          | pr p q =>
            have N1 : σ'' (W.ad j) = some (.inst (P.c .Pair) [("car", W.val p), ("cdr", W.val q), ("mark", .ref (m j))]) := Nj
            have ea : setA "mark" .none ([("car", W.val p), ("cdr", W.val q), ("mark", .ref (m j))] : List (Str × Value)) = ([("car", W.val p), ("cdr", W.val q), ("mark", .none)] : List (Str × Value)) := by kernel_rfl
            refine Ts.asgA (P := P) (c := .Pair) ?_ (by kernel_rfl) (by kernel_rfl) (by kernel_rfl)
            k_search "es"
            refine ⟨_, _, rfl, N1, by kernel_rfl, rfl, by kernel_rfl, ?_⟩
            refine Ts.nil1 ?_
            obtain ⟨N2, U2⟩ := unmark hW I.si e hn rfl N N1 (at1 := setA "mark" .none [("car", W.val p), ("cdr", W.val q), ("mark", .ref (m j))]) fun hl => by
              rw [ea]; exact put_self _ _ _
            exact ⟨hlt', U.trans U2, N2, by k_search "rho"⟩
          | vec ps =>
            have N1 : σ'' (W.ad j) = some (.inst (P.c .Vector) [("things", .ref (W.la j)), ("mark", .ref (m j))]) := Nj.1
            have ea : setA "mark" .none ([("things", .ref (W.la j)), ("mark", .ref (m j))] : List (Str × Value)) = ([("things", .ref (W.la j)), ("mark", .none)] : List (Str × Value)) := by kernel_rfl
            refine Ts.asgA (P := P) (c := .Vector) ?_ (by kernel_rfl) (by kernel_rfl) (by kernel_rfl)
            k_search "es"
            refine ⟨_, _, rfl, N1, by kernel_rfl, rfl, by kernel_rfl, ?_⟩
            refine Ts.nil1 ?_
            obtain ⟨N2, U2⟩ := unmark hW I.si e hn rfl N N1 (at1 := setA "mark" .none [("things", .ref (W.la j)), ("mark", .ref (m j))]) fun hl => by
              rw [ea]; rw [ea] at hl; exact ⟨put_self _ _ _, hl _ Nj.2⟩
            exact ⟨hlt', U.trans U2, N2, by k_search "rho"⟩
        | none =>
          show Ts _ _ _ _ _ _ _
          k_search "es"
          rw [I.val]
          refine h σ'' M m X (iso_end I.si I.root hf U fun k d hk => ?_)
          have hie : M.length ≤ i := List.getElem?_eq_none_iff.mp e
          have := N k d hk
          rw [List.drop_of_length_le hie] at this
          have e0 : mkOf [] m k = .none := if_neg (by simp)
          rw [e0] at this
          exact this
end

section
variable {S : Stat} {n : Nat} {env : Env} {ρ : Str → Option Value} {σ : AH} {Q : Value → AH → Prop} {pos : Pos} {QS : Flow → (Str → Option Value) → AH → Prop} {rest : List PySem.Stmt}
  {P : Prg S} {σ₀ : AH} {W : Wd} {met : Addr} {M M' : List Nat} {m m' : Nat → Addr} {X X' : Nat → AObj} {σ' : AH} {R : Nat → Prop}

/-- what can be come to -/
inductive Reach (W : Wd) (k0 : Nat) : Nat → Prop
  | base : Reach W k0 k0
  | step {i p : Nat} {nd : Nd} : Reach W k0 i → W.nd[i]? = some nd → p ∈ nd.parts → Reach W k0 p
def HasAli (W : Wd) (k0 : Nat) : Prop := ∃ j, Reach W k0 j ∧ W.nd[j]? = some .ali
theorem kept_end (I : SI P σ₀ W met σ M m X) {σ2 : AH} (U : Up (XM W) σ σ2) (N : ∀ k d, W.nd[k]? = some d → NodeAt P σ2 W k .none d) : Up (fun _ => False) σ₀ σ2 := ⟨fun b o _ e => by
  by_cases q : XM W b
  · obtain ⟨j, ⟨nd, hj, hc⟩, rfl⟩ := q
    exact node_obj hc (I.base j nd hj) (N j nd hj) e
  · exact U.get b o q (I.keep b o e fun j hj w => q ⟨j, hj, w⟩), fun b hb => U.fp b (I.fpm b hb)⟩
theorem CallV.isiAli {p : Nat} {mk : Value} {nd : Nd} (hp : W.nd[p]? = some nd) (N : NodeAt P σ W p mk nd) (h : Q (.bool nd.isAli) σ) : CallV S n σ (.builtin "isinstance") [W.val p, .ref (P.c .Alias)] Q := by
  cases nd with
  | num =>
    have ev : W.val p = VI 7 := by unfold Wd.val; rw [hp]
    rw [ev]; exact CallV.isiII h
  | sym =>
    have ev : W.val p = .ref (W.ad p) := by unfold Wd.val; rw [hp]
    rw [ev]; exact CallV.isiCC (b := false) N rfl h
  | ali =>
    have ev : W.val p = .ref (W.ad p) := by unfold Wd.val; rw [hp]
    obtain ⟨at_, e, _⟩ := N
    rw [ev]; exact CallV.isiCC (b := true) e rfl h
  | txt cs =>
    have ev : W.val p = .ref (W.ad p) := by unfold Wd.val; rw [hp]
    rw [ev]; exact CallV.isiCC (b := false) N.1 rfl h
  | pr a c =>
    have ev : W.val p = .ref (W.ad p) := by unfold Wd.val; rw [hp]
    have N' : σ (W.ad p) = some _ := N
    rw [ev]; exact CallV.isiCC (b := false) N' rfl h
  | vec ps =>
    have ev : W.val p = .ref (W.ad p) := by unfold Wd.val; rw [hp]
    rw [ev]; exact CallV.isiCC (b := false) N.1 rfl h

/-- the state of has_alias's while -/
structure HI (P : Prg S) (σ₀ : AH) (W : Wd) (met : Addr) (k0 : Nat) (b : Bool) (k : Nat) (σ : AH) (M : List Nat) (m : Nat → Addr) (X : Nat → AObj) : Prop where
  si : SI P σ₀ W met σ M m X
  le : k ≤ M.length
  clo : ∀ (i j : Nat), M[i]? = some j → i < k → ∀ nd, W.nd[j]? = some nd → ∀ p ∈ nd.parts, (W.compAt p → p ∈ M) ∧ (W.nd[p]? = some .ali → b = true)
  rch : ∀ j ∈ M, Reach W k0 j
  root : W.compAt k0 → k0 ∈ M
  yes : b = true → HasAli W k0

theorem HI.done {k0 : Nat} {b : Bool} {k : Nat} (h : HI P σ₀ W met k0 b k σ M m X) (hk : k = M.length) (h0 : W.nd[k0]? ≠ some .ali) : b = true ↔ HasAli W k0 := by
  refine ⟨h.yes, fun ⟨j, r, ha⟩ => ?_⟩
  have key : ∀ j, Reach W k0 j → (W.compAt j → j ∈ M) ∧ (W.nd[j]? = some .ali → b = true) := fun j r => by
    induction r with
    | base => exact ⟨h.root, fun e => absurd e h0⟩
    | @step i p nd _ hi hp ih =>
      have hc : W.compAt i := ⟨nd, hi, by cases nd <;> first | rfl | cases hp⟩
      obtain ⟨x, hx⟩ := List.mem_iff_getElem?.mp (ih.1 hc)
      exact h.clo x i hx (by rw [hk]; exact (List.getElem?_eq_some_iff.mp hx).1) nd hi p hp
  exact (key j r).2 ha

theorem ct_hasAlias (P : Prg S) {σ₀ : AH} {W : Wd} {k0 : Nat} {nd0 : Nd} (hW : WOk W) (hk0 : W.nd[k0]? = some nd0) (B : ∀ j nd, W.nd[j]? = some nd → NodeAt P σ₀ W j .none nd)
    (h : ∀ σ' b, (b = true ↔ HasAli W k0) → Up (fun _ => False) σ₀ σ' → Q (.bool b) σ') : CodeV S 4 σ₀ (.ref (P.f .hasAlias)) [W.val k0] Q := by
  refine CodeV.fn (d := dF .hasAlias) ["datum"] (P.fnF .hasAlias) (by kernel_rfl) (fun pm cd raws hr => ?_) (fun pm cd L => ?_)
  · match raws, hr with
    | [x0], _ => kernel_rfl
  · have r1 : rho0 ["datum"] [W.val k0] "datum" = some (W.val k0) := by kernel_rfl
    generalize hρ : rho0 ["datum"] [W.val k0] = ρ at r1 ⊢
    refine Ts.if1 ?_
    k_search "es"
    refine CallV.isiAli hk0 (B k0 nd0 hk0) (Truthy.ofBool ?_)
    cases hali : nd0.isAli with
    | true =>
      k_search "es"
      refine h _ true ⟨fun _ => ⟨k0, .base, ?_⟩, fun _ => rfl⟩ .refl
      rw [hk0]; cases nd0 <;> first | rfl | cases hali
    | false =>
      have h0 : W.nd[k0]? ≠ some .ali := fun e => by rw [hk0] at e; cases e; cases hali
      k_search "es"
      refine ⟨by simp, fun met hmet => ?_⟩
      k_search "es"
      have I0 : SI P σ₀ W met (put σ₀ met (.list [])) [] (fun _ => 0) (fun _ => .list []) :=
        ⟨B, put_self _ _ _, hmet, fun j nd e => (B j nd e).up (fun o e' => put_old hmet e') (fun vs e' => put_old hmet e'), fun j hj => (by cases hj), fun j hj => (by cases hj), List.nodup_nil, fun j hj => (by cases hj), fun j hj => (by cases hj), fun j hj => (by cases hj), fun b o e _ => put_old hmet e, fun b hb => (Up.new (X := fun _ => True) hmet).fp b hb⟩
      refine CallV.of_code ((ct_stripOne P hW hk0 I0 fun σ1 M1 m1 X1 I1 U1 G1 => ?_).up (by decide))
      k_search "es"
      have q1 : (setv (setv (setv ρ "met" (.ref met)) "at" (VI 0)) "is_found" (.bool false)) "met" = some (.ref met) := by k_search "rho"
      have q2 : (setv (setv (setv ρ "met" (.ref met)) "at" (VI 0)) "is_found" (.bool false)) "is_found" = some (.bool false) := by k_search "rho"
      have q3 : (setv (setv (setv ρ "met" (.ref met)) "at" (VI 0)) "is_found" (.bool false)) "at" = some (VI 0) := by k_search "rho"
      generalize (setv (setv (setv ρ "met" (.ref met)) "at" (VI 0)) "is_found" (.bool false)) = ρ1 at q1 q2 q3 ⊢
      refine Ts.while1 (fun k ρ' σ' => ∃ at_ M m X b, HI P σ₀ W met k0 b at_ σ' M m X ∧ k = 10 - at_ ∧ ρ' "met" = some (.ref met) ∧ ρ' "is_found" = some (.bool b) ∧ ρ' "at" = some (VI (at_ : Nat))) (k₀ := 10) ⟨0, M1, m1, X1, false, ?_, rfl, q1, q2, q3⟩ ?_
      · obtain ⟨nw, e, hn⟩ := G1.new
        rw [List.nil_append] at e
        subst e
        exact ⟨I1, Nat.zero_le _, fun i j hi hlt => by omega, fun j hj => (hn j hj).1 ▸ .base, G1.has, fun e => by cases e⟩
      · rintro k ρ' σ' ⟨at_, M, m, X, b, I, rfl, q1, q2, q3⟩
        k_search "es"
        refine CallV.len I.si.hmet (by rw [List.length_map]; exact Nat.le_trans (M_le hW I.si) (by decide)) ?_
        k_search "es"
        refine Cmp.ltI (Truthy.ofBool ?_)
        rw [List.length_map]
        by_cases hlt : at_ < M.length
        · rw [decide_eq_true (by omega : (at_ : Int) < (M.length : Int))]
          obtain ⟨j, hj⟩ : ∃ j, M[at_]? = some j := ⟨M[at_], List.getElem?_eq_getElem hlt⟩
          have hjM := List.mem_of_getElem? hj
          k_search "es"
          refine SubV.list (k := at_) (v := .ref (W.ad j)) I.si.hmet (by rw [List.getElem?_map, hj]; rfl) (by rw [List.length_map]; exact Nat.le_trans (M_le hW I.si) (by decide)) ?_ (fun o i => ⟨_, rfl⟩)
          have hM9 := M_le hW I.si
          obtain ⟨nd, hn, hc⟩ := I.si.comp j hjM
          have N := I.si.node j nd hn
          rw [node_mark hjM] at N
          have hmf : fp σ' met := fp_self I.si.hmet
          refine Ts.asgN ?_ (by kernel_rfl) (by kernel_rfl) (by kernel_rfl) (by kernel_rfl)
          refine Tr.mono (Q := fun v σ₂ => ∃ pl, v = .ref pl ∧ Up (fun _ => False) σ' σ₂ ∧ σ₂ pl = some (.list (nd.parts.map W.val)) ∧ pl ≠ met) ?_ ?_
          · cases nd with
            | sym => cases hc
            | num => cases hc
            | ali => cases hc
            | txt cs =>
              have N1 := N.1
              k_search "es"; k_search "isi"; k_search "es"; k_search "isi"; k_search "es"
              exact ⟨by simp, fun pl hpl => ⟨pl, rfl, Up.new hpl, put_self _ _ _, fun q => hpl (q ▸ hmf)⟩⟩
            | pr p q =>
              have N1 : σ' (W.ad j) = some (.inst (P.c .Pair) [("car", W.val p), ("cdr", W.val q), ("mark", .ref (m j))]) := N
              k_search "es"; k_search "isi"; k_search "es"; k_search "at"; k_search "es"; k_search "at"; k_search "es"
              exact ⟨by simp, fun pl hpl => ⟨pl, rfl, Up.new hpl, put_self _ _ _, fun q => hpl (q ▸ hmf)⟩⟩
            | vec ps =>
              have N1 := N.1
              k_search "es"; k_search "isi"; k_search "es"; k_search "isi"; k_search "es"; k_search "at"
              exact ⟨_, rfl, .refl, N.2, fun q => I.si.metF (q ▸ fp_self (B j _ hn).2)⟩
          · rintro v σ₂ ⟨pl, rfl, U2, hpl, hplm⟩
            have I2 := I.si.up U2
            have hps : nd.parts.length ≤ 2 := hW.few j nd hn
            have nXs : ¬ Xs W met pl := fun q => by
              rcases q with q | ⟨i, ⟨d, e, hd⟩, q⟩
              · exact hplm q
              · obtain ⟨c, at_, e'⟩ := (I2.node i d e).self (comp_notNum hd)
                rw [← q, hpl] at e'; cases e'
            refine Ts.for1 (fun i ρ'' σ'' => i ≤ nd.parts.length ∧ ∃ M' m' X' b', SI P σ₀ W met σ'' M' m' X' ∧ Evo P σ₀ W met (Reach W k0) σ₂ M m X σ'' M' m' X' ∧ (b = true → b' = true) ∧ (∀ p ∈ nd.parts.take i, (W.compAt p → p ∈ M') ∧ (W.nd[p]? = some .ali → b' = true)) ∧ (b' = true → HasAli W k0) ∧
              ρ'' "met" = some (.ref met) ∧ ρ'' "is_found" = some (.bool b') ∧ ρ'' "at" = some (VI (at_ : Nat))) nd.parts.length (by kernel_rfl) ?_ (fun _ => rfl)
            k_search "es"
            refine PyIt.list hpl ⟨⟨Nat.zero_le _, M, m, X, b, I2, .refl, id, (by intro p hp; cases hp), I.yes, by k_search "rho", by k_search "rho", by k_search "rho"⟩, ?_⟩
            rintro i ρ'' σ'' ⟨hi, M', m', X', b', I', E', hbb, hcl, hy, g1, g2, g3⟩
            refine ⟨hi, (nd.parts.map W.val)[i]?, ⟨_, E'.up.get _ _ nXs hpl, rfl⟩, ?_⟩
            rw [List.getElem?_map]
            cases e : nd.parts[i]? with
            | some p =>
              have hpm := List.mem_of_getElem? e
              obtain ⟨dp, hp⟩ := node_of hW hn hpm
              have hlt' := (List.getElem?_eq_some_iff.mp e).1
              have hrp : Reach W k0 p := .step (I.rch j hjM) hn hpm
              show Ts _ _ _ _ _ _ _
              refine Ts.asgN ?_ (by kernel_rfl) (by kernel_rfl) (by kernel_rfl) (by kernel_rfl)
              refine Tr.mono (Q := fun v σ₃ => v = .bool (b' || dp.isAli) ∧ σ₃ = σ'') ?_ ?_
              · k_search "es"
                refine Truthy.ofBool ?_
                cases b' with
                | true => k_search "es"; exact ⟨rfl, rfl⟩
                | false =>
                  k_search "es"
                  exact CallV.isiAli hp (I'.node p dp hp) ⟨rfl, rfl⟩
              · rintro v σ₃ ⟨rfl, rfl⟩
                k_search "es"
                refine CallV.of_code (ct_stripOne P hW hp I' fun σ4 M4 m4 X4 I4 U4 G4 => ?_)
                have E4 : Evo P σ₀ W met (Reach W k0) σ₃ M' m' X' σ4 M4 m4 X4 := G4.evo U4 hrp
                refine Ts.nil1 ?_
                refine ⟨hlt', M4, m4, X4, b' || dp.isAli, I4, E'.trans I2 E4, fun x => by rw [hbb x]; rfl, fun p' hp' => ?_, fun x => ?_, by k_search "rho", by k_search "rho", by k_search "rho"⟩
                · rw [List.take_add_one, e] at hp'
                  rcases List.mem_append.mp hp' with h1 | h1
                  · exact ⟨fun c => E4.sub _ ((hcl p' h1).1 c), fun c => by rw [(hcl p' h1).2 c]; rfl⟩
                  · have : p' = p := by simpa using h1
                    subst this
                    refine ⟨G4.has, fun c => ?_⟩
                    rw [hp] at c; cases c
                    simp [Nd.isAli]
                · rcases Bool.or_eq_true_iff.mp x with x | x
                  · exact hy x
                  · exact ⟨p, hrp, by rw [hp]; cases dp <;> first | rfl | cases x⟩
            | none =>
              have hie : nd.parts.length ≤ i := List.getElem?_eq_none_iff.mp e
              rw [List.take_of_length_le hie] at hcl
              show Ts _ _ _ _ _ _ _
              k_search "es"
              refine Bin.add ?_
              k_search "es"
              refine Ts.nil1 ?_
              refine ⟨10 - (at_ + 1), by omega, at_ + 1, M', m', X', b', ⟨I', by have := E'.len; omega, fun i' j' hi' hlt'' nd' hn' p hp => ?_, fun j' hj' => ?_, fun c => E'.sub _ (I.root c), hy⟩, rfl, by k_search "rho", by k_search "rho", setv_self.trans rfl⟩
              · by_cases q : i' = at_
                · subst q
                  have := (E'.idx hj).symm.trans hi'
                  cases this
                  rw [hn] at hn'; cases hn'
                  exact hcl p hp
                · obtain ⟨nw, qe, _⟩ := E'.new
                  have hi2 : M[i']? = some j' := by
                    rw [qe, List.getElem?_append_left (by omega)] at hi'; exact hi'
                  obtain ⟨c1, c2⟩ := I.clo i' j' hi2 (by omega) nd' hn' p hp
                  exact ⟨fun c => E'.sub _ (c1 c), fun c => hbb (c2 c)⟩
              · obtain ⟨nw, qe, hnw⟩ := E'.new
                rw [qe] at hj'
                rcases List.mem_append.mp hj' with h1 | h1
                · exact I.rch j' h1
                · exact (hnw j' h1).1
        · rw [decide_eq_false (by omega : ¬ (at_ : Int) < (M.length : Int))]
          have hat : at_ = M.length := by have := I.le; omega
          have hb := I.done hat h0
          have nm : ¬ XM W met := fun ⟨j, ⟨nd, e, hc⟩, q⟩ => hmet (q ▸ (B j nd e).fpA (comp_notNum hc))
          k_search "s"
          refine Ts.for1 (fun i ρ'' σ'' => i ≤ M.length ∧ Up (XM W) σ' σ'' ∧ (∀ k d, W.nd[k]? = some d → NodeAt P σ'' W k (mkOf (M.drop i) m k) d) ∧ ρ'' "is_found" = some (.bool b)) M.length (by kernel_rfl) ?_ (fun _ => rfl)
          k_search "es"
          refine PyIt.list I.si.hmet ⟨⟨Nat.zero_le _, .refl, I.si.node, q2⟩, ?_⟩
          rintro i ρ'' σ'' ⟨hi, U, N, q2'⟩
          refine ⟨hi, (M.map fun j => Value.ref (W.ad j))[i]?, ⟨_, U.get _ _ nm I.si.hmet, rfl⟩, ?_⟩
          rw [List.getElem?_map]
          cases e : M[i]? with
          | some j =>
            have hjM := List.mem_of_getElem? e
            obtain ⟨nd, hn, hF⟩ := I.si.comp j hjM
            have Nj := N j nd hn
            have hmk : mkOf (M.drop i) m j = .ref (m j) := node_mark (List.mem_iff_getElem?.mpr ⟨0, by rw [List.getElem?_drop]; exact e⟩)
            rw [hmk] at Nj
            have hlt' := (List.getElem?_eq_some_iff.mp e).1
            show Ts _ _ _ _ _ _ _
            cases nd with
            | sym => cases hF
            | num => cases hF
            | ali => cases hF
            | txt cs =>
              have N1 : σ'' (W.ad j) = some (.inst (P.c .Text) [("codes", .ref (W.la j)), ("mark", .ref (m j))]) := Nj.1
              have ea : setA "mark" .none ([("codes", .ref (W.la j)), ("mark", .ref (m j))] : List (Str × Value)) = ([("codes", .ref (W.la j)), ("mark", .none)] : List (Str × Value)) := by kernel_rfl
              refine Ts.asgA (P := P) (c := .Text) ?_ (by kernel_rfl) (by kernel_rfl) (by kernel_rfl)
              k_search "es"
              refine ⟨_, _, rfl, N1, by kernel_rfl, rfl, by kernel_rfl, ?_⟩
              refine Ts.nil1 ?_
              obtain ⟨N2, U2⟩ := unmark hW I.si e hn rfl N N1 (at1 := setA "mark" .none [("codes", .ref (W.la j)), ("mark", .ref (m j))]) fun hl => by
                rw [ea]; rw [ea] at hl; exact ⟨put_self _ _ _, hl _ Nj.2.1, Nj.2.2⟩
              exact ⟨hlt', U.trans U2, N2, by k_search "rho"⟩
            | pr p q =>
              have N1 : σ'' (W.ad j) = some (.inst (P.c .Pair) [("car", W.val p), ("cdr", W.val q), ("mark", .ref (m j))]) := Nj
              have ea : setA "mark" .none ([("car", W.val p), ("cdr", W.val q), ("mark", .ref (m j))] : List (Str × Value)) = ([("car", W.val p), ("cdr", W.val q), ("mark", .none)] : List (Str × Value)) := by kernel_rfl
              refine Ts.asgA (P := P) (c := .Pair) ?_ (by kernel_rfl) (by kernel_rfl) (by kernel_rfl)
              k_search "es"
              refine ⟨_, _, rfl, N1, by kernel_rfl, rfl, by kernel_rfl, ?_⟩
              refine Ts.nil1 ?_
              obtain ⟨N2, U2⟩ := unmark hW I.si e hn rfl N N1 (at1 := setA "mark" .none [("car", W.val p), ("cdr", W.val q), ("mark", .ref (m j))]) fun hl => by
                rw [ea]; exact put_self _ _ _
              exact ⟨hlt', U.trans U2, N2, by k_search "rho"⟩
            | vec ps =>
              have N1 : σ'' (W.ad j) = some (.inst (P.c .Vector) [("things", .ref (W.la j)), ("mark", .ref (m j))]) := Nj.1
              have ea : setA "mark" .none ([("things", .ref (W.la j)), ("mark", .ref (m j))] : List (Str × Value)) = ([("things", .ref (W.la j)), ("mark", .none)] : List (Str × Value)) := by kernel_rfl
              refine Ts.asgA (P := P) (c := .Vector) ?_ (by kernel_rfl) (by kernel_rfl) (by kernel_rfl)
              k_search "es"
              refine ⟨_, _, rfl, N1, by kernel_rfl, rfl, by kernel_rfl, ?_⟩
              refine Ts.nil1 ?_
              obtain ⟨N2, U2⟩ := unmark hW I.si e hn rfl N N1 (at1 := setA "mark" .none [("things", .ref (W.la j)), ("mark", .ref (m j))]) fun hl => by
                rw [ea]; rw [ea] at hl; exact ⟨put_self _ _ _, hl _ Nj.2⟩
              exact ⟨hlt', U.trans U2, N2, by k_search "rho"⟩
          | none =>
            show Ts _ _ _ _ _ _ _
            k_search "es"
            refine h σ'' b hb (kept_end I.si U fun k d hk => ?_)
            have hie : M.length ≤ i := List.getElem?_eq_none_iff.mp e
            have := N k d hk
            rw [List.drop_of_length_le hie] at this
            have e0 : mkOf [] m k = .none := if_neg (by simp)
            rw [e0] at this
            exact this
end

section
variable {S : Stat} {n : Nat} {env : Env} {ρ : Str → Option Value} {σ : AH} {Q : Value → AH → Prop} {pos : Pos} {QS : Flow → (Str → Option Value) → AH → Prop}
  {scope : Scope} {cl : List (Str × Addr)}
/-- the source of a block is taken, the invariant said behind it -/
theorem comp_source2 {p2 : Pos} {elt iter : PySem.Expr} {x : Str} {px : Pos} {ifs : List PySem.Expr} (B : BlockOk env scope cl) (hx : scope.names.lookup x = some .local) (K : List Value → AH → Prop) {use : Option (Value → Sem Unit)} {T : Value → Shared → Prop} {A : Around} {s : Shared} (R : Room n A) (G : Good S σ s.heap) (F : FrOk S env s.heap σ ρ)
    (h : Ev S n env ρ σ iter (fun v σ₁ => ∃ (I : Nat → List Value → AH → Prop) (N : Nat), PyIt S n σ₁ v (fun nx σ₂ => I 0 [] σ₂ ∧ ∀ i acc σ', I i acc σ' → i ≤ N ∧ acc.length ≤ 1000 ∧ ∃ r, nx i σ' r ∧ match r with
      | some v => ∀ C ρc, ρc x = some v → (∀ y, (compEnvC scope cl C env).kindOf y ≠ some .local → ρc y = ρ y) →
          Tr S n (compEnvC scope cl C env) ρc σ' (fun b : Bool => b) (forIn ifs true fun c r => if r = true then do let ok ← isTrue c (compEnvC scope cl C env) (eval c (compEnvC scope cl C env)); Pure.pure (ForInStep.yield ok) else Pure.pure (ForInStep.yield r))
            (fun ok σ₁ => if ok then Ev S n (compEnvC scope cl C env) ρc σ₁ elt (fun u σ₂ => I (i + 1) (acc ++ [u]) σ₂) else I (i + 1) acc σ₁)
      | none => K acc σ')))
    (hs : ∀ x, foldedSetIterable iter env x = Pure.pure x)
    (hfin : ∀ D C s', CompFin S env ρ σ s D C K s' → compPost (model S.prog S.w) A NoE use T (.ref D) C (.ok .next) s') :
    wpAny (model S.prog S.w) A (comprehension (.ListComp elt [⟨.Name x px, iter, ifs, 0⟩] scope pos) scope env p2 (newList []) false (eval iter env) use) T NoE s := by
  refine wpAny_comprehension_free (g := ⟨.Name x px, iter, ifs, 0⟩) (gs := []) rfl hs B.clos B.kind B.names (wpAny_mono (h A s R G F) (fun v s₁ ⟨σ₁, G₁, T₁, I, N, h₁⟩ => wpAny_mono (h₁ v rfl A s₁ R G₁) (fun r s₂ ⟨it, At, nx, σ₂, e, O, hat, G₂, T₂, hfp, hnone, hI, turn⟩ => ?_) fun _ _ x => x) fun _ _ x => x)
  subst e
  have F₁ := F.step T₁
  have F₂ := F₁.step T₂
  have hbase : S.base.get? it = none := by
    cases e : S.base.get? it with
    | none => rfl
    | some o => rw [G₁.keep _ _ e] at hnone; cases hnone
  have hfree := F₁.frees hnone
  have hit0 : s.heap.get? it = none ∨ fp σ it := by
    by_cases q : fp σ it
    · exact .inr q
    · left
      cases e : s.heap.get? it with
      | none => rfl
      | some o => have := T₁.keep it o q e; rw [hnone] at this; cases this
  exact compCore B hx I N K R G₂ F₂ O hat ⟨hfp, hbase, hfree.1, hfree.2⟩ (T₁.trans T₂) hit0 hI turn fun D C s' hf _ _ => hfin D C s' hf
theorem Ev.comp2 {elt iter : PySem.Expr} {x : Str} {px : Pos} (cl : List (Str × Addr)) (B : BlockOk env scope cl) (hx : scope.names.lookup x = some .local)
    (h : Ev S n env ρ σ iter (fun v σ₁ => ∃ (I : Nat → List Value → AH → Prop) (N : Nat), PyIt S n σ₁ v (fun nx σ₂ => I 0 [] σ₂ ∧ ∀ i acc σ', I i acc σ' → i ≤ N ∧ acc.length ≤ 1000 ∧ ∃ r, nx i σ' r ∧ match r with
      | some v => ∀ C ρc, ρc x = some v → (∀ y, (CE scope cl C env).kindOf y ≠ some .local → ρc y = ρ y) → Ev S n (CE scope cl C env) ρc σ' elt (fun u σ₂ => I (i + 1) (acc ++ [u]) σ₂)
      | none => ∀ a, ¬ fp σ' a → Q (.ref a) (put σ' a (.list acc)))))
    (hs : ∀ x, foldedSetIterable iter env x = Pure.pure x) : Ev S n env ρ σ (.ListComp elt [⟨.Name x px, iter, [], 0⟩] scope pos) Q := fun A s R G F => by
  rw [eval_ListComp]
  refine comp_source2 B hx (fun acc σ' => ∀ a, ¬ fp σ' a → Q (.ref a) (put σ' a (.list acc))) R G F (h.mono fun v σ₁ h₁ => ?_) hs fun D C s' hf => ?_
  · obtain ⟨I, N, h₁⟩ := h₁
    refine ⟨I, N, fun u hu A s R G => ?_⟩
    refine wpAny_mono (h₁ u hu A s R G) (fun r s' ⟨it, At, nx, σ', a, b, c, d, e, f, g, i0, tn⟩ => ⟨it, At, nx, σ', a, b, c, d, e, f, g, i0, fun i acc σ'' hI => ?_⟩) fun _ _ x => x
    obtain ⟨k1, k2, r, k3, k4⟩ := tn i acc σ'' hI
    refine ⟨k1, k2, r, k3, ?_⟩
    cases r with
    | none => exact k4
    | some v => exact fun C ρc e1 e2 => Tr.pure (k4 C ρc e1 e2)
  · obtain ⟨m, hn, k⟩ := hf.use
    refine ⟨m, hn, fun h' hs' => ?_⟩
    obtain ⟨σ', acc, g, t, nf, q⟩ := k h' hs'
    exact ⟨_, g, t, q D nf⟩
theorem Ev.compIf2 {elt iter c : PySem.Expr} {x : Str} {px : Pos} (cl : List (Str × Addr)) (B : BlockOk env scope cl) (hx : scope.names.lookup x = some .local)
    (h : Ev S n env ρ σ iter (fun v σ₁ => ∃ (I : Nat → List Value → AH → Prop) (N : Nat), PyIt S n σ₁ v (fun nx σ₂ => I 0 [] σ₂ ∧ ∀ i acc σ', I i acc σ' → i ≤ N ∧ acc.length ≤ 1000 ∧ ∃ r, nx i σ' r ∧ match r with
      | some v => ∀ C ρc, ρc x = some v → (∀ y, (CE scope cl C env).kindOf y ≠ some .local → ρc y = ρ y) → IsT S n (CE scope cl C env) ρc σ' c (fun ok σ₁ => if ok then Ev S n (CE scope cl C env) ρc σ₁ elt (fun u σ₂ => I (i + 1) (acc ++ [u]) σ₂) else I (i + 1) acc σ₁)
      | none => ∀ a, ¬ fp σ' a → Q (.ref a) (put σ' a (.list acc)))))
    (hs : ∀ x, foldedSetIterable iter env x = Pure.pure x) : Ev S n env ρ σ (.ListComp elt [⟨.Name x px, iter, [c], 0⟩] scope pos) Q := fun A s R G F => by
  rw [eval_ListComp]
  refine comp_source2 B hx (fun acc σ' => ∀ a, ¬ fp σ' a → Q (.ref a) (put σ' a (.list acc))) R G F (h.mono fun v σ₁ h₁ => ?_) hs fun D C s' hf => ?_
  · obtain ⟨I, N, h₁⟩ := h₁
    refine ⟨I, N, fun u hu A s R G => ?_⟩
    refine wpAny_mono (h₁ u hu A s R G) (fun r s' ⟨it, At, nx, σ', a, b, c, d, e, f, g, i0, tn⟩ => ⟨it, At, nx, σ', a, b, c, d, e, f, g, i0, fun i acc σ'' hI => ?_⟩) fun _ _ x => x
    obtain ⟨k1, k2, r, k3, k4⟩ := tn i acc σ'' hI
    refine ⟨k1, k2, r, k3, ?_⟩
    cases r with
    | none => exact k4
    | some v => exact fun C ρc e1 e2 => test1 (k4 C ρc e1 e2)
  · obtain ⟨m, hn, k⟩ := hf.use
    refine ⟨m, hn, fun h' hs' => ?_⟩
    obtain ⟨σ', acc, g, t, nf, q⟩ := k h' hs'
    exact ⟨_, g, t, q D nf⟩
end

section
variable {S : Stat} {n : Nat} {env : Env} {ρ : Str → Option Value} {σ : AH} {Q : Value → AH → Prop} {pos : Pos} {QS : Flow → (Str → Option Value) → AH → Prop} {rest : List PySem.Stmt}
  {P : Prg S} {σ₀ : AH} {W : Wd} {met : Addr} {M M' : List Nat} {m m' : Nat → Addr} {X X' : Nat → AObj} {σ' : AH} {R : Nat → Prop}

theorem ct_plain (P : Prg S) {σ₀ : AH} {W : Wd} {k0 : Nat} {nd0 : Nd} (hW : WOk W) (hk0 : W.nd[k0]? = some nd0) (B : ∀ j nd, W.nd[j]? = some nd → NodeAt P σ₀ W j .none nd)
    (h1 : HasAli W k0 → ∀ σ1 σ' M m X, Up (fun _ => False) σ₀ σ1 → Iso P σ1 W k0 σ' M m X → Q (W.mate m k0) σ') (h2 : ¬ HasAli W k0 → ∀ σ', Up (fun _ => False) σ₀ σ' → Q (W.val k0) σ') : CodeV S 5 σ₀ (.ref (P.f .plain)) [W.val k0] Q := by
  refine CodeV.fn (d := dF .plain) ["datum"] (P.fnF .plain) (by kernel_rfl) (fun pm cd raws hr => ?_) (fun pm cd L => ?_)
  · match raws, hr with
    | [x0], _ => kernel_rfl
  · have r1 : rho0 ["datum"] [W.val k0] "datum" = some (W.val k0) := by kernel_rfl
    generalize hρ : rho0 ["datum"] [W.val k0] = ρ at r1 ⊢
    refine Ts.if1 ?_
    k_search "es"
    refine CallV.of_code (ct_hasAlias P hW hk0 B fun σ1 b hb U1 => Truthy.ofBool ?_)
    cases b with
    | true =>
      k_search "es"
      exact CallV.of_code (ct_strip P hW hk0 (fun j nd e => (B j nd e).up (fun o => U1.get _ _ id) (fun vs => U1.get _ _ id)) fun σ' M m X I => h1 (hb.mp rfl) σ1 σ' M m X U1 I)
    | false =>
      k_search "es"
      exact h2 (fun q => by cases hb.mpr q) σ1 U1

/-! # what is told -/
def Nd.word : Nd → Str
  | .sym => "symbol"
  | .num => "number"
  | .ali => "alias"
  | .txt _ => "text"
  | .pr _ _ => "pair"
  | .vec _ => "vector"
def Nd.ints : Nd → List Int
  | .txt cs => cs
  | .pr p q => [(p : Int), (q : Int)]
  | .vec ps => ps.map fun (p : Nat) => (p : Int)
  | _ => []
def Nd.scal : Nd → Value
  | .num => VI 7
  | _ => VS "a"
def ToldAt (σ : AH) (v : Value) (nd : Nd) : Prop :=
  ∃ t, v = .ref t ∧ if nd.comp = true then ∃ l, σ t = some (.tuple [VS nd.word, .ref l]) ∧ σ l = some (.list (nd.ints.map VI)) else σ t = some (.tuple [VS nd.word, nd.scal])
theorem ToldAt.up {v : Value} {nd : Nd} (h : ToldAt σ v nd) (U : Up (fun _ => False) σ σ') : ToldAt σ' v nd := by
  obtain ⟨t, rfl, h⟩ := h
  refine ⟨t, rfl, ?_⟩
  split at h
  · rename_i hc
    obtain ⟨l, a, b⟩ := h
    rw [if_pos hc]; exact ⟨l, U.get _ _ id a, U.get _ _ id b⟩
  · rename_i hc
    rw [if_neg hc]; exact U.get _ _ id h
theorem Up.hide {X : Addr → Prop} {σ1 σ2 : AH} (a : Up (fun _ => False) σ₀ σ1) (b : Up X σ1 σ2) (h : ∀ c, X c → ¬ Mine.fp σ₀ c) : Up (fun _ => False) σ₀ σ2 :=
  ⟨fun c o _ e => b.get c o (fun q => h c q (fp_self e)) (a.get c o id e), fun c hc => b.fp c (a.fp c hc)⟩
theorem NodeAt.upF {j : Nat} {mk : Value} {nd : Nd} (h : NodeAt P σ W j mk nd) (U : Up (fun _ => False) σ σ') : NodeAt P σ' W j mk nd := h.up (fun o => U.get _ _ id) (fun vs => U.get _ _ id)
theorem Fill.upF {F : Addr → Prop} {nd : Nd} {o : AObj} (h : Fill P F σ W m M nd o) (U : Up (fun _ => False) σ σ') : Fill P F σ' W m M nd o := h.evo (fun l vs _ => U.get _ _ id) (fun _ _ => rfl) (fun _ h => h)

/-- what _law_mates is handed -/
structure MC (P : Prg S) (σ : AH) (W : Wd) (M : List Nat) (m : Nat → Addr) (X : Nat → AObj) (told th : Addr) (ths : List Value) : Prop where
  ok : WOk W
  node : ∀ j nd, W.nd[j]? = some nd → NodeAt P σ W j .none nd
  htold : ∃ tv : List Value, σ told = some (.list tv) ∧ tv.length = W.nd.length ∧ ∀ (j : Nat) (nd : Nd) (v : Value), W.nd[j]? = some nd → tv[j]? = some v → ToldAt σ v nd
  mate : ∀ j ∈ M, σ (m j) = some (X j)
  isI : ∀ j ∈ M, ∃ c at_, X j = .inst (P.c c) at_
  fill : ∀ j ∈ M, ∃ nd, W.nd[j]? = some nd ∧ Fill P (fun _ => True) σ W m M nd (X j)
  inj : ∀ i ∈ M, ∀ j ∈ M, m i = m j → i = j
  hth : σ th = some (.list ths)
  few : ths.length ≤ 100
  dom : ∀ v ∈ ths, Dom P σ v ∧ ∀ j ∈ M, v ≠ .ref (m j)
theorem MC.up {told th : Addr} {ths : List Value} (c : MC P σ W M m X told th ths) (U : Up (fun _ => False) σ σ') : MC P σ' W M m X told th ths where
  ok := c.ok
  node j nd e := (c.node j nd e).upF U
  htold := by obtain ⟨tv, a, b, d⟩ := c.htold; exact ⟨tv, U.get _ _ id a, b, fun j nd v e1 e2 => (d j nd v e1 e2).up U⟩
  mate j hj := U.get _ _ id (c.mate j hj)
  isI := c.isI
  fill j hj := by obtain ⟨nd, a, b⟩ := c.fill j hj; exact ⟨nd, a, b.upF U⟩
  inj := c.inj
  hth := U.get _ _ id c.hth
  few := c.few
  dom v hv := ⟨(c.dom v hv).1.up U fun _ _ => id, (c.dom v hv).2⟩

/-- the state of _law_mates' while -/
structure MI (P : Prg S) (σ₀ : AH) (W : Wd) (M : List Nat) (m : Nat → Addr) (D Wt : Addr) (σ : AH) (J stk : List Nat) : Prop where
  up : Up (fun _ => False) σ₀ σ
  dF : ¬ fp σ₀ D
  wF : ¬ fp σ₀ Wt
  hD : σ D = some (.dicti (J.map fun (j : Nat) => ((j : Int), Value.ref (m j))))
  hW : ∃ ts : List Addr, σ Wt = some (.list (ts.map Value.ref)) ∧ ts.length = stk.length ∧ ∀ (i : Nat) (t : Addr) (j : Nat), ts[i]? = some t → stk[i]? = some j → σ t = some (.tuple [VI j, W.mate m j])
  nd : J.Nodup
  sub : ∀ j ∈ J, j ∈ M
  stk : ∀ j ∈ stk, (∃ nd, W.nd[j]? = some nd) ∧ (W.compAt j → j ∈ M)

theorem MI.pop {D Wt : Addr} {J stk : List Nat} {j : Nat} (I : MI P σ₀ W M m D Wt σ J (stk ++ [j])) : ∃ (ts : List Addr) (t : Addr), σ Wt = some (.list (ts.map Value.ref ++ [.ref t])) ∧ σ t = some (.tuple [VI j, W.mate m j]) ∧ ts.length ≤ stk.length ∧
    ∀ σ', Up (· = Wt) σ σ' → σ' Wt = some (.list (ts.map Value.ref)) → MI P σ₀ W M m D Wt σ' J stk := by
  obtain ⟨ts, h1, h2, h3⟩ := I.hW
  have hne : ts ≠ [] := fun q => by rw [q] at h2; simp at h2
  obtain ⟨ts', t, rfl⟩ : ∃ ts' t, ts = ts' ++ [t] := ⟨_, _, (List.dropLast_concat_getLast hne).symm⟩
  have hl : ts'.length = stk.length := by simpa using h2
  refine ⟨ts', t, by rw [h1, List.map_append]; rfl, h3 ts'.length t j (by simp) (by rw [hl]; simp), by omega, fun σ' U hw => ⟨I.up.hide U fun c q => q ▸ I.wF, I.dF, I.wF, U.get _ _ (fun q => by have := I.hD; rw [q, h1] at this; cases this) I.hD, ⟨ts', hw, hl, fun i t' j' e1 e2 => ?_⟩, I.nd, I.sub, fun j' hj' => I.stk j' (by simp [hj'])⟩⟩
  have i1 := (List.getElem?_eq_some_iff.mp e1).1
  have i2 := (List.getElem?_eq_some_iff.mp e2).1
  have ht := h3 i t' j' (by rw [List.getElem?_append_left i1]; exact e1) (by rw [List.getElem?_append_left i2]; exact e2)
  exact U.get _ _ (fun q => by rw [q, h1] at ht; cases ht) ht
theorem MI.up' {D Wt : Addr} {J stk : List Nat} (I : MI P σ₀ W M m D Wt σ J stk) (U : Up (fun _ => False) σ σ') : MI P σ₀ W M m D Wt σ' J stk :=
  ⟨I.up.trans U, I.dF, I.wF, U.get _ _ id I.hD, by obtain ⟨ts, a, b, c⟩ := I.hW; exact ⟨ts, U.get _ _ id a, b, fun i t j e1 e2 => U.get _ _ id (c i t j e1 e2)⟩, I.nd, I.sub, I.stk⟩
theorem valueAt_J {J : List Nat} {j : Nat} : valueAt (J.map fun (j : Nat) => ((j : Int), Value.ref (m j))) (j : Int) = if j ∈ J then some (.ref (m j)) else none := by
  unfold valueAt
  induction J with
  | nil => rfl
  | cons a r ih =>
    rw [List.map_cons, List.find?_cons]
    by_cases q : a = j
    · subst q; simp
    · have : decide ((a : Int) = (j : Int)) = false := by simp; omega
      simp only [this]
      rw [ih]
      simp [List.mem_cons, Ne.symm q]
theorem stored_J {J : List Nat} {j : Nat} (h : j ∉ J) : stored (J.map fun (j : Nat) => ((j : Int), Value.ref (m j))) (j : Int) (.ref (m j)) = (J ++ [j]).map fun (j : Nat) => ((j : Int), Value.ref (m j)) := by
  unfold stored
  have e : ((J.map fun (j : Nat) => ((j : Int), Value.ref (m j))).any fun kv => decide (kv.1 = (j : Int))) = false := by
    rw [List.any_map, List.any_eq_false]
    intro a ha
    simp only [Function.comp, decide_eq_true_eq]
    intro q
    exact h (by have : a = j := by omega
                exact this ▸ ha)
  rw [e, List.map_append]; rfl
theorem J_le {D Wt : Addr} {J stk : List Nat} {told th : Addr} {ths : List Value} (C : MC P σ₀ W M m X told th ths) (I : MI P σ₀ W M m D Wt σ J stk) : J.length ≤ 9 :=
  Nat.le_trans (nodup_le _ J I.nd fun i hi => by
    obtain ⟨nd, e, _⟩ := C.fill i (I.sub i hi)
    exact (List.getElem?_eq_some_iff.mp e).1) C.ok.size
theorem stk_le {D Wt : Addr} {J stk : List Nat} (I : MI P σ₀ W M m D Wt σ J stk) : True := trivial
theorem word_num {nd : Nd} (hc : nd.comp = true) : (nd.word == ("number" : Str)) = false := by
  cases nd <;> first | cases hc; done | (show (("text" : Str) == ("number" : Str)) = false; decide) | (show (("pair" : Str) == ("number" : Str)) = false; decide) | (show (("vector" : Str) == ("number" : Str)) = false; decide)
theorem word_sa {nd : Nd} (hc : nd.comp = true) : ([VS "symbol", VS "alias"] : List Value).any (isS nd.word) = false := by
  cases nd <;> first | cases hc; done | (show ([VS "symbol", VS "alias"] : List Value).any (isS "text") = false; decide) | (show ([VS "symbol", VS "alias"] : List Value).any (isS "pair") = false; decide) | (show ([VS "symbol", VS "alias"] : List Value).any (isS "vector") = false; decide)
theorem mate_comp {j : Nat} {nd : Nd} (hj : W.nd[j]? = some nd) (hc : nd.comp = true) : W.mate m j = .ref (m j) := by
  unfold Wd.mate; rw [hj]; cases nd <;> first | rfl | cases hc
theorem Ts.asgSub {o i value : PySem.Expr} {apos : Pos} (h : Ev S n env ρ σ value (fun v σ₁ => Ev S n env ρ σ₁ o (fun ov σ₂ => Ev S n env ρ σ₂ i (fun iv σ₃ => ∀ u, nrm u = v → SetI S n σ₃ ov iv u (fun σ₄ => Ts S n env ρ σ₄ (execs rest env) QS)))))
    (he : (assignEach [.Subscript o i apos] env).map (·.2) = [assign (.Subscript o i apos) env]) (hs : swapsWithSole [.Subscript o i apos] value pos.line env = pure false) (hw : swappedStores [.Subscript o i apos] value env = pure none)
    (hi : ∀ v, assign (.Subscript o i apos) env v = (do
    let ov ← PySem.holding [v] (eval o env)
    let iv ← PySem.holding [v, ov] (eval i env)
    PySem.standAt apos
    PySem.holding [v, ov, iv] (setItem ov iv v)
    release [v, ov, iv] [])) : Ts S n env ρ σ (execs (.Assign [.Subscript o i apos] value pos :: rest) env) QS :=
  Ts.asg1 (h.mono fun v σ₁ q u hu => Tu.sub (q.mono fun ov σ₂ q2 => q2.mono fun iv σ₃ q3 => q3 u hu) (hi u)) he hs hw

theorem MI.visit {D Wt : Addr} {J stk : List Nat} {j : Nat} (I : MI P σ₀ W M m D Wt σ J stk) (hj : j ∈ M) (hJ : j ∉ J) : MI P σ₀ W M m D Wt (put σ D (.dicti ((J ++ [j]).map fun (j : Nat) => ((j : Int), Value.ref (m j))))) (J ++ [j]) stk := by
  obtain ⟨ts, h1, h2, h3⟩ := I.hW
  have g : ∀ b o, (∀ kvs, o ≠ .dicti kvs) → σ b = some o → put σ D (.dicti ((J ++ [j]).map fun (j : Nat) => ((j : Int), Value.ref (m j)))) b = some o := fun b o ho e => put_oth (fun q => by rw [q, I.hD] at e; cases e; exact ho _ rfl) e
  refine ⟨I.up.hide (Up.set (X := (· = D)) I.hD rfl dicti_noInst) fun c q => q ▸ I.dF, I.dF, I.wF, put_self _ _ _, ⟨ts, g _ _ (fun _ e => by cases e) h1, h2, fun i t j' e1 e2 => g _ _ (fun _ e => by cases e) (h3 i t j' e1 e2)⟩, ?_, fun j' hj' => ?_, I.stk⟩
  · exact List.nodup_append.mpr ⟨I.nd, by simp, fun x hx y hy => by simp at hy; subst hy; exact fun q => hJ (q ▸ hx)⟩
  · rcases List.mem_append.mp hj' with h | h
    · exact I.sub j' h
    · have : j' = j := by simpa using h
      exact this ▸ hj
theorem MI.extend {D Wt : Addr} {J stk : List Nat} (I : MI P σ₀ W M m D Wt σ J stk) {as : List Addr} {qs : List Nat} (hl : as.length = qs.length) (h : ∀ (i : Nat) (t : Addr) (q : Nat), as[i]? = some t → qs[i]? = some q → σ t = some (.tuple [VI (q : Nat), W.mate m q]))
    (hq : ∀ q ∈ qs, (∃ nd, W.nd[q]? = some nd) ∧ (W.compAt q → q ∈ M)) : ∃ ts : List Addr, σ Wt = some (.list (ts.map Value.ref)) ∧ ts.length = stk.length ∧ ∀ σ', Up (· = Wt) σ σ' → σ' Wt = some (.list (ts.map Value.ref ++ as.map Value.ref)) → MI P σ₀ W M m D Wt σ' J (stk ++ qs) := by
  obtain ⟨ts, h1, h2, h3⟩ := I.hW
  refine ⟨ts, h1, h2, fun σ' U hw => ⟨I.up.hide U fun c q => q ▸ I.wF, I.dF, I.wF, U.get _ _ (fun q => by have := I.hD; rw [q, h1] at this; cases this) I.hD, ⟨ts ++ as, by rw [hw, List.map_append], by rw [List.length_append, List.length_append, h2, hl], fun i t j' e1 e2 => ?_⟩, I.nd, I.sub, fun j' hj' => ?_⟩⟩
  · have key : σ t = some (.tuple [VI (j' : Nat), W.mate m j']) := by
      rcases Nat.lt_or_ge i ts.length with hi | hi
      · rw [List.getElem?_append_left hi] at e1
        rw [List.getElem?_append_left (by omega)] at e2
        exact h3 i t j' e1 e2
      · rw [List.getElem?_append_right hi] at e1
        rw [List.getElem?_append_right (by omega), ← h2] at e2
        exact h _ t j' e1 e2
    exact U.get _ _ (fun q => by rw [q, h1] at key; cases key) key
  · rcases List.mem_append.mp hj' with w | w
    · exact I.stk j' w
    · exact hq j' w
/-- the parts of a mate -/
theorem ct_partsM (P : Prg S) {a : Addr} {nd : Nd} {o : AObj} {F : Addr → Prop} (hσ : σ a = some o) (hf : Fill P F σ W m M nd o) (ht : (nd.word == ("text" : Str)) = false) (hl : nd.parts.length ≤ 2) (h : ∀ l σ', ¬ fp σ l → σ' l = some (.list (nd.parts.map (W.mate m))) → Up (fun _ => False) σ σ' → Q (.ref l) σ') : CodeV S 1 σ (.ref (P.f .parts)) [.ref a] Q := by
  cases nd with
  | sym => exact hf.elim
  | num => exact hf.elim
  | ali => exact hf.elim
  | txt cs => cases ht
  | pr p q =>
    rw [hf.1] at hσ
    exact ct_partsP P hσ h
  | vec ps =>
    obtain ⟨l, e, b, _⟩ := hf
    rw [e] at hσ
    exact ct_partsV P hσ b (by rw [List.length_map]; exact Nat.le_trans hl (by decide)) h
theorem Fill.kids {nd : Nd} {o : AObj} {F : Addr → Prop} (hf : Fill P F σ W m M nd o) : ∀ p ∈ nd.parts, W.compAt p → p ∈ M := by
  cases nd with
  | sym => exact hf.elim
  | num => exact hf.elim
  | ali => exact hf.elim
  | txt cs => intro p hp; cases hp
  | pr p q =>
    intro x hx
    simp only [Nd.parts, List.mem_cons, List.not_mem_nil, or_false] at hx
    rcases hx with rfl | rfl
    · exact hf.2.1
    · exact hf.2.2
  | vec ps => obtain ⟨l, _, _, _, d⟩ := hf; exact d
theorem ints_parts {nd : Nd} (hc : nd.comp = true) (ht : (nd.word == ("text" : Str)) = false) : nd.ints = nd.parts.map fun (p : Nat) => (p : Int) := by
  cases nd <;> first | rfl | cases hc; done | cases ht
theorem thenNext (h : Ts S n env ρ σ (execs rest env) QS) : Then S n env rest QS .next ρ σ := h
def MPost (P : Prg S) (σ₀ : AH) (W : Wd) (M : List Nat) (m : Nat → Addr) (D Wt told th : Addr) (bound : Nat) : Flow → (Str → Option Value) → AH → Prop := fun f ρ2 σ3 => f = .next ∧ ∃ J2 stk2, MI P σ₀ W M m D Wt σ3 J2 stk2 ∧ stk2.length + 3 * (10 - J2.length) < bound ∧ stk2.length ≤ 40 - 3 * (10 - J2.length) ∧ ρ2 "told" = some (.ref told) ∧ ρ2 "things" = some (.ref th) ∧ ρ2 "mates" = some (.ref D) ∧ ρ2 "waiting" = some (.ref Wt) ∧ ρ2 "is_right" = some (.bool true)
theorem MPost.ofI {D Wt told th : Addr} {J stk : List Nat} {bound : Nat} {ρ2 : Str → Option Value} (I : MI P σ₀ W M m D Wt σ J stk) (h1 : stk.length + 3 * (10 - J.length) < bound) (h2 : stk.length ≤ 40 - 3 * (10 - J.length)) (w1 : ρ2 "told" = some (.ref told)) (w2 : ρ2 "things" = some (.ref th)) (w3 : ρ2 "mates" = some (.ref D)) (w4 : ρ2 "waiting" = some (.ref Wt)) (w5 : ρ2 "is_right" = some (.bool true)) :
    MPost P σ₀ W M m D Wt told th bound .next ρ2 σ := ⟨rfl, J, stk, I, h1, h2, w1, w2, w3, w4, w5⟩
theorem ct_mates (P : Prg S) {σ₀ : AH} {W : Wd} {M : List Nat} {m : Nat → Addr} {X : Nat → AObj} {told th : Addr} {ths : List Value} {k0 : Nat} {nd0 : Nd} (hk0 : W.nd[k0]? = some nd0) (C : MC P σ₀ W M m X told th ths) (hr : W.compAt k0 → k0 ∈ M)
    (h : ∀ D σ' (J : List Nat), ¬ fp σ₀ D → Up (fun _ => False) σ₀ σ' → σ' D = some (.dicti (J.map fun (j : Nat) => ((j : Int), Value.ref (m j)))) → (∀ j ∈ J, j ∈ M) → J.length ≤ 9 → Q (.ref D) σ') : CodeV S 4 σ₀ (.ref (P.f .mates)) [.ref told, .ref th, VI (k0 : Nat), W.mate m k0] Q := by
  refine CodeV.fn (d := dF .mates) ["told", "things", "first", "found"] (P.fnF .mates) (by kernel_rfl) (fun pm cd raws hr => ?_) (fun pm cd L => ?_)
  · match raws, hr with
    | [x0, x1, x2, x3], _ => kernel_rfl
  · have r1 : rho0 ["told", "things", "first", "found"] [.ref told, .ref th, VI (k0 : Nat), W.mate m k0] "told" = some (.ref told) := by kernel_rfl
    have r2 : rho0 ["told", "things", "first", "found"] [.ref told, .ref th, VI (k0 : Nat), W.mate m k0] "things" = some (.ref th) := by kernel_rfl
    have r3 : rho0 ["told", "things", "first", "found"] [.ref told, .ref th, VI (k0 : Nat), W.mate m k0] "first" = some (VI (k0 : Nat)) := by kernel_rfl
    have r4 : rho0 ["told", "things", "first", "found"] [.ref told, .ref th, VI (k0 : Nat), W.mate m k0] "found" = some (W.mate m k0) := by kernel_rfl
    generalize hρ : rho0 ["told", "things", "first", "found"] [.ref told, .ref th, VI (k0 : Nat), W.mate m k0] = ρ at r1 r2 r3 r4 ⊢
    refine Ts.asgSwap "mates" "waiting" ?_ (by kernel_rfl) (by kernel_rfl) (by kernel_rfl) (by kernel_rfl)
    k_search "es"
    refine Ev.dicti0 fun D hD => ?_
    k_search "es"
    refine ⟨by simp, fun t0 ht0 => ?_⟩
    k_search "es"
    refine ⟨by simp, fun Wt hWt => ?_⟩
    k_search "es"
    refine ⟨by simp, fun t1 ht1 => ?_⟩
    refine ⟨t1, _, _, rfl, put_self _ _ _, ?_⟩
    have I0 : MI P σ₀ W M m D Wt (put (put (put (put σ₀ D (.dicti [])) t0 (.tuple [VI (k0 : Nat), W.mate m k0])) Wt (.list [.ref t0])) t1 (.tuple [.ref D, .ref Wt])) [] [k0] := by
      have U : Up (fun _ => False) σ₀ (put (put (put (put σ₀ D (.dicti [])) t0 (.tuple [VI (k0 : Nat), W.mate m k0])) Wt (.list [.ref t0])) t1 (.tuple [.ref D, .ref Wt])) := (Up.new hD).trans ((Up.new ht0).trans ((Up.new hWt).trans (Up.new ht1)))
      refine ⟨U, hD, fun q => hWt ((Up.new (X := fun _ => True) ht0).fp _ ((Up.new (X := fun _ => True) hD).fp _ q)), put_old ht1 (put_old hWt (put_old ht0 (put_self _ _ _))), ⟨[t0], put_old ht1 (put_self _ _ _), rfl, fun i t j e1 e2 => ?_⟩, List.nodup_nil, (by intro j hj; cases hj), fun j hj => ?_⟩
      · cases i with
        | zero => cases e1; cases e2; exact put_old ht1 (put_old hWt (put_self _ _ _))
        | succ i => simp at e1
      · have : j = k0 := by simpa using hj
        subst this; exact ⟨⟨_, hk0⟩, hr⟩
    have q1 : (setv (setv ρ "waiting" (.ref Wt)) "mates" (.ref D)) "told" = some (.ref told) := by k_search "rho"
    have q2 : (setv (setv ρ "waiting" (.ref Wt)) "mates" (.ref D)) "things" = some (.ref th) := by k_search "rho"
    have q3 : (setv (setv ρ "waiting" (.ref Wt)) "mates" (.ref D)) "mates" = some (.ref D) := by k_search "rho"
    have q4 : (setv (setv ρ "waiting" (.ref Wt)) "mates" (.ref D)) "waiting" = some (.ref Wt) := by k_search "rho"
    generalize (setv (setv ρ "waiting" (.ref Wt)) "mates" (.ref D)) = ρ1 at q1 q2 q3 q4 ⊢
    generalize (put (put (put (put σ₀ D (.dicti [])) t0 (.tuple [VI (k0 : Nat), W.mate m k0])) Wt (.list [.ref t0])) t1 (.tuple [.ref D, .ref Wt])) = σ1 at I0 ⊢
    refine Ts.while1 (fun k ρ' σ' => ∃ J stk, MI P σ₀ W M m D Wt σ' J stk ∧ k = stk.length + 3 * (10 - J.length) ∧ stk.length ≤ 40 - 3 * (10 - J.length) ∧ ρ' "told" = some (.ref told) ∧ ρ' "things" = some (.ref th) ∧ ρ' "mates" = some (.ref D) ∧ ρ' "waiting" = some (.ref Wt)) (k₀ := 31) ⟨[], [k0], I0, rfl, by simp, q1, q2, q3, q4⟩ ?_
    rintro k ρ' σ' ⟨J, stk, I, rfl, hsl, q1, q2, q3, q4⟩
    k_search "es"
    refine ⟨by simp, fun a ha => ?_⟩
    obtain ⟨ts0, hw0, hl0, _⟩ := I.hW
    refine Cmp.neNil (put_old ha hw0) (put_self _ _ _) (Truthy.ofBool ?_)
    rcases List.eq_nil_or_concat stk with rfl | ⟨stk', j, rfl⟩
    · have : ts0 = [] := List.eq_nil_of_length_eq_zero hl0
      subst this
      rw [show (!(List.map Value.ref ([] : List Addr)).isEmpty) = false from rfl]
      k_search "es"
      exact h D _ J I.dF (I.up.trans (Up.new ha)) (put_old ha I.hD) I.sub (J_le C I)
    · rw [List.concat_eq_append] at I hsl hl0 ⊢
      rw [show (!(List.map Value.ref ts0).isEmpty) = true from by cases ts0 with | nil => simp at hl0 | cons a r => rfl]
      have I1 := I.up' (Up.new (o := .list []) ha)
      obtain ⟨ts, t, hw, ht, htl, hpop⟩ := I1.pop
      obtain ⟨⟨nd, hn⟩, hjM⟩ := I.stk j (by simp)
      have hst : stk'.length ≤ 40 := by rw [List.length_append] at hsl; omega
      generalize put σ' a (.list []) = σa at I1 hw ht hpop ⊢
      k_search "s"
      refine Ts.asgTup2 ?_ (by kernel_rfl) (by kernel_rfl) (by kernel_rfl) (by kernel_rfl) (by kernel_rfl) (by kernel_rfl)
      k_search "es"
      refine MethV.list hw PySem.F.slot_list_pop PySem.F.type_list_pop ⟨Callee.builtin, ?_⟩
      k_search "es"
      refine CallV.popLast hw (by rw [List.length_map]; omega) ?_
      have htW : t ≠ Wt := fun q => by rw [q, hw] at ht; cases ht
      refine ⟨t, _, _, rfl, put_oth htW ht, ?_⟩
      have I2 := hpop _ (Up.set hw rfl list_noInst) (put_self _ _ _)
      generalize put σa Wt (.list (ts.map Value.ref)) = σ2 at I2 ⊢
      have C2 := C.up I2.up
      obtain ⟨tv, htold, htvl, htv⟩ := C2.htold
      obtain ⟨v, hv⟩ : ∃ v, tv[j]? = some v := ⟨tv[j]'(by rw [htvl]; exact (List.getElem?_eq_some_iff.mp hn).1), List.getElem?_eq_getElem _⟩
      obtain ⟨tt, rfl, hta⟩ := htv j nd v hn hv
      have hN9 := C.ok.size
      have hJ9 := J_le C I
      rw [List.length_append, List.length_singleton] at hsl
      refine Ts.asgTup2 ?_ (by kernel_rfl) (by kernel_rfl) (by kernel_rfl) (by kernel_rfl) (by kernel_rfl) (by kernel_rfl)
      k_search "es"
      refine SubV.list (k := j) (v := .ref tt) htold hv (by omega) ?_ (fun o i => ⟨_, rfl⟩)
      cases hc : nd.comp with
      | false =>
        rw [if_neg (by rw [hc]; exact Bool.false_ne_true)] at hta
        refine ⟨tt, _, _, rfl, hta, ?_⟩
        refine Ts.then (Ts.mono (QS := (MPost P σ₀ W M m D Wt told th ((stk' ++ [j]).length + 3 * (10 - J.length)))) ?_ ?_)
        · refine Ts.ifC ?_
          cases nd with
          | txt cs => cases hc
          | pr p q => cases hc
          | vec ps => cases hc
          | num =>
            have em : W.mate m j = VI 7 := by unfold Wd.mate; rw [hn]
            rw [em]
            k_search "es"
            refine Cmp.eqS (Truthy.ofBool ?_)
            rw [show (Nd.num.word == ("number" : Str)) = true from rfl]
            k_search "es"; k_search "isi"; k_search "es"
            refine Cmp.eqI ?_
            rw [show ((7 : Int) == 7) = true from rfl]
            k_search "es"; refine Ts.nil1 (MPost.ofI I2 (by rw [List.length_append, List.length_singleton]; omega) (by omega) (by k_search "rho") (by k_search "rho") (by k_search "rho") (by k_search "rho") (by k_search "rho"))
          | sym =>
            have em : W.mate m j = .ref (W.ad j) := by unfold Wd.mate; rw [hn]
            rw [em]
            have N1 : σ2 (W.ad j) = some (.inst (P.c .Symbol) [("number", VI 0), ("text", VS "a")]) := C2.node j _ hn
            k_search "es"
            refine Cmp.eqS (Truthy.ofBool ?_)
            rw [show (Nd.sym.word == ("number" : Str)) = false from rfl]
            k_search "es"
            refine ⟨by simp, fun t2 ht2 => ?_⟩
            refine Cmp.inTup (put_self _ _ _) (by simp) (Truthy.ofBool ?_)
            rw [show ([VS "symbol", VS "alias"] : List Value).any (isS Nd.sym.word) = true from rfl]
            have N2 := put_old (x := .tuple [VS "symbol", VS "alias"]) ht2 N1
            k_search "es"; k_search "isi"; k_search "es"; k_search "at"; k_search "es"
            refine Cmp.eqS ?_
            rw [show (("a" : Str) == ("a" : Str)) = true from rfl]
            k_search "es"; refine Ts.nil1 (MPost.ofI (I2.up' (Up.new ht2)) (by rw [List.length_append, List.length_singleton]; omega) (by omega) (by k_search "rho") (by k_search "rho") (by k_search "rho") (by k_search "rho") (by k_search "rho"))
          | ali =>
            have em : W.mate m j = .ref (W.ad 0) := by unfold Wd.mate; rw [hn]
            rw [em]
            have N1 : σ2 (W.ad 0) = some (.inst (P.c .Symbol) [("number", VI 0), ("text", VS "a")]) := C2.node 0 _ C.ok.zero
            k_search "es"
            refine Cmp.eqS (Truthy.ofBool ?_)
            rw [show (Nd.ali.word == ("number" : Str)) = false from rfl]
            k_search "es"
            refine ⟨by simp, fun t2 ht2 => ?_⟩
            refine Cmp.inTup (put_self _ _ _) (by simp) (Truthy.ofBool ?_)
            rw [show ([VS "symbol", VS "alias"] : List Value).any (isS Nd.ali.word) = true from rfl]
            have N2 := put_old (x := .tuple [VS "symbol", VS "alias"]) ht2 N1
            k_search "es"; k_search "isi"; k_search "es"; k_search "at"; k_search "es"
            refine Cmp.eqS ?_
            rw [show (("a" : Str) == ("a" : Str)) = true from rfl]
            k_search "es"; refine Ts.nil1 (MPost.ofI (I2.up' (Up.new ht2)) (by rw [List.length_append, List.length_singleton]; omega) (by omega) (by k_search "rho") (by k_search "rho") (by k_search "rho") (by k_search "rho") (by k_search "rho"))
        · 
          rintro f ρ2 σ3 ⟨rfl, J2, stk2, I3, hlt, hb, w1, w2, w3, w4, w5⟩
          refine thenNext ?_
          k_search "es"
          refine Truthy.ofBool ?_
          k_search "es"
          exact Ts.nil1 ⟨_, hlt, J2, stk2, I3, rfl, hb, w1, w2, w3, w4⟩

      | true =>
        rw [if_pos hc] at hta
        obtain ⟨pl, hta, hpl⟩ := hta
        refine ⟨tt, _, _, rfl, hta, ?_⟩
        have hjM' := hjM ⟨nd, hn, hc⟩
        rw [mate_comp hn hc]
        refine Ts.then (Ts.mono (QS := (MPost P σ₀ W M m D Wt told th ((stk' ++ [j]).length + 3 * (10 - J.length)))) ?_ ?_)
        · refine Ts.ifC ?_
          k_search "es"
          refine Cmp.eqS (Truthy.ofBool ?_)
          rw [word_num hc]
          k_search "es"
          refine ⟨by simp, fun t2 ht2 => ?_⟩
          refine Cmp.inTup (put_self _ _ _) (by simp) (Truthy.ofBool ?_)
          rw [word_sa hc]
          have I3 := I2.up' (Up.new (o := .tuple [VS "symbol", VS "alias"]) ht2)
          generalize hσ3 : put σ2 t2 (.tuple [VS "symbol", VS "alias"]) = σ3 at I3 ⊢
          have U23 : Up (fun _ => False) σ2 σ3 := hσ3 ▸ Up.new ht2
          have C3 := C2.up U23
          have hm3 := C3.mate j hjM'
          obtain ⟨cj, aj, hXj⟩ := C.isI j hjM'
          rw [hXj] at hm3
          k_search "es"
          refine Cmp.inDict I3.hD (Truthy.ofBool ?_)
          rw [valueAt_J]
          by_cases hJ : j ∈ J
          · rw [if_pos hJ]
            rw [show (some (Value.ref (m j))).isSome = true from rfl]
            k_search "es"
            refine SubV.dicti I3.hD (v := .ref (m j)) (by rw [valueAt_J, if_pos hJ]) ?_ (fun o i => ⟨_, rfl⟩)
            k_search "es"
            have hdom : Dom P σ3 (.ref (m j)) := .inr ⟨_, _, _, rfl, hm3⟩
            refine CallV.of_code ((ct_isOne P hdom hdom fun b hb => ?_).up (by decide))
            rw [hb.mpr rfl]
            k_search "es"; refine Ts.nil1 (MPost.ofI I3 (by rw [List.length_append, List.length_singleton]; omega) (by omega) (by k_search "rho") (by k_search "rho") (by k_search "rho") (by k_search "rho") (by k_search "rho"))
          · rw [if_neg hJ]
            rw [show (none : Option Value).isSome = false from rfl]
            k_search "s"
            refine Ts.asgN ?_ (by kernel_rfl) (by kernel_rfl) (by kernel_rfl) (by kernel_rfl)
            refine Tr.mono (Q := fun v σ₄ => v = .bool true ∧ Up (fun _ => False) σ3 σ₄) ?_ ?_
            · k_search "es"
              refine Tr.mono (Q := fun v σ₄ => ∃ l, v = .ref l ∧ σ₄ l = some (.list []) ∧ Up (fun _ => False) σ3 σ₄) ?_ ?_
              · refine Ev.compIf2 [("fresh", L + 1)] (mkBlock rfl (by kernel_rfl) (by decide +kernel) (by decide +kernel) (fun x c e => e) (by simp) (by kernel_rfl)) (by kernel_rfl) ?_ (fun _ => rfl)
                k_search "es"
                refine MethV.dicti I3.hD PySem.F.slot_dict_values PySem.F.type_dict_values ⟨Callee.builtin, ?_⟩
                k_search "es"
                refine CallV.values I3.hD fun vr hvr => ?_
                k_search "es"
                refine CallV.listValues (put_old hvr I3.hD) (put_self _ _ _) (by rw [List.length_map]; omega) fun vl hvl => ?_
                rw [List.map_map, show ((fun x : Int × Value => x.2) ∘ fun (j : Nat) => ((j : Int), Value.ref (m j))) = fun j => Value.ref (m j) from rfl]
                refine Bin.addList (put_old hvl (put_old hvr C3.hth)) (put_self _ _ _) (by have := C.few; rw [List.length_map]; omega) fun la hla => ?_
                have U6 : Up (fun _ => False) σ3 _ := (Up.new hvr).trans ((Up.new hvl).trans (Up.new (o := .list (ths ++ J.map fun j => Value.ref (m j))) hla))
                refine ⟨fun i acc σ'' => i ≤ (ths ++ J.map fun j => Value.ref (m j)).length ∧ acc = [] ∧ Up (fun _ => False) σ3 σ'' ∧ σ'' la = some (.list (ths ++ J.map fun j => Value.ref (m j))), (ths ++ J.map fun j => Value.ref (m j)).length, ?_⟩
                refine PyIt.list (put_self _ _ _) ⟨⟨Nat.zero_le _, rfl, U6, put_self _ _ _⟩, ?_⟩
                rintro i acc σ'' ⟨hi, rfl, U, hl⟩
                refine ⟨hi, by simp, (ths ++ J.map fun j => Value.ref (m j))[i]?, ⟨_, hl, rfl⟩, ?_⟩
                have C4 := C3.up U
                have hm4 := U.get _ _ id hm3
                cases e : (ths ++ J.map fun j => Value.ref (m j))[i]? with
                | some v =>
                  have hi' := (List.getElem?_eq_some_iff.mp e).1
                  intro C' ρc hc1 hc2
                  have hc3 := (hc2 "fresh" (notLocal (k := .cell) (by kernel_rfl) (by decide))).trans (by k_search "rho" : setv (setv (setv (setv ρ' "number" (VI (j : Nat))) "fresh" (.ref (m j))) "word" (VS nd.word)) "parts" (.ref pl) "fresh" = some (.ref (m j)))
                  have hdv : Dom P σ'' v ∧ v ≠ .ref (m j) := by
                    rcases List.mem_append.mp (List.mem_of_getElem? e) with h1 | h1
                    · exact ⟨(C4.dom v h1).1, (C4.dom v h1).2 j hjM'⟩
                    · obtain ⟨j', hj', rfl⟩ := List.mem_map.mp h1
                      have hM' := I.sub j' hj'
                      obtain ⟨c', a', e'⟩ := C4.isI j' hM'
                      have := C4.mate j' hM'
                      rw [e'] at this
                      refine ⟨.inr ⟨_, _, _, rfl, this⟩, fun q => hJ ?_⟩
                      have : m j' = m j := Value.ref.inj q
                      exact (C4.inj j' hM' j hjM' this) ▸ hj'
                  have hdom : Dom P σ'' (.ref (m j)) := .inr ⟨_, _, _, rfl, hm4⟩
                  k_search "es"
                  refine CallV.of_code ((ct_isOne P hdv.1 hdom fun b hb => ?_).up (by decide))
                  have : b = false := by cases b with | false => rfl | true => exact absurd (hb.mp rfl) hdv.2
                  subst this
                  refine Truthy.ofBool ?_
                  exact iteF ⟨hi', rfl, U, hl⟩
                | none =>
                  intro l hl'
                  exact ⟨l, rfl, put_self _ _ _, U.trans (Up.new hl')⟩
              · rintro v σ₄ ⟨l, rfl, hl, U4⟩
                k_search "es"
                refine ⟨by simp, fun l2 hl2 => ?_⟩
                refine Cmp.eqNil (put_old hl2 hl) (put_self _ _ _) ?_
                exact ⟨rfl, U4.trans (Up.new hl2)⟩
            · rintro v σ4 ⟨rfl, U4⟩
              have I4 := I3.up' U4
              have C4 := C3.up U4
              have hm4 := U4.get _ _ id hm3
              refine Ts.asgSub ?_ (by kernel_rfl) (by kernel_rfl) (by kernel_rfl) (fun _ => rfl)
              k_search "es"
              intro u hu
              refine SetI.dicti I4.hD (by rw [List.length_map]; omega) ?_
              rw [hu, stored_J hJ]
              have I5 := I4.visit hjM' hJ
              have hpl5 : put σ4 D (.dicti ((J ++ [j]).map fun (j : Nat) => ((j : Int), Value.ref (m j)))) pl = some (.list (nd.ints.map VI)) := put_oth (fun q => by have := U4.get _ _ id (U23.get _ _ id hpl); rw [q, I4.hD] at this; cases this) (U4.get _ _ id (U23.get _ _ id hpl))
              generalize put σ4 D (.dicti ((J ++ [j]).map fun (j : Nat) => ((j : Int), Value.ref (m j)))) = σ5 at I5 hpl5 ⊢
              have C5 := C.up I5.up
              have hm5 := C5.mate j hjM'
              obtain ⟨nd', hn', hf⟩ := C5.fill j hjM'
              have : nd' = nd := by rw [hn] at hn'; cases hn'; rfl
              subst this
              have hJ5 : (J ++ [j]).length = J.length + 1 := by simp
              cases ht : (nd'.word == ("text" : Str)) with
              | true =>
                cases nd' with
                | sym => cases hc
                | num => cases hc
                | ali => cases hc
                | pr p q => cases ht
                | vec ps => cases ht
                | txt cs =>
                  obtain ⟨l, eX, hl5, _⟩ := hf
                  rw [eX] at hm5
                  refine Ts.if1 ?_
                  k_search "es"
                  refine Cmp.eqS (Truthy.ofBool ?_)
                  rw [ht]
                  k_search "es"
                  refine Truthy.ofBool ?_
                  k_search "es"; k_search "isi"; k_search "es"; k_search "at"; k_search "es"
                  refine Cmp.eqInts hl5 hpl5 ?_
                  rw [show decide (cs = (Nd.txt cs).ints) = true from decide_eq_true rfl]
                  k_search "es"
                  exact Ts.nil1 (MPost.ofI I5 (by simp only [List.length_append, List.length_singleton]; omega) (by simp only [List.length_append, List.length_singleton]; omega) (by k_search "rho") (by k_search "rho") (by k_search "rho") (by k_search "rho") (by k_search "rho"))
              | false =>
                refine Ts.if1 ?_
                k_search "es"
                refine Cmp.eqS (Truthy.ofBool ?_)
                rw [ht]
                refine iteF ?_
                refine Ts.asgN ?_ (by kernel_rfl) (by kernel_rfl) (by kernel_rfl) (by kernel_rfl)
                refine Tr.mono (Q := fun v σ6 => v = .bool true ∧ σ6 = σ5) ?_ ?_
                · cases nd' with
                  | sym => cases hc
                  | num => cases hc
                  | ali => cases hc
                  | txt cs => cases ht
                  | pr p q =>
                    have hm6 := hm5
                    rw [hf.1] at hm6
                    k_search "es"
                    refine Truthy.ofBool ?_
                    k_search "es"
                    refine Cmp.eqS (Truthy.ofBool ?_)
                    rw [show ((Nd.pr p q).word == ("pair" : Str)) = true from rfl]
                    k_search "es"; k_search "isi"
                    exact ⟨rfl, rfl⟩
                  | vec ps =>
                    obtain ⟨l, eX, _⟩ := hf
                    have hm6 := hm5
                    rw [eX] at hm6
                    k_search "es"
                    refine Truthy.ofBool ?_
                    k_search "es"
                    refine Cmp.eqS (Truthy.ofBool ?_)
                    rw [show ((Nd.vec ps).word == ("pair" : Str)) = false from rfl]
                    k_search "es"; k_search "isi"
                    exact ⟨rfl, rfl⟩
                · rintro v σ6 ⟨rfl, rfl⟩
                  have hps := C.ok.few j _ hn
                  have hin := ints_parts hc ht
                  rw [hin] at hpl5
                  k_search "es"
                  refine Truthy.ofBool ?_
                  k_search "es"
                  refine CallV.of_code ((ct_partsM P hm5 hf ht hps fun l7 σ7 hl7 e7 U7 => ?_).up (by decide))
                  k_search "es"
                  refine CallV.len e7 (by rw [List.length_map]; omega) ?_
                  k_search "es"
                  refine CallV.len (U7.get _ _ id hpl5) (by rw [List.length_map, List.length_map]; omega) ?_
                  refine Cmp.neI (Truthy.ofBool ?_)
                  rw [List.length_map, List.length_map, List.length_map, bne_self_eq_false]
                  k_search "es"
                  have I7 := I5.up' U7
                  have C7 := C5.up U7
                  obtain ⟨ts7, hw7, htl7, _⟩ := I7.hW
                  refine MethV.list hw7 PySem.F.slot_list_extend PySem.F.type_list_extend ⟨Callee.builtin, ?_⟩
                  k_search "es"
                  refine Truthy.ofBool ?_
                  k_search "es"
                  refine CallV.of_code ((ct_partsM P (U7.get _ _ id hm5) (hf.upF U7) ht hps fun l8 σ8 hl8 e8 U8 => ?_).up (by decide))
                  k_search "es"
                  have hpl8 := U8.get _ _ id (U7.get _ _ id hpl5)
                  refine CallV.zip hpl8 e8 fun z TI TO i1 i2 σz Z => ?_
                  k_search "es"
                  refine CallV.listZip Z hpl8 e8 (by rw [List.length_map, List.length_map, List.length_map]) (by rw [List.length_map, List.length_map]; omega) fun lz as σ9 hlz hz9 hasl hpr U9 => ?_
                  have I9 := (I7.up' U8).up' U9
                  obtain ⟨ts9, hw9, htl9, hext⟩ := I9.extend (as := as) (qs := nd'.parts) (by rw [hasl, List.length_map, List.length_map]) (fun i t q e1 e2 => by
                    obtain ⟨a', ha1, ha2⟩ := hpr i (VI (q : Nat)) (W.mate m q) (by rw [List.getElem?_map, List.getElem?_map, e2]; rfl) (by rw [List.getElem?_map, e2]; rfl)
                    rw [e1] at ha1; cases ha1
                    exact ha2) (fun q hq => ⟨node_of C.ok hn hq, hf.kids q hq⟩)
                  k_search "es"
                  refine CallV.extend hw9 hz9 (by rw [List.length_map, List.length_map, hasl, List.length_map, List.length_map]; omega) ?_
                  k_search "es"
                  exact Ts.nil1 (MPost.ofI (hext _ (Up.set hw9 rfl list_noInst) (put_self _ _ _)) (by simp only [List.length_append, List.length_singleton]; omega) (by simp only [List.length_append, List.length_singleton]; omega) (by k_search "rho") (by k_search "rho") (by k_search "rho") (by k_search "rho") (by k_search "rho"))
        · 
          rintro f ρ2 σ3 ⟨rfl, J2, stk2, I3, hlt, hb, w1, w2, w3, w4, w5⟩
          refine thenNext ?_
          k_search "es"
          refine Truthy.ofBool ?_
          k_search "es"
          exact Ts.nil1 ⟨_, hlt, J2, stk2, I3, rfl, hb, w1, w2, w3, w4⟩

end

section
variable {S : Stat} {n : Nat} {env : Env} {ρ : Str → Option Value} {σ : AH} {Q : Value → AH → Prop} {pos : Pos} {QS : Flow → (Str → Option Value) → AH → Prop} {rest : List PySem.Stmt}
  {P : Prg S} {σ₀ : AH} {W : Wd} {σ' : AH}

/-- what is told of the things -/
structure TC (σ : AH) (W : Wd) (told : Addr) (tv : List Value) : Prop where
  ok : WOk W
  h : σ told = some (.list tv)
  len : tv.length = W.nd.length
  at_ : ∀ (j : Nat) (nd : Nd) (v : Value), W.nd[j]? = some nd → tv[j]? = some v → ToldAt σ v nd
theorem TC.up {told : Addr} {tv : List Value} (c : TC σ W told tv) (U : Up (fun _ => False) σ σ') : TC σ' W told tv := ⟨c.ok, U.get _ _ id c.h, c.len, fun j nd v e1 e2 => (c.at_ j nd v e1 e2).up U⟩
theorem TC.get {told : Addr} {tv : List Value} (c : TC σ W told tv) {j : Nat} {nd : Nd} (hn : W.nd[j]? = some nd) : ∃ t, tv[j]? = some (.ref t) ∧ ToldAt σ (.ref t) nd := by
  have hj : j < tv.length := by rw [c.len]; exact (List.getElem?_eq_some_iff.mp hn).1
  obtain ⟨t, e, h⟩ := c.at_ j nd tv[j] hn (List.getElem?_eq_getElem hj)
  exact ⟨t, by rw [List.getElem?_eq_getElem hj, e], t, rfl, h⟩
def Nd.hasParts : Nd → Bool
  | .pr _ _ => true
  | .vec _ => true
  | _ => false
/-- the told pair of a thing -/
def Nd.pv (pl : Addr) (nd : Nd) : Value := if nd.comp = true then .ref pl else nd.scal
theorem told_tup {t : Addr} {nd : Nd} (h : ToldAt σ (.ref t) nd) : ∃ pl, σ t = some (.tuple [VS nd.word, nd.pv pl]) ∧ (nd.comp = true → σ pl = some (.list (nd.ints.map VI))) := by
  obtain ⟨t', e, h⟩ := h
  cases e
  unfold Nd.pv
  by_cases hc : nd.comp = true
  · rw [if_pos hc] at h
    obtain ⟨l, a, b⟩ := h
    exact ⟨l, by rw [if_pos hc]; exact a, fun _ => b⟩
  · rw [if_neg hc] at h
    exact ⟨0, by rw [if_neg hc]; exact h, fun x => absurd x hc⟩
theorem word_pv (nd : Nd) : ([VS "pair", VS "vector"] : List Value).any (isS nd.word) = nd.hasParts := by
  cases nd <;> rfl
theorem parts_none {nd : Nd} (h : nd.hasParts = false) : nd.parts = [] := by cases nd <;> first | rfl | cases h
theorem parts_some {nd : Nd} (h : nd.hasParts = true) : nd.comp = true ∧ nd.ints = nd.parts.map fun (p : Nat) => (p : Int) := by cases nd <;> first | exact ⟨rfl, rfl⟩ | cases h

structure RI (σ₀ : AH) (W : Wd) (k0 : Nat) (D Wt : Addr) (σ : AH) (J stk : List Nat) : Prop where
  up : Up (fun _ => False) σ₀ σ
  dF : ¬ fp σ₀ D
  wF : ¬ fp σ₀ Wt
  hD : σ D = some (.dicti (J.map fun (j : Nat) => ((j : Int), Value.bool true)))
  hW : σ Wt = some (.list (stk.map fun (j : Nat) => VI (j : Nat)))
  nd : J.Nodup
  rJ : ∀ j ∈ J, Reach W k0 j
  rS : ∀ j ∈ stk, Reach W k0 j
  clo : ∀ (j : Nat) (nd : Nd), j ∈ J → W.nd[j]? = some nd → ∀ p ∈ nd.parts, p ∈ J ∨ p ∈ stk
  root : k0 ∈ J ∨ k0 ∈ stk
theorem RI.up' {k0 : Nat} {D Wt : Addr} {J stk : List Nat} (I : RI σ₀ W k0 D Wt σ J stk) (U : Up (fun _ => False) σ σ') : RI σ₀ W k0 D Wt σ' J stk :=
  ⟨I.up.trans U, I.dF, I.wF, U.get _ _ id I.hD, U.get _ _ id I.hW, I.nd, I.rJ, I.rS, I.clo, I.root⟩
theorem Reach.lt (hW : WOk W) {k0 : Nat} {nd0 : Nd} (hk0 : W.nd[k0]? = some nd0) {j : Nat} (r : Reach W k0 j) : ∃ nd, W.nd[j]? = some nd := by
  induction r with
  | base => exact ⟨_, hk0⟩
  | step _ hi hp _ => exact node_of hW hi hp
theorem RI.le (hW : WOk W) {k0 : Nat} {nd0 : Nd} (hk0 : W.nd[k0]? = some nd0) {D Wt : Addr} {J stk : List Nat} (I : RI σ₀ W k0 D Wt σ J stk) : J.length ≤ 9 :=
  Nat.le_trans (nodup_le _ J I.nd fun i hi => by
    obtain ⟨nd, e⟩ := (I.rJ i hi).lt hW hk0
    exact (List.getElem?_eq_some_iff.mp e).1) hW.size
theorem RI.done {k0 : Nat} {D Wt : Addr} {J : List Nat} (I : RI σ₀ W k0 D Wt σ J []) (j : Nat) : j ∈ J ↔ Reach W k0 j := by
  refine ⟨I.rJ j, fun r => ?_⟩
  induction r with
  | base => exact I.root.resolve_right (by simp)
  | step _ hi hp ih => exact (I.clo _ _ ih hi _ hp).resolve_right (by simp)
theorem valueAt_B {J : List Nat} {j : Nat} : (valueAt (J.map fun (j : Nat) => ((j : Int), Value.bool true)) (j : Int)).isSome = decide (j ∈ J) := by
  unfold valueAt
  induction J with
  | nil => rfl
  | cons a r ih =>
    rw [List.map_cons, List.find?_cons]
    by_cases q : a = j
    · subst q; simp
    · have : decide ((a : Int) = (j : Int)) = false := by simp; omega
      simp only [this]
      rw [ih]
      simp [List.mem_cons, Ne.symm q]
theorem stored_B {J : List Nat} {j : Nat} (h : j ∉ J) : stored (J.map fun (j : Nat) => ((j : Int), Value.bool true)) (j : Int) (.bool true) = (J ++ [j]).map fun (j : Nat) => ((j : Int), Value.bool true) := by
  unfold stored
  have e : ((J.map fun (j : Nat) => ((j : Int), Value.bool true)).any fun kv => decide (kv.1 = (j : Int))) = false := by
    rw [List.any_map, List.any_eq_false]
    intro a ha
    simp only [Function.comp, decide_eq_true_eq]
    intro q
    exact h (by have : a = j := by omega
                exact this ▸ ha)
  rw [e, List.map_append]; rfl

theorem ct_reached (P : Prg S) {σ₀ : AH} {W : Wd} {told : Addr} {tv : List Value} {k0 : Nat} {nd0 : Nd} (hk0 : W.nd[k0]? = some nd0) (C : TC σ₀ W told tv)
    (h : ∀ D σ' (J : List Nat), ¬ fp σ₀ D → Up (fun _ => False) σ₀ σ' → σ' D = some (.dicti (J.map fun (j : Nat) => ((j : Int), Value.bool true))) → (∀ j, j ∈ J ↔ Reach W k0 j) → J.length ≤ 9 → Q (.ref D) σ') : CodeV S 3 σ₀ (.ref (P.f .reached)) [.ref told, VI (k0 : Nat)] Q := by
  refine CodeV.fn (d := dF .reached) ["told", "first"] (P.fnF .reached) (by kernel_rfl) (fun pm cd raws hr => ?_) (fun pm cd L => ?_)
  · match raws, hr with
    | [x0, x1], _ => kernel_rfl
  · have r1 : rho0 ["told", "first"] [.ref told, VI (k0 : Nat)] "told" = some (.ref told) := by kernel_rfl
    have r2 : rho0 ["told", "first"] [.ref told, VI (k0 : Nat)] "first" = some (VI (k0 : Nat)) := by kernel_rfl
    generalize hρ : rho0 ["told", "first"] [.ref told, VI (k0 : Nat)] = ρ at r1 r2 ⊢
    refine Ts.asgSwap "seen" "waiting" ?_ (by kernel_rfl) (by kernel_rfl) (by kernel_rfl) (by kernel_rfl)
    k_search "es"
    refine Ev.dicti0 fun D hD => ?_
    k_search "es"
    refine ⟨by simp, fun Wt hWt => ?_⟩
    k_search "es"
    refine ⟨by simp, fun t1 ht1 => ?_⟩
    refine ⟨t1, _, _, rfl, put_self _ _ _, ?_⟩
    have I0 : RI σ₀ W k0 D Wt (put (put (put σ₀ D (.dicti [])) Wt (.list [VI (k0 : Nat)])) t1 (.tuple [.ref D, .ref Wt])) [] [k0] := by
      have U : Up (fun _ => False) σ₀ (put (put (put σ₀ D (.dicti [])) Wt (.list [VI (k0 : Nat)])) t1 (.tuple [.ref D, .ref Wt])) := (Up.new hD).trans ((Up.new hWt).trans (Up.new ht1))
      exact ⟨U, hD, fun q => hWt ((Up.new (X := fun _ => True) hD).fp _ q), put_old ht1 (put_old hWt (put_self _ _ _)), put_old ht1 (put_self _ _ _), List.nodup_nil, (by intro j hj; cases hj), fun j hj => (List.mem_singleton.mp hj) ▸ .base, (by intro j nd hj; cases hj), .inr (by simp)⟩
    have q1 : (setv (setv ρ "waiting" (.ref Wt)) "seen" (.ref D)) "told" = some (.ref told) := by k_search "rho"
    have q3 : (setv (setv ρ "waiting" (.ref Wt)) "seen" (.ref D)) "seen" = some (.ref D) := by k_search "rho"
    have q4 : (setv (setv ρ "waiting" (.ref Wt)) "seen" (.ref D)) "waiting" = some (.ref Wt) := by k_search "rho"
    generalize (setv (setv ρ "waiting" (.ref Wt)) "seen" (.ref D)) = ρ1 at q1 q3 q4 ⊢
    generalize (put (put (put σ₀ D (.dicti [])) Wt (.list [VI (k0 : Nat)])) t1 (.tuple [.ref D, .ref Wt])) = σ1 at I0 ⊢
    refine Ts.while1 (fun k ρ' σ' => ∃ J stk, RI σ₀ W k0 D Wt σ' J stk ∧ k = stk.length + 3 * (10 - J.length) ∧ stk.length ≤ 40 - 3 * (10 - J.length) ∧ ρ' "told" = some (.ref told) ∧ ρ' "seen" = some (.ref D) ∧ ρ' "waiting" = some (.ref Wt)) (k₀ := 31) ⟨[], [k0], I0, rfl, by simp, q1, q3, q4⟩ ?_
    rintro k ρ' σ' ⟨J, stk, I, rfl, hsl, q1, q3, q4⟩
    have hJ9 := I.le C.ok hk0
    k_search "es"
    refine ⟨by simp, fun a ha => ?_⟩
    refine Cmp.neNil (put_old ha I.hW) (put_self _ _ _) (Truthy.ofBool ?_)
    rcases List.eq_nil_or_concat stk with rfl | ⟨stk', j, rfl⟩
    · rw [show (!(List.map (fun (j : Nat) => VI (j : Nat)) ([] : List Nat)).isEmpty) = false from rfl]
      k_search "es"
      exact h D _ J I.dF (I.up.trans (Up.new ha)) (put_old ha I.hD) I.done hJ9
    · rw [List.concat_eq_append] at I hsl ⊢
      rw [show (!(List.map (fun (j : Nat) => VI (j : Nat)) (stk' ++ [j])).isEmpty) = true from by cases stk' <;> rfl]
      have I1 := I.up' (Up.new (o := .list []) ha)
      have hw := I1.hW
      rw [List.map_append, List.map_cons, List.map_nil] at hw
      have hrj := I.rS j (by simp)
      obtain ⟨nd, hn⟩ := hrj.lt C.ok hk0
      generalize put σ' a (.list []) = σa at I1 hw ⊢
      rw [List.length_append, List.length_singleton] at hsl
      k_search "es"
      refine MethV.list hw PySem.F.slot_list_pop PySem.F.type_list_pop ⟨Callee.builtin, ?_⟩
      k_search "es"
      refine CallV.popLast hw (by rw [List.length_map]; omega) ?_
      have U2 : Up (· = Wt) σa (put σa Wt (.list (stk'.map fun (j : Nat) => VI (j : Nat)))) := Up.set hw rfl list_noInst
      have Uσ2 := I1.up.hide U2 fun c q => q ▸ I.wF
      have hD2 := U2.get D _ (fun q => by have := I1.hD; rw [q, hw] at this; cases this) I1.hD
      have hw2 : put σa Wt (.list (stk'.map fun (j : Nat) => VI (j : Nat))) Wt = some (.list (stk'.map fun (j : Nat) => VI (j : Nat))) := put_self _ _ _
      generalize put σa Wt (.list (stk'.map fun (j : Nat) => VI (j : Nat))) = σ2 at U2 Uσ2 hD2 hw2 ⊢
      have C2 := C.up Uσ2
      k_search "es"
      refine Cmp.notInDict hD2 (Truthy.ofBool ?_)
      rw [valueAt_B]
      by_cases hJ : j ∈ J
      · rw [decide_eq_true hJ]
        k_search "es"
        refine Ts.nil1 ⟨stk'.length + 3 * (10 - J.length), by simp only [List.length_append, List.length_singleton]; omega, J, stk', ⟨Uσ2, I.dF, I.wF, hD2, hw2, I.nd, I.rJ, fun j' hj' => I.rS j' (by simp [hj']), fun j' d hj' hd p hp => ?_, ?_⟩, rfl, by omega, by k_search "rho", by k_search "rho", by k_search "rho"⟩
        · rcases I.clo j' d hj' hd p hp with h1 | h1
          · exact .inl h1
          · rcases List.mem_append.mp h1 with h1 | h1
            · exact .inr h1
            · have : p = j := by simpa using h1
              exact .inl (this ▸ hJ)
        · rcases I.root with h1 | h1
          · exact .inl h1
          · rcases List.mem_append.mp h1 with h1 | h1
            · exact .inr h1
            · have : k0 = j := by simpa using h1
              exact .inl (this ▸ hJ)
      · rw [decide_eq_false hJ]
        refine iteNT ?_
        refine Ts.asgSub ?_ (by kernel_rfl) (by kernel_rfl) (by kernel_rfl) (fun _ => rfl)
        k_search "es"
        intro u hu
        refine SetI.dicti hD2 (by rw [List.length_map]; omega) ?_
        rw [hu, stored_B hJ]
        have U3 : Up (· = D) σ2 (put σ2 D (.dicti ((J ++ [j]).map fun (j : Nat) => ((j : Int), Value.bool true)))) := Up.set hD2 rfl dicti_noInst
        have Uσ3 := Uσ2.hide U3 fun c q => q ▸ I.dF
        have hw3 := U3.get Wt _ (fun q => by rw [q, hD2] at hw2; cases hw2) hw2
        have hD3 : put σ2 D (.dicti ((J ++ [j]).map fun (j : Nat) => ((j : Int), Value.bool true))) D = some (.dicti ((J ++ [j]).map fun (j : Nat) => ((j : Int), Value.bool true))) := put_self _ _ _
        generalize put σ2 D (.dicti ((J ++ [j]).map fun (j : Nat) => ((j : Int), Value.bool true))) = σ3 at U3 Uσ3 hw3 hD3 ⊢
        have C3 := C.up Uσ3
        obtain ⟨tt, htt, hta⟩ := C3.get hn
        obtain ⟨pl, htp, hpl⟩ := told_tup hta
        have hN9 := C.ok.size
        have hnd : (J ++ [j]).Nodup := List.nodup_append.mpr ⟨I.nd, by simp, fun x hx y hy => by simp at hy; subst hy; exact fun q => hJ (q ▸ hx)⟩
        have hrJ : ∀ j' ∈ J ++ [j], Reach W k0 j' := fun j' hj' => by
          rcases List.mem_append.mp hj' with h1 | h1
          · exact I.rJ j' h1
          · have : j' = j := by simpa using h1
            exact this ▸ hrj
        have mv : ∀ p, p ∈ J ∨ p ∈ stk' ++ [j] → ∀ qs : List Nat, p ∈ J ++ [j] ∨ p ∈ stk' ++ qs := fun p hp qs => by
          rcases hp with h1 | h1
          · exact .inl (by simp [h1])
          · rcases List.mem_append.mp h1 with h1 | h1
            · exact .inr (by simp [h1])
            · exact .inl (by simp at h1; simp [h1])
        k_search "es"
        refine SubV.list (k := j) (v := .ref tt) C3.h htt (by rw [C.len]; omega) ?_ (fun o i => ⟨_, rfl⟩)
        k_search "es"
        refine SubV.tup (k := 0) (v := VS nd.word) htp rfl (by simp) ?_ (fun o i => ⟨_, rfl⟩)
        k_search "es"
        refine ⟨by simp, fun t4 ht4 => ?_⟩
        refine Cmp.inTup (put_self _ _ _) (by simp) (Truthy.ofBool ?_)
        rw [word_pv]
        have U4 : Up (fun _ => False) σ3 (put σ3 t4 (.tuple [VS "pair", VS "vector"])) := Up.new ht4
        generalize put σ3 t4 (.tuple [VS "pair", VS "vector"]) = σ4 at U4 ⊢
        cases hp : nd.hasParts with
        | false =>
          k_search "es"
          refine Ts.nil1 ⟨stk'.length + 3 * (10 - (J ++ [j]).length), by simp only [List.length_append, List.length_singleton]; omega, J ++ [j], stk', ⟨Uσ3.trans U4, I.dF, I.wF, U4.get _ _ id hD3, U4.get _ _ id hw3, hnd, hrJ, fun j' hj' => I.rS j' (by simp [hj']), fun j' d hj' hd p hp' => ?_, by simpa using mv _ I.root []⟩, rfl, by simp only [List.length_append, List.length_singleton]; omega, by k_search "rho", by k_search "rho", by k_search "rho"⟩
          rcases List.mem_append.mp hj' with h1 | h1
          · simpa using mv p (I.clo j' d h1 hd p hp') []
          · have : j' = j := by simpa using h1
            subst this
            rw [hn] at hd; cases hd
            rw [parts_none hp] at hp'; cases hp'
        | true =>
          obtain ⟨hc, hin⟩ := parts_some hp
          have hpl4 := U4.get _ _ id (hpl hc)
          rw [hin] at hpl4
          have hps := C.ok.few j _ hn
          have epv : nd.pv pl = .ref pl := if_pos hc
          rw [epv] at htp
          have C4 := C3.up U4
          k_search "es"
          refine MethV.list (U4.get _ _ id hw3) PySem.F.slot_list_extend PySem.F.type_list_extend ⟨Callee.builtin, ?_⟩
          k_search "es"
          refine SubV.list (k := j) (v := .ref tt) C4.h htt (by rw [C.len]; omega) ?_ (fun o i => ⟨_, rfl⟩)
          k_search "es"
          refine SubV.tup (k := 1) (v := .ref pl) (U4.get _ _ id htp) rfl (by simp) ?_ (fun o i => ⟨_, rfl⟩)
          k_search "es"
          refine CallV.extend (U4.get _ _ id hw3) hpl4 (by rw [List.length_map, List.length_map, List.length_map]; omega) ?_
          rw [List.map_map, show (VI ∘ fun (p : Nat) => (p : Int)) = fun (p : Nat) => VI (p : Nat) from rfl, ← List.map_append]
          have U5 : Up (· = Wt) σ4 (put σ4 Wt (.list ((stk' ++ nd.parts).map fun (j : Nat) => VI (j : Nat)))) := Up.set (U4.get _ _ id hw3) rfl list_noInst
          k_search "es"
          refine Ts.nil1 ⟨(stk' ++ nd.parts).length + 3 * (10 - (J ++ [j]).length), by simp only [List.length_append, List.length_singleton]; omega, J ++ [j], stk' ++ nd.parts, ⟨(Uσ3.trans U4).hide U5 fun c q => q ▸ I.wF, I.dF, I.wF, U5.get _ _ (fun q => by rw [q, hw3] at hD3; cases hD3) (U4.get _ _ id hD3), put_self _ _ _, hnd, hrJ, fun j' hj' => ?_, fun j' d hj' hd p hp' => ?_, mv _ I.root _⟩, rfl, by simp only [List.length_append, List.length_singleton]; omega, by k_search "rho", by k_search "rho", by k_search "rho"⟩
          · rcases List.mem_append.mp hj' with h1 | h1
            · exact I.rS j' (by simp [h1])
            · exact .step hrj hn h1
          · rcases List.mem_append.mp hj' with h1 | h1
            · exact mv p (I.clo j' d h1 hd p hp') _
            · have : j' = j := by simpa using h1
              subst this
              rw [hn] at hd; cases hd
              exact .inr (by simp [hp'])
end

section
variable {S : Stat} {n : Nat} {env : Env} {ρ : Str → Option Value} {σ : AH} {Q : Value → AH → Prop} {pos : Pos} {QS : Flow → (Str → Option Value) → AH → Prop} {rest : List PySem.Stmt}
  {P : Prg S} {σ₀ : AH} {W : Wd} {σ' : AH}
theorem NodeAt.dom {j : Nat} {mk : Value} {nd : Nd} (hj : W.nd[j]? = some nd) (N : NodeAt P σ W j mk nd) : Dom P σ (W.val j) := by
  cases hn : nd.isNum with
  | true =>
    have ev : W.val j = VI 7 := by unfold Wd.val; rw [hj]; cases nd <;> first | rfl | cases hn
    rw [ev]; exact .inl ⟨_, rfl⟩
  | false =>
    have ev : W.val j = .ref (W.ad j) := by unfold Wd.val; rw [hj]; cases nd <;> first | rfl | cases hn
    obtain ⟨c, at_, e⟩ := N.self hn
    rw [ev]; exact .inr ⟨_, _, _, rfl, e⟩
theorem val_comp {j : Nat} {nd : Nd} (hj : W.nd[j]? = some nd) (hn : nd.isNum = false) : W.val j = .ref (W.ad j) := by unfold Wd.val; rw [hj]; cases nd <;> first | rfl | cases hn
def thV (W : Wd) : List Value := (List.range W.nd.length).map W.val
theorem thV_get {j : Nat} {nd : Nd} (hj : W.nd[j]? = some nd) : (thV W)[j]? = some (W.val j) := by
  unfold thV
  rw [List.getElem?_map, List.getElem?_range (List.getElem?_eq_some_iff.mp hj).1]; rfl
theorem thV_len : (thV W).length = W.nd.length := by simp [thV]
/-- the parts of a thing -/
theorem ct_partsN (P : Prg S) (hW : WOk W) {j : Nat} {nd : Nd} {mk : Value} (hj : W.nd[j]? = some nd) (N : NodeAt P σ W j mk nd) (hp : nd.hasParts = true) (h : ∀ l σ', ¬ fp σ l → σ' l = some (.list (nd.parts.map W.val)) → Up (fun _ => False) σ σ' → Q (.ref l) σ') : CodeV S 1 σ (.ref (P.f .parts)) [W.val j] Q := by
  rw [val_comp hj (by cases nd <;> first | rfl | cases hp)]
  cases nd with
  | sym => cases hp
  | num => cases hp
  | ali => cases hp
  | txt cs => cases hp
  | pr p q => exact ct_partsP P N h
  | vec ps => exact ct_partsV P N.1 N.2 (by rw [List.length_map]; exact Nat.le_trans (hW.few j _ hj) (by decide)) h
theorem word_text (nd : Nd) (h : nd.hasParts = false) : (nd.word == ("text" : Str)) = nd.comp := by cases nd <;> first | rfl | cases h
theorem all_true (k : Nat) : (List.replicate k (Value.bool true)).any (isB false) = false := by
  induction k with
  | zero => rfl
  | succ k ih => rw [List.replicate_succ, List.any_cons, ih]; rfl

theorem ct_kept (P : Prg S) {σ₀ : AH} {W : Wd} {told th : Addr} {tv : List Value} (C : TC σ₀ W told tv) (B : ∀ j nd, W.nd[j]? = some nd → NodeAt P σ₀ W j .none nd) (hth : σ₀ th = some (.list (thV W)))
    (h : ∀ σ', Up (fun _ => False) σ₀ σ' → Q (.bool true) σ') : CodeV S 4 σ₀ (.ref (P.f .kept)) [.ref told, .ref th] Q := by
  refine CodeV.fn (d := dF .kept) ["told", "things"] (P.fnF .kept) (by kernel_rfl) (fun pm cd raws hr => ?_) (fun pm cd L => ?_)
  · match raws, hr with
    | [x0, x1], _ => kernel_rfl
  · have r1 : rho0 ["told", "things"] [.ref told, .ref th] "told" = some (.ref told) := by kernel_rfl
    have r2 : rho0 ["told", "things"] [.ref told, .ref th] "things" = some (.ref th) := by kernel_rfl
    generalize hρ : rho0 ["told", "things"] [.ref told, .ref th] = ρ at r1 r2 ⊢
    have hN9 := C.ok.size
    refine Ts.for1 (fun i ρ' σ' => i ≤ W.nd.length ∧ Up (fun _ => False) σ₀ σ' ∧ ρ' "told" = some (.ref told) ∧ ρ' "things" = some (.ref th)) W.nd.length (by kernel_rfl) ?_ (fun _ => rfl)
    k_search "es"
    refine CallV.len hth (by rw [thV_len]; omega) ?_
    rw [thV_len]
    k_search "es"
    refine CallV.range fun a o ha ho => ?_
    refine PyIt.range (put_self _ _ _) ho (by omega) ⟨⟨Nat.zero_le _, Up.new ha, r1, r2⟩, ?_⟩
    rintro i ρ' σ' ⟨hi, U, q1, q2⟩
    refine ⟨hi, _, rfl, ?_⟩
    by_cases hlt : i < W.nd.length
    · rw [if_pos hlt]
      obtain ⟨nd, hn⟩ : ∃ nd, W.nd[i]? = some nd := ⟨W.nd[i], List.getElem?_eq_getElem hlt⟩
      have C1 := C.up U
      obtain ⟨tt, htt, hta⟩ := C1.get hn
      obtain ⟨pl, htp, hpl⟩ := told_tup hta
      have N1 := (B i nd hn).upF U
      have hth1 := U.get _ _ id hth
      show Ts _ _ _ _ _ _ _
      refine Ts.asgTup2 ?_ (by kernel_rfl) (by kernel_rfl) (by kernel_rfl) (by kernel_rfl) (by kernel_rfl) (by kernel_rfl)
      k_search "es"
      refine SubV.list (k := i) (v := .ref tt) C1.h htt (by rw [C.len]; omega) ?_ (fun o i => ⟨_, rfl⟩)
      refine ⟨tt, _, _, rfl, htp, ?_⟩
      k_search "es"
      refine ⟨by simp, fun t4 ht4 => ?_⟩
      refine Cmp.inTup (put_self _ _ _) (by simp) (Truthy.ofBool ?_)
      rw [word_pv]
      have U4 : Up (fun _ => False) σ' (put σ' t4 (.tuple [VS "pair", VS "vector"])) := Up.new ht4
      generalize put σ' t4 (.tuple [VS "pair", VS "vector"]) = σ4 at U4 ⊢
      have N4 := N1.upF U4
      have hth4 := U4.get _ _ id hth1
      cases hp : nd.hasParts with
      | true =>
        obtain ⟨hc, hin⟩ := parts_some hp
        have hpl4 := U4.get _ _ id (hpl hc)
        rw [hin, List.map_map, show (VI ∘ fun (p : Nat) => (p : Int)) = fun (p : Nat) => VI (p : Nat) from rfl] at hpl4
        have hps := C.ok.few i _ hn
        have epv : nd.pv pl = .ref pl := if_pos hc
        rw [epv]
        k_search "es"
        refine SubV.list (k := i) (v := W.val i) hth4 (thV_get hn) (by rw [thV_len]; omega) ?_ (fun o i => ⟨_, rfl⟩)
        k_search "es"
        refine CallV.of_code ((ct_partsN P C.ok hn N4 hp fun l σ5 hl e5 U5 => ?_).up (by decide))
        have hpl5 := U5.get _ _ id hpl4
        have hth5 := U5.get _ _ id hth4
        k_search "es"
        refine CallV.len e5 (by rw [List.length_map]; omega) ?_
        k_search "es"
        refine CallV.len hpl5 (by rw [List.length_map]; omega) ?_
        refine Cmp.neI (Truthy.ofBool ?_)
        rw [List.length_map, List.length_map, bne_self_eq_false]
        k_search "es"
        refine Tr.mono (Q := fun v σ9 => ∃ l9, v = .ref l9 ∧ σ9 l9 = some (.list (List.replicate nd.parts.length (.bool true))) ∧ Up (fun _ => False) σ5 σ9) ?_ ?_
        · refine Ev.compZip [("things", L + 1)] (fun i acc σ'' => i ≤ nd.parts.length ∧ acc = List.replicate i (.bool true) ∧ Up (fun _ => False) σ5 σ'') (mkBlock rfl (by kernel_rfl) (by decide +kernel) (by decide +kernel) (fun x c e => e) (by simp) (by kernel_rfl)) (by kernel_rfl) (by kernel_rfl) (by decide) ?_ (fun _ => rfl) (fun _ => rfl)
          k_search "es"
          refine CallV.zip e5 hpl5 fun z TI TO i1 i2 σz Z => ?_
          refine ⟨σ5, z, l, pl, TI, TO, i1, i2, nd.parts.map W.val, nd.parts.map fun (p : Nat) => VI (p : Nat), rfl, Z, by rw [List.length_map, List.length_map], by rw [List.length_map]; omega, ⟨Nat.zero_le _, rfl, .refl⟩, ?_⟩
          rintro k acc σ'' ⟨hk, rfl, U''⟩
          refine ⟨U''.get _ _ id e5, U''.get _ _ id hpl5, by rw [List.length_replicate]; omega, by rw [List.length_map]; exact hk, ?_, ?_⟩
          · intro v w hv hw C' ρc hc1 hc2 hc3
            rw [List.getElem?_map] at hv hw
            obtain ⟨p, hp1, rfl⟩ := Option.map_eq_some_iff.mp hv
            rw [hp1] at hw
            cases hw
            have hklt := (List.getElem?_eq_some_iff.mp hp1).1
            obtain ⟨dp, hdp⟩ := node_of C.ok hn (List.mem_of_getElem? hp1)
            have hc4 := (hc3 "things" (notLocal (k := .cell) (by kernel_rfl) (by decide))).trans (by k_search "rho" : setv (setv (setv (setv ρ' "place" (VI (i : Nat))) "word" (VS nd.word)) "parts" (.ref pl)) "own" (.ref l) "things" = some (.ref th))
            have hdom : Dom P σ'' (W.val p) := (((N4.upF U5).upF U'').dom hn) |> fun _ => (((((B p dp hdp).upF U).upF U4).upF U5).upF U'').dom hdp
            k_search "es"
            refine SubV.list (k := p) (v := W.val p) (U''.get _ _ id hth5) (thV_get hdp) (by rw [thV_len]; omega) ?_ (fun o i => ⟨_, rfl⟩)
            k_search "es"
            refine CallV.of_code ((ct_isOne P hdom hdom fun b hb => ?_).up (by decide))
            refine ⟨hklt, ?_, U''⟩
            rw [hb.mpr rfl, List.replicate_succ']
          · intro hk a ha
            refine ⟨a, rfl, ?_, U''.trans (Up.new ha)⟩
            rw [put_self, hk, List.length_map]
        · rintro v σ9 ⟨l9, rfl, h9, U9⟩
          refine Cmp.inListB h9 (by intro v hv; exact ⟨true, (List.mem_replicate.mp hv).2⟩) (Truthy.ofBool ?_)
          rw [all_true]
          k_search "es"
          exact Ts.nil1 ⟨hlt, ((U.trans U4).trans U5).trans U9, by k_search "rho", by k_search "rho"⟩
      | false =>
        k_search "es"
        refine Cmp.eqS (Truthy.ofBool ?_)
        rw [word_text nd hp]
        cases hc : nd.comp with
        | false =>
          k_search "es"
          exact Ts.nil1 ⟨hlt, U.trans U4, by k_search "rho", by k_search "rho"⟩
        | true =>
          have epv : nd.pv pl = .ref pl := if_pos hc
          have hpl4 := U4.get _ _ id (hpl hc)
          rw [epv]
          cases nd with
          | sym => cases hc
          | num => cases hc
          | ali => cases hc
          | pr p q => cases hp
          | vec ps => cases hp
          | txt cs =>
            have N5 := N4.1
            k_search "es"
            refine SubV.list (k := i) (v := .ref (W.ad i)) hth4 ((thV_get hn).trans (congrArg some (val_comp hn rfl))) (by rw [thV_len]; omega) ?_ (fun o i => ⟨_, rfl⟩)
            k_search "at"; k_search "es"
            refine Cmp.neInts N4.2.1 hpl4 (Truthy.ofBool ?_)
            rw [show (!decide (cs = (Nd.txt cs).ints)) = false from by rw [show decide (cs = (Nd.txt cs).ints) = true from decide_eq_true rfl]; rfl]
            k_search "es"
            exact Ts.nil1 ⟨hlt, U.trans U4, by k_search "rho", by k_search "rho"⟩
    · rw [if_neg hlt]
      show Ts _ _ _ _ _ _ _
      k_search "es"
      exact h σ' U
end

section
variable {S : Stat} {n : Nat} {env : Env} {ρ : Str → Option Value} {σ : AH} {Q : Value → AH → Prop} {pos : Pos} {QS : Flow → (Str → Option Value) → AH → Prop} {rest : List PySem.Stmt}
  {P : Prg S} {σ₀ : AH} {W : Wd} {σ' : AH}
theorem Up.atI {x C : Addr} {at_ at'} (h : σ x = some (.inst C at_)) : Up (· = x) σ (put σ x (.inst C at')) := Up.setI h rfl
theorem ct_initTable (P : Prg S) {x : Addr} (hσ : σ x = some (.inst (P.c .Table) [])) (h : ∀ r b σ', σ' x = some (.inst (P.c .Table) [("rows", .ref r), ("by_text", .ref b)]) → σ' r = some (.list []) → σ' b = some (.dicts []) → ¬ fp σ r → Up (· = x) σ σ' → Q .none σ') : CodeV S 1 σ (.ref (P.i .Table)) [.ref x] Q := by
  refine CodeV.fn (d := initD .Table) ["self"] (P.initF .Table) (by kernel_rfl) (fun pm cd raws hr => ?_) (fun pm cd L => ?_)
  · match raws, hr with
    | [x0], _ => kernel_rfl
  · have r0 : rho0 ["self"] [.ref x] "self" = some (.ref x) := by kernel_rfl
    generalize hρ : rho0 ["self"] [.ref x] = ρ at r0 ⊢
    refine Ts.asgA (P := P) (c := .Table) ?_ (by kernel_rfl) (by kernel_rfl) (by kernel_rfl)
    k_search "es"
    refine ⟨by simp, fun r hr => ?_⟩
    k_search "es"
    refine ⟨_, _, rfl, put_old hr hσ, by kernel_rfl, rfl, by kernel_rfl, ?_⟩
    have hxr : x ≠ r := fun q => hr (q ▸ fp_self hσ)
    have U1 : Up (· = x) σ (put (put σ r (.list [])) x (.inst (P.c .Table) (setA "rows" (.ref r) []))) := (Up.new hr).trans (Up.setI (put_old hr hσ) rfl)
    have e1 : put (put σ r (.list [])) x (.inst (P.c .Table) (setA "rows" (.ref r) [])) r = some (.list []) := put_oth (Ne.symm hxr) (put_self _ _ _)
    have e2 : put (put σ r (.list [])) x (.inst (P.c .Table) (setA "rows" (.ref r) [])) x = some (.inst (P.c .Table) (setA "rows" (.ref r) [])) := put_self _ _ _
    generalize put (put σ r (.list [])) x (.inst (P.c .Table) (setA "rows" (.ref r) [])) = σ1 at U1 e1 e2 ⊢
    refine Ts.asgA (P := P) (c := .Table) ?_ (by kernel_rfl) (by kernel_rfl) (by kernel_rfl)
    refine Ev.dicts0 fun b hb => ?_
    k_search "es"
    refine ⟨_, _, rfl, put_old hb e2, by kernel_rfl, rfl, by kernel_rfl, ?_⟩
    refine Ts.nil1 ?_
    have hxb : x ≠ b := fun q => hb (q ▸ fp_self e2)
    exact h r b _ (put_self _ _ _) (put_oth (Ne.symm hxr) (put_old hb e1)) (put_oth (Ne.symm hxb) (put_self _ _ _)) hr (U1.trans ((Up.new hb).trans (Up.setI (put_old hb e2) rfl)))
theorem CallV.mkTable (P : Prg S) (h : ∀ t r b σ', ¬ fp σ t → σ' t = some (.inst (P.c .Table) [("rows", .ref r), ("by_text", .ref b)]) → σ' r = some (.list []) → σ' b = some (.dicts []) → ¬ fp σ r → Up (fun _ => False) σ σ' → Q (.ref t) σ') : CallV S 2 σ (.ref (P.c .Table)) [] Q :=
  CallV.make (P.ok _) (P.init _) (P.initT _) fun x _ hx => ct_initTable P (put_self _ _ _) fun r b σ' e1 e2 e3 hr U => ⟨rfl, h x r b σ' hx e1 e2 e3 (fun q => hr ((Up.new (X := fun _ => False) hx).fp _ q)) ((Up.new hx).hide U fun c q => q ▸ hx)⟩
theorem ct_initScope (P : Prg S) {x : Addr} (hσ : σ x = some (.inst (P.c .Scope) [])) (h : ∀ at_ σ', σ' x = some (.inst (P.c .Scope) at_) → Up (· = x) σ σ' → Q .none σ') : CodeV S 1 σ (.ref (P.i .Scope)) [.ref x, .none] Q := by
  refine CodeV.fn (d := initD .Scope) ["self", "parent"] (P.initF .Scope) (by kernel_rfl) (fun pm cd raws hr => ?_) (fun pm cd L => ?_)
  · match raws, hr with
    | [x0, x1], _ => kernel_rfl
  · have r0 : rho0 ["self", "parent"] [.ref x, .none] "self" = some (.ref x) := by kernel_rfl
    have r1 : rho0 ["self", "parent"] [.ref x, .none] "parent" = some .none := by kernel_rfl
    generalize hρ : rho0 ["self", "parent"] [.ref x, .none] = ρ at r0 r1 ⊢
    refine Ts.asgA (P := P) (c := .Scope) ?_ (by kernel_rfl) (by kernel_rfl) (by kernel_rfl)
    k_search "es"
    refine ⟨_, _, rfl, hσ, by kernel_rfl, rfl, by kernel_rfl, ?_⟩
    refine Ts.asgA (P := P) (c := .Scope) ?_ (by kernel_rfl) (by kernel_rfl) (by kernel_rfl)
    refine Ev.dicts0 fun b hb => ?_
    k_search "es"
    refine ⟨_, _, rfl, put_old hb (put_self _ _ _), by kernel_rfl, rfl, by kernel_rfl, ?_⟩
    refine Ts.nil1 ?_
    exact h _ _ (put_self _ _ _) ((Up.atI hσ).trans ((Up.new hb).trans (Up.atI (put_old hb (put_self _ _ _)))))
theorem CallV.mkScope (P : Prg S) (h : ∀ t at_ σ', ¬ fp σ t → σ' t = some (.inst (P.c .Scope) at_) → Up (fun _ => False) σ σ' → Q (.ref t) σ') : CallV S 2 σ (.ref (P.c .Scope)) [.none] Q :=
  CallV.make (P.ok _) (P.init _) (P.initT _) fun x _ hx => ct_initScope P (put_self _ _ _) fun at_ σ' e1 U => ⟨rfl, h x at_ σ' hx e1 ((Up.new hx).hide U fun c q => q ▸ hx)⟩

theorem ct_initNames (P : Prg S) {x : Addr} (hσ : σ x = some (.inst (P.c .Names) [])) (h : ∀ t r b ti op σ', σ' x = some (.inst (P.c .Names) [("table", .ref t), ("last", VI 0), ("titles", ti), ("ops", op), ("root", .none)]) → σ' t = some (.inst (P.c .Table) [("rows", .ref r), ("by_text", .ref b)]) → σ' r = some (.list []) → σ' b = some (.dicts []) → ¬ fp σ r → Up (· = x) σ σ' → Q .none σ') : CodeV S 3 σ (.ref (P.i .Names)) [.ref x] Q := by
  refine CodeV.fn (d := initD .Names) ["self"] (P.initF .Names) (by kernel_rfl) (fun pm cd raws hr => ?_) (fun pm cd L => ?_)
  · match raws, hr with
    | [x0], _ => kernel_rfl
  · have r0 : rho0 ["self"] [.ref x] "self" = some (.ref x) := by kernel_rfl
    generalize hρ : rho0 ["self"] [.ref x] = ρ at r0 ⊢
    refine Ts.asgA (P := P) (c := .Names) ?_ (by kernel_rfl) (by kernel_rfl) (by kernel_rfl)
    k_search "es"
    refine CallV.mkTable P fun t r b σ1 ht e1 e2 e3 hr U1 => ?_
    k_search "es"
    have hx1 := U1.get _ _ id hσ
    refine ⟨_, _, rfl, hx1, by kernel_rfl, rfl, by kernel_rfl, ?_⟩
    have tx : t ≠ x := fun q => ht (q ▸ fp_self hσ)
    have rx : r ≠ x := fun q => by rw [q, hx1] at e2; cases e2
    have bx : b ≠ x := fun q => by rw [q, hx1] at e3; cases e3
    refine Ts.asgA (P := P) (c := .Names) ?_ (by kernel_rfl) (by kernel_rfl) (by kernel_rfl)
    k_search "es"
    refine ⟨_, _, rfl, put_self _ _ _, by kernel_rfl, rfl, by kernel_rfl, ?_⟩
    rw [put_put]
    refine Ts.asgA (P := P) (c := .Names) ?_ (by kernel_rfl) (by kernel_rfl) (by kernel_rfl)
    refine Ev.dicts0 fun d1 hd1 => ?_
    k_search "es"
    refine ⟨_, _, rfl, put_old hd1 (put_self _ _ _), by kernel_rfl, rfl, by kernel_rfl, ?_⟩
    refine Ts.asgA (P := P) (c := .Names) ?_ (by kernel_rfl) (by kernel_rfl) (by kernel_rfl)
    refine Ev.dicts0 fun d2 hd2 => ?_
    k_search "es"
    refine ⟨_, _, rfl, put_old hd2 (put_self _ _ _), by kernel_rfl, rfl, by kernel_rfl, ?_⟩
    refine Ts.asgA (P := P) (c := .Names) ?_ (by kernel_rfl) (by kernel_rfl) (by kernel_rfl)
    k_search "es"
    refine ⟨_, _, rfl, put_self _ _ _, by kernel_rfl, rfl, by kernel_rfl, ?_⟩
    rw [put_put]
    refine Ts.nil1 ?_
    have U : Up (· = x) σ1 _ := (Up.atI hx1).trans ((Up.new hd1).trans ((Up.atI (put_old hd1 (put_self _ _ _))).trans ((Up.new (o := .dicts []) hd2).trans (Up.atI (at' := setA "root" .none (setA "ops" (.ref d2) (setA "titles" (.ref d1) (setA "last" (VI 0) (setA "table" (.ref t) []))))) (put_old hd2 (put_self _ _ _))))))
    exact h t r b (.ref d1) (.ref d2) _ (put_self _ _ _) (U.get _ _ tx e1) (U.get _ _ rx e2) (U.get _ _ bx e3) hr ((U1.mono fun _ q => q.elim).trans U)
theorem CallV.mkNames (P : Prg S) (h : ∀ w t r b ti op σ', ¬ fp σ w → σ' w = some (.inst (P.c .Names) [("table", .ref t), ("last", VI 0), ("titles", ti), ("ops", op), ("root", .none)]) → σ' t = some (.inst (P.c .Table) [("rows", .ref r), ("by_text", .ref b)]) → σ' r = some (.list []) → σ' b = some (.dicts []) → ¬ fp σ r → Up (fun _ => False) σ σ' → Q (.ref w) σ') : CallV S 4 σ (.ref (P.c .Names)) [] Q :=
  CallV.make (P.ok _) (P.init _) (P.initT _) fun x _ hx => ct_initNames P (put_self _ _ _) fun t r b ti op σ' e1 e2 e3 e4 hr U => ⟨rfl, h x t r b ti op σ' hx e1 e2 e3 e4 (fun q => hr ((Up.new (X := fun _ => False) hx).fp _ q)) ((Up.new hx).hide U fun c q => q ▸ hx)⟩
end

section
variable {S : Stat} {n : Nat} {env : Env} {ρ : Str → Option Value} {σ : AH} {Q : Value → AH → Prop} {pos : Pos} {QS : Flow → (Str → Option Value) → AH → Prop} {rest : List PySem.Stmt}
  {P : Prg S} {σ₀ : AH} {W : Wd} {σ' : AH}
theorem ct_tblSymbol (P : Prg S) {t r b : Addr} (h1 : σ t = some (.inst (P.c .Table) [("rows", .ref r), ("by_text", .ref b)])) (h2 : σ r = some (.list [])) (h3 : σ b = some (.dicts []))
    (h : ∀ y σ', ¬ fp σ y → σ' y = some (.inst (P.c .Symbol) [("number", VI 0), ("text", VS "a")]) → Up (fun c => c = r ∨ c = b) σ σ' → Q (.ref y) σ') : CodeV S 3 σ (.ref (P.m .tblSymbol)) [.ref t, VS "a"] Q := by
  refine CodeV.fn (d := dM .tblSymbol) ["self", "text"] (P.fnM .tblSymbol) (by kernel_rfl) (fun pm cd raws hr => ?_) (fun pm cd L => ?_)
  · match raws, hr with
    | [x0, x1], _ => kernel_rfl
  · have r0 : rho0 ["self", "text"] [.ref t, VS "a"] "self" = some (.ref t) := by kernel_rfl
    have r1 : rho0 ["self", "text"] [.ref t, VS "a"] "text" = some (VS "a") := by kernel_rfl
    generalize hρ : rho0 ["self", "text"] [.ref t, VS "a"] = ρ at r0 r1 ⊢
    refine Ts.asgN ?_ (by kernel_rfl) (by kernel_rfl) (by kernel_rfl) (by kernel_rfl)
    k_search "es"; k_search "at"
    refine MethV.dicts h3 PySem.F.slot_dict_get PySem.F.type_dict_get ⟨Callee.builtin, ?_⟩
    k_search "es"
    refine CallV.get0 h3 ?_
    k_search "es"
    refine Cmp.isNone (Truthy.ofBool ?_)
    rw [show (Value.none == Value.none) = true from rfl]
    k_search "es"; k_search "at"; k_search "es"
    refine CallV.len h2 (by simp) ?_
    k_search "es"
    refine (CallV.mkSymbol P rfl rfl fun y hy => ?_).up (by decide)
    have h1' := put_old (x := .inst (P.c .Symbol) [("number", VI (([] : List Value).length : Nat)), ("text", VS "a")]) hy h1
    have h2' := put_old (x := .inst (P.c .Symbol) [("number", VI (([] : List Value).length : Nat)), ("text", VS "a")]) hy h2
    have h3' := put_old (x := .inst (P.c .Symbol) [("number", VI (([] : List Value).length : Nat)), ("text", VS "a")]) hy h3
    have hyr : y ≠ r := fun q => hy (q ▸ fp_self h2)
    have hyb : y ≠ b := fun q => hy (q ▸ fp_self h3)
    have hbr : b ≠ r := fun q => by rw [q, h2] at h3; cases h3
    k_search "es"; k_search "at"
    refine MethV.list h2' PySem.F.slot_list_append PySem.F.type_list_append ⟨Callee.builtin, ?_⟩
    k_search "es"
    refine CallV.append h2' (by simp) ?_
    have htr : t ≠ r := fun q => by rw [q, h2] at h1; cases h1
    have h1'' := put_oth (x := .list ([] ++ [.ref y])) htr h1'
    have h3'' := put_oth (x := .list ([] ++ [.ref y])) hbr h3'
    refine Ts.asgSub ?_ (by kernel_rfl) (by kernel_rfl) (by kernel_rfl) (fun _ => rfl)
    k_search "es"; k_search "at"; k_search "es"
    intro u hu
    refine SetI.dicts0 h3'' ?_
    k_search "es"
    refine h y _ hy (put_oth hyb (put_oth hyr (put_self _ _ _))) ((Up.new hy).trans ((Up.set h2' (.inl rfl) list_noInst).trans (Up.set h3'' (.inr rfl) dicts_noInst)))
theorem ct_nSymbol (P : Prg S) {w t r b : Addr} {ti op : Value} {k : Int} (h0 : σ w = some (.inst (P.c .Names) [("table", .ref t), ("last", VI k), ("titles", ti), ("ops", op), ("root", .none)])) (h1 : σ t = some (.inst (P.c .Table) [("rows", .ref r), ("by_text", .ref b)])) (h2 : σ r = some (.list [])) (h3 : σ b = some (.dicts []))
    (h : ∀ y σ', ¬ fp σ y → σ' y = some (.inst (P.c .Symbol) [("number", VI 0), ("text", VS "a")]) → Up (fun c => c = r ∨ c = b) σ σ' → Q (.ref y) σ') : CodeV S 4 σ (.ref (P.m .nSymbol)) [.ref w, VS "a"] Q := by
  refine CodeV.fn (d := dM .nSymbol) ["self", "text"] (P.fnM .nSymbol) (by kernel_rfl) (fun pm cd raws hr => ?_) (fun pm cd L => ?_)
  · match raws, hr with
    | [x0, x1], _ => kernel_rfl
  · have r0 : rho0 ["self", "text"] [.ref w, VS "a"] "self" = some (.ref w) := by kernel_rfl
    have r1 : rho0 ["self", "text"] [.ref w, VS "a"] "text" = some (VS "a") := by kernel_rfl
    generalize hρ : rho0 ["self", "text"] [.ref w, VS "a"] = ρ at r0 r1 ⊢
    refine Ts.ret1 ?_
    k_search "es"; k_search "at"
    refine MethV.own h1 (P.ok _) (P.fM .tblSymbol) (P.isM .tblSymbol) (by kernel_rfl) ⟨P.calM _, ?_⟩
    k_search "es"
    exact CallV.of_code (ct_tblSymbol P h1 h2 h3 h)
theorem ct_nFresh (P : Prg S) {w : Addr} {tb ti op : Value} {k : Int} (h0 : σ w = some (.inst (P.c .Names) [("table", tb), ("last", VI k), ("titles", ti), ("ops", op), ("root", .none)]))
    (h : ∀ σ', σ' w = some (.inst (P.c .Names) [("table", tb), ("last", VI (k + 1)), ("titles", ti), ("ops", op), ("root", .none)]) → Up (· = w) σ σ' → Q (VI (k + 1)) σ') : CodeV S 1 σ (.ref (P.m .nFresh)) [.ref w] Q := by
  refine CodeV.fn (d := dM .nFresh) ["self"] (P.fnM .nFresh) (by kernel_rfl) (fun pm cd raws hr => ?_) (fun pm cd L => ?_)
  · match raws, hr with
    | [x0], _ => kernel_rfl
  · have r0 : rho0 ["self"] [.ref w] "self" = some (.ref w) := by kernel_rfl
    generalize hρ : rho0 ["self"] [.ref w] = ρ at r0 ⊢
    refine Ts.asgA (P := P) (c := .Names) ?_ (by kernel_rfl) (by kernel_rfl) (by kernel_rfl)
    k_search "es"; k_search "at"; k_search "es"
    refine Bin.add ?_
    k_search "es"
    refine ⟨_, _, rfl, h0, by kernel_rfl, rfl, by kernel_rfl, ?_⟩
    have ea : setA "last" (VI (k + 1)) ([("table", tb), ("last", VI k), ("titles", ti), ("ops", op), ("root", .none)] : List (Str × Value)) = ([("table", tb), ("last", VI (k + 1)), ("titles", ti), ("ops", op), ("root", .none)] : List (Str × Value)) := by kernel_rfl
    rw [ea]
    have e1 : put σ w (.inst (P.c .Names) [("table", tb), ("last", VI (k + 1)), ("titles", ti), ("ops", op), ("root", .none)]) w = some (.inst (P.c .Names) [("table", tb), ("last", VI (k + 1)), ("titles", ti), ("ops", op), ("root", .none)]) := put_self _ _ _
    have U : Up (· = w) σ (put σ w (.inst (P.c .Names) [("table", tb), ("last", VI (k + 1)), ("titles", ti), ("ops", op), ("root", .none)])) := Up.atI h0
    generalize put σ w (.inst (P.c .Names) [("table", tb), ("last", VI (k + 1)), ("titles", ti), ("ops", op), ("root", .none)]) = σ1 at e1 U ⊢
    k_search "es"; k_search "at"
    exact h σ1 e1 U

theorem Prg.c_ne (P : Prg S) {x y : Cl} (h : eqC x y = false) : P.c x ≠ P.c y := fun q => by
  have h1 := P.kit x y
  rw [← q, P.kit x x, h] at h1
  cases x <;> simp [eqC] at h1
/-- what an Alias may be of: a symbol, or another one that is not too deep -/
def BaseAt (P : Prg S) (σ : AH) (a : Addr) (rt : Value) (d : Nat) : Prop :=
  (∃ at_, σ a = some (.inst (P.c .Symbol) at_) ∧ rt = .ref a ∧ d = 0) ∨ ∃ at_, σ a = some (.inst (P.c .Alias) at_) ∧ List.lookup ("root" : Str) at_ = some rt ∧ List.lookup ("depth" : Str) at_ = some (VI (d : Nat))
theorem BaseAt.up {a : Addr} {rt : Value} {d : Nat} (h : BaseAt P σ a rt d) {X : Addr → Prop} (U : Up X σ σ') (hx : ¬ X a) : BaseAt P σ' a rt d := by
  rcases h with ⟨at_, e, r⟩ | ⟨at_, e, r⟩
  · exact .inl ⟨at_, U.get _ _ hx e, r⟩
  · exact .inr ⟨at_, U.get _ _ hx e, r⟩
theorem ct_initAlias (P : Prg S) {x a : Addr} {nb sc rt : Value} {d : Nat} (hσ : σ x = some (.inst (P.c .Alias) [])) (hb : BaseAt P σ a rt d) (hax : a ≠ x) (h1 : handedIn nb = true) (h2 : handedIn sc = true) (h3 : handedIn rt = true)
    (h : ∀ at_ σ', σ' x = some (.inst (P.c .Alias) at_) → List.lookup ("root" : Str) at_ = some rt → List.lookup ("depth" : Str) at_ = some (VI ((d + 1 : Nat) : Int)) → Up (· = x) σ σ' → Q .none σ') : CodeV S 1 σ (.ref (P.i .Alias)) [.ref x, nb, .ref a, sc] Q := by
  refine CodeV.fn (d := initD .Alias) ["self", "number", "base", "scope"] (P.initF .Alias) (by kernel_rfl) (fun pm cd raws hr => ?_) (fun pm cd L => ?_)
  · match raws, hr with
    | [x0, x1, x2, x3], _ => kernel_rfl
  · have r0 : rho0 ["self", "number", "base", "scope"] [.ref x, nb, .ref a, sc] "self" = some (.ref x) := by kernel_rfl
    have r1 : rho0 ["self", "number", "base", "scope"] [.ref x, nb, .ref a, sc] "number" = some nb := by kernel_rfl
    have r2 : rho0 ["self", "number", "base", "scope"] [.ref x, nb, .ref a, sc] "base" = some (.ref a) := by kernel_rfl
    have r3 : rho0 ["self", "number", "base", "scope"] [.ref x, nb, .ref a, sc] "scope" = some sc := by kernel_rfl
    generalize hρ : rho0 ["self", "number", "base", "scope"] [.ref x, nb, .ref a, sc] = ρ at r0 r1 r2 r3 ⊢
    refine Ts.asgA (P := P) (c := .Alias) ?_ (by kernel_rfl) (by kernel_rfl) (by kernel_rfl)
    k_search "es"
    refine ⟨_, _, rfl, hσ, by kernel_rfl, h1, by kernel_rfl, ?_⟩
    refine Ts.asgA (P := P) (c := .Alias) ?_ (by kernel_rfl) (by kernel_rfl) (by kernel_rfl)
    k_search "es"
    refine ⟨_, _, rfl, put_self _ _ _, by kernel_rfl, rfl, by kernel_rfl, ?_⟩
    rw [put_put]
    refine Ts.asgA (P := P) (c := .Alias) ?_ (by kernel_rfl) (by kernel_rfl) (by kernel_rfl)
    k_search "es"
    refine ⟨_, _, rfl, put_self _ _ _, by kernel_rfl, h2, by kernel_rfl, ?_⟩
    rw [put_put]
    have U1 : Up (· = x) σ (put σ x (.inst (P.c .Alias) (setA "scope" sc (setA "base" (.ref a) (setA "number" nb []))))) := Up.atI hσ
    have e1 : put σ x (.inst (P.c .Alias) (setA "scope" sc (setA "base" (.ref a) (setA "number" nb [])))) x = some (.inst (P.c .Alias) (setA "scope" sc (setA "base" (.ref a) (setA "number" nb [])))) := put_self _ _ _
    have hb1 := hb.up U1 hax
    generalize put σ x (.inst (P.c .Alias) (setA "scope" sc (setA "base" (.ref a) (setA "number" nb [])))) = σ1 at U1 e1 hb1 ⊢
    have fin : ∀ σ2, σ2 = put (put σ1 x (.inst (P.c .Alias) (setA "root" rt (setA "scope" sc (setA "base" (.ref a) (setA "number" nb [])))))) x (.inst (P.c .Alias) (setA "depth" (VI ((d + 1 : Nat) : Int)) (setA "root" rt (setA "scope" sc (setA "base" (.ref a) (setA "number" nb [])))))) → Q .none σ2 := fun σ2 e => by
      subst e
      have ea : setA "depth" (VI ((d + 1 : Nat) : Int)) (setA "root" rt (setA "scope" sc (setA "base" (.ref a) (setA "number" nb ([] : List (Str × Value)))))) = ([("number", nb), ("base", .ref a), ("scope", sc), ("root", rt), ("depth", VI ((d + 1 : Nat) : Int))] : List (Str × Value)) := by kernel_rfl
      refine h _ _ (put_self _ _ _) ?_ ?_ (U1.trans ((Up.atI e1).trans (Up.atI (put_self _ _ _))))
      · rw [ea]; kernel_rfl
      · rw [ea]; kernel_rfl
    refine Ts.asgA (P := P) (c := .Alias) ?_ (by kernel_rfl) (by kernel_rfl) (by kernel_rfl)
    rcases hb1 with ⟨at_, ha, rfl, rfl⟩ | ⟨at_, ha, hr, hd⟩
    · k_search "es"; k_search "isi"; k_search "es"
      refine ⟨_, _, rfl, e1, by kernel_rfl, h3, by kernel_rfl, ?_⟩
      have ha2 := put_oth (x := .inst (P.c .Alias) (setA "root" (.ref a) (setA "scope" sc (setA "base" (.ref a) (setA "number" nb []))))) hax ha
      refine Ts.asgA (P := P) (c := .Alias) ?_ (by kernel_rfl) (by kernel_rfl) (by kernel_rfl)
      k_search "es"; k_search "isi"; k_search "es"
      refine ⟨_, _, rfl, put_self _ _ _, by kernel_rfl, rfl, by kernel_rfl, ?_⟩
      exact Ts.nil1 (fin _ rfl)
    · k_search "es"; k_search "isi"; k_search "es"
      refine AtV.of ha (by kernel_rfl) hr ?_
      k_search "es"
      refine ⟨_, _, rfl, e1, by kernel_rfl, h3, by kernel_rfl, ?_⟩
      have ha2 := put_oth (x := .inst (P.c .Alias) (setA "root" rt (setA "scope" sc (setA "base" (.ref a) (setA "number" nb []))))) hax ha
      refine Ts.asgA (P := P) (c := .Alias) ?_ (by kernel_rfl) (by kernel_rfl) (by kernel_rfl)
      k_search "es"; k_search "isi"; k_search "es"
      refine AtV.of ha2 (by kernel_rfl) hd ?_
      k_search "es"
      refine Bin.add ?_
      k_search "es"
      refine ⟨_, _, rfl, put_self _ _ _, by kernel_rfl, rfl, by kernel_rfl, ?_⟩
      exact Ts.nil1 (fin _ rfl)
theorem ct_aliasOf (P : Prg S) {w a : Addr} {tb ti op sc rt : Value} {k : Int} {d : Nat} (h0 : σ w = some (.inst (P.c .Names) [("table", tb), ("last", VI k), ("titles", ti), ("ops", op), ("root", .none)])) (hb : BaseAt P σ a rt d) (hd : d ≤ 100) (h2 : handedIn sc = true) (h3 : handedIn rt = true)
    (h : ∀ x at_ σ' k', ¬ fp σ x → σ' x = some (.inst (P.c .Alias) at_) → List.lookup ("root" : Str) at_ = some rt → List.lookup ("depth" : Str) at_ = some (VI ((d + 1 : Nat) : Int)) → σ' w = some (.inst (P.c .Names) [("table", tb), ("last", VI k'), ("titles", ti), ("ops", op), ("root", .none)]) → Up (· = w) σ σ' → Q (.ref x) σ') : CodeV S 3 σ (.ref (P.f .aliasOf)) [.ref a, sc, .ref w] Q := by
  refine CodeV.fn (d := dF .aliasOf) ["base", "scope", "world"] (P.fnF .aliasOf) (by kernel_rfl) (fun pm cd raws hr => ?_) (fun pm cd L => ?_)
  · match raws, hr with
    | [x0, x1, x2], _ => kernel_rfl
  · have r0 : rho0 ["base", "scope", "world"] [.ref a, sc, .ref w] "base" = some (.ref a) := by kernel_rfl
    have r1 : rho0 ["base", "scope", "world"] [.ref a, sc, .ref w] "scope" = some sc := by kernel_rfl
    have r2 : rho0 ["base", "scope", "world"] [.ref a, sc, .ref w] "world" = some (.ref w) := by kernel_rfl
    generalize hρ : rho0 ["base", "scope", "world"] [.ref a, sc, .ref w] = ρ at r0 r1 r2 ⊢
    have haw : a ≠ w := fun q => by
      rcases hb with ⟨_, e, _⟩ | ⟨_, e, _⟩
      · rw [q, h0] at e; exact P.c_ne (x := .Names) (y := .Symbol) rfl (by injection e with e; injection e)
      · rw [q, h0] at e; exact P.c_ne (x := .Names) (y := .Alias) rfl (by injection e with e; injection e)
    refine Ts.then (Ts.mono (QS := fun f ρ2 σ2 => f = .next ∧ ρ2 = ρ ∧ σ2 = σ) ?_ ?_)
    · refine Ts.ifC ?_
      rcases hb with ⟨at_, ha, rfl, rfl⟩ | ⟨at_, ha, hr, hd'⟩
      · k_search "es"; k_search "isi"; k_search "es"
        exact Ts.nil1 ⟨rfl, rfl, rfl⟩
      · k_search "es"; k_search "isi"; k_search "es"
        refine AtV.of ha (by kernel_rfl) hd' ?_
        k_search "es"
        refine Cmp.geI (Truthy.ofBool ?_)
        rw [decide_eq_false (by omega : ¬ (3000 : Int) ≤ (d : Int))]
        k_search "es"
        exact Ts.nil1 ⟨rfl, rfl, rfl⟩
    · rintro f ρ2 σ2 ⟨rfl, rfl, rfl⟩
      refine thenNext ?_
      k_search "es"
      refine MethV.own h0 (P.ok _) (P.fM .nFresh) (P.isM .nFresh) (by kernel_rfl) ⟨P.calM _, ?_⟩
      k_search "es"
      refine CallV.of_code ((ct_nFresh P h0 fun σ3 e3 U3 => ?_).up (by decide))
      k_search "es"
      have hb3 := hb.up U3 haw
      refine CallV.make (P.ok _) (P.init _) (P.initT _) fun x _ hx => (ct_initAlias P (put_self _ _ _) (hb3.up (Up.new (X := fun _ => False) hx) id) (fun q => hx (by rcases hb3 with ⟨_, e, _⟩ | ⟨_, e, _⟩ <;> exact q ▸ fp_self e)) rfl h2 h3 fun at_ σ4 e4 hr4 hd4 U4 => ⟨rfl, ?_⟩)
      have hxw : w ≠ x := fun q => hx (q ▸ fp_self e3)
      have hx0 : ¬ fp σ2 x := fun q => hx (U3.fp _ q)
      refine h x at_ σ4 (k + 1) hx0 e4 hr4 hd4 (U4.get _ _ hxw (put_old hx e3)) ⟨fun b o hb' e => ?_, fun b hb' => U4.fp b ((Up.new (X := fun _ => True) hx).fp b (U3.fp b hb'))⟩
      have e' := U3.get b o hb' e
      exact U4.get b o (fun q => hx (q ▸ fp_self e')) (put_old hx e')
end

section
variable {S : Stat} {n : Nat} {env : Env} {ρ : Str → Option Value} {σ : AH} {Q : Value → AH → Prop} {pos : Pos} {QS : Flow → (Str → Option Value) → AH → Prop} {rest : List PySem.Stmt}
  {P : Prg S} {σ₀ : AH} {W : Wd} {σ' : AH}
theorem Ts.asgTup3 {x y z : Str} {px py pz tpos : Pos} {k : Nat} {value : PySem.Expr}
    (h : Ev S n env ρ σ value (fun v σ₁ => ∃ t a b c, v = .ref t ∧ σ₁ t = some (.tuple [a, b, c]) ∧ Ts S n env (setv (setv (setv ρ x a) y b) z c) σ₁ (execs rest env) QS)) (hx : nameOk env x = true) (hy : nameOk env y = true) (hz : nameOk env z = true)
    (he : (assignEach [.Tuple [.Name x px, .Name y py, .Name z pz] k tpos] env).map (·.2) = [assign (.Tuple [.Name x px, .Name y py, .Name z pz] k tpos) env])
    (he2 : assignEach [.Name x px, .Name y py, .Name z pz] env = [(false, assign (.Name x px) env), (false, assign (.Name y py) env), (false, assign (.Name z pz) env)])
    (hs : swapsWithSole [.Tuple [.Name x px, .Name y py, .Name z pz] k tpos] value pos.line env = pure false) (hw : swappedStores [.Tuple [.Name x px, .Name y py, .Name z pz] k tpos] value env = pure none) : Ts S n env ρ σ (execs (.Assign [.Tuple [.Name x px, .Name y py, .Name z pz] k tpos] value pos :: rest) env) QS :=
  Ts.asg1 (h.mono fun v σ₁ ⟨t, a, b, c, e1, e2, q⟩ u hu => by
    subst e1
    rw [of_nrm_ref hu]
    exact Tu.tup3 e2 (fun u1 u2 u3 h1 h2 h3 => Tu.name (cellOk_of hx) (Tu.name (cellOk_of hy) (Tu.name (cellOk_of hz) (by rw [h1, h2, h3]; exact q)))) he2) he hs hw

/-! # the things as they are built -/
def XB (dk w th tl : Addr) (b : Addr) : Prop := b = dk ∨ b = w ∨ b = th ∨ b = tl
/-- a thing before its parts are drawn -/
def RawN (P : Prg S) (σ : AH) (W : Wd) (j : Nat) : Nd → Prop
  | .pr _ _ => ∃ u v, σ (W.ad j) = some (.inst (P.c .Pair) [("car", u), ("cdr", v), ("mark", .none)])
  | .vec _ => ∃ l, σ (W.ad j) = some (.inst (P.c .Vector) [("things", .ref l), ("mark", .none)])
  | nd => NodeAt P σ W j .none nd
def ToldF (X : Addr → Prop) (σ : AH) (v : Value) (nd : Nd) : Prop :=
  ∃ t, v = .ref t ∧ ¬ X t ∧ if nd.comp = true then ∃ l, ¬ X l ∧ σ t = some (.tuple [VS nd.word, .ref l]) ∧ σ l = some (.list (nd.ints.map VI)) else σ t = some (.tuple [VS nd.word, nd.scal])
theorem ToldF.at {X : Addr → Prop} {v : Value} {nd : Nd} (h : ToldF X σ v nd) : ToldAt σ v nd := by
  obtain ⟨t, e, _, h⟩ := h
  refine ⟨t, e, ?_⟩
  split at h
  · rename_i hc; rw [if_pos hc]; obtain ⟨l, _, a, b⟩ := h; exact ⟨l, a, b⟩
  · rename_i hc; rw [if_neg hc]; exact h
theorem ToldF.up {X : Addr → Prop} {v : Value} {nd : Nd} (h : ToldF X σ v nd) (U : Up X σ σ') : ToldF X σ' v nd := by
  obtain ⟨t, e, hx, h⟩ := h
  refine ⟨t, e, hx, ?_⟩
  split at h
  · rename_i hc; rw [if_pos hc]; obtain ⟨l, hl, a, b⟩ := h; exact ⟨l, hl, U.get _ _ hx a, U.get _ _ hl b⟩
  · rename_i hc; rw [if_neg hc]; exact U.get _ _ hx h

/-- what does not lean on the heap -/
structure WB (W : Wd) : Prop where
  size : W.nd.length ≤ 9
  two : 2 ≤ W.nd.length
  zero : W.nd[0]? = some .sym
  part : ∀ (j : Nat) (nd : Nd), W.nd[j]? = some nd → ∀ p ∈ nd.parts, p < W.nd.length
  few : ∀ (j : Nat) (nd : Nd), W.nd[j]? = some nd → nd.parts.length ≤ 2
  inj : ∀ (i j : Nat) (a b : Nd), W.nd[i]? = some a → W.nd[j]? = some b → a.isNum = false → b.isNum = false → W.ad i = W.ad j → i = j
theorem WB.ok (h : WB W) : WOk W := ⟨h.size, h.two, h.zero, h.part, h.few, h.inj⟩

structure BS (P : Prg S) (dk w th tl : Addr) (σ : AH) (W : Wd) (tv thv tlv : List Value) : Prop where
  wb : WB W
  hdk : ∃ ns : List Int, ns.length ≤ 100 ∧ σ dk = some (.list (ns.map VI))
  hw : ∃ tb ti op k, σ w = some (.inst (P.c .Names) [("table", tb), ("last", VI k), ("titles", ti), ("ops", op), ("root", .none)])
  hth : σ th = some (.list thv)
  htl : σ tl = some (.list tlv)
  len : tv.length = W.nd.length
  n1 : dk ≠ th
  n2 : dk ≠ tl
  n3 : th ≠ tl
  node : ∀ (j : Nat) (nd : Nd), W.nd[j]? = some nd → RawN P σ W j nd
  adX : ∀ (j : Nat) (nd : Nd), W.nd[j]? = some nd → nd.isNum = false → ¬ XB dk w th tl (W.ad j)
  laX : ∀ (j : Nat) (cs : List Int), W.nd[j]? = some (.txt cs) → ¬ XB dk w th tl (W.la j)
  told : ∀ (j : Nat) (nd : Nd) (v : Value), W.nd[j]? = some nd → tv[j]? = some v → ToldF (XB dk w th tl) σ v nd
  base : ∀ (j : Nat) (nd : Nd), W.nd[j]? = some nd → nd = .sym ∨ nd = .ali → ∃ d, d ≤ j ∧ BaseAt P σ (W.ad j) (.ref (W.ad 0)) d

theorem RawN.up {j : Nat} {nd : Nd} (h : RawN P σ W j nd) (h1 : ∀ o, nd.isNum = false → σ (W.ad j) = some o → σ' (W.ad j) = some o) (h2 : ∀ vs cs, nd = .txt cs → σ (W.la j) = some (.list vs) → σ' (W.la j) = some (.list vs)) : RawN P σ' W j nd := by
  cases nd with
  | pr p q => obtain ⟨u, v, e⟩ := h; exact ⟨u, v, h1 _ rfl e⟩
  | vec ps => obtain ⟨l, e⟩ := h; exact ⟨l, h1 _ rfl e⟩
  | sym => exact h1 _ rfl h
  | num => trivial
  | ali => obtain ⟨at_, e, r⟩ := h; exact ⟨at_, h1 _ rfl e, r⟩
  | txt cs => exact ⟨h1 _ rfl h.1, h2 _ cs rfl h.2.1, h.2.2⟩
/-- a step that lets the things stand -/
theorem BS.step {dk w th tl : Addr} {tv thv tlv thv' tlv' : List Value} (B : BS P dk w th tl σ W tv thv tlv) (U : Up (XB dk w th tl) σ σ') (hdk : ∃ ns : List Int, ns.length ≤ 100 ∧ σ' dk = some (.list (ns.map VI))) (hw : ∃ tb ti op k, σ' w = some (.inst (P.c .Names) [("table", tb), ("last", VI k), ("titles", ti), ("ops", op), ("root", .none)]))
    (hth : σ' th = some (.list thv')) (htl : σ' tl = some (.list tlv')) : BS P dk w th tl σ' W tv thv' tlv' where
  wb := B.wb
  hdk := hdk
  hw := hw
  hth := hth
  htl := htl
  len := B.len
  n1 := B.n1
  n2 := B.n2
  n3 := B.n3
  node j nd e := (B.node j nd e).up (fun o hn => U.get _ _ (B.adX j nd e hn)) (fun vs cs q => U.get _ _ (B.laX j cs (q ▸ e)))
  adX := B.adX
  laX := B.laX
  told j nd v e1 e2 := (B.told j nd v e1 e2).up U
  base j nd e h := by obtain ⟨d, hd, b⟩ := B.base j nd e h; exact ⟨d, hd, b.up U (B.adX j nd e (by rcases h with rfl | rfl <;> rfl))⟩
section
variable {dk w th tl : Addr} {tv thv tlv : List Value}
theorem BS.wne (B : BS P dk w th tl σ W tv thv tlv) : w ≠ dk ∧ w ≠ th ∧ w ≠ tl := by
  obtain ⟨a, b, c, d, e⟩ := B.hw
  obtain ⟨ns, _, f⟩ := B.hdk
  exact ⟨fun q => (by rw [q, f] at e; cases e), fun q => (by rw [q, B.hth] at e; cases e), fun q => (by rw [q, B.htl] at e; cases e)⟩
theorem BS.up (B : BS P dk w th tl σ W tv thv tlv) (U : Up (fun _ => False) σ σ') : BS P dk w th tl σ' W tv thv tlv :=
  B.step (U.mono fun _ q => q.elim) (by obtain ⟨ns, a, b⟩ := B.hdk; exact ⟨ns, a, U.get _ _ id b⟩) (by obtain ⟨a, b, c, d, e⟩ := B.hw; exact ⟨a, b, c, d, U.get _ _ id e⟩) (U.get _ _ id B.hth) (U.get _ _ id B.htl)
theorem BS.draw (B : BS P dk w th tl σ W tv thv tlv) {ns : List Int} (U : Up (· = dk) σ σ') (h1 : ns.length ≤ 100) (h2 : σ' dk = some (.list (ns.map VI))) : BS P dk w th tl σ' W tv thv tlv :=
  B.step (U.mono fun _ q => .inl q) ⟨ns, h1, h2⟩ (by obtain ⟨a, b, c, d, e⟩ := B.hw; exact ⟨a, b, c, d, U.get _ _ B.wne.1 e⟩) (U.get _ _ (Ne.symm B.n1) B.hth) (U.get _ _ (Ne.symm B.n2) B.htl)
/-- a draw -/
theorem BS.ct_draw (B : BS P dk w th tl σ W tv thv tlv) {k : Nat} (hk : 0 < k) (h : ∀ (r : Nat) σ', r < k → BS P dk w th tl σ' W tv thv tlv → Up (· = dk) σ σ' → Q (VI r) σ') : CodeV S 1 σ (.ref (P.f .draw)) [.ref dk, VI k] Q := by
  obtain ⟨ns, h1, h2⟩ := B.hdk
  exact Mine.ct_draw P hk h1 h2 fun r ns' σ' hr hl hd U => h r σ' hr (B.draw U hl hd) U
theorem BS.setTh (B : BS P dk w th tl σ W tv thv tlv) (vs : List Value) : BS P dk w th tl (put σ th (.list vs)) W tv vs tlv ∧ Up (· = th) σ (put σ th (.list vs)) := by
  have U : Up (· = th) σ (put σ th (.list vs)) := Up.set B.hth rfl list_noInst
  exact ⟨B.step (U.mono fun _ q => .inr (.inr (.inl q))) (by obtain ⟨ns, a, b⟩ := B.hdk; exact ⟨ns, a, U.get _ _ B.n1 b⟩) (by obtain ⟨a, b, c, d, e⟩ := B.hw; exact ⟨a, b, c, d, U.get _ _ B.wne.2.1 e⟩) (put_self _ _ _) (U.get _ _ (Ne.symm B.n3) B.htl), U⟩
theorem BS.setTl (B : BS P dk w th tl σ W tv thv tlv) (vs : List Value) : BS P dk w th tl (put σ tl (.list vs)) W tv thv vs ∧ Up (· = tl) σ (put σ tl (.list vs)) := by
  have U : Up (· = tl) σ (put σ tl (.list vs)) := Up.set B.htl rfl list_noInst
  exact ⟨B.step (U.mono fun _ q => .inr (.inr (.inr q))) (by obtain ⟨ns, a, b⟩ := B.hdk; exact ⟨ns, a, U.get _ _ B.n2 b⟩) (by obtain ⟨a, b, c, d, e⟩ := B.hw; exact ⟨a, b, c, d, U.get _ _ B.wne.2.2 e⟩) (U.get _ _ B.n3 B.hth) (put_self _ _ _), U⟩
theorem BS.free (B : BS P dk w th tl σ W tv thv tlv) {x : Addr} (hx : ¬ fp σ x) : ¬ XB dk w th tl x ∧ ∀ j d, W.nd[j]? = some d → d.isNum = false → W.ad j ≠ x := by
  refine ⟨fun q => ?_, fun j d hj hd q => hx (q ▸ ?_)⟩
  · obtain ⟨ns, _, f⟩ := B.hdk
    obtain ⟨a, b, c, d, e⟩ := B.hw
    rcases q with rfl | rfl | rfl | rfl
    · exact hx (fp_self f)
    · exact hx (fp_self e)
    · exact hx (fp_self B.hth)
    · exact hx (fp_self B.htl)
  · have N := B.node j d hj
    cases d with
    | pr p q => obtain ⟨u, v, e⟩ := N; exact fp_self e
    | vec ps => obtain ⟨l, e⟩ := N; exact fp_self e
    | sym => exact fp_self N
    | num => cases hd
    | ali => obtain ⟨at_, e, _⟩ := N; exact fp_self e
    | txt cs => exact fp_self N.1
end

def Wd.push (W : Wd) (nd : Nd) (x l : Addr) : Wd := ⟨W.nd ++ [nd], updN W.ad W.nd.length x, updN W.la W.nd.length l⟩
theorem push_old {nd d : Nd} {x l : Addr} {j : Nat} (h : W.nd[j]? = some d) : (W.push nd x l).nd[j]? = some d ∧ (W.push nd x l).ad j = W.ad j ∧ (W.push nd x l).la j = W.la j ∧ (W.push nd x l).val j = W.val j := by
  have hj := (List.getElem?_eq_some_iff.mp h).1
  have e1 : (W.push nd x l).nd[j]? = some d := by show (W.nd ++ [nd])[j]? = _; rw [List.getElem?_append_left hj]; exact h
  have e2 : (W.push nd x l).ad j = W.ad j := updN_ne (Nat.ne_of_lt hj)
  refine ⟨e1, e2, updN_ne (Nat.ne_of_lt hj), ?_⟩
  unfold Wd.val
  rw [e1, h]
  cases d <;> first | rfl | exact congrArg Value.ref e2
theorem push_new {nd : Nd} {x l : Addr} : (W.push nd x l).nd[W.nd.length]? = some nd ∧ (W.push nd x l).ad W.nd.length = x ∧ (W.push nd x l).la W.nd.length = l :=
  ⟨by show (W.nd ++ [nd])[W.nd.length]? = _; simp, updN_self, updN_self⟩
theorem push_cases {nd d : Nd} {x l : Addr} {j : Nat} (h : (W.push nd x l).nd[j]? = some d) : W.nd[j]? = some d ∨ (j = W.nd.length ∧ d = nd) := by
  have h' : (W.nd ++ [nd])[j]? = some d := h
  rcases Nat.lt_or_ge j W.nd.length with hl | hl
  · rw [List.getElem?_append_left hl] at h'; exact .inl h'
  · rw [List.getElem?_append_right hl] at h'
    have : j - W.nd.length = 0 := by
      have := (List.getElem?_eq_some_iff.mp h').1
      simp at this; omega
    rw [this] at h'
    exact .inr ⟨by omega, by simpa using h'.symm⟩
theorem push_thV {nd : Nd} {x l : Addr} (hn : nd.isNum = false) : thV (W.push nd x l) = thV W ++ [.ref x] := by
  unfold thV
  have e : (W.push nd x l).nd.length = W.nd.length + 1 := by show (W.nd ++ [nd]).length = _; simp
  rw [e, List.range_succ, List.map_append]
  congr 1
  · refine List.map_congr_left fun j hj => ?_
    have hj' := List.mem_range.mp hj
    exact (push_old (List.getElem?_eq_getElem hj')).2.2.2
  · rw [List.map_cons, List.map_nil, val_comp push_new.1 hn, push_new.2.1]
theorem RawN.congr {W' : Wd} {j : Nat} {nd : Nd} (h : RawN P σ W j nd) (e1 : W'.ad j = W.ad j) (e2 : W'.la j = W.la j) (e0 : W'.ad 0 = W.ad 0) : RawN P σ W' j nd := by
  cases nd with
  | pr p q => obtain ⟨u, v, e⟩ := h; exact ⟨u, v, by rw [e1]; exact e⟩
  | vec ps => obtain ⟨l, e⟩ := h; exact ⟨l, by rw [e1]; exact e⟩
  | sym => show σ (W'.ad j) = _; rw [e1]; exact h
  | num => trivial
  | ali => obtain ⟨at_, e, r⟩ := h; exact ⟨at_, by rw [e1]; exact e, by rw [e0]; exact r⟩
  | txt cs => refine ⟨?_, ?_, h.2.2⟩; rw [e1, e2]; exact h.1; rw [e2]; exact h.2.1
/-- one more thing -/
theorem BS.push {dk w th tl : Addr} {tv : List Value} {nd : Nd} {x l : Addr} {v : Value} (B : BS P dk w th tl σ W tv (thV W ++ [.ref x]) (tv ++ [v])) (hs : W.nd.length < 9) (hnum : nd.isNum = false) (hsym : nd ≠ .sym) (hp : ∀ p ∈ nd.parts, p < W.nd.length + 1) (hf : nd.parts.length ≤ 2)
    (hxX : ¬ XB dk w th tl x) (hxa : ∀ j d, W.nd[j]? = some d → d.isNum = false → W.ad j ≠ x) (hl : ∀ cs, nd = .txt cs → ¬ XB dk w th tl l) (hN : RawN P σ (W.push nd x l) W.nd.length nd) (hT : ToldF (XB dk w th tl) σ v nd) (hB : nd = .ali → ∃ d, d ≤ W.nd.length ∧ BaseAt P σ x (.ref (W.ad 0)) d) :
    BS P dk w th tl σ (W.push nd x l) (tv ++ [v]) (thV (W.push nd x l)) (tv ++ [v]) ∧ (W.push nd x l).nd.length = W.nd.length + 1 := by
  have hlen : (W.push nd x l).nd.length = W.nd.length + 1 := by show (W.nd ++ [nd]).length = _; simp
  have e0 : (W.push nd x l).ad 0 = W.ad 0 := (push_old B.wb.zero).2.1
  refine ⟨⟨⟨by omega, by have := B.wb.two; omega, (push_old B.wb.zero).1, fun j d hj p hp' => ?_, fun j d hj => ?_, fun i j a b hi hj ha hb e => ?_⟩, B.hdk, B.hw, by rw [push_thV hnum]; exact B.hth, B.htl, by rw [List.length_append, B.len, hlen]; rfl, B.n1, B.n2, B.n3, fun j d hj => ?_, fun j d hj hd => ?_, fun j cs hj => ?_, fun j d v' hj hv => ?_, fun j d hj hd => ?_⟩, hlen⟩
  · rcases push_cases hj with h | ⟨rfl, rfl⟩
    · rw [hlen]; exact Nat.lt_succ_of_lt (B.wb.part j d h p hp')
    · rw [hlen]; exact hp p hp'
  · rcases push_cases hj with h | ⟨rfl, rfl⟩
    · exact B.wb.few j d h
    · exact hf
  · rcases push_cases hi with h1 | ⟨h1, _⟩ <;> rcases push_cases hj with h2 | ⟨h2, _⟩
    · rw [(push_old h1).2.1, (push_old h2).2.1] at e; exact B.wb.inj i j a b h1 h2 ha hb e
    · subst h2; rw [(push_old h1).2.1, push_new.2.1] at e; exact absurd e (hxa i a h1 ha)
    · subst h1; rw [(push_old h2).2.1, push_new.2.1] at e; exact absurd e.symm (hxa j b h2 hb)
    · rw [h1, h2]
  · rcases push_cases hj with h | ⟨rfl, rfl⟩
    · obtain ⟨_, e1, e2, _⟩ := push_old (nd := nd) (x := x) (l := l) h
      exact (B.node j d h).congr e1 e2 e0
    · exact hN
  · rcases push_cases hj with h | ⟨rfl, rfl⟩
    · rw [(push_old h).2.1]; exact B.adX j d h hd
    · rw [push_new.2.1]; exact hxX
  · rcases push_cases hj with h | ⟨rfl, e⟩
    · rw [(push_old h).2.2.1]; exact B.laX j cs h
    · rw [push_new.2.2]; exact hl cs e.symm
  · rcases push_cases hj with h | ⟨rfl, rfl⟩
    · have hjl : j < tv.length := by rw [B.len]; exact (List.getElem?_eq_some_iff.mp h).1
      rw [List.getElem?_append_left hjl] at hv
      exact B.told j d v' h hv
    · rw [← B.len, List.getElem?_append_right (Nat.le_refl _)] at hv
      simp at hv; subst hv; exact hT
  · rcases push_cases hj with h | ⟨rfl, rfl⟩
    · obtain ⟨d', h1, h2⟩ := B.base j d h hd
      rw [(push_old h).2.1, e0]
      exact ⟨d', h1, h2⟩
    · rcases hd with h | h
      · exact absurd h hsym
      · obtain ⟨d', h1, h2⟩ := hB h
        rw [push_new.2.1, e0]; exact ⟨d', h1, h2⟩
end

section
variable {S : Stat} {n : Nat} {env : Env} {ρ : Str → Option Value} {σ : AH} {Q : Value → AH → Prop} {pos : Pos} {QS : Flow → (Str → Option Value) → AH → Prop} {rest : List PySem.Stmt}
  {P : Prg S} {σ₀ : AH} {W : Wd} {σ' : AH}
def XD (dk tl : Addr) (b : Addr) : Prop := b = dk ∨ b = tl
/-- the things while their parts are drawn: those below k are whole -/
structure BD (P : Prg S) (dk th tl : Addr) (k : Nat) (σ : AH) (W : Wd) (tv : List Value) : Prop where
  wb : WB W
  hdk : ∃ ns : List Int, ns.length ≤ 100 ∧ σ dk = some (.list (ns.map VI))
  hth : σ th = some (.list (thV W))
  htl : σ tl = some (.list tv)
  len : tv.length = W.nd.length
  n1 : dk ≠ th
  n2 : dk ≠ tl
  n3 : th ≠ tl
  nodeF : ∀ (j : Nat) (nd : Nd), W.nd[j]? = some nd → j < k ∨ nd.hasParts = false → NodeAt P σ W j .none nd
  nodeR : ∀ (j : Nat) (nd : Nd), W.nd[j]? = some nd → k ≤ j → RawN P σ W j nd
  adX : ∀ (j : Nat) (nd : Nd), W.nd[j]? = some nd → nd.isNum = false → ¬ XD dk tl (W.ad j)
  laX : ∀ (j : Nat) (nd : Nd), W.nd[j]? = some nd → j < k ∨ nd.hasParts = false → nd.comp = true → nd.hasParts = false ∨ (∃ ps, nd = .vec ps) → ¬ XD dk tl (W.la j)
  told : ∀ (j : Nat) (nd : Nd) (v : Value), W.nd[j]? = some nd → tv[j]? = some v → ToldF (XD dk tl) σ v nd
theorem XD.le {dk w th tl b : Addr} (h : XD dk tl b) : XB dk w th tl b := h.elim .inl fun q => .inr (.inr (.inr q))
theorem ToldF.weak {X Y : Addr → Prop} {v : Value} {nd : Nd} (h : ToldF X σ v nd) (hXY : ∀ b, Y b → X b) : ToldF Y σ v nd := by
  obtain ⟨t, e, hx, h⟩ := h
  refine ⟨t, e, fun q => hx (hXY _ q), ?_⟩
  split at h
  · rename_i hc; rw [if_pos hc]; obtain ⟨l, hl, a, b⟩ := h; exact ⟨l, fun q => hl (hXY _ q), a, b⟩
  · rename_i hc; rw [if_neg hc]; exact h
theorem RawN.node {j : Nat} {nd : Nd} (h : RawN P σ W j nd) (hp : nd.hasParts = false) : NodeAt P σ W j .none nd := by cases nd <;> first | exact h | cases hp
theorem BS.bd {dk w th tl : Addr} {tv : List Value} (B : BS P dk w th tl σ W tv (thV W) tv) : BD P dk th tl 0 σ W tv where
  wb := B.wb
  hdk := B.hdk
  hth := B.hth
  htl := B.htl
  len := B.len
  n1 := B.n1
  n2 := B.n2
  n3 := B.n3
  nodeF j nd e h := (B.node j nd e).node (h.resolve_left (Nat.not_lt_zero _))
  nodeR j nd e _ := B.node j nd e
  adX j nd e hn q := B.adX j nd e hn q.le
  laX j nd e h hc hp q := by
    have hp' := h.resolve_left (Nat.not_lt_zero _)
    cases nd with
    | txt cs => exact B.laX j cs e q.le
    | sym => cases hc
    | num => cases hc
    | ali => cases hc
    | pr p q => cases hp'
    | vec ps => cases hp'
  told j nd v e1 e2 := (B.told j nd v e1 e2).weak fun b q => q.le
theorem NodeAt.list {j : Nat} {nd : Nd} {mk : Value} (h : NodeAt P σ W j mk nd) : nd.comp = true → nd.hasParts = false ∨ (∃ ps, nd = .vec ps) → ∃ vs, σ (W.la j) = some (.list vs) := by
  intro hc hp
  cases nd with
  | txt cs => exact ⟨_, h.2.1⟩
  | vec ps => exact ⟨_, h.2⟩
  | sym => cases hc
  | num => cases hc
  | ali => cases hc
  | pr p q => rcases hp with hp | ⟨_, hp⟩ <;> cases hp
/-- NodeAt leans on its own ground and, if it has one, its list -/
theorem NodeAt.upL {j : Nat} {mk : Value} {nd : Nd} (h : NodeAt P σ W j mk nd) (h1 : nd.isNum = false → ∀ o, σ (W.ad j) = some o → σ' (W.ad j) = some o) (h2 : nd.comp = true → nd.hasParts = false ∨ (∃ ps, nd = .vec ps) → ∀ vs, σ (W.la j) = some (.list vs) → σ' (W.la j) = some (.list vs)) : NodeAt P σ' W j mk nd := by
  cases nd with
  | sym => exact h1 rfl _ h
  | num => trivial
  | ali => obtain ⟨at_, e, r⟩ := h; exact ⟨at_, h1 rfl _ e, r⟩
  | txt cs => exact ⟨h1 rfl _ h.1, h2 rfl (.inl rfl) _ h.2.1, h.2.2⟩
  | pr p q => exact h1 rfl _ h
  | vec ps => exact ⟨h1 rfl _ h.1, h2 rfl (.inr ⟨ps, rfl⟩) _ h.2⟩
section
variable {dk th tl : Addr} {k : Nat} {tv tv' : List Value}
theorem BD.step (B : BD P dk th tl k σ W tv) (U : Up (XD dk tl) σ σ') (hdk : ∃ ns : List Int, ns.length ≤ 100 ∧ σ' dk = some (.list (ns.map VI))) (htl : σ' tl = some (.list tv)) : BD P dk th tl k σ' W tv where
  wb := B.wb
  hdk := hdk
  hth := U.get _ _ (fun q => q.elim (fun q => B.n1 q.symm) B.n3) B.hth
  htl := htl
  len := B.len
  n1 := B.n1
  n2 := B.n2
  n3 := B.n3
  nodeF j nd e h := (B.nodeF j nd e h).upL (fun hn o => U.get _ _ (B.adX j nd e hn)) (fun hc hp vs => U.get _ _ (B.laX j nd e h hc hp))
  nodeR j nd e h := (B.nodeR j nd e h).up (fun o hn => U.get _ _ (B.adX j nd e hn)) (fun vs cs q => U.get _ _ (B.laX j nd e (.inr (by rw [q]; rfl)) (by rw [q]; rfl) (.inl (by rw [q]; rfl))))
  adX := B.adX
  laX := B.laX
  told j nd v e1 e2 := (B.told j nd v e1 e2).up U
theorem BD.up (B : BD P dk th tl k σ W tv) (U : Up (fun _ => False) σ σ') : BD P dk th tl k σ' W tv :=
  B.step (U.mono fun _ q => q.elim) (by obtain ⟨ns, a, b⟩ := B.hdk; exact ⟨ns, a, U.get _ _ id b⟩) (U.get _ _ id B.htl)
theorem BD.ct_draw (B : BD P dk th tl k σ W tv) {c : Nat} (hc : 0 < c) (h : ∀ (r : Nat) σ', r < c → BD P dk th tl k σ' W tv → Up (· = dk) σ σ' → Q (VI r) σ') : CodeV S 1 σ (.ref (P.f .draw)) [.ref dk, VI c] Q := by
  obtain ⟨ns, h1, h2⟩ := B.hdk
  exact Mine.ct_draw P hc h1 h2 fun r ns' σ' hr hl hd U => h r σ' hr (B.step (U.mono fun _ q => .inl q) ⟨ns', hl, hd⟩ (U.get _ _ (Ne.symm B.n2) B.htl)) U
theorem BD.skip (B : BD P dk th tl k σ W tv) {nd : Nd} (hn : W.nd[k]? = some nd) (hp : nd.hasParts = false) : BD P dk th tl (k + 1) σ W tv where
  wb := B.wb
  hdk := B.hdk
  hth := B.hth
  htl := B.htl
  len := B.len
  n1 := B.n1
  n2 := B.n2
  n3 := B.n3
  nodeF j d e h := by
    refine B.nodeF j d e ?_
    rcases h with h | h
    · by_cases q : j = k
      · subst q; rw [hn] at e; cases e; exact .inr hp
      · exact .inl (by omega)
    · exact .inr h
  nodeR j d e h := B.nodeR j d e (by omega)
  adX := B.adX
  laX j d e h := by
    refine B.laX j d e ?_
    rcases h with h | h
    · by_cases q : j = k
      · subst q; rw [hn] at e; cases e; exact .inr hp
      · exact .inl (by omega)
    · exact .inr h
  told := B.told
theorem BD.freeX (B : BD P dk th tl k σ W tv) {x : Addr} (hx : ¬ fp σ x) : ¬ XD dk tl x := fun q => by
  obtain ⟨ns, _, f⟩ := B.hdk
  rcases q with rfl | rfl
  · exact hx (fp_self f)
  · exact hx (fp_self B.htl)

/-- thing k comes by its parts -/
def Wd.redo (W : Wd) (k : Nat) (nd : Nd) (l : Addr) : Wd := ⟨W.nd.set k nd, W.ad, updN W.la k l⟩
theorem redo_new {nd d : Nd} {l : Addr} (h : W.nd[k]? = some d) : (W.redo k nd l).nd[k]? = some nd := by
  show (W.nd.set k nd)[k]? = _
  rw [List.getElem?_set_self (List.getElem?_eq_some_iff.mp h).1]
theorem redo_old {nd : Nd} {l : Addr} {j : Nat} (h : j ≠ k) : (W.redo k nd l).nd[j]? = W.nd[j]? := by
  show (W.nd.set k nd)[j]? = _
  rw [List.getElem?_set_ne (Ne.symm h)]
theorem redo_val {nd d : Nd} {l : Addr} (h : W.nd[k]? = some d) (h1 : d.isNum = false) (h2 : nd.isNum = false) : (W.redo k nd l).val = W.val := by
  funext j
  by_cases q : j = k
  · subst q
    rw [val_comp h h1, val_comp (redo_new h) h2]; rfl
  · unfold Wd.val
    rw [redo_old q]; rfl
theorem NodeAt.redo {nd d e : Nd} {l : Addr} {j : Nat} (h : W.nd[k]? = some d) (h1 : d.isNum = false) (h2 : nd.isNum = false) (hj : j ≠ k) {mk : Value} (N : NodeAt P σ W j mk e) : NodeAt P σ (W.redo k nd l) j mk e := by
  have ev := redo_val (l := l) h h1 h2
  have el : (W.redo k nd l).la j = W.la j := updN_ne hj
  cases e with
  | sym => exact N
  | num => trivial
  | ali => exact N
  | txt cs => refine ⟨?_, ?_, N.2.2⟩; rw [el]; exact N.1; rw [el]; exact N.2.1
  | pr p q => show σ (W.ad j) = _; rw [ev]; exact N
  | vec ps => refine ⟨?_, ?_⟩; rw [el]; exact N.1; rw [el, ev]; exact N.2
theorem RawN.redo {nd e : Nd} {l : Addr} {j : Nat} (hj : j ≠ k) (N : RawN P σ W j e) : RawN P σ (W.redo k nd l) j e := N.congr rfl (updN_ne hj) rfl
theorem BD.redo (B : BD P dk th tl k σ W tv) {nd d : Nd} {l : Addr} {v : Value} (hn : W.nd[k]? = some d) (hd : d.hasParts = true) (hp : nd.hasParts = true) (hr : ∀ p ∈ nd.parts, p < W.nd.length) (hf : nd.parts.length ≤ 2) {σ' : AH} (U : Up (fun b => b = tl ∨ b = W.ad k) σ σ') (hdk : ∃ ns : List Int, ns.length ≤ 100 ∧ σ' dk = some (.list (ns.map VI)))
    (htl : σ' tl = some (.list (tv.set k v))) (hN : NodeAt P σ' (W.redo k nd l) k .none nd) (hl : ∀ ps, nd = .vec ps → ¬ XD dk tl l) (hT : ToldF (XD dk tl) σ' v nd) : BD P dk th tl (k + 1) σ' (W.redo k nd l) (tv.set k v) := by
  have n1 : d.isNum = false := by cases d <;> first | rfl | cases hd
  have n2 : nd.isNum = false := by cases nd <;> first | rfl | cases hp
  have hlen : (W.redo k nd l).nd.length = W.nd.length := List.length_set
  have hk := (List.getElem?_eq_some_iff.mp hn).1
  have cs : ∀ {j e}, (W.redo k nd l).nd[j]? = some e → (j ≠ k ∧ W.nd[j]? = some e) ∨ (j = k ∧ e = nd) := fun {j e} h => by
    by_cases q : j = k
    · subst q; rw [redo_new hn] at h; exact .inr ⟨rfl, by cases h; rfl⟩
    · rw [redo_old q] at h; exact .inl ⟨q, h⟩
  have adk : ∃ c at_, σ (W.ad k) = some (.inst (P.c c) at_) := by
    have N := B.nodeR k d hn (Nat.le_refl _)
    cases d with
    | pr p q => obtain ⟨u, v, e⟩ := N; exact ⟨_, _, e⟩
    | vec ps => obtain ⟨l, e⟩ := N; exact ⟨_, _, e⟩
    | sym => cases hd
    | num => cases hd
    | ali => cases hd
    | txt cs => cases hd
  obtain ⟨ck, ak, hak⟩ := adk
  have nl : ∀ c vs, ¬ XD dk tl c → σ c = some (.list vs) → σ' c = some (.list vs) := fun c vs hc e => U.get _ _ (fun q => q.elim (fun q => hc (.inr q)) fun q => by rw [q, hak] at e; cases e) e
  have na : ∀ j e, j ≠ k → W.nd[j]? = some e → e.isNum = false → ∀ o, σ (W.ad j) = some o → σ' (W.ad j) = some o := fun j e hj he hn' o => U.get _ _ (fun q => q.elim (fun q => B.adX j e he hn' (.inr q)) fun q => hj (B.wb.inj j k e d he hn hn' n1 q))
  have nt : ∀ c vs, ¬ XD dk tl c → σ c = some (.tuple vs) → σ' c = some (.tuple vs) := fun c vs hc e => U.get _ _ (fun q => q.elim (fun q => hc (.inr q)) fun q => by rw [q, hak] at e; cases e) e
  have th0 : ¬ XD dk tl th := fun q => q.elim (fun q => B.n1 q.symm) B.n3
  have zk : k ≠ 0 := fun q => by
    subst q
    rw [B.wb.zero] at hn; cases hn; cases hd
  refine ⟨⟨by rw [hlen]; exact B.wb.size, by rw [hlen]; exact B.wb.two, by rw [redo_old (Ne.symm zk)]; exact B.wb.zero, fun j e h p hp' => ?_, fun j e h => ?_, fun i j a b hi hj ha hb e => ?_⟩, hdk, ?_, htl, by rw [List.length_set, hlen]; exact B.len, B.n1, B.n2, B.n3, fun j e h hj => ?_, fun j e h hj => ?_, fun j e h he => ?_, fun j e h hj hc hv => ?_, fun j e v' h hv => ?_⟩
  · rw [hlen]
    rcases cs h with ⟨_, h⟩ | ⟨rfl, rfl⟩
    · exact B.wb.part j e h p hp'
    · exact hr p hp'
  · rcases cs h with ⟨_, h⟩ | ⟨rfl, rfl⟩
    · exact B.wb.few j e h
    · exact hf
  · rcases cs hi with ⟨q1, h1⟩ | ⟨rfl, rfl⟩ <;> rcases cs hj with ⟨q2, h2⟩ | ⟨h3, h4⟩
    · exact B.wb.inj i j a b h1 h2 ha hb e
    · subst h3; exact B.wb.inj i j a d h1 hn ha n1 e
    · exact B.wb.inj i j d b hn h2 n1 hb e
    · exact h3.symm
  · have : thV (W.redo k nd l) = thV W := by unfold thV; rw [redo_val hn n1 n2, hlen]
    rw [this]; exact nl _ _ th0 B.hth
  · rcases cs h with ⟨q, h⟩ | ⟨rfl, rfl⟩
    · have hj' : j < k ∨ e.hasParts = false := hj.imp (fun w => by omega) id
      exact ((B.nodeF j e h hj').upL (fun hn' => na j e q h hn') (fun hc hp vs => nl _ _ (B.laX j e h hj' hc hp))).redo hn n1 n2 q
    · exact hN
  · rcases cs h with ⟨q, h⟩ | ⟨rfl, rfl⟩
    · exact ((B.nodeR j e h (by omega)).up (fun o hn' => na j e q h hn' o) (fun vs cs q => nl _ _ (B.laX j e h (.inr (by rw [q]; rfl)) (by rw [q]; rfl) (.inl (by rw [q]; rfl))))).redo q
    · omega
  · rcases cs h with ⟨_, h⟩ | ⟨rfl, rfl⟩
    · exact B.adX j e h he
    · exact B.adX j d hn n1
  · rcases cs h with ⟨q, h⟩ | ⟨rfl, rfl⟩
    · have el : (W.redo k nd l).la j = W.la j := updN_ne q
      rw [el]
      exact B.laX j e h (hj.imp (fun w => by omega) id) hc hv
    · have el : (W.redo j e l).la j = l := updN_self
      rw [el]
      rcases hv with hv | ⟨ps, hv⟩
      · rw [hp] at hv; cases hv
      · exact hl ps hv
  · rcases cs h with ⟨q, h⟩ | ⟨rfl, rfl⟩
    · rw [List.getElem?_set_ne (Ne.symm q)] at hv
      obtain ⟨t, e', hx, ht⟩ := B.told j e v' h hv
      refine ⟨t, e', hx, ?_⟩
      split at ht
      · rename_i hc; rw [if_pos hc]; obtain ⟨l', hl', a, b⟩ := ht; exact ⟨l', hl', nt _ _ hx a, nl _ _ hl' b⟩
      · rename_i hc; rw [if_neg hc]; exact nt _ _ hx ht
    · rw [List.getElem?_set_self (by rw [B.len]; exact hk)] at hv
      cases hv; exact hT
end
end

section
variable {S : Stat} {n : Nat} {env : Env} {ρ : Str → Option Value} {σ : AH} {Q : Value → AH → Prop} {pos : Pos} {QS : Flow → (Str → Option Value) → AH → Prop} {rest : List PySem.Stmt}
  {P : Prg S} {σ₀ : AH} {W : Wd} {σ' : AH}
theorem ToldF.mk' {X : Addr → Prop} {t l : Addr} {nd : Nd} (hc : nd.comp = true) (ht : ¬ X t) (hl : ¬ X l) (h1 : σ t = some (.tuple [VS nd.word, .ref l])) (h2 : σ l = some (.list (nd.ints.map VI))) : ToldF X σ (.ref t) nd := ⟨t, rfl, ht, by rw [if_pos hc]; exact ⟨l, hl, h1, h2⟩⟩
theorem subCl1 {env : Env} {k : Str} {a : Addr} (h : env.cells.lookup k = some a) : ∀ x c, List.lookup x [(k, a)] = some c → env.cells.lookup x = some c := fun x c e => by
  rw [List.lookup_cons] at e
  cases q : x == k with
  | true => rw [q] at e; cases e; rw [beq_iff_eq.mp q]; exact h
  | false => rw [q] at e; cases e
theorem val_handed {p : Nat} : handedIn (W.val p) = true := by
  unfold Wd.val; split <;> rfl
theorem things2 (P : Prg S) {pm cd : Value} {L dk th tl : Addr} {tv : List Value} (B0 : BD P dk th tl 0 σ W tv) (r1 : ρ "deck" = some (.ref dk)) (r2 : ρ "things" = some (.ref th)) (r3 : ρ "told" = some (.ref tl))
    (h : ∀ σ' tt (W : Wd) (tv : List Value), σ' tt = some (.tuple [.ref th, .ref tl]) → BD P dk th tl W.nd.length σ' W tv → Q (.ref tt) σ') :
    Ts S 4 (EnvF (dF .things) (nameF .things) pm cd L (P.f .things)) ρ σ (execs ((bodyF (dF .things)).drop 2) (EnvF (dF .things) (nameF .things) pm cd L (P.f .things))) (fun fl _ σ' => Q (match fl with | .ret v => v | _ => .none) σ') := by
  generalize hN : W.nd.length = N at B0
  have hN9 : N ≤ 9 := hN ▸ B0.wb.size
  refine Ts.for1 (fun i ρ' σ' => i ≤ N ∧ ∃ W tv, BD P dk th tl i σ' W tv ∧ W.nd.length = N ∧ ρ' "deck" = some (.ref dk) ∧ ρ' "things" = some (.ref th) ∧ ρ' "told" = some (.ref tl)) N (by kernel_rfl) ?_ (fun _ => rfl)
  k_search "es"
  refine CallV.len B0.hth (by rw [thV_len]; omega) ?_
  rw [thV_len, hN]
  k_search "es"
  refine CallV.range fun ra ro hra hro => ?_
  refine PyIt.range (put_self _ _ _) hro (by omega) ⟨⟨Nat.zero_le _, W, tv, B0.up (Up.new hra), hN, r1, r2, r3⟩, ?_⟩
  clear B0 hN
  rintro i ρ' σ' ⟨hi, W, tv, B, hl, q1, q2, q3⟩
  refine ⟨hi, _, rfl, ?_⟩
  by_cases hlt : i < N
  · rw [if_pos hlt]
    show Ts _ _ _ _ _ _ _
    obtain ⟨nd, hn⟩ : ∃ nd, W.nd[i]? = some nd := ⟨W.nd[i], List.getElem?_eq_getElem _⟩
    obtain ⟨vt, hvt⟩ : ∃ vt, tv[i]? = some vt := ⟨tv[i]'(by rw [B.len]; omega), List.getElem?_eq_getElem _⟩
    obtain ⟨tt, rfl, htX, hTT⟩ := B.told i nd vt hn hvt
    obtain ⟨pl0, htup, _⟩ := told_tup (B.told i nd _ hn hvt).at
    k_search "s"
    k_search "es"
    refine SubV.list (k := i) (v := .ref tt) B.htl hvt (by rw [B.len]; omega) ?_ (fun o i => ⟨_, rfl⟩)
    k_search "es"
    refine SubV.tup (k := 0) (v := VS nd.word) htup rfl (by simp) ?_ (fun o i => ⟨_, rfl⟩)
    k_search "es"
    refine ⟨by simp, fun t8 ht8 => ?_⟩
    refine Cmp.inTup (put_self _ _ _) (by simp) (Truthy.ofBool ?_)
    rw [word_pv]
    have B1 := B.up (Up.new (o := .tuple [VS "pair", VS "vector"]) ht8)
    have hTT1 := (B.told i nd _ hn hvt).up (Up.new (o := .tuple [VS "pair", VS "vector"]) ht8)
    clear hTT htup
    generalize put σ' t8 (.tuple [VS "pair", VS "vector"]) = σ1 at B1 hTT1 ⊢
    cases hp : nd.hasParts with
    | false =>
      k_search "es"
      exact Ts.nil1 ⟨hlt, W, tv, B1.skip hn hp, hl, by k_search "rho", by k_search "rho", by k_search "rho"⟩
    | true =>
      obtain ⟨hc, hin⟩ := parts_some hp
      obtain ⟨tt', et, _, hT⟩ := hTT1
      cases et
      rw [if_pos hc] at hT
      obtain ⟨pl, hplX, htup, hpl⟩ := hT
      rw [hin, List.map_map, show (VI ∘ fun (p : Nat) => (p : Int)) = fun (p : Nat) => VI (p : Nat) from rfl] at hpl
      have hfew := B.wb.few i nd hn
      refine iteT ?_
      refine Ts.then ?_
      refine Ts.assignComp [("things", L + 2), ("deck", L + 1)] (fun k acc σ'' => k ≤ nd.parts.length ∧ BD P dk th tl i σ'' W tv ∧ Up (· = dk) σ1 σ'' ∧ ∃ qs : List Nat, qs.length = k ∧ (∀ q ∈ qs, q < N) ∧ acc = qs.map fun (p : Nat) => VI (p : Nat)) nd.parts.length (mkBlock rfl (by kernel_rfl) (by decide +kernel) (by decide +kernel) (fun x c e => e) (by simp) (by kernel_rfl)) (by kernel_rfl) (cellOk_of (by kernel_rfl)) (by kernel_rfl) (by kernel_rfl) ?_ (fun _ => rfl)
      k_search "es"
      refine SubV.list (k := i) (v := .ref tt) B1.htl hvt (by rw [B.len]; omega) ?_ (fun o i => ⟨_, rfl⟩)
      k_search "es"
      refine SubV.tup (k := 1) (v := .ref pl) htup rfl (by simp) ?_ (fun o i => ⟨_, rfl⟩)
      refine PyIt.list hpl ⟨⟨Nat.zero_le _, B1, .refl, [], rfl, by simp, rfl⟩, ?_⟩
      rintro k acc σ'' ⟨hk, B2, U2, qs, hq1, hq2, rfl⟩
      refine ⟨hk, by rw [List.length_map]; omega, (nd.parts.map fun (p : Nat) => VI (p : Nat))[k]?, ⟨_, U2.get _ _ (fun q => hplX (.inl q)) hpl, rfl⟩, ?_⟩
      rw [List.getElem?_map]
      cases e : nd.parts[k]? with
      | some p =>
        have hk' := (List.getElem?_eq_some_iff.mp e).1
        intro C' ρc hc1 hc2
        have hc3 := (hc2 "deck" (notLocal (k := .cell) (by kernel_rfl) (by decide))).trans (by k_search "rho" : setv ρ' "place" (VI (i : Nat)) "deck" = some (.ref dk))
        have hc4 := (hc2 "things" (notLocal (k := .cell) (by kernel_rfl) (by decide))).trans (by k_search "rho" : setv ρ' "place" (VI (i : Nat)) "things" = some (.ref th))
        k_search "es"
        refine CallV.len B2.hth (by rw [thV_len]; omega) ?_
        k_search "es"
        refine CallV.of_code ((B2.ct_draw (c := (thV W).length) (by rw [thV_len]; omega) fun r σ3 hr B3 U3 => ?_).up (by decide))
        rw [thV_len, hl] at hr
        exact ⟨hk', B3, U2.trans U3, qs ++ [r], by simp [hq1], fun q hq => (List.mem_append.mp hq).elim (hq2 q) fun w => by simp at w; omega, by simp⟩
      | none =>
        have hie : nd.parts.length ≤ k := List.getElem?_eq_none_iff.mp e
        have hqn : qs.length = nd.parts.length := by omega
        intro a ha
        refine thenNext ?_
        have faX := B2.freeX ha
        have B3 := B2.up (Up.new (o := .list (qs.map fun (p : Nat) => VI (p : Nat))) ha)
        have htup3 := (Up.new (X := fun _ => False) (o := .list (qs.map fun (p : Nat) => VI (p : Nat))) ha).get _ _ id (U2.get _ _ (fun q => htX (.inl q)) htup)
        have ha3 : (put σ'' a (.list (qs.map fun (p : Nat) => VI (p : Nat)))) a = some (.list (qs.map fun (p : Nat) => VI (p : Nat))) := put_self _ _ _
        generalize put σ'' a (.list (qs.map fun (p : Nat) => VI (p : Nat))) = σ3 at B3 htup3 ha3 ⊢
        refine Ts.asgSub ?_ (by kernel_rfl) (by kernel_rfl) (by kernel_rfl) (fun _ => rfl)
        k_search "es"
        refine SubV.list (k := i) (v := .ref tt) B3.htl hvt (by rw [B.len]; omega) ?_ (fun o i => ⟨_, rfl⟩)
        k_search "es"
        refine SubV.tup (k := 0) (v := VS nd.word) htup3 rfl (by simp) ?_ (fun o i => ⟨_, rfl⟩)
        k_search "es"
        refine ⟨by simp, fun t5 ht5 => ?_⟩
        have ft5 := B3.freeX ht5
        have B5 := B3.up (Up.new (o := .tuple [VS nd.word, .ref a]) ht5)
        have ha5 := put_old (x := .tuple [VS nd.word, .ref a]) ht5 ha3
        have ht55 : (put σ3 t5 (.tuple [VS nd.word, .ref a])) t5 = some (.tuple [VS nd.word, .ref a]) := put_self _ _ _
        generalize put σ3 t5 (.tuple [VS nd.word, .ref a]) = σ5 at B5 ha5 ht55 ⊢
        k_search "es"
        intro u hu
        refine SetI.list (k := i) B5.htl (by rw [B.len]; omega) (by rw [B.len]; omega) ?_
        rw [hu]
        have U6 : Up (fun b => b = tl ∨ b = W.ad i) σ5 (put σ5 tl (.list (tv.set i (.ref t5)))) := Up.set B5.htl (.inl rfl) list_noInst
        have ntl : ∀ c o, c ≠ tl → σ5 c = some o → put σ5 tl (.list (tv.set i (.ref t5))) c = some o := fun c o hc e => put_oth hc e
        have ha6 := ntl _ _ (fun q => faX (.inr q)) ha5
        have ht56 := ntl _ _ (fun q => ft5 (.inr q)) ht55
        have hth6 := ntl _ _ B.n3 B5.hth
        have hdk6 : ∃ ns : List Int, ns.length ≤ 100 ∧ (put σ5 tl (.list (tv.set i (.ref t5)))) dk = some (.list (ns.map VI)) := by obtain ⟨ns, x, y⟩ := B5.hdk; exact ⟨ns, x, ntl _ _ B.n2 y⟩
        have htl6 : put σ5 tl (.list (tv.set i (.ref t5))) tl = some (.list (tv.set i (.ref t5))) := put_self _ _ _
        have hR := B5.nodeR i nd hn (Nat.le_refl _)
        have hil : i < tv.length := by rw [B.len]; omega
        have hset : (tv.set i (.ref t5))[i]? = some (.ref t5) := List.getElem?_set_self hil
        have hadtl : W.ad i ≠ tl := fun q => B.adX i nd hn (by cases nd <;> first | rfl | cases hp) (.inr q)
        have nodeP : ∀ p, p < N → ∃ d, W.nd[p]? = some d := fun p hp => ⟨W.nd[p]'(by omega), List.getElem?_eq_getElem _⟩
        generalize put σ5 tl (.list (tv.set i (.ref t5))) = σ6 at U6 ntl ha6 ht56 hth6 hdk6 htl6 ⊢
        refine Ts.if1 ?_
        k_search "es"
        refine SubV.list (k := i) (v := .ref t5) htl6 hset (by rw [List.length_set, B.len]; omega) ?_ (fun o i => ⟨_, rfl⟩)
        k_search "es"
        refine SubV.tup (k := 0) (v := VS nd.word) ht56 rfl (by simp) ?_ (fun o i => ⟨_, rfl⟩)
        k_search "es"
        refine Cmp.eqS (Truthy.ofBool ?_)
        cases nd with
        | sym => cases hp
        | num => cases hp
        | ali => cases hp
        | txt cs => cases hp
        | pr a0 b0 =>
          rw [show ((Nd.pr a0 b0).word == ("pair" : Str)) = true from rfl]
          obtain ⟨u0, v0, hR⟩ := hR
          have hR6 := ntl _ _ hadtl hR
          match qs, hqn, hq2 with
          | [x, y], _, hq2 =>
          obtain ⟨dx, hdx⟩ := nodeP x (hq2 x (by simp))
          obtain ⟨dy, hdy⟩ := nodeP y (hq2 y (by simp))
          refine iteT ?_
          refine Ts.asg1 ?_ (by kernel_rfl) (by kernel_rfl) (by kernel_rfl)
          k_search "es"
          refine SubV.list (k := 0) (v := VI (x : Nat)) ha6 rfl (by simp) ?_ (fun o i => ⟨_, rfl⟩)
          refine SubV.list (k := x) (v := W.val x) hth6 (thV_get hdx) (by rw [thV_len]; omega) ?_ (fun o i => ⟨_, rfl⟩)
          k_search "es"
          refine SubV.list (k := 1) (v := VI (y : Nat)) ha6 rfl (by simp) ?_ (fun o i => ⟨_, rfl⟩)
          refine SubV.list (k := y) (v := W.val y) hth6 (thV_get hdy) (by rw [thV_len]; omega) ?_ (fun o i => ⟨_, rfl⟩)
          k_search "es"
          refine ⟨by simp, fun t7 ht7 => ?_⟩
          intro u hu
          rw [of_nrm_ref hu]
          refine Tu.tup2 (put_self _ _ _) (fun u1 u2 h1 h2 => ?_) rfl
          have hR7 := put_old (x := .tuple [W.val x, W.val y]) ht7 hR6
          have hth7 := put_old (x := .tuple [W.val x, W.val y]) ht7 hth6
          have U7 : Up (fun b => b = tl ∨ b = W.ad i) σ5 (put σ6 t7 (.tuple [W.val x, W.val y])) := U6.trans (Up.new ht7)
          have htl7 := put_old (x := .tuple [W.val x, W.val y]) ht7 htl6
          have hdk7 : ∃ ns : List Int, ns.length ≤ 100 ∧ (put σ6 t7 (.tuple [W.val x, W.val y])) dk = some (.list (ns.map VI)) := by obtain ⟨ns, p, q⟩ := hdk6; exact ⟨ns, p, put_old ht7 q⟩
          have ha7 := put_old (x := .tuple [W.val x, W.val y]) ht7 ha6
          have ht57 := put_old (x := .tuple [W.val x, W.val y]) ht7 ht56
          generalize put σ6 t7 (.tuple [W.val x, W.val y]) = σ7 at U7 hR7 hth7 htl7 hdk7 ha7 ht57 ⊢
          have hthi : (thV W)[i]? = some (.ref (W.ad i)) := (thV_get hn).trans (congrArg some (val_comp hn rfl))
          refine Tu.attr ?_
          k_search "es"
          refine SubV.list (k := i) (v := .ref (W.ad i)) hth7 hthi (by rw [thV_len]; omega) ?_ (fun o i => ⟨_, rfl⟩)
          refine ⟨_, _, _, rfl, hR7, P.ok .Pair, P.free .Pair _ (by kernel_rfl), hin_of h1 val_handed, by simp, ?_⟩
          rw [h1]
          refine Tu.attr ?_
          k_search "es"
          refine SubV.list (k := i) (v := .ref (W.ad i)) (put_oth (fun q => by rw [q, hR7] at hth7; cases hth7) hth7) hthi (by rw [thV_len]; omega) ?_ (fun o i => ⟨_, rfl⟩)
          refine ⟨_, _, _, rfl, put_self _ _ _, P.ok .Pair, P.free .Pair _ (by kernel_rfl), hin_of h2 val_handed, Nat.le_of_ble_eq_true (by kernel_rfl), ?_⟩
          rw [h2, put_put]
          have ea : setA "cdr" (W.val y) (setA "car" (W.val x) ([("car", u0), ("cdr", v0), ("mark", .none)] : List (Str × Value))) = ([("car", W.val x), ("cdr", W.val y), ("mark", .none)] : List (Str × Value)) := by kernel_rfl
          rw [ea]
          have nad : ∀ c o, c ≠ W.ad i → σ7 c = some o → put σ7 (W.ad i) (.inst (P.c .Pair) [("car", W.val x), ("cdr", W.val y), ("mark", .none)]) c = some o := fun c o hc e => put_oth hc e
          k_search "es"
          refine Ts.nil1 ⟨hlt, W.redo i (.pr x y) (W.la i), tv.set i (.ref t5), BD.redo (d := .pr a0 b0) (nd := .pr x y) B5 hn rfl rfl (by intro p hp'; simp [Nd.parts] at hp'; rcases hp' with rfl | rfl; have := hq2 p (by simp); omega; have := hq2 p (by simp); omega) (by simp [Nd.parts]) (U7.trans (Up.setI hR7 (.inr rfl))) (by obtain ⟨ns, p, q⟩ := hdk7; exact ⟨ns, p, nad _ _ (fun w => by rw [w, hR7] at q; cases q) q⟩)
            (nad _ _ (Ne.symm hadtl) htl7) ?_ (by intro ps q; cases q) (ToldF.mk' rfl ft5 faX (nad _ _ (fun w => by rw [w, hR7] at ht57; cases ht57) ht57) (nad _ _ (fun w => by rw [w, hR7] at ha7; cases ha7) ha7)), (List.length_set).trans hl, by k_search "rho", by k_search "rho", by k_search "rho"⟩
          show put σ7 (W.ad i) _ (W.ad i) = some (.inst (P.c .Pair) [("car", (W.redo i (.pr x y) (W.la i)).val x), ("cdr", (W.redo i (.pr x y) (W.la i)).val y), ("mark", .none)])
          rw [redo_val hn rfl rfl]; exact put_self _ _ _
        | vec p0 =>
          rw [show ((Nd.vec p0).word == ("pair" : Str)) = false from rfl]
          obtain ⟨l0, hR⟩ := hR
          have hR6 := ntl _ _ hadtl hR
          refine iteF ?_
          refine Ts.asgA (P := P) (c := .Vector) ?_ (by kernel_rfl) (by kernel_rfl) (by kernel_rfl)
          refine Ev.comp [("things", L + 2)] (fun k acc σ'' => k ≤ qs.length ∧ acc = (qs.take k).map W.val ∧ Up (fun _ => False) σ6 σ'') qs.length (mkBlock rfl (by kernel_rfl) (by decide +kernel) (by decide +kernel) (subCl1 (by kernel_rfl)) (by simp) (by kernel_rfl)) (by kernel_rfl) ?_ (fun _ => rfl)
          k_search "es"
          refine PyIt.list ha6 ⟨⟨Nat.zero_le _, rfl, .refl⟩, ?_⟩
          rintro k acc σ8 ⟨hk8, rfl, U8⟩
          refine ⟨hk8, by rw [List.length_map, List.length_take]; omega, (qs.map fun (p : Nat) => VI (p : Nat))[k]?, ⟨_, U8.get _ _ id ha6, rfl⟩, ?_⟩
          rw [List.getElem?_map]
          cases e8 : qs[k]? with
          | some p =>
            obtain ⟨dp, hdp⟩ := nodeP p (hq2 p (List.mem_of_getElem? e8))
            have hk' := (List.getElem?_eq_some_iff.mp e8).1
            intro C' ρc hc1 hc2
            have hc4 := (hc2 "things" (notLocal (k := .cell) (by kernel_rfl) (by decide))).trans (by k_search "rho" : setv (setv ρ' "place" (VI (i : Nat))) "parts" (.ref a) "things" = some (.ref th))
            k_search "es"
            refine SubV.list (k := p) (v := W.val p) (U8.get _ _ id hth6) (thV_get hdp) (by rw [thV_len]; omega) ?_ (fun o i => ⟨_, rfl⟩)
            refine ⟨hk', ?_, U8⟩
            rw [List.take_add_one, e8, List.map_append]; rfl
          | none =>
            have hie8 : qs.length ≤ k := List.getElem?_eq_none_iff.mp e8
            rw [List.take_of_length_le hie8]
            intro l hl8
            have U9 : Up (fun _ => False) σ6 (put σ8 l (.list (qs.map W.val))) := U8.trans (Up.new hl8)
            have hl9 : put σ8 l (.list (qs.map W.val)) l = some (.list (qs.map W.val)) := put_self _ _ _
            have flX : ¬ XD dk tl l := fun q => by
              obtain ⟨ns, _, f⟩ := hdk6
              rcases q with rfl | rfl
              · exact hl8 (fp_self (U8.get _ _ id f))
              · exact hl8 (fp_self (U8.get _ _ id htl6))
            generalize put σ8 l (.list (qs.map W.val)) = σ9 at U9 hl9 ⊢
            have hR9 := U9.get _ _ id hR6
            have hthi : (thV W)[i]? = some (.ref (W.ad i)) := (thV_get hn).trans (congrArg some (val_comp hn rfl))
            k_search "es"
            refine SubV.list (k := i) (v := .ref (W.ad i)) (U9.get _ _ id hth6) hthi (by rw [thV_len]; omega) ?_ (fun o i => ⟨_, rfl⟩)
            refine ⟨_, _, rfl, hR9, by kernel_rfl, rfl, by kernel_rfl, ?_⟩
            have ea : setA "things" (.ref l) ([("things", .ref l0), ("mark", .none)] : List (Str × Value)) = ([("things", .ref l), ("mark", .none)] : List (Str × Value)) := by kernel_rfl
            rw [ea]
            have nad : ∀ c o, c ≠ W.ad i → σ9 c = some o → put σ9 (W.ad i) (.inst (P.c .Vector) [("things", .ref l), ("mark", .none)]) c = some o := fun c o hc e => put_oth hc e
            have nli : ∀ c vs, σ9 c = some (.list vs) → put σ9 (W.ad i) (.inst (P.c .Vector) [("things", .ref l), ("mark", .none)]) c = some (.list vs) := fun c vs e => nad _ _ (fun w => by rw [w, hR9] at e; cases e) e
            k_search "es"
            refine Ts.nil1 ⟨hlt, W.redo i (.vec qs) l, tv.set i (.ref t5), BD.redo (d := .vec p0) (nd := .vec qs) B5 hn rfl rfl (by intro p hp'; have := hq2 p hp'; omega) (by show qs.length ≤ 2; omega) ((U6.trans (U9.mono fun _ q => q.elim)).trans (Up.setI hR9 (.inr rfl))) (by obtain ⟨ns, p, q⟩ := hdk6; exact ⟨ns, p, nli _ _ (U9.get _ _ id q)⟩)
              (nli _ _ (U9.get _ _ id htl6)) ?_ (fun _ _ => flX) (ToldF.mk' rfl ft5 faX (nad _ _ (fun w => by have := U9.get _ _ id ht56; rw [w, hR9] at this; cases this) (U9.get _ _ id ht56)) (by have := nli _ _ (U9.get _ _ id ha6); rw [show (Nd.vec qs).ints.map VI = qs.map fun (p : Nat) => VI (p : Nat) from by show (qs.map fun (p : Nat) => (p : Int)).map VI = _; rw [List.map_map]; rfl]; exact this)), (List.length_set).trans hl, by k_search "rho", by k_search "rho", by k_search "rho"⟩
            have el : (W.redo i (.vec qs) l).la i = l := updN_self
            refine ⟨?_, ?_⟩
            · rw [el]; exact put_self _ _ _
            · rw [el, redo_val hn rfl rfl]; exact nli _ _ hl9
  · rw [if_neg hlt]
    show Ts _ _ _ _ _ _ _
    have hiN : i = N := by omega
    subst hiN
    k_search "es"
    refine ⟨by simp, fun tt htt => ?_⟩
    refine h _ tt W tv (put_self _ _ _) ?_
    rw [hl]; exact B.up (Up.new htt)
end

section
variable {S : Stat} {n : Nat} {env : Env} {ρ : Str → Option Value} {σ : AH} {Q : Value → AH → Prop} {pos : Pos} {QS : Flow → (Str → Option Value) → AH → Prop} {rest : List PySem.Stmt}
  {P : Prg S} {σ₀ : AH} {W : Wd} {σ' : AH}
theorem Ev.neg {e : PySem.Expr} (h : Ev S n env ρ σ e (fun v σ₁ => ∃ i, v = VI i ∧ Q (VI (-i)) σ₁)) : Ev S n env ρ σ (.UnaryOp .USub e pos) Q :=
  Tr.eq (eval_UnaryOp .USub e pos) (Tr.bind (h.mono fun a σ₁ ⟨i, e1, q⟩ u hu => Tr.standAt (Tr.holding fun A s R G F => by
    subst e1
    obtain ⟨t, rfl⟩ := of_nrm_int hu
    exact PyProof.Rows.neg_int ⟨σ₁, G, .same fun _ _ e => e, q⟩)))
/-- between the laps -/
def TI (P : Prg S) (dk w th tl sc : Addr) (i : Nat) (ρ' : Str → Option Value) (σ' : AH) : Prop :=
  ∃ W tv, BS P dk w th tl σ' W tv (thV W) tv ∧ W.nd.length = 2 + i ∧ ρ' "deck" = some (.ref dk) ∧ ρ' "world" = some (.ref w) ∧ ρ' "things" = some (.ref th) ∧ ρ' "told" = some (.ref tl) ∧ ρ' "scope" = some (.ref sc)

theorem ct_things (P : Prg S) {σ₀ : AH} {dk w t r b : Addr} {ti op : Value} {ns : List Int} (hns : ns.length ≤ 100) (hdk : σ₀ dk = some (.list (ns.map VI))) (hw0 : σ₀ w = some (.inst (P.c .Names) [("table", .ref t), ("last", VI 0), ("titles", ti), ("ops", op), ("root", .none)])) (hw1 : σ₀ t = some (.inst (P.c .Table) [("rows", .ref r), ("by_text", .ref b)])) (hw2 : σ₀ r = some (.list [])) (hw3 : σ₀ b = some (.dicts [])) (hdr : dk ≠ r)
    (h : ∀ σ' th tl tt (W : Wd) (tv : List Value), σ' tt = some (.tuple [.ref th, .ref tl]) → BD P dk th tl W.nd.length σ' W tv → Q (.ref tt) σ') : CodeV S 5 σ₀ (.ref (P.f .things)) [.ref dk, .ref w] Q := by
  refine CodeV.fn (d := dF .things) ["deck", "world"] (P.fnF .things) (by kernel_rfl) (fun pm cd raws hr => ?_) (fun pm cd L => ?_)
  · match raws, hr with
    | [x0, x1], _ => kernel_rfl
  · have r0 : rho0 ["deck", "world"] [.ref dk, .ref w] "deck" = some (.ref dk) := by kernel_rfl
    have r1 : rho0 ["deck", "world"] [.ref dk, .ref w] "world" = some (.ref w) := by kernel_rfl
    generalize hρ : rho0 ["deck", "world"] [.ref dk, .ref w] = ρ at r0 r1 ⊢
    refine Ts.asgTup3 ?_ (by kernel_rfl) (by kernel_rfl) (by kernel_rfl) (by kernel_rfl) (by kernel_rfl) (by kernel_rfl) (by kernel_rfl)
    k_search "es"
    refine MethV.own hw0 (P.ok _) (P.fM .nSymbol) (P.isM .nSymbol) (by kernel_rfl) ⟨P.calM _, ?_⟩
    k_search "es"
    refine CallV.of_code (ct_nSymbol P hw0 hw1 hw2 hw3 fun y σ1 hy hy1 U1 => ?_)
    have hdk1 := U1.get _ _ (fun q => by rcases q with q | q; exact hdr q; rw [q, hw3] at hdk; cases hdk) hdk
    have hw01 := U1.get _ _ (fun q => by rcases q with q | q; rw [q, hw2] at hw0; cases hw0; rw [q, hw3] at hw0; cases hw0) hw0
    k_search "es"
    refine ⟨by simp, fun th hth => ?_⟩
    k_search "es"
    refine ⟨by simp, fun t1 ht1 => ?_⟩
    k_search "es"
    refine ⟨by simp, fun t2 ht2 => ?_⟩
    k_search "es"
    refine ⟨by simp, fun tl htl => ?_⟩
    k_search "es"
    refine (CallV.mkScope P fun sc at_ σ2 hsc hsc1 U2 => ?_).up (by decide)
    k_search "es"
    refine ⟨by simp, fun t3 ht3 => ?_⟩
    refine ⟨t3, _, _, _, rfl, put_self _ _ _, ?_⟩
    have hth2 := U2.get _ _ id (put_old htl (put_old ht2 (put_old ht1 (put_self σ1 th (.list [.ref y, VI 7])))))
    have ht12 := U2.get _ _ id (put_old htl (put_old ht2 (put_self (put σ1 th (.list [.ref y, VI 7])) t1 (.tuple [VS "symbol", VS "a"]))))
    have ht22 := U2.get _ _ id (put_old htl (put_self (put (put σ1 th (.list [.ref y, VI 7])) t1 (.tuple [VS "symbol", VS "a"])) t2 (.tuple [VS "number", VI 7])))
    have htl2 := U2.get _ _ id (put_self (put (put (put σ1 th (.list [.ref y, VI 7])) t1 (.tuple [VS "symbol", VS "a"])) t2 (.tuple [VS "number", VI 7])) tl (.list [.ref t1, .ref t2]))
    have Ua : Up (fun _ => False) σ1 σ2 := (Up.new hth).trans ((Up.new ht1).trans ((Up.new ht2).trans ((Up.new htl).trans U2)))
    have Ub : Up (fun _ => False) σ2 (put σ2 t3 (.tuple [.ref th, .ref tl, .ref sc])) := Up.new ht3
    have hy2 := Ub.get _ _ id (Ua.get _ _ id hy1)
    have hdk2 := Ub.get _ _ id (Ua.get _ _ id hdk1)
    have hw2' := Ub.get _ _ id (Ua.get _ _ id hw01)
    have hth3 := Ub.get _ _ id hth2
    have ht13 := Ub.get _ _ id ht12
    have ht23 := Ub.get _ _ id ht22
    have htl3 := Ub.get _ _ id htl2
    have dkth : dk ≠ th := fun q => hth (q ▸ fp_self hdk1)
    have dktl : dk ≠ tl := fun q => htl ((Up.new (X := fun _ => False) ht2).fp _ ((Up.new (X := fun _ => False) ht1).fp _ ((Up.new (X := fun _ => False) hth).fp _ (q ▸ fp_self hdk1))))
    have thtl : th ≠ tl := fun q => htl (q ▸ fp_self (put_old ht2 (put_old ht1 (put_self σ1 th (.list [.ref y, VI 7])))))
    generalize put σ2 t3 (.tuple [.ref th, .ref tl, .ref sc]) = σ3 at hy2 hdk2 hw2' hth3 ht13 ht23 htl3 ⊢
    have nXt : ∀ (c : Addr) (vs : List Value), σ3 c = some (.tuple vs) → ¬ XB dk w th tl c := fun c vs e q => by
      rcases q with q | q | q | q
      · rw [q, hdk2] at e; cases e
      · rw [q, hw2'] at e; cases e
      · rw [q, hth3] at e; cases e
      · rw [q, htl3] at e; cases e
    have nXy : ¬ XB dk w th tl y := fun q => by
      rcases q with q | q | q | q
      · rw [q, hdk2] at hy2; cases hy2
      · rw [q, hw2'] at hy2; exact P.c_ne (x := .Names) (y := .Symbol) rfl (by injection hy2 with e; injection e)
      · rw [q, hth3] at hy2; cases hy2
      · rw [q, htl3] at hy2; cases hy2
    have B0 : BS P dk w th tl σ3 ⟨[.sym, .num], fun _ => y, fun _ => 0⟩ [.ref t1, .ref t2] (thV ⟨[.sym, .num], fun _ => y, fun _ => 0⟩) [.ref t1, .ref t2] := by
      have two : ∀ (j : Nat) (nd : Nd), ([.sym, .num] : List Nd)[j]? = some nd → (j = 0 ∧ nd = .sym) ∨ (j = 1 ∧ nd = .num) := fun j nd e => by
        match j, e with
        | 0, e => exact .inl ⟨rfl, by simpa using e.symm⟩
        | 1, e => exact .inr ⟨rfl, by simpa using e.symm⟩
        | j + 2, e => simp at e
      refine ⟨⟨by simp, by simp, rfl, fun j nd e p hp => ?_, fun j nd e => ?_, fun i j a b hi hj ha hb _ => ?_⟩, ⟨ns, hns, hdk2⟩, ⟨_, _, _, _, hw2'⟩, hth3, htl3, rfl, dkth, dktl, thtl, fun j nd e => ?_, fun j nd e hn => ?_, fun j cs e => ?_, fun j nd v e hv => ?_, fun j nd e hd => ?_⟩
      · rcases two j nd e with ⟨rfl, rfl⟩ | ⟨rfl, rfl⟩ <;> cases hp
      · rcases two j nd e with ⟨rfl, rfl⟩ | ⟨rfl, rfl⟩ <;> decide
      · rcases two i a hi with ⟨rfl, rfl⟩ | ⟨rfl, rfl⟩
        · rcases two j b hj with ⟨rfl, rfl⟩ | ⟨rfl, rfl⟩
          · rfl
          · cases hb
        · cases ha
      · rcases two j nd e with ⟨rfl, rfl⟩ | ⟨rfl, rfl⟩
        · exact hy2
        · trivial
      · exact nXy
      · rcases two j _ e with ⟨_, e'⟩ | ⟨_, e'⟩ <;> cases e'
      · rcases two j nd e with ⟨rfl, rfl⟩ | ⟨rfl, rfl⟩
        · simp at hv; subst hv; exact ⟨t1, rfl, nXt _ _ ht13, ht13⟩
        · simp at hv; subst hv; exact ⟨t2, rfl, nXt _ _ ht23, ht23⟩
      · rcases two j nd e with ⟨rfl, rfl⟩ | ⟨rfl, rfl⟩
        · exact ⟨0, Nat.le_refl _, .inl ⟨_, hy2, rfl, rfl⟩⟩
        · rcases hd with q | q <;> cases q
    have T0 : TI P dk w th tl sc 0 (setv (setv (setv ρ "things" (.ref th)) "told" (.ref tl)) "scope" (.ref sc)) σ3 := ⟨_, _, B0, rfl, by k_search "rho", by k_search "rho", by k_search "rho", by k_search "rho", by k_search "rho"⟩
    generalize (setv (setv (setv ρ "things" (.ref th)) "told" (.ref tl)) "scope" (.ref sc)) = ρ1 at T0 ⊢
    clear B0 nXy nXt
    obtain ⟨W0, tv0, B0, hl0, q1, q2, q3, q4, q5⟩ := T0
    refine Ts.for1 (fun i ρ' σ' => i ≤ 7 ∧ TI P dk w th tl sc i ρ' σ') 7 (by kernel_rfl) ?_ (fun _ => rfl)
    k_search "es"
    refine CallV.of_code ((B0.ct_draw (k := 6) (by decide) fun r6 σ4 hr6 B4 U4 => ?_).up (by decide))
    refine Bin.add ?_
    rw [show (2 : Int) + (r6 : Nat) = ((2 + r6 : Nat) : Int) from by omega]
    k_search "es"
    refine CallV.range fun ra ro hra hro => ?_
    refine PyIt.range (put_self _ _ _) hro (by omega) ⟨⟨Nat.zero_le _, W0, tv0, B4.up (Up.new hra), hl0, q1, q2, q3, q4, q5⟩, ?_⟩
    rintro i ρ' σ' ⟨hi, W, tv, B, hl, q1, q2, q3, q4, q5⟩
    refine ⟨hi, _, rfl, ?_⟩
    by_cases hlt : i < 2 + r6
    · rw [if_pos hlt]
      have hi7 : i < 7 := by omega
      show Ts _ _ _ _ _ _ _
      refine Ts.asgSwap "way" "one" ?_ (by kernel_rfl) (by kernel_rfl) (by kernel_rfl) (by kernel_rfl)
      k_search "es"
      refine CallV.of_code ((B.ct_draw (k := 6) (by decide) fun w6 σ5 hw6 B5 U5 => ?_).up (by decide))
      k_search "es"
      refine CallV.len B5.hth (by rw [thV_len]; omega) ?_
      k_search "es"
      refine CallV.of_code ((B5.ct_draw (k := (thV W).length) (by rw [thV_len]; omega) fun one σ6 hone B6 U6 => ?_).up (by decide))
      rw [thV_len] at hone
      k_search "es"
      refine ⟨by simp, fun t9 ht9 => ?_⟩
      refine ⟨t9, _, _, rfl, put_self _ _ _, ?_⟩
      have B7 := B6.up (Up.new (o := .tuple [VI (w6 : Nat), VI (one : Nat)]) ht9)
      generalize put σ6 t9 (.tuple [VI (w6 : Nat), VI (one : Nat)]) = σ7 at B7 ⊢
      have fin : ∀ σ' W' tv' (ρ2 : Str → Option Value), BS P dk w th tl σ' W' tv' (thV W') tv' → W'.nd.length = W.nd.length + 1 → ρ2 "deck" = some (.ref dk) → ρ2 "world" = some (.ref w) → ρ2 "things" = some (.ref th) → ρ2 "told" = some (.ref tl) → ρ2 "scope" = some (.ref sc) → i + 1 ≤ 7 ∧ TI P dk w th tl sc (i + 1) ρ2 σ' :=
        fun σ' W' tv' ρ2 B' hl' h1 h2 h3 h4 h5 => ⟨hi7, W', tv', B', by omega, h1, h2, h3, h4, h5⟩
      have hsz : W.nd.length < 9 := by omega
      have hthl : (thV W).length ≤ 100000 := by rw [thV_len]; omega
      have htvl : tv.length ≤ 100000 := by rw [B.len]; omega
      obtain ⟨ndo, hndo⟩ : ∃ ndo, W.nd[one]? = some ndo := ⟨W.nd[one]'hone, List.getElem?_eq_getElem _⟩
      refine Ts.if1 ?_
      k_search "es"
      refine Cmp.eqI (Truthy.ofBool ?_)
      by_cases h0 : w6 = 0
      · subst h0
        rw [show (((0 : Nat) : Int) == 0) = true from rfl]
        k_search "es"
        refine MethV.list B7.hth PySem.F.slot_list_append PySem.F.type_list_append ⟨Callee.builtin, ?_⟩
        k_search "es"
        refine (CallV.mkPair P rfl rfl fun x hx => ?_).up (by decide)
        obtain ⟨fx1, fx2⟩ := B7.free hx
        have B8 := B7.up (Up.new (o := .inst (P.c .Pair) [("car", VI 5), ("cdr", VI 5), ("mark", .none)]) hx)
        have hx8 : (put σ7 x (.inst (P.c .Pair) [("car", VI 5), ("cdr", VI 5), ("mark", .none)])) x = some (.inst (P.c .Pair) [("car", VI 5), ("cdr", VI 5), ("mark", .none)]) := put_self _ _ _
        generalize put σ7 x (.inst (P.c .Pair) [("car", VI 5), ("cdr", VI 5), ("mark", .none)]) = σ8 at B8 hx8 ⊢
        k_search "es"
        refine CallV.append B8.hth hthl ?_
        obtain ⟨B9, U9⟩ := B8.setTh (thV W ++ [.ref x])
        have hx9 := U9.get _ _ (fun q => fx1 (.inr (.inr (.inl q)))) hx8
        generalize put σ8 th (.list (thV W ++ [.ref x])) = σ9 at B9 hx9 ⊢
        k_search "es"
        refine MethV.list B9.htl PySem.F.slot_list_append PySem.F.type_list_append ⟨Callee.builtin, ?_⟩
        k_search "es"
        refine ⟨by simp, fun l hl => ?_⟩
        k_search "es"
        refine ⟨by simp, fun t' ht' => ?_⟩
        k_search "es"
        have B11 := (B9.up (Up.new (o := .list [VI 0, VI 1]) hl)).up (Up.new (o := .tuple [VS "pair", .ref l]) ht')
        refine CallV.append B11.htl htvl ?_
        obtain ⟨B12, U12⟩ := B11.setTl (tv ++ [.ref t'])
        have ft := ((B9.up (Up.new (o := .list [VI 0, VI 1]) hl)).free ht').1
        have fl := (B9.free hl).1
        obtain ⟨B13, hl13⟩ := B12.push (nd := .pr 0 1) (x := x) (l := 0) (v := .ref t') hsz rfl (by simp) (by intro p hp; simp [Nd.parts] at hp; omega) (by simp [Nd.parts]) fx1 fx2 (by intro cs q; cases q)
          ⟨VI 5, VI 5, by rw [push_new.2.1]; exact U12.get _ _ (fun q => fx1 (.inr (.inr (.inr q)))) (put_old ht' (put_old hl hx9))⟩
          (ToldF.mk' rfl ft fl (U12.get _ _ (fun q => ft (.inr (.inr (.inr q)))) (put_self _ _ _)) (U12.get _ _ (fun q => fl (.inr (.inr (.inr q)))) (put_old ht' (put_self _ _ _)))) (by intro q; cases q)
        k_search "es"
        exact Ts.nil1 (fin _ _ _ _ B13 hl13 (by k_search "rho") (by k_search "rho") (by k_search "rho") (by k_search "rho") (by k_search "rho"))

      rw [show (((w6 : Nat) : Int) == 0) = false from by rw [beq_eq_false_iff_ne]; omega]
      k_search "es"
      refine Cmp.eqI (Truthy.ofBool ?_)
      by_cases h1 : w6 = 1
      · subst h1
        rw [show (((1 : Nat) : Int) == 1) = true from rfl]
        k_search "es"
        refine MethV.list B7.hth PySem.F.slot_list_append PySem.F.type_list_append ⟨Callee.builtin, ?_⟩
        k_search "es"
        refine ⟨by simp, fun l0 hl0 => ?_⟩
        have B7a := B7.up (Up.new (o := .list [VI 97, VI 98]) hl0)
        have hl0a : (put σ7 l0 (.list [VI 97, VI 98])) l0 = some (.list [VI 97, VI 98]) := put_self _ _ _
        have fl0 := (B7.free hl0).1
        generalize put σ7 l0 (.list [VI 97, VI 98]) = σ7a at B7a hl0a ⊢
        k_search "es"
        refine CallV.of_code ((B7a.ct_draw (k := 3) (by decide) fun c3 σ7b hc3 B7b U7b => ?_).up (by decide))
        refine ⟨l0, [VI 97, VI 98], c3, rfl, rfl, .inl (U7b.get _ _ (fun q => fl0 (.inl q)) hl0a), by simp, fun lc hlc => ?_⟩
        have flc := (B7b.free hlc).1
        rw [show ([VI 97, VI 98] : List Value).take c3 = (([97, 98] : List Int).take c3).map VI from by rw [List.map_take]; rfl]
        have hcl : (([97, 98] : List Int).take c3).length ≤ 2 := by rw [List.length_take]; simp; omega
        generalize ([97, 98] : List Int).take c3 = cs at hcl ⊢
        have B7c := B7b.up (Up.new (o := .list (cs.map VI)) hlc)
        have hlcc : (put σ7b lc (.list (cs.map VI))) lc = some (.list (cs.map VI)) := put_self _ _ _
        generalize put σ7b lc (.list (cs.map VI)) = σ7c at B7c hlcc ⊢
        k_search "es"
        refine (CallV.mkText P rfl fun x hx => ?_).up (by decide)
        obtain ⟨fx1, fx2⟩ := B7c.free hx
        have B8 := B7c.up (Up.new (o := .inst (P.c .Text) [("codes", .ref lc), ("mark", .none)]) hx)
        have hx8 : (put σ7c x (.inst (P.c .Text) [("codes", .ref lc), ("mark", .none)])) x = some (.inst (P.c .Text) [("codes", .ref lc), ("mark", .none)]) := put_self _ _ _
        have hlc8 := put_old (x := .inst (P.c .Text) [("codes", .ref lc), ("mark", .none)]) hx hlcc
        generalize put σ7c x (.inst (P.c .Text) [("codes", .ref lc), ("mark", .none)]) = σ8 at B8 hx8 hlc8 ⊢
        k_search "es"
        refine CallV.append B8.hth hthl ?_
        obtain ⟨B9, U9⟩ := B8.setTh (thV W ++ [.ref x])
        have hx9 := U9.get _ _ (fun q => fx1 (.inr (.inr (.inl q)))) hx8
        have hlc9 := U9.get _ _ (fun q => flc (.inr (.inr (.inl q)))) hlc8
        generalize put σ8 th (.list (thV W ++ [.ref x])) = σ9 at B9 hx9 hlc9 ⊢
        k_search "es"
        refine MethV.list B9.htl PySem.F.slot_list_append PySem.F.type_list_append ⟨Callee.builtin, ?_⟩
        k_search "es"
        refine Ev.neg ?_
        k_search "es"
        refine ⟨1, rfl, ?_⟩
        refine SubV.last B9.hth (by rw [thV_len]; omega) ?_ (fun o i => ⟨_, rfl⟩)
        k_search "at"; k_search "es"
        refine CallV.listOf hlc9 (by rw [List.length_map]; omega) fun l hl => ?_
        k_search "es"
        refine ⟨by simp, fun t' ht' => ?_⟩
        k_search "es"
        have B11 := (B9.up (Up.new (o := .list (cs.map VI)) hl)).up (Up.new (o := .tuple [VS "text", .ref l]) ht')
        refine CallV.append B11.htl htvl ?_
        obtain ⟨B12, U12⟩ := B11.setTl (tv ++ [.ref t'])
        have ft := ((B9.up (Up.new (o := .list (cs.map VI)) hl)).free ht').1
        have fl := (B9.free hl).1
        obtain ⟨B13, hl13⟩ := B12.push (nd := .txt cs) (x := x) (l := lc) (v := .ref t') hsz rfl (by simp) (by intro p hp; cases hp) (by simp [Nd.parts]) fx1 fx2 (fun _ _ => flc)
          ⟨by rw [push_new.2.1, push_new.2.2]; exact U12.get _ _ (fun q => fx1 (.inr (.inr (.inr q)))) (put_old ht' (put_old hl hx9)), by rw [push_new.2.2]; exact U12.get _ _ (fun q => flc (.inr (.inr (.inr q)))) (put_old ht' (put_old hl hlc9)), hcl⟩
          (ToldF.mk' rfl ft fl (U12.get _ _ (fun q => ft (.inr (.inr (.inr q)))) (put_self _ _ _)) (U12.get _ _ (fun q => fl (.inr (.inr (.inr q)))) (put_old ht' (put_self _ _ _)))) (by intro q; cases q)
        k_search "es"
        exact Ts.nil1 (fin _ _ _ _ B13 hl13 (by k_search "rho") (by k_search "rho") (by k_search "rho") (by k_search "rho") (by k_search "rho"))

      rw [show (((w6 : Nat) : Int) == 1) = false from by rw [beq_eq_false_iff_ne]; omega]
      k_search "es"
      refine Cmp.eqI (Truthy.ofBool ?_)
      by_cases h2 : w6 = 2
      · subst h2
        rw [show (((2 : Nat) : Int) == 2) = true from rfl]
        k_search "es"
        refine MethV.list B7.hth PySem.F.slot_list_append PySem.F.type_list_append ⟨Callee.builtin, ?_⟩
        k_search "es"
        refine ⟨by simp, fun l5 hl5 => ?_⟩
        have B7a := B7.up (Up.new (o := .list [VI 5, VI 5]) hl5)
        generalize put σ7 l5 (.list [VI 5, VI 5]) = σ7a at B7a ⊢
        k_search "es"
        refine (CallV.mkVector P rfl fun x hx => ?_).up (by decide)
        obtain ⟨fx1, fx2⟩ := B7a.free hx
        have B8 := B7a.up (Up.new (o := .inst (P.c .Vector) [("things", .ref l5), ("mark", .none)]) hx)
        have hx8 : (put σ7a x (.inst (P.c .Vector) [("things", .ref l5), ("mark", .none)])) x = some (.inst (P.c .Vector) [("things", .ref l5), ("mark", .none)]) := put_self _ _ _
        generalize put σ7a x (.inst (P.c .Vector) [("things", .ref l5), ("mark", .none)]) = σ8 at B8 hx8 ⊢
        k_search "es"
        refine CallV.append B8.hth hthl ?_
        obtain ⟨B9, U9⟩ := B8.setTh (thV W ++ [.ref x])
        have hx9 := U9.get _ _ (fun q => fx1 (.inr (.inr (.inl q)))) hx8
        generalize put σ8 th (.list (thV W ++ [.ref x])) = σ9 at B9 hx9 ⊢
        k_search "es"
        refine MethV.list B9.htl PySem.F.slot_list_append PySem.F.type_list_append ⟨Callee.builtin, ?_⟩
        k_search "es"
        refine ⟨by simp, fun l0 hl0 => ?_⟩
        have B9a := B9.up (Up.new (o := .list [VI 0, VI 1]) hl0)
        have hx9a := put_old (x := .list [VI 0, VI 1]) hl0 hx9
        have hl0a : (put σ9 l0 (.list [VI 0, VI 1])) l0 = some (.list [VI 0, VI 1]) := put_self _ _ _
        have fl0 := (B9.free hl0).1
        generalize put σ9 l0 (.list [VI 0, VI 1]) = σ9a at B9a hl0a hx9a ⊢
        k_search "es"
        refine CallV.of_code ((B9a.ct_draw (k := 3) (by decide) fun c3 σ9b hc3 B9b U9b => ?_).up (by decide))
        have hx9b := U9b.get _ _ (fun q => fx1 (.inl q)) hx9a
        refine ⟨l0, [VI 0, VI 1], c3, rfl, rfl, .inl (U9b.get _ _ (fun q => fl0 (.inl q)) hl0a), by simp, fun l hl => ?_⟩
        rw [show ([VI 0, VI 1] : List Value).take c3 = ((([0, 1] : List Nat).take c3).map fun (p : Nat) => (p : Int)).map VI from by rw [List.map_take, List.map_take]; rfl]
        have hcl : (([0, 1] : List Nat).take c3).length ≤ 2 := by rw [List.length_take]; simp; omega
        have hcm : ∀ p ∈ ([0, 1] : List Nat).take c3, p < W.nd.length + 1 := fun p hp => by
          have := List.mem_of_mem_take hp
          simp at this; omega
        generalize ([0, 1] : List Nat).take c3 = ps at hcl hcm ⊢
        k_search "es"
        refine ⟨by simp, fun t' ht' => ?_⟩
        k_search "es"
        have B11 := (B9b.up (Up.new (o := .list ((ps.map fun (p : Nat) => (p : Int)).map VI)) hl)).up (Up.new (o := .tuple [VS "vector", .ref l]) ht')
        refine CallV.append B11.htl htvl ?_
        obtain ⟨B12, U12⟩ := B11.setTl (tv ++ [.ref t'])
        have ft := ((B9b.up (Up.new (o := .list ((ps.map fun (p : Nat) => (p : Int)).map VI)) hl)).free ht').1
        have fl := (B9b.free hl).1
        obtain ⟨B13, hl13⟩ := B12.push (nd := .vec ps) (x := x) (l := 0) (v := .ref t') hsz rfl (by simp) hcm hcl fx1 fx2 (by intro cs q; cases q)
          ⟨l5, by rw [push_new.2.1]; exact U12.get _ _ (fun q => fx1 (.inr (.inr (.inr q)))) (put_old ht' (put_old hl hx9b))⟩
          (ToldF.mk' rfl ft fl (U12.get _ _ (fun q => ft (.inr (.inr (.inr q)))) (put_self _ _ _)) (U12.get _ _ (fun q => fl (.inr (.inr (.inr q)))) (put_old ht' (put_self _ _ _)))) (by intro q; cases q)
        k_search "es"
        exact Ts.nil1 (fin _ _ _ _ B13 hl13 (by k_search "rho") (by k_search "rho") (by k_search "rho") (by k_search "rho") (by k_search "rho"))

      rw [show (((w6 : Nat) : Int) == 2) = false from by rw [beq_eq_false_iff_ne]; omega]
      k_search "es"
      refine Cmp.eqI (Truthy.ofBool ?_)
      by_cases h3 : w6 = 3
      · subst h3
        rw [show (((3 : Nat) : Int) == 3) = true from rfl]
        obtain ⟨vo, hvo⟩ : ∃ vo, tv[one]? = some vo := ⟨tv[one]'(by rw [B.len]; exact hone), List.getElem?_eq_getElem _⟩
        obtain ⟨tto, rfl, hXo, hTo⟩ := B7.told one ndo _ hndo hvo
        have htto := hvo
        obtain ⟨plo, hto2, _⟩ := told_tup (B7.told one ndo _ hndo hvo).at
        k_search "es"
        refine SubV.list (k := one) (v := .ref tto) B7.htl htto (by rw [B.len]; omega) ?_ (fun o i => ⟨_, rfl⟩)
        k_search "es"
        refine SubV.tup (k := 0) (v := VS ndo.word) hto2 rfl (by simp) ?_ (fun o i => ⟨_, rfl⟩)
        k_search "es"
        refine ⟨by simp, fun t8 ht8 => ?_⟩
        refine Cmp.inTup (put_self _ _ _) (by simp) (Truthy.ofBool ?_)
        have B7q := B7.up (Up.new (o := .tuple [VS "symbol", VS "alias"]) ht8)
        generalize put σ7 t8 (.tuple [VS "symbol", VS "alias"]) = σ7q at B7q ⊢
        cases hsa : ([VS "symbol", VS "alias"] : List Value).any (isS ndo.word) with
        | true =>
          have hso : ndo = .sym ∨ ndo = .ali := by cases ndo <;> first | exact .inl rfl | exact .inr rfl | cases hsa
          have hnn : ndo.isNum = false := by rcases hso with rfl | rfl <;> rfl
          have hcn : ndo.comp = false := by rcases hso with rfl | rfl <;> rfl
          have hsc : ndo.scal = VS "a" := by rcases hso with rfl | rfl <;> rfl
          k_search "es"
          refine MethV.list B7q.hth PySem.F.slot_list_append PySem.F.type_list_append ⟨Callee.builtin, ?_⟩
          k_search "es"
          refine SubV.list (k := one) (v := .ref (W.ad one)) B7q.hth ((thV_get hndo).trans (congrArg some (val_comp hndo hnn))) (by rw [thV_len]; omega) ?_ (fun o i => ⟨_, rfl⟩)
          k_search "es"
          obtain ⟨d, hd, hbd⟩ := B7q.base one ndo hndo hso
          obtain ⟨tb, ti', op', k, hwk⟩ := B7q.hw
          refine CallV.of_code ((ct_aliasOf P hwk hbd (by omega) rfl rfl fun x at_ σ8 k' hx hx8 hr8 hd8 hw8 U8 => ?_).up (by decide))
          obtain ⟨fx1, fx2⟩ := B7q.free hx
          have wne := B7q.wne
          have B8 : BS P dk w th tl σ8 W tv (thV W) tv := B7q.step (U8.mono fun _ q => .inr (.inl q)) (by obtain ⟨ns, a, b⟩ := B7q.hdk; exact ⟨ns, a, U8.get _ _ (Ne.symm wne.1) b⟩) ⟨_, _, _, _, hw8⟩ (U8.get _ _ (Ne.symm wne.2.1) B7q.hth) (U8.get _ _ (Ne.symm wne.2.2) B7q.htl)
          k_search "es"
          refine CallV.append B8.hth hthl ?_
          obtain ⟨B9, U9⟩ := B8.setTh (thV W ++ [.ref x])
          have hx9 := U9.get _ _ (fun q => fx1 (.inr (.inr (.inl q)))) hx8
          generalize put σ8 th (.list (thV W ++ [.ref x])) = σ9 at B9 hx9 ⊢
          k_search "es"
          refine MethV.list B9.htl PySem.F.slot_list_append PySem.F.type_list_append ⟨Callee.builtin, ?_⟩
          k_search "es"
          refine SubV.list (k := one) (v := .ref tto) B9.htl htto (by rw [B.len]; omega) ?_ (fun o i => ⟨_, rfl⟩)
          k_search "es"
          obtain ⟨tt2, et2, hX2, hT2⟩ := B9.told one ndo _ hndo htto
          cases et2
          rw [if_neg (by rw [hcn]; exact Bool.false_ne_true)] at hT2
          refine SubV.tup (k := 1) (v := ndo.scal) hT2 rfl (by simp) ?_ (fun o i => ⟨_, rfl⟩)
          rw [hsc]
          k_search "es"
          refine ⟨by simp, fun t' ht' => ?_⟩
          k_search "es"
          have B11 := B9.up (Up.new (o := .tuple [VS "alias", VS "a"]) ht')
          refine CallV.append B11.htl htvl ?_
          obtain ⟨B12, U12⟩ := B11.setTl (tv ++ [.ref t'])
          have ft := (B9.free ht').1
          have hx12 := U12.get _ _ (fun q => fx1 (.inr (.inr (.inr q)))) (put_old ht' hx9)
          obtain ⟨B13, hl13⟩ := B12.push (nd := .ali) (x := x) (l := 0) (v := .ref t') hsz rfl (by simp) (by intro p hp; cases hp) (by simp [Nd.parts]) fx1 fx2 (by intro cs q; cases q)
            ⟨at_, by rw [push_new.2.1]; exact hx12, by rw [(push_old B.wb.zero).2.1]; exact hr8⟩
            ⟨t', rfl, ft, by rw [if_neg (by simp [Nd.comp])]; exact U12.get _ _ (fun q => ft (.inr (.inr (.inr q)))) (put_self _ _ _)⟩ (fun _ => ⟨d + 1, by omega, .inr ⟨at_, hx12, hr8, hd8⟩⟩)
          k_search "es"
          exact Ts.nil1 (fin _ _ _ _ B13 hl13 (by k_search "rho") (by k_search "rho") (by k_search "rho") (by k_search "rho") (by k_search "rho"))
        | false =>
          k_search "es"
          refine MethV.list B7q.hth PySem.F.slot_list_append PySem.F.type_list_append ⟨Callee.builtin, ?_⟩
          k_search "es"
          refine (CallV.mkPair P rfl rfl fun x hx => ?_).up (by decide)
          obtain ⟨fx1, fx2⟩ := B7q.free hx
          have B8 := B7q.up (Up.new (o := .inst (P.c .Pair) [("car", VI 5), ("cdr", VI 5), ("mark", .none)]) hx)
          have hx8 : (put σ7q x (.inst (P.c .Pair) [("car", VI 5), ("cdr", VI 5), ("mark", .none)])) x = some (.inst (P.c .Pair) [("car", VI 5), ("cdr", VI 5), ("mark", .none)]) := put_self _ _ _
          generalize put σ7q x (.inst (P.c .Pair) [("car", VI 5), ("cdr", VI 5), ("mark", .none)]) = σ8 at B8 hx8 ⊢
          k_search "es"
          refine CallV.append B8.hth hthl ?_
          obtain ⟨B9, U9⟩ := B8.setTh (thV W ++ [.ref x])
          have hx9 := U9.get _ _ (fun q => fx1 (.inr (.inr (.inl q)))) hx8
          generalize put σ8 th (.list (thV W ++ [.ref x])) = σ9 at B9 hx9 ⊢
          k_search "es"
          refine MethV.list B9.htl PySem.F.slot_list_append PySem.F.type_list_append ⟨Callee.builtin, ?_⟩
          k_search "es"
          refine ⟨by simp, fun l hl => ?_⟩
          k_search "es"
          refine ⟨by simp, fun t' ht' => ?_⟩
          k_search "es"
          have B11 := (B9.up (Up.new (o := .list [VI (one : Nat), VI (one : Nat)]) hl)).up (Up.new (o := .tuple [VS "pair", .ref l]) ht')
          refine CallV.append B11.htl htvl ?_
          obtain ⟨B12, U12⟩ := B11.setTl (tv ++ [.ref t'])
          have ft := ((B9.up (Up.new (o := .list [VI (one : Nat), VI (one : Nat)]) hl)).free ht').1
          have fl := (B9.free hl).1
          obtain ⟨B13, hl13⟩ := B12.push (nd := .pr one one) (x := x) (l := 0) (v := .ref t') hsz rfl (by simp) (by intro p hp; simp [Nd.parts] at hp; omega) (by simp [Nd.parts]) fx1 fx2 (by intro cs q; cases q)
            ⟨VI 5, VI 5, by rw [push_new.2.1]; exact U12.get _ _ (fun q => fx1 (.inr (.inr (.inr q)))) (put_old ht' (put_old hl hx9))⟩
            (ToldF.mk' rfl ft fl (U12.get _ _ (fun q => ft (.inr (.inr (.inr q)))) (put_self _ _ _)) (U12.get _ _ (fun q => fl (.inr (.inr (.inr q)))) (put_old ht' (put_self _ _ _)))) (by intro q; cases q)
          k_search "es"
          exact Ts.nil1 (fin _ _ _ _ B13 hl13 (by k_search "rho") (by k_search "rho") (by k_search "rho") (by k_search "rho") (by k_search "rho"))
      rw [show (((w6 : Nat) : Int) == 3) = false from by rw [beq_eq_false_iff_ne]; omega]
      k_search "es"
      refine MethV.list B7.hth PySem.F.slot_list_append PySem.F.type_list_append ⟨Callee.builtin, ?_⟩
      k_search "es"
      refine (CallV.mkPair P rfl rfl fun x hx => ?_).up (by decide)
      obtain ⟨fx1, fx2⟩ := B7.free hx
      have B8 := B7.up (Up.new (o := .inst (P.c .Pair) [("car", VI 5), ("cdr", VI 5), ("mark", .none)]) hx)
      have hx8 : (put σ7 x (.inst (P.c .Pair) [("car", VI 5), ("cdr", VI 5), ("mark", .none)])) x = some (.inst (P.c .Pair) [("car", VI 5), ("cdr", VI 5), ("mark", .none)]) := put_self _ _ _
      generalize put σ7 x (.inst (P.c .Pair) [("car", VI 5), ("cdr", VI 5), ("mark", .none)]) = σ8 at B8 hx8 ⊢
      k_search "es"
      refine CallV.append B8.hth hthl ?_
      obtain ⟨B9, U9⟩ := B8.setTh (thV W ++ [.ref x])
      have hx9 := U9.get _ _ (fun q => fx1 (.inr (.inr (.inl q)))) hx8
      generalize put σ8 th (.list (thV W ++ [.ref x])) = σ9 at B9 hx9 ⊢
      k_search "es"
      refine MethV.list B9.htl PySem.F.slot_list_append PySem.F.type_list_append ⟨Callee.builtin, ?_⟩
      k_search "es"
      refine ⟨by simp, fun l hl => ?_⟩
      k_search "es"
      refine ⟨by simp, fun t' ht' => ?_⟩
      k_search "es"
      have B11 := (B9.up (Up.new (o := .list [VI (one : Nat), VI (one : Nat)]) hl)).up (Up.new (o := .tuple [VS "pair", .ref l]) ht')
      refine CallV.append B11.htl htvl ?_
      obtain ⟨B12, U12⟩ := B11.setTl (tv ++ [.ref t'])
      have ft := ((B9.up (Up.new (o := .list [VI (one : Nat), VI (one : Nat)]) hl)).free ht').1
      have fl := (B9.free hl).1
      obtain ⟨B13, hl13⟩ := B12.push (nd := .pr one one) (x := x) (l := 0) (v := .ref t') hsz rfl (by simp) (by intro p hp; simp [Nd.parts] at hp; omega) (by simp [Nd.parts]) fx1 fx2 (by intro cs q; cases q)
        ⟨VI 5, VI 5, by rw [push_new.2.1]; exact U12.get _ _ (fun q => fx1 (.inr (.inr (.inr q)))) (put_old ht' (put_old hl hx9))⟩
        (ToldF.mk' rfl ft fl (U12.get _ _ (fun q => ft (.inr (.inr (.inr q)))) (put_self _ _ _)) (U12.get _ _ (fun q => fl (.inr (.inr (.inr q)))) (put_old ht' (put_self _ _ _)))) (by intro q; cases q)
      k_search "es"
      exact Ts.nil1 (fin _ _ _ _ B13 hl13 (by k_search "rho") (by k_search "rho") (by k_search "rho") (by k_search "rho") (by k_search "rho"))
    · rw [if_neg hlt]
      show Ts _ _ _ _ _ _ _
      exact things2 P B.bd q1 q3 q4 fun σ' tt W tv e B => h σ' th tl tt W tv e B
end

section
variable {S : Stat} {n : Nat} {env : Env} {ρ : Str → Option Value} {σ : AH} {Q : Value → AH → Prop} {pos : Pos} {QS : Flow → (Str → Option Value) → AH → Prop}
  {scope : Scope} {cl : List (Str × Addr)}
/-- the source of a block is taken, the invariant said behind it -/
theorem comp_source3 {p2 : Pos} {elt iter : PySem.Expr} {x : Str} {px : Pos} {ifs : List PySem.Expr} (B : BlockOk env scope cl) (hx : scope.names.lookup x = some .local) (K : List Value → AH → Prop) {use : Option (Value → Sem Unit)} {T : Value → Shared → Prop} {A : Around} {s : Shared} (R : Room n A) (G : Good S σ s.heap) (F : FrOk S env s.heap σ ρ)
    (h : Ev S n env ρ σ iter (fun v σ₁ => PyIt S n σ₁ v (fun nx σ₂ => ∃ (I : Nat → List Value → AH → Prop) (N : Nat), I 0 [] σ₂ ∧ ∀ i acc σ', I i acc σ' → i ≤ N ∧ acc.length ≤ 1000 ∧ ∃ r, nx i σ' r ∧ match r with
      | some v => ∀ C ρc, ρc x = some v → (∀ y, (compEnvC scope cl C env).kindOf y ≠ some .local → ρc y = ρ y) →
          Tr S n (compEnvC scope cl C env) ρc σ' (fun b : Bool => b) (forIn ifs true fun c r => if r = true then do let ok ← isTrue c (compEnvC scope cl C env) (eval c (compEnvC scope cl C env)); Pure.pure (ForInStep.yield ok) else Pure.pure (ForInStep.yield r))
            (fun ok σ₁ => if ok then Ev S n (compEnvC scope cl C env) ρc σ₁ elt (fun u σ₂ => I (i + 1) (acc ++ [u]) σ₂) else I (i + 1) acc σ₁)
      | none => K acc σ')))
    (hs : ∀ x, foldedSetIterable iter env x = Pure.pure x)
    (hfin : ∀ D C s', CompFin S env ρ σ s D C K s' → compPost (model S.prog S.w) A NoE use T (.ref D) C (.ok .next) s') :
    wpAny (model S.prog S.w) A (comprehension (.ListComp elt [⟨.Name x px, iter, ifs, 0⟩] scope pos) scope env p2 (newList []) false (eval iter env) use) T NoE s := by
  refine wpAny_comprehension_free (g := ⟨.Name x px, iter, ifs, 0⟩) (gs := []) rfl hs B.clos B.kind B.names (wpAny_mono (h A s R G F) (fun v s₁ ⟨σ₁, G₁, T₁, h₁⟩ => wpAny_mono (h₁ v rfl A s₁ R G₁) (fun r s₂ ⟨it, At, nx, σ₂, e, O, hat, G₂, T₂, hfp, hnone, I, N, hI, turn⟩ => ?_) fun _ _ x => x) fun _ _ x => x)
  subst e
  have F₁ := F.step T₁
  have F₂ := F₁.step T₂
  have hbase : S.base.get? it = none := by
    cases e : S.base.get? it with
    | none => rfl
    | some o => rw [G₁.keep _ _ e] at hnone; cases hnone
  have hfree := F₁.frees hnone
  have hit0 : s.heap.get? it = none ∨ fp σ it := by
    by_cases q : fp σ it
    · exact .inr q
    · left
      cases e : s.heap.get? it with
      | none => rfl
      | some o => have := T₁.keep it o q e; rw [hnone] at this; cases this
  exact compCore B hx I N K R G₂ F₂ O hat ⟨hfp, hbase, hfree.1, hfree.2⟩ (T₁.trans T₂) hit0 hI turn fun D C s' hf _ _ => hfin D C s' hf
theorem Ev.comp3 {elt iter : PySem.Expr} {x : Str} {px : Pos} (cl : List (Str × Addr)) (B : BlockOk env scope cl) (hx : scope.names.lookup x = some .local)
    (h : Ev S n env ρ σ iter (fun v σ₁ => PyIt S n σ₁ v (fun nx σ₂ => ∃ (I : Nat → List Value → AH → Prop) (N : Nat), I 0 [] σ₂ ∧ ∀ i acc σ', I i acc σ' → i ≤ N ∧ acc.length ≤ 1000 ∧ ∃ r, nx i σ' r ∧ match r with
      | some v => ∀ C ρc, ρc x = some v → (∀ y, (CE scope cl C env).kindOf y ≠ some .local → ρc y = ρ y) → Ev S n (CE scope cl C env) ρc σ' elt (fun u σ₂ => I (i + 1) (acc ++ [u]) σ₂)
      | none => ∀ a, ¬ fp σ' a → Q (.ref a) (put σ' a (.list acc)))))
    (hs : ∀ x, foldedSetIterable iter env x = Pure.pure x) : Ev S n env ρ σ (.ListComp elt [⟨.Name x px, iter, [], 0⟩] scope pos) Q := fun A s R G F => by
  rw [eval_ListComp]
  refine comp_source3 B hx (fun acc σ' => ∀ a, ¬ fp σ' a → Q (.ref a) (put σ' a (.list acc))) R G F (h.mono fun v σ₁ h₁ => ?_) hs fun D C s' hf => ?_
  · refine fun u hu A s R G => ?_
    refine wpAny_mono (h₁ u hu A s R G) (fun r s' ⟨it, At, nx, σ', a, b, c, d, e, f, g, I, N, i0, tn⟩ => ⟨it, At, nx, σ', a, b, c, d, e, f, g, I, N, i0, fun i acc σ'' hI => ?_⟩) fun _ _ x => x
    obtain ⟨k1, k2, r, k3, k4⟩ := tn i acc σ'' hI
    refine ⟨k1, k2, r, k3, ?_⟩
    cases r with
    | none => exact k4
    | some v => exact fun C ρc e1 e2 => Tr.pure (k4 C ρc e1 e2)
  · obtain ⟨m, hn, k⟩ := hf.use
    refine ⟨m, hn, fun h' hs' => ?_⟩
    obtain ⟨σ', acc, g, t, nf, q⟩ := k h' hs'
    exact ⟨_, g, t, q D nf⟩
end
section
variable {S : Stat} {n : Nat} {env : Env} {ρ : Str → Option Value} {σ : AH} {Q : Value → AH → Prop} {pos : Pos} {QS : Flow → (Str → Option Value) → AH → Prop} {rest : List PySem.Stmt}
  {P : Prg S} {σ₀ : AH} {W : Wd} {σ' : AH}
section
variable {dk th tl : Addr} {tv : List Value}
theorem BD.node (B : BD P dk th tl W.nd.length σ W tv) (j : Nat) (nd : Nd) (e : W.nd[j]? = some nd) : NodeAt P σ W j .none nd := B.nodeF j nd e (.inl (List.getElem?_eq_some_iff.mp e).1)
theorem BD.tc (B : BD P dk th tl W.nd.length σ W tv) : TC σ W tl tv := ⟨B.wb.ok, B.htl, B.len, fun j nd v e1 e2 => (B.told j nd v e1 e2).at⟩
theorem mem_thV {v : Value} (h : v ∈ thV W) : ∃ j nd, W.nd[j]? = some nd ∧ v = W.val j := by
  obtain ⟨j, hj, rfl⟩ := List.mem_map.mp h
  exact ⟨j, _, List.getElem?_eq_getElem (List.mem_range.mp hj), rfl⟩
theorem thV_dom (B : BD P dk th tl W.nd.length σ W tv) {v : Value} (h : v ∈ thV W) : Dom P σ v ∧ ∀ a, ¬ fp σ a → v ≠ .ref a := by
  obtain ⟨j, nd, hj, rfl⟩ := mem_thV h
  refine ⟨(B.node j nd hj).dom hj, fun a ha q => ?_⟩
  cases hn : nd.isNum with
  | true =>
    have ev : W.val j = VI 7 := by unfold Wd.val; rw [hj]; cases nd <;> first | rfl | cases hn
    rw [ev] at q; cases q
  | false =>
    rw [val_comp hj hn] at q
    have : W.ad j = a := Value.ref.inj q
    exact ha (this ▸ (B.node j nd hj).fpA hn)
/-- what _law_mates is handed, of a strip -/
theorem Iso.mc (B : BD P dk th tl W.nd.length σ W tv) {σ0 σ1 : AH} {k0 : Nat} {M : List Nat} {m : Nat → Addr} {X : Nat → AObj} (I : Iso P σ0 W k0 σ1 M m X) (U : Up (fun _ => False) σ1 σ) {thx : Addr} {ths : List Value} (h1 : σ thx = some (.list ths)) (h2 : ths.length ≤ 100) (h3 : ∀ v ∈ ths, Dom P σ v ∧ ∀ j ∈ M, v ≠ .ref (m j)) : MC P σ W M m X tl thx ths where
  ok := B.wb.ok
  node := B.node
  htold := ⟨tv, B.htl, B.len, fun j nd v e1 e2 => (B.told j nd v e1 e2).at⟩
  mate j hj := U.get _ _ id (I.mate j hj)
  isI := I.isI
  fill j hj := by
    obtain ⟨nd, e, f⟩ := I.fill j hj
    refine ⟨nd, e, ?_⟩
    have f' := f.upF U
    cases nd with
    | sym => exact f'
    | num => exact f'
    | ali => exact f'
    | txt cs => obtain ⟨l, a, b, c⟩ := f'; exact ⟨l, a, b, trivial⟩
    | pr p q => exact f'
    | vec ps => obtain ⟨l, a, b, c, d⟩ := f'; exact ⟨l, a, b, trivial, d⟩
  inj := I.inj
  hth := h1
  few := h2
  dom := h3
end
def Nd.wordV (nd : Nd) : Value := VS nd.word
def Wd.word (W : Wd) (j : Nat) : Value := match W.nd[j]? with
  | some nd => VS nd.word
  | none => .none
theorem any_alias {J : List Nat} {k0 : Nat} (hJ : ∀ j, j ∈ J ↔ Reach W k0 j) : (J.map W.word).any (isS "alias") = true ↔ HasAli W k0 := by
  rw [List.any_map, List.any_eq_true]
  constructor
  · rintro ⟨j, hj, h⟩
    refine ⟨j, (hJ j).mp hj, ?_⟩
    simp only [Function.comp, Wd.word] at h
    cases e : W.nd[j]? with
    | none => rw [e] at h; cases h
    | some nd => rw [e] at h; cases nd <;> first | rfl | cases h
  · rintro ⟨j, r, e⟩
    refine ⟨j, (hJ j).mpr r, ?_⟩
    simp only [Function.comp, Wd.word, e]
    rfl

theorem ct_law (P : Prg S) {scr : Addr} {ns : List Int} (hs : ListAt S σ₀ scr (ns.map VI)) (hns : ns.length ≤ 1000) (h : ∀ σ', Q (.bool true) σ') : CodeV S 6 σ₀ (.ref (P.f .law)) [.ref scr] Q := by
  refine CodeV.fn (d := dF .law) ["script"] (P.fnF .law) (by kernel_rfl) (fun pm cd raws hr => ?_) (fun pm cd L => ?_)
  · match raws, hr with
    | [x0], _ => kernel_rfl
  · have r0 : rho0 ["script"] [.ref scr] "script" = some (.ref scr) := by kernel_rfl
    generalize hρ : rho0 ["script"] [.ref scr] = ρ at r0 ⊢
    refine Ts.asgSwap "deck" "world" ?_ (by kernel_rfl) (by kernel_rfl) (by kernel_rfl) (by kernel_rfl)
    k_search "es"
    refine Tr.mono (Q := fun v σ1 => ∃ (dk : Addr) (ds : List Int), v = .ref dk ∧ σ1 dk = some (.list (ds.map VI)) ∧ ds.length ≤ 60) ?_ ?_
    · refine Ev.comp2 [] (mkBlock rfl (by kernel_rfl) (by decide +kernel) (by decide +kernel) (by intro x c e; cases e) (by simp) (by kernel_rfl)) (by kernel_rfl) ?_ (fun _ => rfl)
      k_search "es"
      refine ⟨scr, ns.map VI, 60, rfl, rfl, hs, by rw [List.length_map]; omega, fun a ha => ?_⟩
      rw [← List.map_take]
      have hle : (ns.take 60).length ≤ 60 := by rw [List.length_take]; omega
      generalize ns.take 60 = es at hle ⊢
      refine ⟨fun i acc σ'' => i ≤ es.length ∧ σ'' a = some (.list (es.map VI)) ∧ ∃ ds : List Int, ds.length = i ∧ acc = ds.map VI, es.length, ?_⟩
      refine PyIt.list (put_self _ _ _) ⟨⟨Nat.zero_le _, put_self _ _ _, [], rfl, rfl⟩, ?_⟩
      rintro i acc σ'' ⟨hi, hl, ds, hd, rfl⟩
      refine ⟨hi, by rw [List.length_map]; omega, (es.map VI)[i]?, ⟨_, hl, rfl⟩, ?_⟩
      rw [List.getElem?_map]
      cases e : es[i]? with
      | some c =>
        intro C' ρc hc1 hc2
        k_search "es"
        refine CallV.abs ?_
        exact ⟨(List.getElem?_eq_some_iff.mp e).1, hl, ds ++ [if c < 0 then -c else c], by simp [hd], by simp⟩
      | none =>
        intro a' ha'
        exact ⟨a', ds, rfl, put_self _ _ _, by omega⟩
    · rintro v σ1 ⟨dk, ds, rfl, hdk, hds⟩
      k_search "es"
      refine (CallV.mkNames P fun w t r b ti op σ2 hw e1 e2 e3 e4 hfr U2 => ?_).up (by decide)
      k_search "es"
      refine ⟨by simp, fun t3 ht3 => ?_⟩
      refine ⟨t3, _, _, rfl, put_self _ _ _, ?_⟩
      have hdr : dk ≠ r := fun q => hfr (q ▸ fp_self hdk)
      have hdk2 := U2.get _ _ id hdk
      have Ut : Up (fun _ => False) σ2 (put σ2 t3 (.tuple [.ref dk, .ref w])) := Up.new ht3
      refine Ts.asgTup2 ?_ (by kernel_rfl) (by kernel_rfl) (by kernel_rfl) (by kernel_rfl) (by kernel_rfl) (by kernel_rfl)
      k_search "es"
      refine CallV.of_code (ct_things P (by omega) (Ut.get _ _ id hdk2) (Ut.get _ _ id e1) (Ut.get _ _ id e2) (Ut.get _ _ id e3) (Ut.get _ _ id e4) hdr fun σ3 th tl tt W tv htt B3 => ?_)
      refine ⟨tt, _, _, rfl, htt, ?_⟩
      have hN9 := B3.wb.size
      have hN2 := B3.wb.two
      have hW := B3.wb.ok
      refine Ts.asgN ?_ (by kernel_rfl) (by kernel_rfl) (by kernel_rfl) (by kernel_rfl)
      refine Tr.mono (Q := fun v σ4 => ∃ k0 : Nat, v = VI (k0 : Nat) ∧ k0 < W.nd.length ∧ BD P dk th tl W.nd.length σ4 W tv) ?_ ?_
      · k_search "es"
        refine CallV.len B3.hth (by rw [thV_len]; omega) ?_
        k_search "es"
        refine Bin.subI ?_
        k_search "es"
        refine CallV.len B3.hth (by rw [thV_len]; omega) ?_
        k_search "es"
        refine CallV.of_code ((B3.ct_draw (c := (thV W).length) (by rw [thV_len]; omega) fun r' σ4 hr' B4 U4 => ?_).up (by decide))
        rw [thV_len] at hr' ⊢
        refine Bin.subI ?_
        exact ⟨W.nd.length - 1 - r', by congr 1; omega, by omega, B4⟩
      · rintro v σ4 ⟨k0, rfl, hk0, B4⟩
        obtain ⟨nd0, hn0⟩ : ∃ nd0, W.nd[k0]? = some nd0 := ⟨W.nd[k0], List.getElem?_eq_getElem hk0⟩
        have q1 : (setv (setv (setv (setv (setv ρ "world" (.ref w)) "deck" (.ref dk)) "things" (.ref th)) "told" (.ref tl)) "first" (VI (k0 : Nat))) "things" = some (.ref th) := by k_search "rho"
        have q2 : (setv (setv (setv (setv (setv ρ "world" (.ref w)) "deck" (.ref dk)) "things" (.ref th)) "told" (.ref tl)) "first" (VI (k0 : Nat))) "told" = some (.ref tl) := by k_search "rho"
        have q3 : (setv (setv (setv (setv (setv ρ "world" (.ref w)) "deck" (.ref dk)) "things" (.ref th)) "told" (.ref tl)) "first" (VI (k0 : Nat))) "first" = some (VI (k0 : Nat)) := by k_search "rho"
        generalize (setv (setv (setv (setv (setv ρ "world" (.ref w)) "deck" (.ref dk)) "things" (.ref th)) "told" (.ref tl)) "first" (VI (k0 : Nat))) = ρ1 at q1 q2 q3 ⊢
        clear B3 hdk hdk2 Ut U2 e1 e2 e3 e4 htt
        have hthl : (thV W).length ≤ 100000 := by rw [thV_len]; omega
        -- two strips
        refine Ts.asgSwap "one" "other" ?_ (by kernel_rfl) (by kernel_rfl) (by kernel_rfl) (by kernel_rfl)
        k_search "es"
        refine SubV.list (k := k0) (v := W.val k0) B4.hth (thV_get hn0) hthl ?_ (fun o i => ⟨_, rfl⟩)
        k_search "es"
        refine CallV.of_code ((ct_strip P hW hn0 B4.node fun σ5 M1 m1 X1 I1 => ?_).up (by decide))
        have B5 := B4.up I1.up
        k_search "es"
        refine SubV.list (k := k0) (v := W.val k0) B5.hth (thV_get hn0) hthl ?_ (fun o i => ⟨_, rfl⟩)
        k_search "es"
        refine CallV.of_code ((ct_strip P hW hn0 B5.node fun σ6 M2 m2 X2 I2 => ?_).up (by decide))
        have B6 := B5.up I2.up
        k_search "es"
        refine ⟨by simp, fun t9 ht9 => ?_⟩
        refine ⟨t9, _, _, rfl, put_self _ _ _, ?_⟩
        have U6 : Up (fun _ => False) σ6 (put σ6 t9 (.tuple [W.mate m1 k0, W.mate m2 k0])) := Up.new ht9
        have B7 := B6.up U6
        have U57 := I2.up.trans U6
        generalize put σ6 t9 (.tuple [W.mate m1 k0, W.mate m2 k0]) = σ7 at U6 B7 U57 ⊢
        -- the first's mates
        have C1 : MC P σ7 W M1 m1 X1 tl th (thV W) := I1.mc B7 U57 B7.hth (by rw [thV_len]; omega) fun v hv => ⟨(thV_dom B7 hv).1, fun j hj => (thV_dom B4 hv).2 _ (I1.fresh j hj)⟩
        k_search "es"
        refine CallV.of_code ((ct_mates P hn0 C1 I1.root fun D1 σ8 J1 hD1 U8 hD8 hJ1 hJl1 => ?_).up (by decide))
        have B8 := B7.up U8
        k_search "es"
        refine Cmp.isNone (Truthy.ofBool ?_)
        rw [show (Value.ref D1 == Value.none) = false from rfl]
        k_search "es"
        refine MethV.dicti hD8 PySem.F.slot_dict_values PySem.F.type_dict_values ⟨Callee.builtin, ?_⟩
        k_search "es"
        refine CallV.values hD8 fun vr hvr => ?_
        k_search "es"
        refine CallV.listValues (put_old hvr hD8) (put_self _ _ _) (by rw [List.length_map]; omega) fun vl hvl => ?_
        rw [List.map_map, show ((fun x : Int × Value => x.2) ∘ fun (j : Nat) => ((j : Int), Value.ref (m1 j))) = fun j => Value.ref (m1 j) from rfl]
        refine Bin.addList (put_old hvl (put_old hvr B8.hth)) (put_self _ _ _) (by rw [List.length_map, thV_len]; omega) fun la hla => ?_
        have U9 : Up (fun _ => False) σ8 _ := (Up.new hvr).trans ((Up.new hvl).trans (Up.new (o := .list (thV W ++ J1.map fun j => Value.ref (m1 j))) hla))
        have B9 := B8.up U9
        have C2 := Iso.mc B9 I2 ((U6.trans U8).trans U9) (put_self _ la (.list (thV W ++ J1.map fun j => Value.ref (m1 j)))) (by rw [List.length_append, List.length_map, thV_len]; omega) fun v hv => by
          rcases List.mem_append.mp hv with h1 | h1
          · exact ⟨(thV_dom B9 h1).1, fun j hj => (thV_dom B5 h1).2 _ (I2.fresh j hj)⟩
          · obtain ⟨j', hj', rfl⟩ := List.mem_map.mp h1
            have hm' := I1.mate j' (hJ1 j' hj')
            obtain ⟨c', a', ec⟩ := I1.isI j' (hJ1 j' hj')
            rw [ec] at hm'
            refine ⟨.inr ⟨_, _, _, rfl, (((U57.trans U8).trans U9).get _ _ id hm')⟩, fun j hj q => I2.fresh j hj ?_⟩
            have : m1 j' = m2 j := Value.ref.inj q
            exact this ▸ fp_self hm'
        k_search "es"
        refine CallV.of_code ((ct_mates P hn0 C2 I2.root fun D2 σ10 J2 hD2 U10 _ _ _ => ?_).up (by decide))
        have B10 := B9.up U10
        k_search "es"
        refine Cmp.isNone (Truthy.ofBool ?_)
        rw [show (Value.ref D2 == Value.none) = false from rfl]
        k_search "es"
        clear C1 C2 U8 U9 U10 B9 hla hvl hvr hD8 hJ1 hJl1 hD2 hD1 B8 B7 U57 U6 ht9 B6 I1 I2 B5 B4
        -- what is reached
        refine Tr.mono (Q := fun v σ11 => ∃ (l : Addr) (J : List Nat), v = .ref l ∧ σ11 l = some (.list (J.map W.word)) ∧ (∀ j, j ∈ J ↔ Reach W k0 j) ∧ BD P dk th tl W.nd.length σ11 W tv) ?_ ?_
        · refine Ev.comp3 [("told", L + 1)] (mkBlock rfl (by kernel_rfl) (by decide +kernel) (by decide +kernel) (fun x c e => e) (by simp) (by kernel_rfl)) (by kernel_rfl) ?_ (fun _ => rfl)
          k_search "es"
          refine CallV.of_code ((ct_reached P hn0 B10.tc fun D3 σ11 J3 hD3 U11 hDσ hJ3 hJl => ?_).up (by decide))
          refine PyIt.dicti hDσ fun o => ?_
          have B11 : BD P dk th tl W.nd.length (put σ11 D3 (.obj o)) W tv := B10.up (U11.hide (Up.set (X := (· = D3)) hDσ rfl dicti_noInst) fun c q => q ▸ hD3)
          refine ⟨fun i acc σ'' => i ≤ J3.length ∧ acc = (J3.take i).map W.word ∧ BD P dk th tl W.nd.length σ'' W tv ∧ σ'' D3 = some (.obj o), J3.length, ⟨Nat.zero_le _, rfl, B11, put_self _ _ _⟩, ?_⟩
          rintro i acc σ'' ⟨hi, rfl, B12, hDo⟩
          refine ⟨hi, by rw [List.length_map, List.length_take]; omega, _, ⟨hDo, rfl⟩, ?_⟩
          rw [List.getElem?_map, Option.map_map]
          cases e : J3[i]? with
          | some j =>
            obtain ⟨nd, hn⟩ := ((hJ3 j).mp (List.mem_of_getElem? e)).lt hW hn0
            obtain ⟨tt', htt', hta⟩ := B12.tc.get hn
            obtain ⟨pl, htp, _⟩ := told_tup hta
            have hk' := (List.getElem?_eq_some_iff.mp e).1
            intro C' ρc hc1 hc2
            have hc3 := (hc2 "told" (notLocal (k := .cell) (by kernel_rfl) (by decide))).trans (by k_search "rho" : setv (setv (setv ρ1 "other" (W.mate m2 k0)) "one" (W.mate m1 k0)) "mates" (.ref D1) "told" = some (.ref tl))
            k_search "es"
            refine SubV.list (k := j) (v := .ref tt') B12.htl htt' (by rw [B12.len]; omega) ?_ (fun o i => ⟨_, rfl⟩)
            k_search "es"
            refine SubV.tup (k := 0) (v := VS nd.word) htp rfl (by simp) ?_ (fun o i => ⟨_, rfl⟩)
            refine ⟨hk', ?_, B12, hDo⟩
            have ew : W.word j = VS nd.word := by unfold Wd.word; rw [hn]
            rw [List.take_add_one, e, List.map_append]
            show _ = _ ++ [W.word j]
            rw [ew]
          | none =>
            have hie : J3.length ≤ i := List.getElem?_eq_none_iff.mp e
            rw [List.take_of_length_le hie]
            intro a ha
            exact ⟨a, J3, rfl, put_self _ _ _, hJ3, B12.up (Up.new ha)⟩
        · rintro v σ11 ⟨l, J, rfl, hl, hJ, B11⟩
          refine Cmp.inListS hl (fun v hv => ?_) ?_
          · obtain ⟨j, hj, rfl⟩ := List.mem_map.mp hv
            obtain ⟨nd, hn⟩ := ((hJ j).mp hj).lt hW hn0
            exact ⟨nd.word, by unfold Wd.word; rw [hn]⟩
          have hb : (J.map W.word).any (isS "alias") = true ↔ HasAli W k0 := any_alias hJ
          generalize (J.map W.word).any (isS "alias") = b at hb ⊢
          have q1' : (setv (setv (setv (setv ρ1 "other" (W.mate m2 k0)) "one" (W.mate m1 k0)) "mates" (.ref D1)) "has_one" (.bool b)) "things" = some (.ref th) := by k_search "rho"
          have q2' : (setv (setv (setv (setv ρ1 "other" (W.mate m2 k0)) "one" (W.mate m1 k0)) "mates" (.ref D1)) "has_one" (.bool b)) "told" = some (.ref tl) := by k_search "rho"
          have q3' : (setv (setv (setv (setv ρ1 "other" (W.mate m2 k0)) "one" (W.mate m1 k0)) "mates" (.ref D1)) "has_one" (.bool b)) "first" = some (VI (k0 : Nat)) := by k_search "rho"
          have q4' : (setv (setv (setv (setv ρ1 "other" (W.mate m2 k0)) "one" (W.mate m1 k0)) "mates" (.ref D1)) "has_one" (.bool b)) "has_one" = some (.bool b) := by k_search "rho"
          generalize (setv (setv (setv (setv ρ1 "other" (W.mate m2 k0)) "one" (W.mate m1 k0)) "mates" (.ref D1)) "has_one" (.bool b)) = ρ2 at q1' q2' q3' q4' ⊢
          clear q1 q2 q3
          -- has_alias
          k_search "es"
          refine SubV.list (k := k0) (v := W.val k0) B11.hth (thV_get hn0) hthl ?_ (fun o i => ⟨_, rfl⟩)
          k_search "es"
          refine CallV.of_code ((ct_hasAlias P hW hn0 B11.node fun σ12 b2 hb2 U12 => ?_).up (by decide))
          have hbb : b2 = b := by
            cases b with
            | true => exact hb2.mpr (hb.mp rfl)
            | false => cases b2 with
              | false => rfl
              | true => exact (hb.mpr (hb2.mp rfl)).symm
          subst hbb
          have B12 := B11.up U12
          k_search "es"
          refine Cmp.neB (Truthy.ofBool ?_)
          rw [show (!(b2 == b2)) = false from by cases b2 <;> rfl]
          refine iteF (Ts.nilThen ?_)
          -- plain, no alias
          refine Ts.then (Ts.mono (QS := fun f ρ3 σ13 => f = .next ∧ ρ3 = ρ2 ∧ BD P dk th tl W.nd.length σ13 W tv) ?_ ?_)
          · refine Ts.ifC ?_
            cases b2 with
            | true =>
              k_search "es"
              refine Truthy.ofBool ?_
              k_search "es"
              exact Ts.nil1 ⟨rfl, rfl, B12⟩
            | false =>
              k_search "es"
              refine Truthy.ofBool ?_
              k_search "es"
              refine SubV.list (k := k0) (v := W.val k0) B12.hth (thV_get hn0) hthl ?_ (fun o i => ⟨_, rfl⟩)
              k_search "es"
              refine CallV.of_code ((ct_plain P hW hn0 B12.node (fun hx => absurd (hb.mpr hx) (by simp)) fun _ σ13 U13 => ?_).up (by decide))
              have B13 := B12.up U13
              k_search "es"
              refine SubV.list (k := k0) (v := W.val k0) B13.hth (thV_get hn0) hthl ?_ (fun o i => ⟨_, rfl⟩)
              k_search "es"
              have hdom := (B13.node k0 nd0 hn0).dom hn0
              refine CallV.of_code ((ct_isOne P hdom hdom fun b' hb' => Truthy.ofBool ?_).up (by decide))
              rw [hb'.mpr rfl]
              k_search "es"
              exact Ts.nil1 ⟨rfl, rfl, B13⟩
          · rintro f ρ3 σ13 ⟨rfl, rfl, B13⟩
            refine thenNext ?_
            -- plain, an alias
            refine Ts.then (Ts.mono (QS := fun f ρ4 σ14 => f = .next ∧ ρ4 = ρ3 ∧ BD P dk th tl W.nd.length σ14 W tv) ?_ ?_)
            · refine Ts.ifC ?_
              cases b2 with
              | false =>
                k_search "es"
                refine Truthy.ofBool ?_
                k_search "es"
                exact Ts.nil1 ⟨rfl, rfl, B13⟩
              | true =>
                k_search "es"
                refine Truthy.ofBool ?_
                k_search "es"
                refine SubV.list (k := k0) (v := W.val k0) B13.hth (thV_get hn0) hthl ?_ (fun o i => ⟨_, rfl⟩)
                k_search "es"
                refine CallV.of_code ((ct_plain P hW hn0 B13.node (fun _ σ14 σ15 M3 m3 X3 U14 I3 => ?_) (fun hx => absurd (hb.mp rfl) hx)).up (by decide))
                have B14 := B13.up U14
                have B15 := B14.up I3.up
                have C3 := Iso.mc B15 I3 .refl B15.hth (by rw [thV_len]; omega) fun v hv => ⟨(thV_dom B15 hv).1, fun j hj => (thV_dom B14 hv).2 _ (I3.fresh j hj)⟩
                k_search "es"
                refine CallV.of_code ((ct_mates P hn0 C3 I3.root fun D4 σ16 J4 _ U16 _ _ _ => ?_).up (by decide))
                have B16 := B15.up U16
                k_search "es"
                refine Cmp.isNone (Truthy.ofBool ?_)
                rw [show (Value.ref D4 == Value.none) = false from rfl]
                k_search "es"
                exact Ts.nil1 ⟨rfl, rfl, B16⟩
            · rintro f ρ4 σ14 ⟨rfl, rfl, B14⟩
              refine thenNext ?_
              clear B13 B12 U12 B11 hl hJ
              -- the places
              refine Ts.for1 (fun i ρ' σ' => i ≤ W.nd.length ∧ BD P dk th tl W.nd.length σ' W tv ∧ ρ' "told" = some (.ref tl) ∧ ρ' "things" = some (.ref th)) W.nd.length (by kernel_rfl) ?_ (fun _ => rfl)
              k_search "es"
              refine CallV.len B14.hth hthl ?_
              rw [thV_len]
              k_search "es"
              refine CallV.range fun ra ro hra hro => ?_
              refine PyIt.range (put_self _ _ _) hro (by omega) ⟨⟨Nat.zero_le _, B14.up (Up.new hra), q2', q1'⟩, ?_⟩
              clear B14
              rintro i ρ' σ' ⟨hi, B, p1, p2⟩
              refine ⟨hi, _, rfl, ?_⟩
              by_cases hlt : i < W.nd.length
              · rw [if_pos hlt]
                show Ts _ _ _ _ _ _ _
                obtain ⟨nd, hn⟩ : ∃ nd, W.nd[i]? = some nd := ⟨W.nd[i], List.getElem?_eq_getElem hlt⟩
                obtain ⟨tt', htt', hta⟩ := B.tc.get hn
                obtain ⟨pl, htp, _⟩ := told_tup hta
                refine Ts.if1 ?_
                k_search "es"
                refine SubV.list (k := i) (v := .ref tt') B.htl htt' (by rw [B.len]; omega) ?_ (fun o i => ⟨_, rfl⟩)
                k_search "es"
                refine SubV.tup (k := 0) (v := VS nd.word) htp rfl (by simp) ?_ (fun o i => ⟨_, rfl⟩)
                k_search "es"
                refine Cmp.eqS (Truthy.ofBool ?_)
                rw [show (nd.word == ("alias" : Str)) = nd.isAli from by cases nd <;> rfl]
                cases ha : nd.isAli with
                | false =>
                  k_search "es"
                  exact Ts.nil1 ⟨hlt, B, by k_search "rho", by k_search "rho"⟩
                | true =>
                  have : nd = .ali := by cases nd <;> first | rfl | cases ha
                  subst this
                  obtain ⟨at_, ea, er⟩ := B.node i _ hn
                  have ev : (thV W)[i]? = some (.ref (W.ad i)) := (thV_get hn).trans (congrArg some (val_comp hn rfl))
                  have ev0 : (thV W)[0]? = some (.ref (W.ad 0)) := (thV_get hW.zero).trans (congrArg some (val_comp hW.zero rfl))
                  have es : σ' (W.ad 0) = some (.inst (P.c .Symbol) [("number", VI 0), ("text", VS "a")]) := B.node 0 _ hW.zero
                  k_search "es"
                  refine SubV.list (k := i) (v := .ref (W.ad i)) B.hth ev hthl ?_ (fun o i => ⟨_, rfl⟩)
                  k_search "es"; k_search "isi"; k_search "es"
                  refine SubV.list (k := i) (v := .ref (W.ad i)) B.hth ev hthl ?_ (fun o i => ⟨_, rfl⟩)
                  k_search "es"
                  refine CallV.of_code ((ct_root P ea er ?_).up (by decide))
                  k_search "es"
                  refine SubV.list (k := 0) (v := .ref (W.ad 0)) B.hth ev0 hthl ?_ (fun o i => ⟨_, rfl⟩)
                  refine Cmp.isNotRef es es (Truthy.ofBool ?_)
                  rw [beq_self_eq_true]
                  k_search "es"
                  exact Ts.nil1 ⟨hlt, B, by k_search "rho", by k_search "rho"⟩
              · rw [if_neg hlt]
                show Ts _ _ _ _ _ _ _
                k_search "es"
                exact CallV.of_code ((ct_kept P B.tc B.node B.hth fun σ'' _ => h σ'').up (by decide))
end

theorem nrm_isTrue {v : Value} (h : nrm v = .bool true) : v = .bool true := by
  cases v <;> first | exact h | cases h

theorem ints_nrm {vs : List Value} {ns : List Int} (h : IntsAre vs ns) : vs.map nrm = ns.map VI := by
  induction h with
  | nil => rfl
  | cons n t _ ih => rw [List.map_cons, List.map_cons, ih]; rfl

theorem law_join {prog : Program} {w : World} {K : Frag} {mg mb : Str → Option Value} {s : Shared} (KX : K.In s.heap) (g : s.heap.Ns mainGlobals mg) (b : s.heap.Ns builtinsNs mb) (lim : s.heap.NoLimit) (blt : ∀ x : Str, x ≠ "__name__" → mb x = bootBuiltins x)
    (P : Prg ⟨prog, w, K, s.heap, mg, mb, KX, g, b, lim, blt⟩) {scr fa : Addr} (hfa : mg (nameF .law) = some (.ref fa)) {vs : List Value} {ns : List Int} (hL : s.heap.IsList scr vs.toArray) (hI : IntsAre vs ns) (hn : ns.length ≤ 1000) {R : Result → Shared → Prop}
    (hR : ∀ s', (∀ b o, s.heap.get? b = some o → s'.heap.get? b = some o) → s'.gens = s.gens → s'.os = s.os → R (.ok (.ret (.bool true))) s') :
    codeAny (model prog w) callerA (.call (.ref fa) ⟨[.ref scr], []⟩) R s := by
  have e : fa = P.f .law := by
    have := mg_of (n := nameF .law) KX g (P.gF .law)
    rw [hfa] at this
    cases this; rfl
  subst e
  have H := ct_law P (scr := scr) (ns := ns) (σ₀ := fun _ => none) (Q := fun v _ => v = .bool true) (.inr ⟨vs.toArray, hL, by rw [List.toList_toArray]; exact ints_nrm hI⟩) hn (fun _ => rfl)
  refine codeAny_mono (H [.ref scr] rfl callerA s ⟨rfl, by decide, by decide⟩ ⟨fun _ _ h => h, fun _ _ h => (by cases h), fun _ _ _ h => (by cases h), fun a h => ?_⟩) fun r s' ⟨v, σ', e, G, T, q⟩ => ?_
  · rcases h with h | ⟨_, _, h⟩ <;> cases h
  · subst e
    rw [nrm_isTrue q]
    exact hR s' G.keep T.gens T.os
end Mine
set_option maxRecDepth 100000 in
set_option maxHeartbeats 8000000 in
theorem PySem.Challenge.cw_pq1021_01_holds : PySem.Challenge.rw_pq1021_01.Holds := by
  w_on
  refine holds_law Mine.said_ok fun said => ?_
  refine holds_open (q := Mine.qv) (loose := []) (Xt := Mine.Xt) (XP := XL Mine.qv []) (Yf := Hook.obs Mine.Hk) (Ya := Hook.val Mine.Hk) (YP := Hook.says Mine.Hk) (N := 7054) Mine.left (Hook.of Mine.Hk) (Hook.keeps Mine.Hk) (fun s e => xl_of s (Bool.and_eq_true_iff.mp e).1) XL.keeps (by rfl) (by rfl) (by rfl) (fun s e => recFacts_of (Bool.and_eq_true_iff.mp e).2) (by rfl) said (by decide +kernel) ⟨rfl, rfl, rfl, rfl, rfl, by decide +kernel⟩ ?hw ?hc
  case hw => w_witness2
  intro w s₀ s₁ mg mb G Y fa o pm cd doc dV kV ho hd' hcd hD hmg hg args vals as hpre hlay hrd hwl hlo
  have KX := kIn_of Y
  refine Ground.open G ?_
  intro T B D TE TW
  try (refine guard_noD D (by decide +kernel) ?_; clear D)
  wrow_args hpre hlay hrd hwl hlo
  refine enter_call ?_
  refine codeAny_mono ?_ (fun _ _ g => GoodW.toG g)
  refine Mine.law_join KX T.g T.b T.nolimit T.builtins ?P hmg (by assumption) (by assumption) (by omega) fun s' h1 h2 h3 => ?_
  case P => exact {
      c := Mine.adC
      i := Mine.adI
      f := Mine.adF
      m := Mine.adM
      ok x := by cases x <;> (refine Mine.mkOk ?_ ?_ ?_ ?_ ?_ ?_ ?_ ?_ ?_ <;> kernel_rfl)
      free x := by cases x <;> (refine Mine.free_of ?_; kernel_rfl)
      init x := by cases x <;> kernel_rfl
      initT x := by cases x <;> kernel_rfl
      initF x := by cases x <;> (refine Mine.mkFn ?_ ?_ ?_ <;> kernel_rfl)
      gC x := by cases x <;> kernel_rfl
      keepC x := by cases x <;> kernel_rfl
      kit x y := by cases x <;> cases y <;> kernel_rfl
      kitI x := by cases x <;> kernel_rfl
      iKit y := by cases y <;> kernel_rfl
      gF x := by cases x <;> kernel_rfl
      keepF x := by cases x <;> kernel_rfl
      fnF x := by cases x <;> (refine Mine.mkFn ?_ ?_ ?_ <;> kernel_rfl)
      fM x := by cases x <;> kernel_rfl
      keepM x := by cases x <;> kernel_rfl
      isM x := by cases x <;> kernel_rfl
      fnM x := by cases x <;> (refine Mine.mkFn ?_ ?_ ?_ <;> kernel_rfl)
      gB x := by cases x <;> kernel_rfl
      deep := ⟨_, by with_unfolding_all rfl⟩ }
  refine ⟨.inl ⟨_, .bool true, [], rfl, raisesW_false (by wrow_none_raised), ReadsW.bool _, postW_of (by wrow_shape) (by wtm_val) (by first | rfl | w_fin), unshared_nil⟩, h1, h3, h2.trans hg⟩
