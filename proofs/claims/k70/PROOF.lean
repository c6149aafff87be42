import PyProof.Rows.All
import Wide.All
import OpenK.AllK
import Wide.FinOn
import HandS.ForMost
import HandS.ForExc
import HandS.Wide
import HandS.IsInst
import HandS.TupAny
import HandS.Property
import HandS.FStr
import HandS.HeadHook3
import HandS.Star
import HandS.CallSlots
import HandS.Style
import HandS.WideBits
import HandS.TupMul
import HandS.More
import HandS.RaiseMore
import HandS.Replace
import HandS.ExcOwn
import HandS.MakeKw
import HandS.Ends
import HandS.Defaults
import HandS.SortInts
import HandS.Deep
import KE.GoesEnum
import KE.GoesMore
import HandS.Iter
import HandS.Zip
import HandS.Comp
import HandS.TryMany
import HandS.ExcInit
import HandS.ClsMeth
import HandS.HeadNt
import HandS.SuiteRaise
import HandS.ExcInitHot
import PyProof.ListRange
import PyProof.Rows.SeqMore
import KE.KDictZip
import KE.KDictCopyH
import HandS.Conv
import PyProof.ReprRoads
import HandS.HeadHook4
import HandS.EndBits
import HandS.HeadEnd
import HandS.Head2
import HandS.ReplaceList
import PySem.Challenge.RW_tellerhabits_k70_claims_that_are_none
set_option Elab.async false
set_option linter.all false
set_option maxRecDepth 100000
set_option maxHeartbeats 2000000
/-! R1: values without a heap, results, what a value stands for in the layer's heap, readings by functions. -/
namespace R
open PySem PySem.Spec L2
open PyProof.Rows hiding St

/-- a value: tuples, frozen lists, frozen dicts and frozen instances are trees; ref n: the n-th object of the memory -/
inductive PV where
  | non | bl (b : Bool) | int (i : Int) | str (x : Str)
  | tup (xs : List PV) | lst (xs : List PV) | dct (ks : List Key) (xs : List PV)
  | ins (c : Str) (ns : List Str) (xs : List PV)
  | ref (n : Nat)
  | exn (c : Str) (xs : List PV)
  deriving Inhabited

/-- an object of the memory -/
inductive MO where
  | lst (xs : List PV) | dct (ks : List Key) (xs : List PV) | ins (c : Str) (ns : List Str) (xs : List PV)
  deriving Inhabited

abbrev Mem := List MO
inductive Res (α : Type) where
  | ok (a : α) (M : Mem) | exc (c : Str) (xs : List PV) (M : Mem) | bad
  deriving Inhabited
abbrev RM (α : Type) := Mem → Res α
def RM.pure {α : Type} (a : α) : RM α := fun M => .ok a M
def RM.bind {α β : Type} (m : RM α) (f : α → RM β) : RM β := fun M => match m M with
  | .ok a M' => f a M'
  | .exc c xs M' => .exc c xs M'
  | .bad => .bad
instance : Monad RM where
  pure := RM.pure
  bind := RM.bind
def RM.bad {α : Type} : RM α := fun _ => .bad
abbrev Env := List (Option PV)

section
variable (K : PySem.W.Frag) (G : Hp) (ρ : List Addr)
mutual
def Rep : PV → V → Prop
  | .non, v => v = .non
  | .bl b, v => v = .bl b
  | .int i, v => v = .int i
  | .str s, v => v = .str s
  | .tup xs, v => ∃ a vs, v = .ref a ∧ SqT K G a vs ∧ Reps xs vs
  | .lst xs, v => ∃ a vs, v = .ref a ∧ SqL K G a vs ∧ Reps xs vs
  | .dct ks xs, v => ∃ a vs, v = .ref a ∧ G a = some (.dK (ks.zip vs)) ∧ ks.length = vs.length ∧ Reps xs vs
  | .ins c ns xs, v => ∃ a dx vs, v = .ref a ∧ G a = some (.ins (He.ga K c) dx (ns.zip vs)) ∧ ns.length = vs.length ∧ Reps xs vs
  | .ref n, v => ∃ a, v = .ref a ∧ ρ[n]? = some a
  | .exn _ _, _ => False
def Reps : List PV → List V → Prop
  | [], vs => vs = []
  | x :: xs, vs => ∃ v r, vs = v :: r ∧ Rep x v ∧ Reps xs r
end
end

section
variable {K : PySem.W.Frag} {G G' : Hp} {ρ ρ' : List Addr}
/-- the ground grows -/
structure Ext (G G' : Hp) (ρ ρ' : List Addr) : Prop where
  g : ∀ a o, G a = some o → G' a = some o
  r : ∀ (n : Nat) (a : Addr), ρ[n]? = some a → ρ'[n]? = some a
theorem Ext.refl : Ext G G ρ ρ := ⟨fun _ _ h => h, fun _ _ h => h⟩
theorem Ext.trans {G1 G2 G3 : Hp} {r1 r2 r3 : List Addr} (a : Ext G1 G2 r1 r2) (b : Ext G2 G3 r2 r3) : Ext G1 G3 r1 r3 :=
  ⟨fun x o h => b.g x o (a.g x o h), fun n x h => b.r n x (a.r n x h)⟩
theorem Rd.ext {H H' : Hp} {a : Addr} {u : HO} (h : ∀ a o, H a = some o → H' a = some o) (r : Rd H a u) : Rd H' a u := by
  rcases r with r | ⟨o, r⟩
  · exact .inl (h _ _ r)
  · exact .inr ⟨o, h _ _ r⟩
theorem SqT.ext {H H' : Hp} {a : Addr} {vs : List V} (h : ∀ a o, H a = some o → H' a = some o) (r : SqT K H a vs) : SqT K H' a vs := by
  rcases r with r | r
  · exact .inl (Rd.ext h r)
  · exact .inr r
theorem SqL.ext {H H' : Hp} {a : Addr} {vs : List V} (h : ∀ a o, H a = some o → H' a = some o) (r : SqL K H a vs) : SqL K H' a vs := by
  rcases r with r | r
  · exact .inl (Rd.ext h r)
  · exact .inr r
mutual
theorem Rep.ext (e : Ext G G' ρ ρ') : ∀ (x : PV) (v : V), Rep K G ρ x v → Rep K G' ρ' x v
  | .non, v, h => by simp only [Rep] at h ⊢; exact h
  | .bl b, v, h => by simp only [Rep] at h ⊢; exact h
  | .int i, v, h => by simp only [Rep] at h ⊢; exact h
  | .str s, v, h => by simp only [Rep] at h ⊢; exact h
  | .tup xs, v, h => by
    simp only [Rep] at h ⊢
    obtain ⟨a, vs, h1, h2, h3⟩ := h
    exact ⟨a, vs, h1, SqT.ext e.g h2, Reps.ext e xs vs h3⟩
  | .lst xs, v, h => by
    simp only [Rep] at h ⊢
    obtain ⟨a, vs, h1, h2, h3⟩ := h
    exact ⟨a, vs, h1, SqL.ext e.g h2, Reps.ext e xs vs h3⟩
  | .dct ks xs, v, h => by
    simp only [Rep] at h ⊢
    obtain ⟨a, vs, h1, h2, h3, h4⟩ := h
    exact ⟨a, vs, h1, e.g _ _ h2, h3, Reps.ext e xs vs h4⟩
  | .ins c ns xs, v, h => by
    simp only [Rep] at h ⊢
    obtain ⟨a, dx, vs, h1, h2, h3, h4⟩ := h
    exact ⟨a, dx, vs, h1, e.g _ _ h2, h3, Reps.ext e xs vs h4⟩
  | .ref n, v, h => by
    simp only [Rep] at h ⊢
    obtain ⟨a, h1, h2⟩ := h
    exact ⟨a, h1, e.r _ _ h2⟩
  | .exn _ _, v, h => by simp only [Rep] at h
theorem Reps.ext (e : Ext G G' ρ ρ') : ∀ (xs : List PV) (vs : List V), Reps K G ρ xs vs → Reps K G' ρ' xs vs
  | [], vs, h => by simp only [Reps] at h ⊢; exact h
  | x :: xs, vs, h => by
    simp only [Reps] at h ⊢
    obtain ⟨v, r, h1, h2, h3⟩ := h
    exact ⟨v, r, h1, Rep.ext e x v h2, Reps.ext e xs r h3⟩
end
theorem Reps.length : ∀ {xs : List PV} {vs : List V}, Reps K G ρ xs vs → xs.length = vs.length
  | [], vs, h => by simp only [Reps] at h; subst h; rfl
  | x :: xs, vs, h => by
    simp only [Reps] at h
    obtain ⟨v, r, rfl, _, h⟩ := h
    simp [Reps.length h]
theorem Reps.get : ∀ {xs : List PV} {vs : List V} {i : Nat} {x : PV}, Reps K G ρ xs vs → xs[i]? = some x → ∃ v, vs[i]? = some v ∧ Rep K G ρ x v
  | [], vs, i, x, h, e => by simp at e
  | y :: xs, vs, 0, x, h, e => by
    simp only [Reps] at h
    obtain ⟨v, r, rfl, h1, h2⟩ := h
    simp at e; subst e
    exact ⟨v, rfl, h1⟩
  | y :: xs, vs, i + 1, x, h, e => by
    simp only [Reps] at h
    obtain ⟨v, r, rfl, h1, h2⟩ := h
    obtain ⟨u, h3, h4⟩ := Reps.get (i := i) h2 (by simpa using e)
    exact ⟨u, by simpa using h3, h4⟩
theorem Reps.app : ∀ {xs ys : List PV} {vs us : List V}, Reps K G ρ xs vs → Reps K G ρ ys us → Reps K G ρ (xs ++ ys) (vs ++ us)
  | [], ys, vs, us, h, h' => by simp only [Reps] at h; subst h; exact h'
  | x :: xs, ys, vs, us, h, h' => by
    simp only [Reps] at h
    obtain ⟨v, r, rfl, h1, h2⟩ := h
    simp only [List.cons_append, Reps]
    exact ⟨v, _, rfl, h1, Reps.app h2 h'⟩
theorem Reps.drop : ∀ {xs : List PV} {vs : List V} (n : Nat), Reps K G ρ xs vs → Reps K G ρ (xs.drop n) (vs.drop n)
  | xs, vs, 0, h => by simpa using h
  | [], vs, n + 1, h => by simp only [Reps] at h; subst h; simp [Reps]
  | x :: xs, vs, n + 1, h => by
    simp only [Reps] at h
    obtain ⟨v, r, rfl, h1, h2⟩ := h
    simpa using Reps.drop n h2
theorem Reps.take : ∀ {xs : List PV} {vs : List V} (n : Nat), Reps K G ρ xs vs → Reps K G ρ (xs.take n) (vs.take n)
  | xs, vs, 0, h => by simp [Reps]
  | [], vs, n + 1, h => by simp only [Reps] at h; subst h; simp [Reps]
  | x :: xs, vs, n + 1, h => by
    simp only [Reps] at h
    obtain ⟨v, r, rfl, h1, h2⟩ := h
    simp only [List.take_succ_cons, Reps]
    exact ⟨v, _, rfl, h1, Reps.take n h2⟩
theorem Reps.reverse : ∀ {xs : List PV} {vs : List V}, Reps K G ρ xs vs → Reps K G ρ xs.reverse vs.reverse
  | [], vs, h => by simp only [Reps] at h; subst h; simp [Reps]
  | x :: xs, vs, h => by
    simp only [Reps] at h
    obtain ⟨v, r, rfl, h1, h2⟩ := h
    rw [List.reverse_cons, List.reverse_cons]
    exact Reps.app (Reps.reverse h2) (by simp only [Reps]; exact ⟨v, [], rfl, h1, rfl⟩)
theorem Reps.set : ∀ {xs : List PV} {vs : List V} (i : Nat) {x : PV} {v : V}, Reps K G ρ xs vs → Rep K G ρ x v → Reps K G ρ (xs.set i x) (vs.set i v)
  | [], vs, i, x, v, h, h' => by simp only [Reps] at h; subst h; simp [Reps]
  | y :: xs, vs, 0, x, v, h, h' => by
    simp only [Reps] at h
    obtain ⟨w, r, rfl, h1, h2⟩ := h
    simp only [List.set_cons_zero, Reps]
    exact ⟨v, r, rfl, h', h2⟩
  | y :: xs, vs, i + 1, x, v, h, h' => by
    simp only [Reps] at h
    obtain ⟨w, r, rfl, h1, h2⟩ := h
    simp only [List.set_cons_succ, Reps]
    exact ⟨w, _, rfl, h1, Reps.set i h2 h'⟩
theorem Reps.nil : Reps K G ρ [] [] := by simp only [Reps]
theorem Reps.cons {x : PV} {v : V} {xs : List PV} {vs : List V} (h : Rep K G ρ x v) (t : Reps K G ρ xs vs) : Reps K G ρ (x :: xs) (v :: vs) := by
  simp only [Reps]; exact ⟨v, vs, rfl, h, t⟩
end

/-- an object of the memory in the heap -/
def RepO (K : PySem.W.Frag) (G : Hp) (ρ : List Addr) (H : Hp) (a : Addr) : MO → Prop
  | .lst xs => ∃ vs, H a = some (.lst vs) ∧ Reps K G ρ xs vs
  | .dct ks xs => ∃ vs, H a = some (.dK (ks.zip vs)) ∧ ks.length = vs.length ∧ Reps K G ρ xs vs
  | .ins c ns xs => ∃ dx vs, H a = some (.ins (He.ga K c) dx (ns.zip vs)) ∧ ns.length = vs.length ∧ Reps K G ρ xs vs

structure SimH (K : PySem.W.Frag) (G : Hp) (ρ : List Addr) (M : Mem) (H : Hp) : Prop where
  sub : ∀ a o, G a = some o → H a = some o
  len : ρ.length = M.length
  nd : ρ.Nodup
  obj : ∀ (n : Nat) (a : Addr) (o : MO), ρ[n]? = some a → M[n]? = some o → G a = none ∧ RepO K G ρ H a o

/-- the slots -/
def RepE (K : PySem.W.Frag) (G : Hp) (ρ : List Addr) (e : Env) (σ : St) : Prop :=
  e.length = σ.length ∧ ∀ (i : Nat) (x : PV), e[i]? = some (some x) → ∃ v, σ[i]? = some (some v) ∧ Rep K G ρ x v
theorem RepE.ext {K : PySem.W.Frag} {G G' : Hp} {ρ ρ' : List Addr} {e : Env} {σ : St} (x : Ext G G' ρ ρ') (h : RepE K G ρ e σ) : RepE K G' ρ' e σ :=
  ⟨h.1, fun i y q => let ⟨v, a, b⟩ := h.2 i y q; ⟨v, a, b.ext x _ _⟩⟩
theorem RepE.set {K : PySem.W.Frag} {G : Hp} {ρ : List Addr} {e : Env} {σ : St} {i : Nat} {x : PV} {v : V} (h : RepE K G ρ e σ) (r : Rep K G ρ x v) : RepE K G ρ (e.set i (some x)) (σ.set i (some v)) := by
  refine ⟨by simp [h.1], fun j y q => ?_⟩
  by_cases hj : i = j
  · subst hj
    have hi : i < e.length := by
      have := (List.getElem?_eq_some_iff.mp q).1
      simpa using this
    rw [List.getElem?_set_self hi] at q
    cases q
    exact ⟨v, List.getElem?_set_self (by rw [← h.1]; exact hi), r⟩
  · rw [List.getElem?_set_ne hj] at q
    obtain ⟨w, a, b⟩ := h.2 j y q
    exact ⟨w, by rw [List.getElem?_set_ne hj]; exact a, b⟩

/-- an exception in the air: its class, its field -/
def RepX (K : PySem.W.Frag) (G : Hp) (ρ : List Addr) (c : Str) (xs : List PV) (cls : Value) (d : Option Addr) : Prop :=
  cls = .ref (He.ga K c) ∧ ((xs = [] ∧ d = none) ∨ ∃ dd f v x, d = some dd ∧ xs = [x] ∧ G dd = some (.xd [(f, v)]) ∧ Rep K G ρ x v)

/-- what is wanted behind a result: Rl says what a result stands for -/
def outR {α β : Type} (K : PySem.W.Frag) (Rl : Hp → List Addr → α → β → Prop) (W : WX) (G : Hp) (ρ : List Addr) (σ : St) (r : Res α) (Q : β → Hp → Prop) : Prop :=
  match r with
  | .ok x M' => ∀ G' ρ' H' y, Ext G G' ρ ρ' → SimH K G' ρ' M' H' → Rl G' ρ' x y → Q y H'
  | .exc c xs M' => ∀ G' ρ' H' cls d, Ext G G' ρ ρ' → SimH K G' ρ' M' H' → RepX K G' ρ' c xs cls d → W cls d σ H'
  | .bad => False
abbrev RB : Hp → List Addr → Bool → Bool → Prop := fun _ _ a b => a = b
/-- the reading of a function on slots and memory -/
def den {α β : Type} (K : PySem.W.Frag) (Rl : Hp → List Addr → α → β → Prop) (W : WX) (f : Env → RM α) : St → Hp → (β → Hp → Prop) → Prop := fun σ H Q =>
  ∃ G ρ M e, SimH K G ρ M H ∧ RepE K G ρ e σ ∧ outR K Rl W G ρ σ (f e M) Q
abbrev denE (K : PySem.W.Frag) (W : WX) (f : Env → RM PV) : TE := den K (Rep K) W f
abbrev denT (K : PySem.W.Frag) (W : WX) (f : Env → RM Bool) : TT := den K RB W f
abbrev denA (K : PySem.W.Frag) (W : WX) (f : Env → RM (List PV)) : TA := den K (Reps K) W f

/-! ### weakening -/
theorem PE.imp {X : Cx} {e : Expr} {t t' : TE} (h : PE X e t) (w : ∀ σ H Q, t' σ H Q → t σ H Q) : PE X e t' := ⟨fun pins s σ H Q I q => h.run pins s σ H Q I (w σ H Q q)⟩
theorem PT.imp {X : Cx} {e : Expr} {t t' : TT} (h : PT X e t) (w : ∀ σ H Q, t' σ H Q → t σ H Q) : PT X e t' := ⟨fun pins s σ H Q I q => h.run pins s σ H Q I (w σ H Q q)⟩
theorem PW.imp {X : Cx} {e : Expr} {t t' : TT} (h : PW X e t) (w : ∀ σ H Q, t' σ H Q → t σ H Q) : PW X e t' := ⟨fun wh pins s σ H Q I q => h.run wh pins s σ H Q I (w σ H Q q)⟩
theorem PA.imp {X : Cx} {es : List Expr} {t t' : TA} (h : PA X es t) (w : ∀ σ H Q, t' σ H Q → t σ H Q) : PA X es t' := ⟨fun pos pins s σ H Q I q => h.run pos pins s σ H Q I (w σ H Q q)⟩
theorem PS.imp {X : Cx} {st : Stmt} {t t' : TS} (h : PS X st t) (w : ∀ D σ H, t' D σ H → t D σ H) : PS X st t' := ⟨fun pins s σ H D I q => h.run pins s σ H D I (w D σ H q)⟩
theorem PSs.imp {X : Cx} {st : List Stmt} {t t' : TS} (h : PSs X st t) (w : ∀ D σ H, t' D σ H → t D σ H) : PSs X st t' := ⟨fun pins s σ H D I q => h.run pins s σ H D I (w D σ H q)⟩

theorem bind_eq {α β : Type} (m : RM α) (f : α → RM β) (M : Mem) : (m >>= f) M = match m M with
  | .ok a M' => f a M'
  | .exc c xs M' => .exc c xs M'
  | .bad => .bad := rfl
theorem pure_eq {α : Type} (a : α) (M : Mem) : (pure a : RM α) M = .ok a M := rfl
theorem bad_eq {α : Type} (M : Mem) : (RM.bad : RM α) M = .bad := rfl

section
variable {K : PySem.W.Frag} {W : WX} {α β γ δ : Type} {Rl : Hp → List Addr → α → β → Prop} {Rm : Hp → List Addr → γ → δ → Prop}
theorem outR.ext {G G' : Hp} {ρ ρ' : List Addr} {σ : St} {r : Res α} {Q : β → Hp → Prop} (x : Ext G G' ρ ρ') (h : outR K Rl W G ρ σ r Q) : outR K Rl W G' ρ' σ r Q := by
  cases r with
  | ok a M => exact fun G2 ρ2 H2 y a b c => h G2 ρ2 H2 y (x.trans a) b c
  | exc c xs M => exact fun G2 ρ2 H2 cls d a b c => h G2 ρ2 H2 cls d (x.trans a) b c
  | bad => exact h
theorem outR.mono {G : Hp} {ρ : List Addr} {σ : St} {r : Res α} {Q Q' : β → Hp → Prop} (w : ∀ y H, Q y H → Q' y H) (h : outR K Rl W G ρ σ r Q) : outR K Rl W G ρ σ r Q' := by
  cases r with
  | ok a M => exact fun G2 ρ2 H2 y a b c => w _ _ (h G2 ρ2 H2 y a b c)
  | exc c xs M => exact h
  | bad => exact h
/-- a result goes on by what follows -/
theorem outR_bind {m : RM α} {g : α → RM γ} {k : β → Hp → Prop} {G : Hp} {ρ : List Addr} {M : Mem} {σ : St} {Q : δ → Hp → Prop} (h : outR K Rm W G ρ σ ((m >>= g) M) Q)
    (hk : ∀ G' ρ' M' x y H, Ext G G' ρ ρ' → SimH K G' ρ' M' H → Rl G' ρ' x y → outR K Rm W G' ρ' σ (g x M') Q → k y H) : outR K Rl W G ρ σ (m M) k := by
  rw [bind_eq] at h
  cases q : m M with
  | ok x M' =>
    rw [q] at h
    exact fun G' ρ' H' v x1 s' r' => hk G' ρ' M' x v H' x1 s' r' (outR.ext x1 h)
  | exc c xs M' => rw [q] at h; exact h
  | bad => rw [q] at h; exact h
theorem outR_pure {x : α} {G : Hp} {ρ : List Addr} {M : Mem} {σ : St} {H : Hp} {Q : β → Hp → Prop} (h : outR K Rl W G ρ σ ((pure x : RM α) M) Q) {y : β} (s : SimH K G ρ M H) (r : Rl G ρ x y) : Q y H :=
  (show ∀ G' ρ' H' y, Ext G G' ρ ρ' → SimH K G' ρ' M H' → Rl G' ρ' x y → Q y H' from h) G ρ H y Ext.refl s r
theorem outR_ok {x : α} {G : Hp} {ρ : List Addr} {M : Mem} {σ : St} {H : Hp} {Q : β → Hp → Prop} (h : outR K Rl W G ρ σ (.ok x M) Q) {G' : Hp} {ρ' : List Addr} {y : β} (e : Ext G G' ρ ρ') (s : SimH K G' ρ' M H) (r : Rl G' ρ' x y) : Q y H :=
  (show ∀ G' ρ' H' y, Ext G G' ρ ρ' → SimH K G' ρ' M H' → Rl G' ρ' x y → Q y H' from h) G' ρ' H y e s r
end

/-! ### expressions -/
def asB : PV → RM Bool
  | .bl b => pure b
  | _ => RM.bad
/-- an expression by a function on slots and memory: its value, its truth -/
structure QE (X : Cx) (W : WX) (e : Expr) (f : Env → RM PV) : Prop where
  pe : PE X e (denE X.K W f)
  pt : PT X e (denT X.K W fun s => f s >>= asB)
section
variable {X : Cx} {W : WX}
theorem QE.of {e : Expr} {f : Env → RM PV} (h : PE X e (denE X.K W f)) (he : ∀ whole, isTrue e X.env whole = (do let v ← whole; standAt e.pos; holding [v] (truthy v)) := by intro _; rfl) : QE X W e f := by
  refine ⟨h, PT.imp (pt_val h he) fun σ H Q q => ?_⟩
  obtain ⟨G, ρ, M, e', s, r, q⟩ := q
  refine ⟨G, ρ, M, e', s, r, outR_bind q fun G1 ρ1 M1 x y H1 x1 s1 r1 h1 => ?_⟩
  cases x with
  | bl b =>
    simp only [Rep] at r1
    exact ⟨b, r1, outR_pure h1 s1 rfl⟩
  | _ => exact h1.elim
end
end R
set_option maxHeartbeats 4000000
/-! R2: the ground and the memory grow; operators, calls by values. -/
namespace R
open PySem PySem.Spec L2
open PyProof.Rows hiding St

theorem nodup_ix' {α : Type} {N : List α} (hN : N.Nodup) {i j : Nat} {x : α} (a : N[i]? = some x) (b : N[j]? = some x) : i = j := by
  obtain ⟨h1, e1⟩ := List.getElem?_eq_some_iff.mp a
  obtain ⟨h2, e2⟩ := List.getElem?_eq_some_iff.mp b
  exact (List.getElem_inj hN).mp (e1.trans e2.symm)
section
variable {K : PySem.W.Frag} {G H : Hp} {ρ : List Addr} {M : Mem}
theorem SimH.fresh (s : SimH K G ρ M H) {p : Addr} (h : H p = none) : G p = none := by
  cases q : G p with
  | none => rfl
  | some o => rw [s.sub p o q] at h; cases h
theorem SimH.notIn (s : SimH K G ρ M H) {p : Addr} (h : H p = none) : p ∉ ρ := fun hp => by
  obtain ⟨n, hn, e⟩ := List.getElem_of_mem hp
  have hM : n < M.length := by rw [← s.len]; exact hn
  obtain ⟨_, r⟩ := s.obj n p M[n] (by rw [List.getElem?_eq_getElem hn, e]) (List.getElem?_eq_getElem hM)
  cases hm : M[n] with
  | lst xs => rw [hm] at r; obtain ⟨vs, e, _⟩ := r; rw [h] at e; cases e
  | dct ks xs => rw [hm] at r; obtain ⟨vs, e, _⟩ := r; rw [h] at e; cases e
  | ins c ns xs => rw [hm] at r; obtain ⟨dx, vs, e, _⟩ := r; rw [h] at e; cases e
theorem Ext.upd {o : HO} {p : Addr} (h : G p = none) : Ext G (upd G p o) ρ ρ :=
  ⟨fun a o' e => by rw [upd_ne (ne_of_none e h)]; exact e, fun _ _ h => h⟩
theorem RepO.ext {G' : Hp} {ρ' : List Addr} {H' : Hp} {a : Addr} {o : MO} (x : Ext G G' ρ ρ') (h : ∀ u, H a = some u → H' a = some u) (r : RepO K G ρ H a o) : RepO K G' ρ' H' a o := by
  cases o with
  | lst xs => obtain ⟨vs, e, r⟩ := r; exact ⟨vs, h _ e, r.ext x _ _⟩
  | dct ks xs => obtain ⟨vs, e, l, r⟩ := r; exact ⟨vs, h _ e, l, r.ext x _ _⟩
  | ins c ns xs => obtain ⟨dx, vs, e, l, r⟩ := r; exact ⟨dx, vs, h _ e, l, r.ext x _ _⟩
/-- a new frozen object -/
theorem SimH.froz (s : SimH K G ρ M H) {p : Addr} (h : H p = none) (o : HO) : SimH K (upd G p o) ρ M (upd H p o) := by
  have hG := s.fresh h
  have hn := s.notIn h
  refine ⟨fun a u e => ?_, s.len, s.nd, fun n a u e1 e2 => ?_⟩
  · by_cases ha : a = p
    · subst ha; rw [upd_same] at e ⊢; exact e
    · rw [upd_ne ha] at e ⊢; exact s.sub _ _ e
  · obtain ⟨g, r⟩ := s.obj n a u e1 e2
    have ha : a ≠ p := fun z => hn (z ▸ List.mem_of_getElem? e1)
    exact ⟨by rw [upd_ne ha]; exact g, r.ext (Ext.upd hG) fun _ q => by rw [upd_ne ha]; exact q⟩
/-- the heap grows by what nobody tells of -/
theorem SimH.more (s : SimH K G ρ M H) {H' : Hp} (h : ∀ a o, H a = some o → H' a = some o) : SimH K G ρ M H' :=
  ⟨fun a o e => h _ _ (s.sub a o e), s.len, s.nd, fun n a o e1 e2 => let ⟨g, r⟩ := s.obj n a o e1 e2; ⟨g, r.ext Ext.refl fun _ q => h _ _ q⟩⟩
/-- a new object of the memory -/
theorem SimH.alloc (s : SimH K G ρ M H) {p : Addr} (h : H p = none) {H' : Hp} (hH : ∀ a o, H a = some o → H' a = some o) {o : MO} (r : RepO K G ρ H' p o) : SimH K G (ρ ++ [p]) (M ++ [o]) H' ∧ Ext G G ρ (ρ ++ [p]) := by
  have x : Ext G G ρ (ρ ++ [p]) := ⟨fun _ _ h => h, fun n a e => by
    rw [List.getElem?_append_left (List.getElem?_eq_some_iff.mp e).1]; exact e⟩
  have hn := s.notIn h
  refine ⟨⟨fun a o e => hH _ _ (s.sub a o e), by simp [s.len], ?_, fun n a u e1 e2 => ?_⟩, x⟩
  · rw [List.nodup_append]
    exact ⟨s.nd, by simp, fun a ha b hb => by
      have : b = p := by simpa using hb
      subst this
      exact fun z => hn (z ▸ ha)⟩
  · by_cases hlt : n < M.length
    · rw [List.getElem?_append_left hlt] at e2
      rw [List.getElem?_append_left (by rw [s.len]; exact hlt)] at e1
      obtain ⟨g, r'⟩ := s.obj n a u e1 e2
      exact ⟨g, r'.ext x fun _ q => hH _ _ q⟩
    · rw [List.getElem?_append_right (by omega)] at e2
      rw [List.getElem?_append_right (by rw [s.len]; omega)] at e1
      have z : n - M.length = 0 := by
        have := (List.getElem?_eq_some_iff.mp e2).1
        simp at this; omega
      rw [z] at e2
      rw [s.len, z] at e1
      simp at e1 e2
      subst e1; subst e2
      exact ⟨s.fresh h, r.ext x fun _ q => q⟩
/-- an object of the memory is written -/
theorem SimH.write (s : SimH K G ρ M H) {n : Nat} {p : Addr} (e : ρ[n]? = some p) {u : HO} {o o' : MO} (eo : M[n]? = some o) (r : RepO K G ρ (upd H p u) p o') : SimH K G ρ (M.set n o') (upd H p u) := by
  obtain ⟨hg, _⟩ := s.obj n p o e eo
  refine ⟨fun a o e' => ?_, by simp [s.len], s.nd, fun m a v e1 e2 => ?_⟩
  · have ha : a ≠ p := fun z => by rw [z, hg] at e'; cases e'
    rw [upd_ne ha]; exact s.sub _ _ e'
  · by_cases hm : n = m
    · subst hm
      have hlt : n < M.length := (List.getElem?_eq_some_iff.mp eo).1
      rw [List.getElem?_set_self hlt] at e2
      rw [e] at e1
      cases e1; cases e2
      exact ⟨hg, r⟩
    · rw [List.getElem?_set_ne hm] at e2
      obtain ⟨g, r'⟩ := s.obj m a v e1 e2
      have ha : a ≠ p := fun z => by
        subst z
        exact hm (nodup_ix' s.nd e e1)
      exact ⟨g, r'.ext Ext.refl fun _ q => by rw [upd_ne ha]; exact q⟩
theorem SimH.at_ (s : SimH K G ρ M H) {n : Nat} {p : Addr} {o : MO} (e : ρ[n]? = some p) (eo : M[n]? = some o) : RepO K G ρ H p o := (s.obj n p o e eo).2
theorem SimH.addr (s : SimH K G ρ M H) {n : Nat} {o : MO} (eo : M[n]? = some o) : ∃ p, ρ[n]? = some p := by
  have : n < ρ.length := by rw [s.len]; exact (List.getElem?_eq_some_iff.mp eo).1
  exact ⟨ρ[n], List.getElem?_eq_getElem this⟩
end

/-! ### rules by values -/
section
variable (X : Cx) (W : WX)
/-- what a value rule is asked: pure values that the values stand for, and what follows -/
def OpV (f : Value → Value → Sem Value) (fo : PV → PV → RM PV) : Prop :=
  ∀ (pins : List (Addr × Obj)) (s : Shared) (σ : St) (H : Hp) (x y : V) (v u : Value) (Q : VK), Inv X pins σ H s → RelV x v → RelV y u →
    ∀ (G : Hp) (ρ : List Addr) (M : Mem) (px py : PV) (σ' : St), SimH X.K G ρ M H → Rep X.K G ρ px x → Rep X.K G ρ py y → outR X.K (Rep X.K) W G ρ σ' (fo px py M) Q →
    wpAny (model X.prog X.w) X.A (f v u) (EP X pins σ Q) X.xe s
def rV (fo : PV → PV → RM PV) : V → V → Hp → VK → Prop := fun x y H Q => ∃ G ρ M px py σ', SimH X.K G ρ M H ∧ Rep X.K G ρ px x ∧ Rep X.K G ρ py y ∧ outR X.K (Rep X.K) W G ρ σ' (fo px py M) Q
theorem OpV.opr {f : Value → Value → Sem Value} {fo : PV → PV → RM PV} (h : OpV X W f fo) : OpR X f (rV X W fo) :=
  fun pins s σ H x y v u Q I rx ry ⟨G, ρ, M, px, py, σ', a, b, c, d⟩ => h pins s σ H x y v u Q I rx ry G ρ M px py σ' a b c d
def CallV (f : Value) (fo : List PV → RM PV) : Prop :=
  ∀ (pins : List (Addr × Obj)) (s : Shared) (σ : St) (H : Hp) (xs : List V) (us : List Value) (Q : VK), Inv X pins σ H s → Vals xs us →
    ∀ (G : Hp) (ρ : List Addr) (M : Mem) (ps : List PV) (σ' : St), SimH X.K G ρ M H → Reps X.K G ρ ps xs → outR X.K (Rep X.K) W G ρ σ' (fo ps M) Q →
    wpAny (model X.prog X.w) X.A (call f us) (EP X pins σ Q) X.xe s
def rVs (fo : List PV → RM PV) : List V → Hp → VK → Prop := fun xs H Q => ∃ G ρ M ps σ', SimH X.K G ρ M H ∧ Reps X.K G ρ ps xs ∧ outR X.K (Rep X.K) W G ρ σ' (fo ps M) Q
theorem CallV.callr {f : Value} {fo : List PV → RM PV} (h : CallV X W f fo) : CallR X f (rVs X W fo) :=
  fun pins s σ H xs us Q I r ⟨G, ρ, M, ps, σ', a, b, c⟩ => h pins s σ H xs us Q I r G ρ M ps σ' a b c
end

section
variable {X : Cx} {W : WX} {a b c : Expr} {f g : Env → RM PV} {pos : Pos}

/-! ### names, constants -/
def fVar (i : Nat) : Env → RM PV := fun e => match e[i]? with
  | some (some x) => pure x
  | _ => RM.bad
theorem qe_var {i : Nat} {x : Str} (hN : X.N[i]? = some x) (hv : Vis X.env.scope x) (hd : (x == ("__debug__" : Str)) = false) (hcd : (x == ("__classdict__" : Str)) = false) : QE X W (.Name x pos) (fVar i) := by
  refine QE.of (PE.imp (pe_var hN hv hd hcd) fun σ H Q ⟨G, ρ, M, e, s, r, q⟩ => ?_)
  unfold fVar at q
  cases h : e[i]? with
  | none => rw [h] at q; exact q.elim
  | some o =>
    cases o with
    | none => rw [h] at q; exact q.elim
    | some x =>
      rw [h] at q
      obtain ⟨v, hv, rv⟩ := r.2 i x h
      exact ⟨v, hv, outR_pure q s rv⟩
theorem qe_pure {e : Expr} {v : V} {x : PV} (h : PE X e (tC v)) (r : ∀ G ρ M H, SimH X.K G ρ M H → Rep X.K G ρ x v) (he : ∀ whole, isTrue e X.env whole = (do let v ← whole; standAt e.pos; holding [v] (truthy v)) := by intro _; rfl) : QE X W e (fun _ => pure x) :=
  QE.of (PE.imp h fun σ H Q ⟨G, ρ, M, e, s, _, q⟩ => outR_pure q s (r G ρ M H s)) he
theorem qe_int {i j} : QE X W (.Constant (.int i) j pos) (fun _ => pure (.int i)) := qe_pure pe_int fun _ _ _ _ _ => by simp only [Rep]
theorem qe_bl {i j} : QE X W (.Constant (.bool i) j pos) (fun _ => pure (.bl i)) := qe_pure pe_bl fun _ _ _ _ _ => by simp only [Rep]
theorem qe_str {i j} : QE X W (.Constant (.str i) j pos) (fun _ => pure (.str i)) := qe_pure pe_str fun _ _ _ _ _ => by simp only [Rep]
theorem qe_non {j} : QE X W (.Constant .none j pos) (fun _ => pure .non) := qe_pure pe_non fun _ _ _ _ _ => by simp only [Rep]

/-! ### two operands -/
def f2 (fo : PV → PV → RM PV) (f g : Env → RM PV) : Env → RM PV := fun e => f e >>= fun x => g e >>= fun y => fo x y
theorem den_op2 {fo : PV → PV → RM PV} {σ : St} {H : Hp} {Q : VK} (h : denE X.K W (f2 fo f g) σ H Q) : tOp (rV X W fo) (denE X.K W f) (denE X.K W g) σ H Q := by
  obtain ⟨G, ρ, M, e, s, r, q⟩ := h
  refine ⟨G, ρ, M, e, s, r, outR_bind q fun G1 ρ1 M1 x u H1 x1 s1 r1 q1 => ⟨G1, ρ1, M1, e, s1, r.ext x1, outR_bind q1 fun G2 ρ2 M2 y v H2 x2 s2 r2 q2 => ?_⟩⟩
  exact ⟨G2, ρ2, M2, x, y, σ, s2, r1.ext x2 _ _, r2, q2⟩
theorem qe_bin {op : Operator} {fo : PV → PV → RM PV} (ho : OpV X W (binaryOp op) fo) (ha : QE X W a f) (hb : QE X W b g) : QE X W (.BinOp a op b pos) (f2 fo f g) :=
  QE.of (PE.imp (pe_op ho.opr ha.pe hb.pe) fun _ _ _ h => den_op2 h)

def addV : PV → PV → RM PV
  | .int i, .int j => pure (.int (i + j))
  | .str i, .str j => if i.length + j.length ≤ sizeLine then pure (.str (i ++ j)) else RM.bad
  | .tup xs, .tup ys => if xs.length + ys.length ≤ sizeLine then pure (.tup (xs ++ ys)) else RM.bad
  | _, _ => RM.bad
def subV : PV → PV → RM PV
  | .int i, .int j => pure (.int (i - j))
  | _, _ => RM.bad
def mulOk (i j : Int) : Bool := decide (i.natAbs.log2 + j.natAbs.log2 < 100000000)
def mulV : PV → PV → RM PV
  | .int i, .int j => if mulOk i j then pure (.int (i * j)) else RM.bad
  | .tup xs, .int k => if decide (2 ≤ k) && decide (k ≤ 1000) && decide (xs.length ≤ 1000) && !xs.isEmpty then pure (.tup (List.replicate k.toNat xs).flatten) else RM.bad
  | _, _ => RM.bad
def divOk (j : Int) : Bool := decide (j ≠ 0) && decide (j.natAbs.log2 < 9000)
def fdivV : PV → PV → RM PV
  | .int i, .int j => if divOk j then pure (.int (i.fdiv j)) else RM.bad
  | _, _ => RM.bad
def modV : PV → PV → RM PV
  | .int i, .int j => if divOk j then pure (.int (i.fmod j)) else RM.bad
  | _, _ => RM.bad
def powV : PV → PV → RM PV
  | .int i, .int j => if decide (0 ≤ j) && decide (j ≤ 1000) && decide (i.natAbs < 1000) then pure (.int (i ^ j.toNat)) else RM.bad
  | _, _ => RM.bad

theorem ite_outR {α β : Type} {K : PySem.W.Frag} {Rl : Hp → List Addr → α → β → Prop} {G : Hp} {ρ : List Addr} {σ : St} {M : Mem} {Q : β → Hp → Prop} {c : Prop} [Decidable c] {t : RM α}
    (h : outR K Rl W G ρ σ ((if c then t else RM.bad) M) Q) : c ∧ outR K Rl W G ρ σ (t M) Q := by
  by_cases hc : c
  · rw [if_pos hc] at h; exact ⟨hc, h⟩
  · rw [if_neg hc] at h; exact h.elim
theorem rep_int {K : PySem.W.Frag} {G : Hp} {ρ : List Addr} {i : Int} {v : V} : Rep K G ρ (.int i) v ↔ v = .int i := by simp only [Rep]
theorem rep_str {K : PySem.W.Frag} {G : Hp} {ρ : List Addr} {i : Str} {v : V} : Rep K G ρ (.str i) v ↔ v = .str i := by simp only [Rep]
theorem rep_bl {K : PySem.W.Frag} {G : Hp} {ρ : List Addr} {i : Bool} {v : V} : Rep K G ρ (.bl i) v ↔ v = .bl i := by simp only [Rep]
theorem rep_non {K : PySem.W.Frag} {G : Hp} {ρ : List Addr} {v : V} : Rep K G ρ .non v ↔ v = .non := by simp only [Rep]
theorem rep_tup {K : PySem.W.Frag} {G : Hp} {ρ : List Addr} {xs : List PV} {v : V} : Rep K G ρ (.tup xs) v ↔ ∃ a vs, v = .ref a ∧ SqT K G a vs ∧ Reps K G ρ xs vs := by simp only [Rep]
theorem rep_lst {K : PySem.W.Frag} {G : Hp} {ρ : List Addr} {xs : List PV} {v : V} : Rep K G ρ (.lst xs) v ↔ ∃ a vs, v = .ref a ∧ SqL K G a vs ∧ Reps K G ρ xs vs := by simp only [Rep]
/-- a tuple, a list just laid, frozen -/
theorem new_tup {G H : Hp} {ρ : List Addr} {M : Mem} {σ : St} {xs : List PV} {vs : List V} {Q : VK} (s : SimH X.K G ρ M H) (r : Reps X.K G ρ xs vs) (h : outR X.K (Rep X.K) W G ρ σ ((pure (.tup xs) : RM PV) M) Q) : ∀ p, H p = none → Q (.ref p) (upd H p (.tup vs)) := fun p hp =>
  outR_ok h (Ext.upd (s.fresh hp)) (s.froz hp _) (rep_tup.mpr ⟨p, vs, rfl, .inl (.inl upd_same), r.ext (Ext.upd (s.fresh hp)) _ _⟩)
theorem new_lst {G H : Hp} {ρ : List Addr} {M : Mem} {σ : St} {xs : List PV} {vs : List V} {Q : VK} (s : SimH X.K G ρ M H) (r : Reps X.K G ρ xs vs) (h : outR X.K (Rep X.K) W G ρ σ ((pure (.lst xs) : RM PV) M) Q) : ∀ p, H p = none → Q (.ref p) (upd H p (.lst vs)) := fun p hp =>
  outR_ok h (Ext.upd (s.fresh hp)) (s.froz hp _) (rep_lst.mpr ⟨p, vs, rfl, .inl (.inl upd_same), r.ext (Ext.upd (s.fresh hp)) _ _⟩)

theorem opv_sub : OpV X W (binaryOp .Sub) subV := by
  intro pins s σ H x y v u Q I rx ry G ρ M px py σ' S hx hy q
  unfold subV at q
  split at q
  · rw [rep_int] at hx hy; subst hx hy
    exact op_sub pins s σ H _ _ v u Q I rx ry ⟨_, _, rfl, rfl, outR_pure q S (rep_int.mpr rfl)⟩
  · exact q.elim
theorem opv_add : OpV X W (binaryOp .Add) addV := by
  intro pins s σ H x y v u Q I rx ry G ρ M px py σ' S hx hy q
  unfold addV at q
  split at q
  · rw [rep_int] at hx hy; subst hx hy
    exact op_add pins s σ H _ _ v u Q I rx ry ⟨_, _, rfl, rfl, outR_pure q S (rep_int.mpr rfl)⟩
  · rw [rep_str] at hx hy; subst hx hy
    obtain ⟨hc, q⟩ := ite_outR q
    exact op_add_str pins s σ H _ _ v u Q I rx ry ⟨_, _, rfl, rfl, hc, outR_pure q S (rep_str.mpr rfl)⟩
  · obtain ⟨hc, q⟩ := ite_outR q
    obtain ⟨a, vs, rfl, h1, h2⟩ := rep_tup.mp hx
    obtain ⟨b, us, rfl, h3, h4⟩ := rep_tup.mp hy
    have l1 := Reps.length h2
    have l2 := Reps.length h4
    refine op_catA pins s σ H _ _ v u Q I rx ry ⟨a, b, vs, us, rfl, rfl, SqT.ext S.sub h1, SqT.ext S.sub h3, by omega, fun e => ?_, fun e1 e2 => ?_, fun _ _ => new_tup S (h2.app h4) q⟩
    · subst e
      have := List.length_eq_zero_iff.mp l1
      subst this
      exact outR_pure q S (rep_tup.mpr ⟨b, us, rfl, h3, h4⟩)
    · subst e2
      have := List.length_eq_zero_iff.mp l2
      subst this
      rw [List.append_nil] at q
      exact outR_pure q S (rep_tup.mpr ⟨a, vs, rfl, h1, h2⟩)
  · exact q.elim
theorem op_fdivG : OpR X (binaryOp .FloorDiv) (rI (fun _ j => j ≠ 0 ∧ j.natAbs.log2 < 9000) fun i j => .int (i.fdiv j)) := opI fun i j _ _ _ _ _ hc q => PyProof.Rows.floordiv_int hc.1 q (.inl (PyProof.noPylong_of_log2 hc.2))
theorem divOk_iff {j : Int} : divOk j = true ↔ j ≠ 0 ∧ j.natAbs.log2 < 9000 := by
  unfold divOk
  rw [Bool.and_eq_true, decide_eq_true_iff, decide_eq_true_iff]
theorem flat_rep {K : PySem.W.Frag} {G : Hp} {ρ : List Addr} {xs : List PV} {vs : List V} (h : Reps K G ρ xs vs) : ∀ n : Nat, Reps K G ρ (List.replicate n xs).flatten (List.replicate n vs).flatten
  | 0 => Reps.nil
  | n + 1 => by
    rw [List.replicate_succ, List.replicate_succ, List.flatten_cons, List.flatten_cons]
    exact h.app (flat_rep h n)
def CMulB (i j : Int) : Prop := i.natAbs.log2 + j.natAbs.log2 < 100000000
theorem CMulB.ok {i j : Int} (h : CMulB i j) : IntMulOk i j := by
  have b : ∀ x : Int, Builtin.Int.intBits x ≤ x.natAbs.log2 + 1 := fun x => by
    unfold Builtin.Int.intBits
    split <;> omega
  have h1 := b i
  have h2 := b j
  have h3 : i.natAbs.log2 + j.natAbs.log2 < 100000000 := h
  have e : bitsLine = 134217728 := by decide
  unfold IntMulOk
  intro z
  rw [Bool.and_eq_true] at z
  have z2 := z.2
  unfold Builtin.Int.intTooBig at z2
  have z3 := of_decide_eq_true z2
  rw [e] at z3
  omega
theorem op_mulB : OpR X (binaryOp .Mult) (rI CMulB fun i j => .int (i * j)) := opI fun _ _ _ _ _ _ _ hc q => mul_int q hc.ok
theorem mulOk_iff {i j : Int} : mulOk i j = true ↔ CMulB i j := by unfold mulOk CMulB; rw [decide_eq_true_iff]
theorem opv_mul : OpV X W (binaryOp .Mult) mulV := by
  intro pins s σ H x y v u Q I rx ry G ρ M px py σ' S hx hy q
  unfold mulV at q
  split at q
  · rw [rep_int] at hx hy; subst hx hy
    obtain ⟨hc, q⟩ := ite_outR q
    exact op_mulB pins s σ H _ _ v u Q I rx ry ⟨_, _, rfl, rfl, mulOk_iff.mp hc, outR_pure q S (rep_int.mpr rfl)⟩
  · rename_i xs k
    obtain ⟨hc, q⟩ := ite_outR q
    simp only [Bool.and_eq_true, decide_eq_true_iff, Bool.not_eq_true'] at hc
    obtain ⟨⟨⟨c1, c2⟩, c3⟩, c4⟩ := hc
    obtain ⟨a, vs, rfl, h1, h2⟩ := rep_tup.mp hx
    rw [rep_int] at hy; subst hy
    have l1 := Reps.length h2
    refine op_repT pins s σ H _ _ v u Q I rx ry ⟨a, k, vs, rfl, rfl, SqT.ext S.sub h1, fun e => ?_, c1, c2, by omega, new_tup S (flat_rep h2 _) q⟩
    subst e
    have := List.length_eq_zero_iff.mp l1
    subst this
    cases c4
  · exact q.elim
theorem opv_fdiv : OpV X W (binaryOp .FloorDiv) fdivV := by
  intro pins s σ H x y v u Q I rx ry G ρ M px py σ' S hx hy q
  unfold fdivV at q
  split at q
  · rw [rep_int] at hx hy; subst hx hy
    obtain ⟨hc, q⟩ := ite_outR q
    exact op_fdivG pins s σ H _ _ v u Q I rx ry ⟨_, _, rfl, rfl, divOk_iff.mp hc, outR_pure q S (rep_int.mpr rfl)⟩
  · exact q.elim
theorem opv_mod : OpV X W (binaryOp .Mod) modV := by
  intro pins s σ H x y v u Q I rx ry G ρ M px py σ' S hx hy q
  unfold modV at q
  split at q
  · rw [rep_int] at hx hy; subst hx hy
    obtain ⟨hc, q⟩ := ite_outR q
    exact op_modN pins s σ H _ _ v u Q I rx ry ⟨_, _, rfl, rfl, (divOk_iff.mp hc).1, outR_pure q S (rep_int.mpr rfl)⟩
  · exact q.elim
theorem opv_pow : OpV X W (binaryOp .Pow) powV := by
  intro pins s σ H x y v u Q I rx ry G ρ M px py σ' S hx hy q
  unfold powV at q
  split at q
  · rw [rep_int] at hx hy; subst hx hy
    obtain ⟨hc, q⟩ := ite_outR q
    simp only [Bool.and_eq_true, decide_eq_true_iff] at hc
    exact op_pow pins s σ H _ _ v u Q I rx ry ⟨_, _, rfl, rfl, ⟨hc.1.1, by omega, by omega⟩, outR_pure q S (rep_int.mpr rfl)⟩
  · exact q.elim

/-! ### comparisons -/
mutual
def dataOf : PV → Option PyData
  | .non => some .none
  | .bl b => some (.bool b)
  | .int i => some (.int i)
  | .str s => some (.str s)
  | .tup xs => (datasOf xs).map .tuple
  | .lst xs => (datasOf xs).map .list
  | _ => none
def datasOf : List PV → Option (List PyData)
  | [] => some []
  | x :: xs => match dataOf x, datasOf xs with
    | some d, some ds => some (d :: ds)
    | _, _ => none
end
mutual
theorem dataOf_ok {K : PySem.W.Frag} {G H : Hp} {ρ : List Addr} (sub : ∀ a o, G a = some o → H a = some o) : ∀ (x : PV) (d : PyData) (v : V), dataOf x = some d → Rep K G ρ x v → Dp K H v d
  | .non, d, v, e, h => by
    simp only [dataOf, Option.some.injEq] at e; subst e
    rw [rep_non] at h; subst h; exact .non
  | .bl b, d, v, e, h => by
    simp only [dataOf, Option.some.injEq] at e; subst e
    rw [rep_bl] at h; subst h; exact .bl _
  | .int b, d, v, e, h => by
    simp only [dataOf, Option.some.injEq] at e; subst e
    rw [rep_int] at h; subst h; exact .int _
  | .str b, d, v, e, h => by
    simp only [dataOf, Option.some.injEq] at e; subst e
    rw [rep_str] at h; subst h; exact .str _
  | .tup xs, d, v, e, h => by
    simp only [dataOf] at e
    cases q : datasOf xs with
    | none => rw [q] at e; cases e
    | some ds =>
      rw [q] at e; cases e
      obtain ⟨a, vs, rfl, h1, h2⟩ := rep_tup.mp h
      exact .tup (SqT.ext sub h1) (datasOf_ok sub xs ds vs q h2)
  | .lst xs, d, v, e, h => by
    simp only [dataOf] at e
    cases q : datasOf xs with
    | none => rw [q] at e; cases e
    | some ds =>
      rw [q] at e; cases e
      obtain ⟨a, vs, rfl, h1, h2⟩ := rep_lst.mp h
      exact .lst (SqL.ext sub h1) (datasOf_ok sub xs ds vs q h2)
  | .dct _ _, d, v, e, h => by simp only [dataOf] at e; cases e
  | .ins _ _ _, d, v, e, h => by simp only [dataOf] at e; cases e
  | .ref _, d, v, e, h => by simp only [dataOf] at e; cases e
  | .exn _ _, d, v, e, h => by simp only [dataOf] at e; cases e
theorem datasOf_ok {K : PySem.W.Frag} {G H : Hp} {ρ : List Addr} (sub : ∀ a o, G a = some o → H a = some o) : ∀ (xs : List PV) (ds : List PyData) (vs : List V), datasOf xs = some ds → Reps K G ρ xs vs → DpAll K H vs ds
  | [], ds, vs, e, h => by
    simp only [datasOf, Option.some.injEq] at e; subst e
    simp only [Reps] at h; subst h; exact .nil
  | x :: xs, ds, vs, e, h => by
    simp only [datasOf] at e
    cases q1 : dataOf x with
    | none => rw [q1] at e; cases e
    | some d =>
      cases q2 : datasOf xs with
      | none => rw [q1, q2] at e; cases e
      | some ds' =>
        rw [q1, q2] at e; cases e
        simp only [Reps] at h
        obtain ⟨v, r, rfl, h1, h2⟩ := h
        exact .cons (dataOf_ok sub x d v q1 h1) (datasOf_ok sub xs ds' r q2 h2)
end
def eqB (x y : PV) : Option Bool := match dataOf x, dataOf y with
  | some d, some e => if SeqAt.shaped d && SeqAt.shaped e then some (PyData.eqv d e) else none
  | _, _ => none
def eqW (x y : PV) : RM PV := match eqB x y with
  | some b => pure (.bl b)
  | none => RM.bad
def neW (x y : PV) : RM PV := match eqB x y with
  | some b => pure (.bl (!b))
  | none => RM.bad
theorem eqB_some {x y : PV} {b : Bool} (h : eqB x y = some b) : ∃ d e, dataOf x = some d ∧ dataOf y = some e ∧ SeqAt.shaped d = true ∧ SeqAt.shaped e = true ∧ PyData.eqv d e = b := by
  unfold eqB at h
  cases q1 : dataOf x with
  | none => rw [q1] at h; cases h
  | some d =>
    cases q2 : dataOf y with
    | none => rw [q1, q2] at h; cases h
    | some e =>
      rw [q1, q2] at h
      dsimp only at h
      by_cases c : (SeqAt.shaped d && SeqAt.shaped e) = true
      · rw [if_pos c] at h
        rw [Bool.and_eq_true] at c
        exact ⟨d, e, rfl, rfl, c.1, c.2, Option.some.inj h⟩
      · rw [if_neg c] at h; cases h
theorem eqW_ok {x y : PV} {α β : Type} {K : PySem.W.Frag} {G : Hp} {ρ : List Addr} {M : Mem} {σ : St} {Q : VK} (h : outR K (Rep K) W G ρ σ (eqW x y M) Q) :
    ∃ d e, dataOf x = some d ∧ dataOf y = some e ∧ SeqAt.shaped d = true ∧ SeqAt.shaped e = true ∧ outR K (Rep K) W G ρ σ ((pure (.bl (PyData.eqv d e)) : RM PV) M) Q := by
  unfold eqW at h
  cases q : eqB x y with
  | none => rw [q] at h; exact h.elim
  | some b =>
    rw [q] at h
    obtain ⟨d, e, h1, h2, h3, h4, rfl⟩ := eqB_some q
    exact ⟨d, e, h1, h2, h3, h4, h⟩
theorem neW_ok {x y : PV} {K : PySem.W.Frag} {G : Hp} {ρ : List Addr} {M : Mem} {σ : St} {Q : VK} (h : outR K (Rep K) W G ρ σ (neW x y M) Q) :
    ∃ d e, dataOf x = some d ∧ dataOf y = some e ∧ SeqAt.shaped d = true ∧ SeqAt.shaped e = true ∧ outR K (Rep K) W G ρ σ ((pure (.bl (!PyData.eqv d e)) : RM PV) M) Q := by
  unfold neW at h
  cases q : eqB x y with
  | none => rw [q] at h; exact h.elim
  | some b =>
    rw [q] at h
    obtain ⟨d, e, h1, h2, h3, h4, rfl⟩ := eqB_some q
    exact ⟨d, e, h1, h2, h3, h4, h⟩
theorem opv_eq (hu : X.A.units + 64 < cLine) : OpV X W (compareOp .Eq) eqW := by
  intro pins s σ H x y v u Q I rx ry G ρ M px py σ' S hx hy q
  obtain ⟨d, e, h1, h2, h3, h4, q⟩ := eqW_ok (α := Nat) (β := Nat) q
  exact op_eqD hu pins s σ H _ _ v u Q I rx ry ⟨d, e, dataOf_ok S.sub _ _ _ h1 hx, dataOf_ok S.sub _ _ _ h2 hy, h3, h4, outR_pure q S (rep_bl.mpr rfl)⟩
theorem opv_ne (hu : X.A.units + 64 < cLine) : OpV X W (compareOp .NotEq) neW := by
  intro pins s σ H x y v u Q I rx ry G ρ M px py σ' S hx hy q
  obtain ⟨d, e, h1, h2, h3, h4, q⟩ := neW_ok q
  exact op_neD hu pins s σ H _ _ v u Q I rx ry ⟨d, e, dataOf_ok S.sub _ _ _ h1 hx, dataOf_ok S.sub _ _ _ h2 hy, h3, h4, outR_pure q S (rep_bl.mpr rfl)⟩
def cmpW (p : Int → Int → Bool) : PV → PV → RM PV
  | .int i, .int j => pure (.bl (p i j))
  | _, _ => RM.bad
theorem opv_cmp {op : CmpOp} {p : Int → Int → Bool} (ho : OpR X (compareOp op) (rI0 fun i j => .bl (p i j))) : OpV X W (compareOp op) (cmpW p) := by
  intro pins s σ H x y v u Q I rx ry G ρ M px py σ' S hx hy q
  unfold cmpW at q
  split at q
  · rw [rep_int] at hx hy; subst hx hy
    exact ho pins s σ H _ _ v u Q I rx ry ⟨_, _, rfl, rfl, outR_pure q S (rep_bl.mpr rfl)⟩
  · exact q.elim
theorem opv_lt : OpV X W (compareOp .Lt) (cmpW fun i j => decide (i < j)) := opv_cmp op_lt
theorem opv_le : OpV X W (compareOp .LtE) (cmpW fun i j => decide (i ≤ j)) := opv_cmp op_le
theorem opv_gt : OpV X W (compareOp .Gt) (cmpW fun i j => decide (j < i)) := opv_cmp op_gt
theorem opv_ge : OpV X W (compareOp .GtE) (cmpW fun i j => decide (j ≤ i)) := opv_cmp op_ge
/-! in -/
def flatP : PV → Bool
  | .non => true | .bl _ => true | .int _ => true | .str _ => true
  | _ => false
def eqP : PV → PV → Bool
  | .non, .non => true
  | .bl a, .bl b => a == b
  | .bl a, .int b => (if a then 1 else 0) == b
  | .int a, .bl b => a == (if b then 1 else 0)
  | .int a, .int b => a == b
  | .str a, .str b => a == b
  | _, _ => false
def inSeq (x : PV) (ys : List PV) : RM Bool := if flatP x && ys.all flatP then pure (ys.any fun y => eqP y x) else RM.bad
/-- the one sign of a text -/
def sign? (x : Str) : Option Nat := match x.cps.toList with
  | [c] => some c
  | _ => none
theorem sign_eq {x : Str} {c : Nat} (h : sign? x = some c) : x = ⟨#[c]⟩ := by
  obtain ⟨⟨l⟩⟩ := x
  match l, h with
  | [d], h => cases h; rfl
def inM : PV → PV → RM Bool
  | x, .tup ys => inSeq x ys
  | x, .lst ys => inSeq x ys
  | .str x, .str z => match sign? x with
    | some c => pure (decide (c ∈ z.cps.toList))
    | none => RM.bad
  | _, _ => RM.bad
def inW (x y : PV) : RM PV := inM x y >>= fun b => pure (.bl b)
def ninW (x y : PV) : RM PV := inM x y >>= fun b => pure (.bl (!b))
theorem flat_V {K : PySem.W.Frag} {G : Hp} {ρ : List Addr} {x : PV} {v : V} (h : Rep K G ρ x v) (f : flatP x = true) : flatV v = true := by
  cases x with
  | non => rw [rep_non] at h; subst h; rfl
  | bl b => rw [rep_bl] at h; subst h; rfl
  | int b => rw [rep_int] at h; subst h; rfl
  | str b => rw [rep_str] at h; subst h; rfl
  | _ => cases f
theorem eq_V {K : PySem.W.Frag} {G : Hp} {ρ : List Addr} {x y : PV} {v u : V} (h : Rep K G ρ x v) (f : flatP x = true) (h' : Rep K G ρ y u) (f' : flatP y = true) : eqV v u = eqP x y := by
  cases x with
  | non => rw [rep_non] at h; subst h; cases y with
    | non => rw [rep_non] at h'; subst h'; rfl
    | bl b => rw [rep_bl] at h'; subst h'; rfl
    | int b => rw [rep_int] at h'; subst h'; rfl
    | str b => rw [rep_str] at h'; subst h'; rfl
    | _ => cases f'
  | bl b => rw [rep_bl] at h; subst h; cases y with
    | non => rw [rep_non] at h'; subst h'; rfl
    | bl b => rw [rep_bl] at h'; subst h'; rfl
    | int b => rw [rep_int] at h'; subst h'; rfl
    | str b => rw [rep_str] at h'; subst h'; rfl
    | _ => cases f'
  | int b => rw [rep_int] at h; subst h; cases y with
    | non => rw [rep_non] at h'; subst h'; rfl
    | bl b => rw [rep_bl] at h'; subst h'; rfl
    | int b => rw [rep_int] at h'; subst h'; rfl
    | str b => rw [rep_str] at h'; subst h'; rfl
    | _ => cases f'
  | str b => rw [rep_str] at h; subst h; cases y with
    | non => rw [rep_non] at h'; subst h'; rfl
    | bl b => rw [rep_bl] at h'; subst h'; rfl
    | int b => rw [rep_int] at h'; subst h'; rfl
    | str b => rw [rep_str] at h'; subst h'; rfl
    | _ => cases f'
  | _ => cases f
theorem flats_V {K : PySem.W.Frag} {G : Hp} {ρ : List Addr} : ∀ {ys : List PV} {vs : List V}, Reps K G ρ ys vs → ys.all flatP = true → vs.all flatV = true
  | [], vs, h, f => by simp only [Reps] at h; subst h; rfl
  | y :: ys, vs, h, f => by
    simp only [Reps] at h
    obtain ⟨v, r, rfl, h1, h2⟩ := h
    rw [List.all_cons, Bool.and_eq_true] at f ⊢
    exact ⟨flat_V h1 f.1, flats_V h2 f.2⟩
theorem in_V {K : PySem.W.Frag} {G : Hp} {ρ : List Addr} {x : PV} {v : V} (h : Rep K G ρ x v) (fx : flatP x = true) : ∀ {ys : List PV} {vs : List V}, Reps K G ρ ys vs → ys.all flatP = true → inV v vs = ys.any fun y => eqP y x
  | [], vs, r, f => by simp only [Reps] at r; subst r; rfl
  | y :: ys, vs, r, f => by
    simp only [Reps] at r
    obtain ⟨u, us, rfl, h1, h2⟩ := r
    rw [List.all_cons, Bool.and_eq_true] at f
    have ih := in_V h fx h2 f.2
    unfold inV at ih ⊢
    rw [List.any_cons, List.any_cons, ih, eq_V h1 f.1 h fx]
theorem bool_ite (n : Bool) (b : Bool) : (if n then !b else b) = (b != n) := by cases n <;> cases b <;> rfl
theorem opv_in_ {op : CmpOp} (n : Bool → Bool) (h1 : OpR X (compareOp op) (fun x y H Q => ∃ p xs, y = .ref p ∧ (SqL X.K H p xs ∨ SqT X.K H p xs) ∧ flatV x = true ∧ xs.all flatV = true ∧ Q (.bl (n (inV x xs))) H)) (h2 : OpR X (compareOp op) (fun x y H Q => ∃ (c : Nat) (z : Str), x = .str ⟨#[c]⟩ ∧ y = .str z ∧ Q (.bl (n (decide (c ∈ z.cps.toList)))) H)) :
    OpV X W (compareOp op) (fun x y => inM x y >>= fun b => pure (.bl (n b))) := by
  intro pins s σ H x y v u Q I rx ry G ρ M px py σ' S hx hy q
  unfold inM at q
  dsimp only at q
  split at q
  · rename_i ys
    rw [bind_eq] at q
    unfold inSeq at q
    by_cases c : (flatP px && ys.all flatP) = true
    · rw [if_pos c] at q
      rw [Bool.and_eq_true] at c
      obtain ⟨a, vs, rfl, h3, h4⟩ := rep_tup.mp hy
      refine h1 pins s σ H _ _ v u Q I rx ry ⟨a, vs, rfl, .inr (SqT.ext S.sub h3), flat_V hx c.1, flats_V h4 c.2, ?_⟩
      rw [in_V hx c.1 h4 c.2]
      exact outR_pure q S (rep_bl.mpr rfl)
    · rw [if_neg c] at q; exact q.elim
  · rename_i ys
    rw [bind_eq] at q
    unfold inSeq at q
    by_cases c : (flatP px && ys.all flatP) = true
    · rw [if_pos c] at q
      rw [Bool.and_eq_true] at c
      obtain ⟨a, vs, rfl, h3, h4⟩ := rep_lst.mp hy
      refine h1 pins s σ H _ _ v u Q I rx ry ⟨a, vs, rfl, .inl (SqL.ext S.sub h3), flat_V hx c.1, flats_V h4 c.2, ?_⟩
      rw [in_V hx c.1 h4 c.2]
      exact outR_pure q S (rep_bl.mpr rfl)
    · rw [if_neg c] at q; exact q.elim
  · rename_i w z
    rw [rep_str] at hx hy; subst hx hy
    cases e : sign? w with
    | none => rw [e] at q; exact q.elim
    | some c =>
      rw [e] at q
      exact h2 pins s σ H _ _ v u Q I rx ry ⟨c, z, by rw [sign_eq e], rfl, outR_pure q S (rep_bl.mpr rfl)⟩
  · exact q.elim
theorem opv_in : OpV X W (compareOp .In) inW := opv_in_ id op_in_seq op_in_sign
theorem opv_nin : OpV X W (compareOp .NotIn) ninW := opv_in_ not op_notIn_seq op_notIn_sign
/-! is -/
def isNon : PV → Bool
  | .non => true
  | _ => false
def isM : PV → PV → RM Bool
  | x, .non => pure (isNon x)
  | .bl a, .bl b => pure (decide (a = b))
  | _, _ => RM.bad
def isW (x y : PV) : RM PV := isM x y >>= fun b => pure (.bl b)
def nisW (x y : PV) : RM PV := isM x y >>= fun b => pure (.bl (!b))
theorem non_V {K : PySem.W.Frag} {G : Hp} {ρ : List Addr} {x : PV} {v : V} (h : Rep K G ρ x v) : decide (v = .non) = isNon x := by
  cases x with
  | non => rw [rep_non] at h; subst h; rfl
  | bl b => rw [rep_bl] at h; subst h; rfl
  | int b => rw [rep_int] at h; subst h; rfl
  | str b => rw [rep_str] at h; subst h; rfl
  | tup xs => obtain ⟨a, vs, rfl, _⟩ := rep_tup.mp h; rfl
  | lst xs => obtain ⟨a, vs, rfl, _⟩ := rep_lst.mp h; rfl
  | dct ks xs => simp only [Rep] at h; obtain ⟨a, vs, rfl, _⟩ := h; rfl
  | ins c ns xs => simp only [Rep] at h; obtain ⟨a, dx, vs, rfl, _⟩ := h; rfl
  | ref n => simp only [Rep] at h; obtain ⟨a, rfl, _⟩ := h; rfl
  | exn _ _ => simp only [Rep] at h
theorem opv_is : OpV X W (compareOp .Is) isW := by
  intro pins s σ H x y v u Q I rx ry G ρ M px py σ' S hx hy q
  unfold isW isM at q
  split at q
  · rw [rep_non] at hy; subst hy
    refine op_isN pins s σ H _ _ v u Q I rx ry ⟨rfl, ?_⟩
    rw [non_V hx]
    exact outR_pure q S (rep_bl.mpr rfl)
  · rw [rep_bl] at hx hy; subst hx hy
    exact op_isBl pins s σ H _ _ v u Q I rx ry ⟨_, _, rfl, rfl, outR_pure q S (rep_bl.mpr rfl)⟩
  · exact q.elim
theorem opv_nis : OpV X W (compareOp .IsNot) nisW := by
  intro pins s σ H x y v u Q I rx ry G ρ M px py σ' S hx hy q
  unfold nisW isM at q
  split at q
  · rw [rep_non] at hy; subst hy
    refine op_notN pins s σ H _ _ v u Q I rx ry ⟨rfl, ?_⟩
    rw [non_V hx]
    exact outR_pure q S (rep_bl.mpr rfl)
  · rw [rep_bl] at hx hy; subst hx hy
    exact op_notBl pins s σ H _ _ v u Q I rx ry ⟨_, _, rfl, rfl, outR_pure q S (rep_bl.mpr rfl)⟩
  · exact q.elim
end
end R
set_option maxHeartbeats 4000000
/-! R3: tests, displays, subscripts. -/
namespace R
open PySem PySem.Spec L2
open PyProof.Rows hiding St
section
variable {X : Cx} {W : WX} {a b c : Expr} {f g h : Env → RM PV} {pos : Pos}

theorem den_pt {K : PySem.W.Frag} {W : WX} {f : Env → RM PV} {t : TE} (hp : ∀ σ H Q, denE K W f σ H Q → t σ H Q) : ∀ (σ : St) (H : Hp) (Q : Bool → Hp → Prop), denT K W (fun s => f s >>= asB) σ H Q → tTest t σ H Q := fun σ H Q ⟨G, ρ, M, e, s, r, q⟩ => hp _ _ _ ⟨G, ρ, M, e, s, r, outR_bind q fun G1 ρ1 M1 x y H1 x1 s1 r1 h1 => by
    cases x with
    | bl b =>
      rw [rep_bl] at r1
      exact ⟨b, r1, outR_pure h1 s1 rfl⟩
    | _ => exact h1.elim⟩
theorem qe_cmp {op : CmpOp} {fo : PV → PV → RM PV} (ho : OpV X W (compareOp op) fo) (ha : QE X W a f) (hb : QE X W b g) (hm : behindInMarks op b = false) : QE X W (.Compare a [op] [b] pos) (f2 fo f g) :=
  ⟨PE.imp (pe_cmpR ho.opr ha.pe hb.pe hm) fun _ _ _ h => den_op2 h, PT.imp (pt_cmpR ho.opr ha.pe hb.pe hm) (den_pt fun _ _ _ h => den_op2 h)⟩
def fChain (fo fo' : PV → PV → RM PV) (f g h : Env → RM PV) : Env → RM PV := fun e => f e >>= fun x => g e >>= fun y => fo x y >>= asB >>= fun k => if k then h e >>= fun z => fo' y z else pure (.bl false)
theorem den_chain {fo fo' : PV → PV → RM PV} {σ : St} {H : Hp} {Q : VK} (hh : denE X.K W (fChain fo fo' f g h) σ H Q) : tChain (rV X W fo) (rV X W fo') (denE X.K W f) (denE X.K W g) (denE X.K W h) σ H Q := by
  obtain ⟨G, ρ, M, e, s, r, q⟩ := hh
  refine ⟨G, ρ, M, e, s, r, outR_bind q fun G1 ρ1 M1 x u H1 x1 s1 r1 q1 => ⟨G1, ρ1, M1, e, s1, r.ext x1, outR_bind q1 fun G2 ρ2 M2 y v H2 x2 s2 r2 q2 => ?_⟩⟩
  refine ⟨G2, ρ2, M2, x, y, σ, s2, r1.ext x2 _ _, r2, ?_⟩
  have q3 : outR X.K (Rep X.K) W G2 ρ2 σ ((fo x y >>= fun z => asB z >>= fun k => if k then h e >>= fun z => fo' y z else pure (.bl false)) M2) Q := by
    rw [bind_eq] at q2 ⊢
    rw [bind_eq] at q2
    cases w : fo x y M2 with
    | ok z M3 => rw [w] at q2; exact q2
    | exc c xs M3 => rw [w] at q2; exact q2
    | bad => rw [w] at q2; exact q2
  refine outR_bind q3 fun G3 ρ3 M3 z w H3 x3 s3 r3 q4 => ?_
  cases z with
  | bl k =>
    rw [rep_bl] at r3
    refine ⟨k, r3, ?_⟩
    have q5 : outR X.K (Rep X.K) W G3 ρ3 σ ((if k = true then h e >>= fun z => fo' y z else pure (.bl false) : RM PV) M3) Q := q4
    cases k with
    | true => exact ⟨G3, ρ3, M3, e, s3, (r.ext x1).ext (x2.trans x3), outR_bind q5 fun G4 ρ4 M4 t t' H4 x4 s4 r4 q6 => ⟨G4, ρ4, M4, y, t, σ, s4, r2.ext (x3.trans x4) _ _, r4, q6⟩⟩
    | false => exact outR_pure q5 s3 (rep_bl.mpr rfl)
  | _ => exact q4.elim
theorem qe_chain {op op' : CmpOp} {fo fo' : PV → PV → RM PV} (ho : OpV X W (compareOp op) fo) (ho' : OpV X W (compareOp op') fo') (ha : QE X W a f) (hb : QE X W b g) (hc : QE X W c h) (hm : lastMarks [op, op'] [b, c] = false) : QE X W (.Compare a [op, op'] [b, c] pos) (fChain fo fo' f g h) :=
  ⟨PE.imp (pe_chain ho.opr ho'.opr ha.pe hb.pe hc.pe hm) fun _ _ _ q => den_chain q, PT.imp (pt_chain ho.opr ho'.opr ha.pe hb.pe hc.pe hm) (den_pt fun _ _ _ q => den_chain q)⟩

/-! ### and, or, not, if-else -/
def fAnd (f g : Env → RM PV) : Env → RM PV := fun e => f e >>= asB >>= fun k => if k then g e else pure (.bl false)
def fOr (f g : Env → RM PV) : Env → RM PV := fun e => f e >>= asB >>= fun k => if k then pure (.bl true) else g e
def fNot (f : Env → RM PV) : Env → RM PV := fun e => f e >>= asB >>= fun k => pure (.bl (!k))
def fIf (c f g : Env → RM PV) : Env → RM PV := fun e => c e >>= asB >>= fun k => if k then f e else g e
/-- a value read as a truth, what follows -/
theorem outR_asB {α β : Type} {K : PySem.W.Frag} {Rl : Hp → List Addr → α → β → Prop} {m : RM PV} {k : Bool → RM α} {G : Hp} {ρ : List Addr} {M : Mem} {σ : St} {Q : β → Hp → Prop} {R' : V → Hp → Prop}
    (q : outR K Rl W G ρ σ ((m >>= asB >>= k) M) Q) (hk : ∀ b G' ρ' M' H, Ext G G' ρ ρ' → SimH K G' ρ' M' H → outR K Rl W G' ρ' σ (k b M') Q → R' (.bl b) H) : outR K (Rep K) W G ρ σ (m M) R' := by
  have q' : outR K Rl W G ρ σ ((m >>= fun x => asB x >>= k) M) Q := by
    rw [bind_eq] at q ⊢
    rw [bind_eq] at q
    cases w : m M with
    | ok z M3 => rw [w] at q; exact q
    | exc c xs M3 => rw [w] at q; exact q
    | bad => rw [w] at q; exact q
  refine outR_bind q' fun G1 ρ1 M1 x y H1 x1 s1 r1 q1 => ?_
  cases x with
  | bl b =>
    rw [rep_bl] at r1; subst r1
    exact hk b G1 ρ1 M1 H1 x1 s1 q1
  | _ => exact q1.elim
theorem outR_asT {α β : Type} {K : PySem.W.Frag} {Rl : Hp → List Addr → α → β → Prop} {m : RM PV} {k : Bool → RM α} {G : Hp} {ρ : List Addr} {M : Mem} {σ : St} {Q : β → Hp → Prop} {R' : Bool → Hp → Prop}
    (q : outR K Rl W G ρ σ ((m >>= asB >>= k) M) Q) (hk : ∀ b G' ρ' M' H, Ext G G' ρ ρ' → SimH K G' ρ' M' H → outR K Rl W G' ρ' σ (k b M') Q → R' b H) : outR K RB W G ρ σ ((m >>= asB) M) R' :=
  outR_bind q fun G1 ρ1 M1 x y H1 x1 s1 r1 q1 => by cases r1; exact hk x G1 ρ1 M1 H1 x1 s1 q1
theorem qe_and {rest : List Expr} (ha : QE X W a f) (hb : QE X W (.BoolOp .And (b :: rest) pos) g) (hw : PW X (.BoolOp .And (b :: rest) pos) (denT X.K W fun s => g s >>= asB)) :
    QE X W (.BoolOp .And (a :: b :: rest) pos) (fAnd f g) ∧ PW X (.BoolOp .And (a :: b :: rest) pos) (denT X.K W fun s => fAnd f g s >>= asB) := by
  have pw : PW X (.BoolOp .And (a :: b :: rest) pos) (denT X.K W fun s => fAnd f g s >>= asB) := PW.imp (pw_and ha.pt hw) fun σ H Q ⟨G, ρ, M, e, s, r, q⟩ => ⟨G, ρ, M, e, s, r, by
    have q' : outR X.K RB W G ρ σ ((f e >>= asB >>= fun k => (if k then g e else pure (.bl false)) >>= asB) M) Q := by
      unfold fAnd at q
      simp only [bind_eq] at q ⊢
      cases w : f e M with
      | ok z M3 =>
        rw [w] at q
        dsimp only at q ⊢
        cases w2 : asB z M3 with
        | ok k M4 => rw [w2] at q; exact q
        | exc c xs M3 => rw [w2] at q; exact q
        | bad => rw [w2] at q; exact q
      | exc c xs M3 => rw [w] at q; exact q
      | bad => rw [w] at q; exact q
    refine outR_asT q' fun k G1 ρ1 M1 H1 x1 s1 q1 => ?_
    cases k with
    | true => exact ⟨G1, ρ1, M1, e, s1, r.ext x1, q1⟩
    | false => exact outR_pure (x := false) q1 s1 rfl⟩
  refine ⟨⟨PE.imp (L2.pe_and ha.pe hb.pe) fun σ H Q ⟨G, ρ, M, e, s, r, q⟩ => ⟨G, ρ, M, e, s, r, outR_asB q fun k G1 ρ1 M1 H1 x1 s1 q1 => ⟨k, rfl, ?_⟩⟩, pw.pt⟩, pw⟩
  cases k with
  | true => exact ⟨G1, ρ1, M1, e, s1, r.ext x1, q1⟩
  | false => exact outR_pure q1 s1 (rep_bl.mpr rfl)
theorem qe_and1 (ha : QE X W a f) : QE X W (.BoolOp .And [a] pos) f ∧ PW X (.BoolOp .And [a] pos) (denT X.K W fun s => f s >>= asB) := ⟨⟨pe_one ha.pe, (pw_and1 ha.pt).pt⟩, pw_and1 ha.pt⟩
theorem qe_or1 (ha : QE X W a f) : QE X W (.BoolOp .Or [a] pos) f ∧ PW X (.BoolOp .Or [a] pos) (denT X.K W fun s => f s >>= asB) := ⟨⟨pe_one ha.pe, (pw_or1 ha.pt).pt⟩, pw_or1 ha.pt⟩
theorem qe_or {rest : List Expr} (ha : QE X W a f) (hb : QE X W (.BoolOp .Or (b :: rest) pos) g) (hw : PW X (.BoolOp .Or (b :: rest) pos) (denT X.K W fun s => g s >>= asB)) :
    QE X W (.BoolOp .Or (a :: b :: rest) pos) (fOr f g) ∧ PW X (.BoolOp .Or (a :: b :: rest) pos) (denT X.K W fun s => fOr f g s >>= asB) := by
  have pw : PW X (.BoolOp .Or (a :: b :: rest) pos) (denT X.K W fun s => fOr f g s >>= asB) := PW.imp (pw_or ha.pt hw) fun σ H Q ⟨G, ρ, M, e, s, r, q⟩ => ⟨G, ρ, M, e, s, r, by
    have q' : outR X.K RB W G ρ σ ((f e >>= asB >>= fun k => (if k then pure (.bl true) else g e) >>= asB) M) Q := by
      unfold fOr at q
      simp only [bind_eq] at q ⊢
      cases w : f e M with
      | ok z M3 =>
        rw [w] at q
        dsimp only at q ⊢
        cases w2 : asB z M3 with
        | ok k M4 => rw [w2] at q; exact q
        | exc c xs M3 => rw [w2] at q; exact q
        | bad => rw [w2] at q; exact q
      | exc c xs M3 => rw [w] at q; exact q
      | bad => rw [w] at q; exact q
    refine outR_asT q' fun k G1 ρ1 M1 H1 x1 s1 q1 => ?_
    cases k with
    | false => exact ⟨G1, ρ1, M1, e, s1, r.ext x1, q1⟩
    | true => exact outR_pure (x := true) q1 s1 rfl⟩
  refine ⟨⟨PE.imp (L2.pe_or ha.pe hb.pe) fun σ H Q ⟨G, ρ, M, e, s, r, q⟩ => ⟨G, ρ, M, e, s, r, outR_asB q fun k G1 ρ1 M1 H1 x1 s1 q1 => ⟨k, rfl, ?_⟩⟩, pw.pt⟩, pw⟩
  cases k with
  | false => exact ⟨G1, ρ1, M1, e, s1, r.ext x1, q1⟩
  | true => exact outR_pure q1 s1 (rep_bl.mpr rfl)
theorem qe_not (ha : QE X W a f) : QE X W (.UnaryOp .Not a pos) (fNot f) := by
  refine ⟨PE.imp (pe_not ha.pe) fun σ H Q ⟨G, ρ, M, e, s, r, q⟩ => ⟨G, ρ, M, e, s, r, outR_asB q fun k G1 ρ1 M1 H1 x1 s1 q1 => ⟨k, rfl, outR_pure q1 s1 (rep_bl.mpr rfl)⟩⟩, ?_⟩
  refine PT.imp (pt_not ha.pt) fun σ H Q ⟨G, ρ, M, e, s, r, q⟩ => ⟨G, ρ, M, e, s, r, ?_⟩
  have q' : outR X.K RB W G ρ σ ((f e >>= asB >>= fun k => pure (!k)) M) Q := by
    unfold fNot at q
    simp only [bind_eq] at q ⊢
    cases w : f e M with
    | ok z M3 =>
      rw [w] at q
      dsimp only at q ⊢
      cases w2 : asB z M3 with
      | ok k M4 => rw [w2] at q; exact q
      | exc c xs M3 => rw [w2] at q; exact q
      | bad => rw [w2] at q; exact q
    | exc c xs M3 => rw [w] at q; exact q
    | bad => rw [w] at q; exact q
  exact outR_asT q' fun k G1 ρ1 M1 H1 x1 s1 q1 => outR_pure q1 s1 rfl
theorem qe_ifExp (hc : QE X W c h) (ha : QE X W a f) (hb : QE X W b g) (ht : PT X (.IfExp c a b pos) (denT X.K W fun s => fIf h f g s >>= asB)) : QE X W (.IfExp c a b pos) (fIf h f g) := by
  refine ⟨PE.imp (pe_ifExp hc.pt ha.pe hb.pe) fun σ H Q ⟨G, ρ, M, e, s, r, q⟩ => ⟨G, ρ, M, e, s, r, outR_asT q fun k G1 ρ1 M1 H1 x1 s1 q1 => ?_⟩, ht⟩
  cases k with
  | true => exact ⟨G1, ρ1, M1, e, s1, r.ext x1, q1⟩
  | false => exact ⟨G1, ρ1, M1, e, s1, r.ext x1, q1⟩

/-! ### argument lists, displays -/
def fNil : Env → RM (List PV) := fun _ => pure []
def fCons (f : Env → RM PV) (g : Env → RM (List PV)) : Env → RM (List PV) := fun e => f e >>= fun x => g e >>= fun xs => pure (x :: xs)
def fStar (f : Env → RM PV) (g : Env → RM (List PV)) : Env → RM (List PV) := fun e => f e >>= fun x => (match x with
  | .tup ys => pure ys
  | .lst ys => pure ys
  | _ => RM.bad : RM (List PV)) >>= fun ys => g e >>= fun xs => pure (ys ++ xs)
def notStar : Expr → Bool
  | .Starred _ _ => false
  | _ => true
theorem starEach_cons {e : Expr} {es : List Expr} {env : PySem.Env} (h : notStar e = true) : starEach (e :: es) env = (false, eval e env) :: starEach es env := by
  cases e <;> first | rfl | cases h
/-- one more behind the arguments -/
def fApp (f : Env → RM (List PV)) (h : Env → RM PV) : Env → RM (List PV) := fun e => f e >>= fun xs => h e >>= fun y => pure (xs ++ [y])
structure QA (X : Cx) (W : WX) (es : List Expr) (f : Env → RM (List PV)) : Prop where
  pa : PA X es (denA X.K W f)
  ap : es.all notStar = true → ∀ (r : Expr) (h : Env → RM PV), notStar r = true → PET X r (denE X.K W h) → PAT X (es ++ [r]) (denA X.K W (fApp f h))
theorem PAT.imp {es : List Expr} {t t' : TA} (h : PAT X es t) (w : ∀ σ H Q, t' σ H Q → t σ H Q) : PAT X es t' := fun pos pins s σ H Q h0 I q => h pos pins s σ H Q h0 I (w σ H Q q)
theorem qa_nil : QA X W [] fNil := ⟨PA.imp pa_nil fun σ H Q ⟨G, ρ, M, e, s, r, q⟩ => outR_pure q s Reps.nil, fun _ r h hs hr => PAT.imp (pat_cons hr pat_nil (starEach_cons hs)) fun σ H Q ⟨G, ρ, M, e, s, r, q⟩ =>
  ⟨G, ρ, M, e, s, r, outR_bind (show outR X.K (Reps X.K) W G ρ σ ((h e >>= fun y => pure [y]) M) Q from q) fun G1 ρ1 M1 x y H1 x1 s1 r1 q1 => outR_pure q1 s1 (Reps.cons r1 Reps.nil)⟩⟩
theorem qa_cons {es : List Expr} {g : Env → RM (List PV)} (ha : QE X W a f) (hr : QA X W es g) (hs : notStar a = true) : QA X W (a :: es) (fCons f g) :=
  ⟨PA.imp (pa_cons ha.pe hr.pa (starEach_cons hs)) fun σ H Q ⟨G, ρ, M, e, s, r, q⟩ => ⟨G, ρ, M, e, s, r, outR_bind q fun G1 ρ1 M1 x y H1 x1 s1 r1 q1 =>
    ⟨G1, ρ1, M1, e, s1, r.ext x1, outR_bind q1 fun G2 ρ2 M2 xs ys H2 x2 s2 r2 q2 => outR_pure q2 s2 (Reps.cons (r1.ext x2 _ _) r2)⟩⟩, fun hall r h hsr hr' => by
    rw [List.all_cons, Bool.and_eq_true] at hall
    refine PAT.imp (pat_cons (fun pins s σ H Q _ I q => ha.pe.run pins s σ H Q I q) (hr.ap hall.2 r h hsr hr') (starEach_cons hs)) fun σ H Q ⟨G, ρ, M, e, s, r, q⟩ => ⟨G, ρ, M, e, s, r, ?_⟩
    have e1 : fApp (fCons f g) h e = (f e >>= fun x => fApp g h e >>= fun xs => pure (x :: xs)) := by
      funext M
      simp only [fApp, fCons, bind_eq, pure_eq]
      cases f e M with
      | ok x M1 =>
        dsimp only
        cases g e M1 with
        | ok xs M2 =>
          dsimp only
          cases h e M2 <;> rfl
        | _ => rfl
      | _ => rfl
    rw [e1] at q
    exact outR_bind q fun G1 ρ1 M1 x y H1 x1 s1 r1 q1 => ⟨G1, ρ1, M1, e, s1, r.ext x1, outR_bind q1 fun G2 ρ2 M2 xs ys H2 x2 s2 r2 q2 => outR_pure q2 s2 (Reps.cons (r1.ext x2 _ _) r2)⟩⟩
theorem qa_star {es : List Expr} {g : Env → RM (List PV)} {p : Pos} (ha : QE X W a f) (hr : QA X W es g) : QA X W (.Starred a p :: es) (fStar f g) :=
  ⟨PA.imp (StX.pa_star ha.pe hr.pa) fun σ H Q ⟨G, ρ, M, e, s, r, q⟩ => ⟨G, ρ, M, e, s, r, outR_bind q fun G1 ρ1 M1 x y H1 x1 s1 r1 q1 => by
    cases x with
    | tup zs =>
      obtain ⟨a, vs, rfl, h1, h2⟩ := rep_tup.mp r1
      exact ⟨a, vs, rfl, .inl (SqT.ext s1.sub h1), ⟨G1, ρ1, M1, e, s1, r.ext x1, outR_bind (show outR X.K (Reps X.K) W G1 ρ1 σ ((g e >>= fun xs => pure (zs ++ xs)) M1) Q from q1) fun G2 ρ2 M2 xs ys H2 x2 s2 r2 q2 => outR_pure q2 s2 ((h2.ext x2 _ _).app r2)⟩⟩
    | lst zs =>
      obtain ⟨a, vs, rfl, h1, h2⟩ := rep_lst.mp r1
      exact ⟨a, vs, rfl, .inr (SqL.ext s1.sub h1), ⟨G1, ρ1, M1, e, s1, r.ext x1, outR_bind (show outR X.K (Reps X.K) W G1 ρ1 σ ((g e >>= fun xs => pure (zs ++ xs)) M1) Q from q1) fun G2 ρ2 M2 xs ys H2 x2 s2 r2 q2 => outR_pure q2 s2 ((h2.ext x2 _ _).app r2)⟩⟩
    | _ => exact q1.elim⟩, fun hall => by cases hall⟩
def lineOk (xs : List PV) : Bool := decide (xs.length ≤ sizeLine)
def fTup (f : Env → RM (List PV)) : Env → RM PV := fun e => f e >>= fun xs => if lineOk xs then pure (.tup xs) else RM.bad
def fLst (f : Env → RM (List PV)) : Env → RM PV := fun e => f e >>= fun xs => if lineOk xs then pure (.lst xs) else RM.bad
/-- a list that is put into the memory -/
def fLstM (f : Env → RM (List PV)) : Env → RM PV := fun e => f e >>= fun xs => if lineOk xs then (fun M => .ok (.ref M.length) (M ++ [.lst xs])) else RM.bad
theorem qe_tup {es : List Expr} {f : Env → RM (List PV)} {k : Nat} (h : QA X W es f) : QE X W (.Tuple es k pos) (fTup f) :=
  QE.of (PE.imp (pe_tup h.pa) fun σ H Q ⟨G, ρ, M, e, s, r, q⟩ => ⟨G, ρ, M, e, s, r, outR_bind q fun G1 ρ1 M1 xs vs H1 x1 s1 r1 q1 => by
    obtain ⟨hc, q1⟩ := ite_outR q1
    exact ⟨by rw [← Reps.length r1]; exact of_decide_eq_true hc, new_tup s1 r1 q1⟩⟩)
theorem qe_lst {es : List Expr} {f : Env → RM (List PV)} (h : QA X W es f) : QE X W (.List es pos) (fLst f) :=
  QE.of (PE.imp (pe_lst h.pa) fun σ H Q ⟨G, ρ, M, e, s, r, q⟩ => ⟨G, ρ, M, e, s, r, outR_bind q fun G1 ρ1 M1 xs vs H1 x1 s1 r1 q1 => by
    obtain ⟨hc, q1⟩ := ite_outR q1
    exact ⟨by rw [← Reps.length r1]; exact of_decide_eq_true hc, new_lst s1 r1 q1⟩⟩)
/-- a list just laid, into the memory -/
theorem new_mem {G H : Hp} {ρ : List Addr} {M : Mem} {σ : St} {xs : List PV} {vs : List V} {Q : VK} (s : SimH X.K G ρ M H) (r : Reps X.K G ρ xs vs) (h : outR X.K (Rep X.K) W G ρ σ (.ok (.ref M.length) (M ++ [.lst xs])) Q) : ∀ p, H p = none → Q (.ref p) (upd H p (.lst vs)) := fun p hp => by
  obtain ⟨s', x⟩ := s.alloc (H' := upd H p (.lst vs)) hp (fun a o e => by rw [upd_ne (ne_of_none e hp)]; exact e) (o := .lst xs) ⟨vs, upd_same, r⟩
  refine outR_ok h x s' ?_
  simp only [Rep]
  exact ⟨p, rfl, by rw [← s.len]; simp⟩
theorem qe_lstM {es : List Expr} {f : Env → RM (List PV)} (h : QA X W es f) : QE X W (.List es pos) (fLstM f) :=
  QE.of (PE.imp (pe_lst h.pa) fun σ H Q ⟨G, ρ, M, e, s, r, q⟩ => ⟨G, ρ, M, e, s, r, outR_bind q fun G1 ρ1 M1 xs vs H1 x1 s1 r1 q1 => by
    by_cases hc : lineOk xs = true
    · rw [if_pos hc] at q1
      exact ⟨by rw [← Reps.length r1]; exact of_decide_eq_true hc, new_mem s1 r1 q1⟩
    · rw [if_neg hc] at q1; exact q1.elim⟩)
end
end R
set_option maxHeartbeats 4000000
/-! R4: subscripts, slices, attributes, built-ins by values. -/
namespace R
open PySem PySem.Spec L2
open PyProof.Rows hiding St
section
variable {X : Cx} {W : WX} {a b c : Expr} {f g h : Env → RM PV} {pos : Pos}
/-- what a memory's list holds -/
def memL (n : Nat) : RM (List PV) := fun M => match M[n]? with
  | some (.lst xs) => .ok xs M
  | _ => .bad
def optR {α : Type} : Option α → RM α
  | some x => pure x
  | none => RM.bad
def idxW : PV → PV → RM PV
  | .tup xs, .int i => optR (atI xs i)
  | .lst xs, .int i => optR (atI xs i)
  | .str z, .int i => if z.length ≤ sizeLine then optR ((atI z.cps.toList i).map fun c => .str ⟨#[c]⟩) else RM.bad
  | .ref n, .int i => memL n >>= fun xs => optR (atI xs i)
  | _, _ => RM.bad
theorem atI_rep {K : PySem.W.Frag} {G : Hp} {ρ : List Addr} {xs : List PV} {vs : List V} {i : Int} {x : PV} (r : Reps K G ρ xs vs) (h : atI xs i = some x) : ∃ v, atI vs i = some v ∧ Rep K G ρ x v := by
  unfold atI at h ⊢
  rw [← r.length]
  cases q : ixN xs.length i with
  | none => rw [q] at h; cases h
  | some j =>
    rw [q] at h
    exact r.get h
theorem outR_opt {α β : Type} {K : PySem.W.Frag} {Rl : Hp → List Addr → α → β → Prop} {o : Option α} {G : Hp} {ρ : List Addr} {M : Mem} {σ : St} {Q : β → Hp → Prop} (h : outR K Rl W G ρ σ (optR o M) Q) : ∃ x, o = some x ∧ outR K Rl W G ρ σ ((pure x : RM α) M) Q := by
  cases o with
  | none => exact h.elim
  | some x => exact ⟨x, rfl, h⟩
/-- the list of the memory, in the heap -/
theorem memL_ok {α β : Type} {K : PySem.W.Frag} {Rl : Hp → List Addr → α → β → Prop} {n : Nat} {k : List PV → RM α} {G H : Hp} {ρ : List Addr} {M : Mem} {σ : St} {Q : β → Hp → Prop} {v : V} (S : SimH K G ρ M H) (hx : Rep K G ρ (.ref n) v) (h : outR K Rl W G ρ σ ((memL n >>= k) M) Q) :
    ∃ xs a vs, M[n]? = some (.lst xs) ∧ ρ[n]? = some a ∧ v = .ref a ∧ H a = some (.lst vs) ∧ Reps K G ρ xs vs ∧ outR K Rl W G ρ σ (k xs M) Q := by
  rw [bind_eq] at h
  unfold memL at h
  cases q : M[n]? with
  | none => rw [q] at h; exact h.elim
  | some o =>
    cases o with
    | lst xs =>
      rw [q] at h
      simp only [Rep] at hx
      obtain ⟨a, rfl, e⟩ := hx
      obtain ⟨vs, e1, r⟩ := S.at_ e q
      exact ⟨xs, a, vs, rfl, e, rfl, e1, r, h⟩
    | dct ks xs => rw [q] at h; exact h.elim
    | ins c ns xs => rw [q] at h; exact h.elim
def plainIx : Expr → Bool
  | .Slice .. => false
  | _ => true
theorem plainIx_ok (h : plainIx b = true) : PlainIx b := fun o i => by
  cases b <;> first | rfl | cases h
theorem qe_idx (ha : QE X W a f) (hb : QE X W b g) (hp : plainIx b = true) : QE X W (.Subscript a b pos) (f2 idxW f g) := by
  refine QE.of (PE.imp (pe_ix (r := rV X W idxW) ?_ ha.pe hb.pe (plainIx_ok hp)) fun _ _ _ h => den_op2 h)
  intro value slice pins s σ H x y v u Q I rx ry ⟨G, ρ, M, px, py, σ', S, hx, hy, q⟩ hs
  unfold idxW at q
  split at q
  · obtain ⟨z, e, q⟩ := outR_opt q
    obtain ⟨p, vs, rfl, h1, h2⟩ := rep_tup.mp hx
    rw [rep_int] at hy; subst hy
    obtain ⟨w, e2, r⟩ := atI_rep h2 e
    exact ix_tup value slice pins s σ H _ _ v u Q I rx ry ⟨p, vs, _, w, rfl, rfl, SqT.ext S.sub h1, e2, outR_pure q S r⟩ hs
  · obtain ⟨z, e, q⟩ := outR_opt q
    obtain ⟨p, vs, rfl, h1, h2⟩ := rep_lst.mp hx
    rw [rep_int] at hy; subst hy
    obtain ⟨w, e2, r⟩ := atI_rep h2 e
    exact ix_list value slice pins s σ H _ _ v u Q I rx ry ⟨p, vs, _, w, rfl, rfl, SqL.ext S.sub h1, e2, outR_pure q S r⟩ hs
  · rw [rep_str] at hx; rw [rep_int] at hy; subst hx hy
    obtain ⟨hc, q⟩ := ite_outR q
    obtain ⟨z, e, q⟩ := outR_opt q
    cases q2 : atI (_ : Str).cps.toList _ with
    | none => rw [q2] at e; cases e
    | some c =>
      rw [q2] at e; cases e
      exact ix_str value slice pins s σ H _ _ v u Q I rx ry ⟨_, _, c, rfl, rfl, hc, q2, outR_pure q S (rep_str.mpr rfl)⟩ hs
  · rw [rep_int] at hy; subst hy
    obtain ⟨xs, p, vs, _, _, rfl, e1, r, q⟩ := memL_ok S hx q
    obtain ⟨z, e, q⟩ := outR_opt q
    obtain ⟨w, e2, r2⟩ := atI_rep r e
    exact ix_list value slice pins s σ H _ _ v u Q I rx ry ⟨p, vs, _, w, rfl, rfl, SqL.of e1, e2, outR_pure q S r2⟩ hs
  · exact q.elim

/-! ### slices -/
def cutP {α : Type} (xs : List α) (lo hi : Option Int) : List α := (xs.drop (HT.sIx xs.length 0 lo)).take (HT.sIx xs.length xs.length hi - HT.sIx xs.length 0 lo)
def sliceW : PV → Option Int → Option Int → RM PV
  | .tup xs, lo, hi => pure (.tup (cutP xs lo hi))
  | .lst xs, lo, hi => pure (.lst (cutP xs lo hi))
  | .str z, lo, hi => if z.length ≤ sizeLine then pure (.str (cutS z lo hi)) else RM.bad
  | .ref n, lo, hi => memL n >>= fun xs => pure (.lst (cutP xs lo hi))
  | _, _, _ => RM.bad
theorem cut_rep {K : PySem.W.Frag} {G : Hp} {ρ : List Addr} {xs : List PV} {vs : List V} {lo hi : Option Int} (r : Reps K G ρ xs vs) : Reps K G ρ (cutP xs lo hi) (cutV vs lo hi) := by
  unfold cutP cutV
  rw [r.length]
  exact (r.drop _).take _
def fNone : Env → RM (Option Int) := fun _ => pure none
def asI : PV → RM Int
  | .int i => pure i
  | _ => RM.bad
def fSome (f : Env → RM PV) : Env → RM (Option Int) := fun e => f e >>= asI >>= fun i => pure (some i)
abbrev RO : Hp → List Addr → Option Int → Option Int → Prop := fun _ _ a b => a = b
structure QO (X : Cx) (W : WX) (e : Option Expr) (f : Env → RM (Option Int)) : Prop where
  po : PO X e (den X.K RO W f)
theorem PO.imp {e : Option Expr} {t t' : TO} (h : PO X e t) (w : ∀ σ H Q, t' σ H Q → t σ H Q) : PO X e t' := ⟨fun pins s σ H Q I q => h.run pins s σ H Q I (w σ H Q q)⟩
theorem qo_none : QO X W none fNone := ⟨PO.imp po_none fun σ H Q ⟨G, ρ, M, e, s, r, q⟩ => outR_pure q s rfl⟩
theorem assoc_R {α β γ : Type} {m : RM α} {k : α → RM β} {l : β → RM γ} : (m >>= k >>= l) = (m >>= fun x => k x >>= l) := by
  funext M
  simp only [bind_eq]
  cases m M <;> rfl
theorem qo_some (ha : QE X W a f) : QO X W (some a) (fSome f) := ⟨PO.imp (po_some ha.pe) fun σ H Q ⟨G, ρ, M, e, s, r, q⟩ => ⟨G, ρ, M, e, s, r, by
  unfold fSome at q
  rw [assoc_R] at q
  exact outR_bind q fun G1 ρ1 M1 x y H1 x1 s1 r1 q1 => by
    cases x with
    | int i =>
      rw [rep_int] at r1
      exact ⟨i, r1, outR_pure q1 s1 rfl⟩
    | _ => exact q1.elim⟩⟩
def fSlice (f : Env → RM PV) (l u : Env → RM (Option Int)) : Env → RM PV := fun e => f e >>= fun x => l e >>= fun i => u e >>= fun j => sliceW x i j
theorem qe_slice {lo hi : Option Expr} {l u : Env → RM (Option Int)} {p2 : Pos} (ha : QE X W a f) (hl : QO X W lo l) (hu : QO X W hi u) : QE X W (.Subscript a (.Slice lo hi none p2) pos) (fSlice f l u) := by
  let r : V → Option Int → Option Int → Hp → VK → Prop := fun x i j H Q => ∃ G ρ M px σ', SimH X.K G ρ M H ∧ Rep X.K G ρ px x ∧ outR X.K (Rep X.K) W G ρ σ' (sliceW px i j M) Q
  have hr : SlR X r := by
    intro pins s σ H x v vl vu lo hi sl Q I rx hs pl pu ⟨G, ρ, M, px, σ', S, hx, q⟩
    unfold sliceW at q
    split at q
    · obtain ⟨p, vs, rfl, h1, h2⟩ := rep_tup.mp hx
      refine sl_tupA pins s σ H _ v vl vu _ _ sl Q I rx hs pl pu ⟨p, vs, rfl, SqT.ext S.sub h1, fun ⟨e1, e2⟩ => ?_, fun _ => new_tup S (cut_rep h2) q⟩
      refine outR_pure q S (rep_tup.mpr ⟨p, vs, rfl, h1, ?_⟩)
      have l := h2.length
      have e : ∀ xs : List PV, xs.length = vs.length → cutP xs lo hi = xs := fun xs l => by
        unfold cutP
        rw [l, e1, e2]
        rw [List.drop_zero, Nat.sub_zero, ← l, List.take_length]
      rw [e _ l]
      exact h2
    · obtain ⟨p, vs, rfl, h1, h2⟩ := rep_lst.mp hx
      exact sl_list pins s σ H _ v vl vu _ _ sl Q I rx hs pl pu ⟨p, vs, rfl, SqL.ext S.sub h1, new_lst S (cut_rep h2) q⟩
    · rw [rep_str] at hx; subst hx
      obtain ⟨hc, q⟩ := ite_outR q
      exact sl_str pins s σ H _ v vl vu _ _ sl Q I rx hs pl pu ⟨_, rfl, hc, outR_pure q S (rep_str.mpr rfl)⟩
    · obtain ⟨xs, p, vs, _, _, rfl, e1, r, q⟩ := memL_ok S hx q
      exact sl_list pins s σ H _ v vl vu _ _ sl Q I rx hs pl pu ⟨p, vs, rfl, SqL.of e1, new_lst S (cut_rep r) q⟩
    · exact q.elim
  refine QE.of (PE.imp (pe_slice hr ha.pe hl.po hu.po) fun σ H Q ⟨G, ρ, M, e, s, r, q⟩ => ⟨G, ρ, M, e, s, r, outR_bind q fun G1 ρ1 M1 x y H1 x1 s1 r1 q1 => ?_⟩)
  refine ⟨G1, ρ1, M1, e, s1, r.ext x1, outR_bind q1 fun G2 ρ2 M2 i i' H2 x2 s2 r2 q2 => ?_⟩
  cases r2
  refine ⟨G2, ρ2, M2, e, s2, (r.ext x1).ext x2, outR_bind q2 fun G3 ρ3 M3 j j' H3 x3 s3 r3 q3 => ?_⟩
  cases r3
  exact ⟨G3, ρ3, M3, x, σ, s3, r1.ext (x2.trans x3) _ _, q3⟩
/-! ### -x -/
def negW : PV → RM PV
  | .int i => pure (.int (-i))
  | _ => RM.bad
theorem qe_neg (ha : QE X W a f) : QE X W (.UnaryOp .USub a pos) (fun e => f e >>= negW) :=
  QE.of (PE.imp (pe_un un_neg ha.pe) fun σ H Q ⟨G, ρ, M, e, s, r, q⟩ => ⟨G, ρ, M, e, s, r, outR_bind q fun G1 ρ1 M1 x y H1 x1 s1 r1 q1 => by
    cases x with
    | int i =>
      rw [rep_int] at r1
      exact ⟨i, r1, outR_pure q1 s1 (rep_int.mpr rfl)⟩
    | _ => exact q1.elim⟩)
end
end R
set_option maxHeartbeats 4000000
/-! R4g: promises of defs where no repr is under way. -/
namespace R
open PySem PySem.Spec L2
open PyProof.Rows hiding St
structure RoomG (k : Nat) (A : Around) : Prop where
  rm : Room k A
  gd : A.guards = some []
theorem RoomG.mono {j k : Nat} {A : Around} (r : RoomG k A) (h : j ≤ k) : RoomG j A := ⟨r.rm.mono h, r.gd⟩
theorem RoomG.deeper {k : Nat} {A : Around} (r : RoomG (k + 1) A) (env : PySem.Env) : RoomG k (A.deeper env) := ⟨r.rm.deeper env, r.gd⟩
theorem RoomG.in1 {k : Nat} {A : Around} (r : RoomG (k + 1) A) : RoomG k A.in1 := ⟨r.rm.in1, r.gd⟩
theorem RoomG.make {k : Nat} {A : Around} (r : RoomG (k + 1) A) (C : Addr) (us : List Value) (kw : List (Str × Value)) : RoomG k (A.under (.builtin "type.__call__" ⟨.ref C :: us, kw⟩)) := ⟨r.rm.make C us kw, by
  have e : (A.under (.builtin "type.__call__" ⟨.ref C :: us, kw⟩)).guards = A.guards := by
    first | rfl | simp [Around.under, Code.guards, pushGuards]
  rw [e]; exact r.gd⟩
/-- a def's promise -/
structure FnOkG (P : Program) (w : World) (K : PySem.W.Frag) (mg : Str → Option Value) (base : Heap) (CX : CXT) (k : Nat) (f : Addr) (fd : FuncData) (ps : List Str) (sp : Sp) : Prop where
  len : ∀ vs H Q E, sp vs H Q E → vs.length = ps.length
  run : ∀ (A : Around) (outer : List PySem.Env) (s : Shared) (H : Hp) (args : Args) (us : List Value) (vs : List V) (Q : VK) (E : XK), RoomG k A → Env0 P w K mg base A outer s H → BindsTo s fd args (ps.zip us) → Vals vs us → sp vs H Q E →
    codeAny (model P w) A (.call (.ref f) args) (CR CX outer P w H s Q E) s
theorem FnOkG.mono {P : Program} {w : World} {K : PySem.W.Frag} {mg : Str → Option Value} {base : Heap} {CX : CXT} {j k : Nat} {f : Addr} {fd : FuncData} {ps : List Str} {sp : Sp} (F : FnOkG P w K mg base CX j f fd ps sp) (h : j ≤ k) : FnOkG P w K mg base CX k f fd ps sp :=
  ⟨F.len, fun A outer s H args us vs Q E hr => F.run A outer s H args us vs Q E (hr.mono h)⟩
theorem fnG_of {CX : CXT} {P : Program} {w : World} {K : PySem.W.Frag} {mg : Str → Option Value} {base : Heap} {k : Nat} {f : Addr} {name qual : Str} {params : Arguments} {body : List Stmt} {scope : Scope} {dvs : List V} {kws : List (Str × V)} {fd : FuncData} {N ps : List Str} {sp : Sp}
    (Fd : FunD K name qual params body scope dvs kws f fd) (S : FnScope N ps scope) (len : ∀ vs H Q E, sp vs H Q E → vs.length = ps.length)
    (hbody : ∀ (cdv : Value) (A : Around) (outer : List PySem.Env) (s : Shared) (H : Hp) (vs : List V) (Q : VK) (E : XK), RoomG k (A.deeper (envOfC qual scope s.heap.objs.size f cdv)) → sp vs H Q E →
      ∃ t, PSs (cxOf CX P w K mg base N qual scope f cdv A outer s H E) body t ∧ t { nx := fun _ H' => Q .non H', rt := Q } (L2.start N vs) H) :
    FnOkG P w K mg base CX (k + 1) f fd ps sp := by
  obtain ⟨oc, od, dV, kV, doc, pm, an, cdv, ct, osl, rfl, lk, hcd, _, _⟩ := Fd.ex
  refine ⟨len, fun A outer s H args us vs Q E hr e0 hb r hsp => ?_⟩
  have hl := len _ _ _ _ hsp
  have KX : K.In s.heap := e0.mod.kin.keeps fun b o e => (e0.bs b o e).1
  have lim : s.heap.NoLimit := e0.mod.nolimit.keeps fun b o e => (e0.bs b o e).1
  have hkind : ∀ y ∈ ps.zip us, scope.names.lookup y.1 = some .local ∨ (scope.names.lookup y.1 = some .cell ∧ ((cellsFrom (s.heap.objs.size + 1) scope.names []).lookup y.1).isSome = true) := fun ⟨n, v⟩ hy => by
    rcases S.par n (List.of_mem_zip hy).1 with q | q
    · exact .inl q
    · exact .inr ⟨q, PySem.W.cellsFrom_some _ _ _ (.inl q)⟩
  refine codeAny_call_function hr.rm.depth (KX _ _ lk) rfl S.co S.gen rfl (PySem.W.codeRec_of KX hcd) (hb _ _ _ _ ?_)
  refine wpAny_newFunctionEnv_cells S.kind hkind fun env he s1 x => ?_
  subst he
  refine ⟨lim.keeps x.toInCall.keep, codeAny_func ?_⟩
  obtain ⟨t, ht, hq⟩ := hbody cdv A outer s H vs Q E (hr.deeper _) hsp
  have I : Inv (cxOf CX P w K mg base N qual scope f cdv A outer s H E) [] (L2.start N vs) H s1 := inv_start S hr.rm.hd e0 hl r x
  refine wpAny_mono (ht.run [] s1 (L2.start N vs) H _ I hq) (fun fl s' hs => ?_) fun e s' hs => hs
  cases fl with
  | ret u =>
    obtain ⟨v, σ', H', J, rv, q⟩ := hs
    exact ⟨v, H', J.os, J.bare, J.base, J.hok, rv, q⟩
  | next =>
    obtain ⟨σ', H', J, q⟩ := hs
    exact ⟨V.non, H', J.os, J.bare, J.base, J.hok, rfl, q⟩
  | brk => exact hs.elim fun _ z => z.elim fun _ z => z.2.elim
  | cont => exact hs.elim fun _ z => z.elim fun _ z => z.2.elim
section
variable {X : Cx} {CX : CXT} {k : Nat} {f : Addr} {fd : FuncData} {ps : List Str} {sp : Sp} {E : St → XK}
theorem run_fnG {pins : List (Addr × Obj)} {σ : St} {H : Hp} {s : Shared} {Q : VK} {us : List Value} {vs : List V} (F : FnOkG X.prog X.w X.K X.mg X.base CX k f fd ps sp) (hr : RoomG k X.A) (hb : Binds X.K fd ps []) (hx : PassesAt CX X σ (E σ))
    (I : Inv X pins σ H s) (r : Vals vs us) (h : sp vs H Q (E σ)) : wpAny (model X.prog X.w) X.A (call (.ref f) us) (EP X pins σ Q) X.xe s := by
  have hl : us.length = ps.length := by rw [← r.length]; exact F.len _ _ _ _ h
  have b := hb s us I.kIn (by rw [List.append_nil]; exact hl)
  rw [List.append_nil] at b
  refine wpAny_call (codeAny_mono (F.run X.A X.stack s H ⟨us, []⟩ us vs Q (E σ) hr I.env0 b r h) fun r s' hq => ?_)
  cases r with
  | error e => exact hx pins H s e s' I hq
  | ok fl =>
    cases fl with
    | ret u => exact I.after hq
    | next => exact False.elim hq
    | brk => exact False.elim hq
    | cont => exact False.elim hq
/-- .. called with keywords: the values in the parameters' order -/
theorem run_fnGK {pins : List (Addr × Obj)} {σ : St} {H : Hp} {s : Shared} {Q : VK} {us : List Value} {vs : List V} {args : Args} (F : FnOkG X.prog X.w X.K X.mg X.base CX k f fd ps sp) (hr : RoomG k X.A) (hb : BindsTo s fd args (ps.zip us)) (hx : PassesAt CX X σ (E σ))
    (I : Inv X pins σ H s) (r : Vals vs us) (h : sp vs H Q (E σ)) : wpAny (model X.prog X.w) X.A (call (.ref f) args.pos args.kw) (EP X pins σ Q) X.xe s := by
  refine wpAny_call (codeAny_mono (F.run X.A X.stack s H args us vs Q (E σ) hr I.env0 hb r h) fun r s' hq => ?_)
  cases r with
  | error e => exact hx pins H s e s' I hq
  | ok fl =>
    cases fl with
    | ret u => exact I.after hq
    | next => exact False.elim hq
    | brk => exact False.elim hq
    | cont => exact False.elim hq
theorem pe_callG {x : Str} {p pos : Pos} {e : Expr} {es : List Expr} {t : TA} (F : FnOkG X.prog X.w X.K X.mg X.base CX k f fd ps sp) (hr : RoomG k X.A) (hg : Gl X x) (hm : X.mg x = some (.ref f)) (hk : PySem.W.keepIn X.K (.ref f) = true) (hb : Binds X.K fd ps []) (hx : ∀ σ, PassesAt CX X σ (E σ))
    (ha : PA X (e :: es) t) (hdb : (x == ("__debug__" : Str)) = false) (he : starEach (e :: es) X.env = (false, eval e X.env) :: starEach es X.env) (hpl : (backTo pos (starEach es X.env)).any (·.1) = false) :
    PE X (.Call (.Name x p) (e :: es) [] pos) (tCallS sp E t) := by
  refine ⟨fun pins s σ H Q I h => ?_⟩
  refine wpAny_Call_Name_kw (ld_glob I hg hm ?_ hdb)
  refine PySem.W.callWith_K (h₀ := X.base) I.ok.mod.kin hk (thn (ha.run pos pins s σ H _ I h) fun us s1 ⟨vs, H1, I1, r, q⟩ => ⟨I1.kIn, ?_⟩) he hpl
  exact run_fnG F hr hb (hx σ) I1 r q
theorem getpropG {C p g a dx : Addr} {fs : List (Str × V)} {fl : Str} {E0' : XK} {pins : List (Addr × Obj)} {σ : St} {H : Hp} {s : Shared} {Q : VK} {b : Bool} {E' : Value → Shared → Prop} (I : Inv X pins σ H s) (ea : H a = some (.ins C dx fs)) (c : Cls X.K C) (hp : PropOf X.K C fl p g)
    (F : FnOkG X.prog X.w X.K X.mg X.base CX k g fd ps sp) (hr : RoomG (k + 1) X.A) (hb : Binds X.K fd ps []) (hx : Passes CX X.nox E0') (h : sp [.ref a] H Q E0') :
    wpAny (model X.prog X.w) X.A (getAttr (.ref a) fl b) (EP X pins σ Q) E' s := by
  obtain ⟨mA, O, _, _, _, _⟩ := ins_get I.hok ea
  obtain ⟨od, J, _⟩ := O.look
  obtain ⟨rest, hrec⟩ := hp.rec_
  have I1 := I.tok (s.toks + 1)
  have hl : ([Value.ref a] ++ []).length = ps.length := by
    rw [← F.len _ _ _ _ h]; rfl
  have hc : (PySem.W.clsIn X.K C).isSome = true := by
    obtain ⟨cd, hc, _⟩ := PySem.W.any_some c.hd
    rw [hc]; rfl
  refine PySem.W.get_bind I.kIn J (PySem.W.plainGet_of (c.get fl)).1 (PySem.W.findObj_data hc hp.at_ hp.get hp.tak) (PySem.W.plainGet_of (c.get fl)).2 (wpAny_call (PySem.W.prop_get (s := { s with toks := s.toks + 1 }) I.kIn hrec ?_))
  refine codeAny_mono (F.run X.A.in1 X.stack { s with toks := s.toks + 1 } H ⟨[.ref a], []⟩ [.ref a] [.ref a] Q E0' hr.in1 I1.env0.in1 (hb _ [.ref a] I1.kIn hl) (.cons rfl .nil) h) fun r s' hq => ?_
  cases r with
  | error er => exact False.elim (hx pins σ H { s with toks := s.toks + 1 } er s' (I1.wish _) hq)
  | ok fl =>
    cases fl with
    | ret u =>
      obtain ⟨v, H', I3, rv, q3⟩ := I1.after hq
      show wpAny _ _ (handedOut u) _ _ _
      rw [PySem.W.handedOut_of (handed_of rv)]
      exact wpAny_pure ⟨v, H', I3, rv, q3⟩
    | next => exact False.elim hq
    | brk => exact False.elim hq
    | cont => exact False.elim hq
theorem pe_propG {C p g : Addr} {fl : Str} {e : Expr} {pos : Pos} {ta : TE} {E0' : XK} (he : PE X e ta) (c : Cls X.K C) (hp : PropOf X.K C fl p g) (F : FnOkG X.prog X.w X.K X.mg X.base CX k g fd ps sp) (hr : RoomG (k + 1) X.A) (hb : Binds X.K fd ps []) (hx : Passes CX X.nox E0')
    (hab : attributeBase e fl X.env (eval e X.env) = eval e X.env) : PE X (.Attribute e fl pos) (tProp C sp [] E0' ta) := by
  refine ⟨fun pins s σ H Q I h => ?_⟩
  refine attr_of hab (thn (he.run pins s σ H _ I h) fun u s1 ⟨x, H1, I1, rx, a, dx, fs, ex, ea, q⟩ => ?_)
  subst ex
  obtain rfl : u = Value.ref a := rx
  exact getpropG I1 ea c hp F hr hb hx q
end
/-- the call of the law, its promise where no repr is under way -/
theorem law_callG {P : Program} {w : World} {K : PySem.W.Frag} {mg mb : Str → Option Value} {CX : CXT} {k : Nat} {fa a : Addr} {fd : FuncData} {x : Str} {sp : Sp} {s₁ : Shared} {vs : List Value} {ns : List Int}
    (KX : K.In s₁.heap) (hns : s₁.heap.Ns mainGlobals mg) (hb : s₁.heap.Ns builtinsNs mb) (hbb : ∀ x : Str, x ≠ "__name__" → mb x = bootBuiltins x) (hlim : s₁.heap.NoLimit) (hg : s₁.gens = #[])
    (ha : s₁.heap.get? a = some { cls := .type "list", data := .seq vs.toArray }) (hi : IntsAre vs ns) (hl : ns.length ≤ sizeLine) (hr : RoomG k callerA)
    (F : ∀ base : Heap, K.In base → base.Ns mainGlobals mg → FnOkG P w K mg base CX k fa fd [x] sp) (hbind : ∀ (s : Shared) (u : Value), BindsTo s fd ⟨[u], []⟩ [(x, u)])
    (hsp : ∀ H : Hp, Only H → SqL K H a (ns.map V.int) → sp [.ref a] H (fun v _ => v = .bl true) fun _ _ _ => False)
    (hCX : ∀ H e s', CX [] H s₁ (fun _ _ _ => False) e s' → False) :
    codeAny (model P w) callerA (.call (.ref fa) ⟨[.ref a], []⟩) (fun r s' => r = .ok (.ret (.bool true)) ∧ OldK s₁.heap s'.heap ∧ s'.os = s₁.os ∧ AllBare s'.gens) s₁ := by
  have rv := vals_ints hi
  have lenV := hi.length
  have core : ∀ H : Hp, Only H → SqL K H a (ns.map V.int) → HOk P w H s₁.heap → (∀ b, H b ≠ none → b = a) → (H a ≠ none → K.lookup a = none) →
      codeAny (model P w) callerA (.call (.ref fa) ⟨[.ref a], []⟩) (fun r s' => r = .ok (.ret (.bool true)) ∧ OldK s₁.heap s'.heap ∧ s'.os = s₁.os ∧ AllBare s'.gens) s₁ := by
    intro H hO hS hok hA hK
    have noA : ∀ {b : Addr} {o : Obj} {es : Array DictEntry} {ep : Nat}, s₁.heap.get? b = some o → o.data = .dict es ep → H b = none := fun {b o es ep} e d => by
      cases q : H b with
      | none => rfl
      | some u =>
        have e' : b = a := hA b (by rw [q]; simp)
        subst e'
        rw [ha] at e; cases e
        have d' : Data.seq vs.toArray _ = Data.dict es ep := d
        cases d'
    have nsK : ∀ {b : Addr} {m : Str → Option Value}, s₁.heap.Ns b m → (hidT s₁.heap H).Ns b m := fun {b m} ⟨o, es, ep, e, d, r⟩ => ⟨o, es, ep, hidT_get e (noA e d), d, r⟩
    have hKb : K.In (hidT s₁.heap H) := fun b o e => hidT_get (KX b o e) (by
      cases q : H b with
      | none => rfl
      | some u =>
        have e' : b = a := hA b (by rw [q]; simp)
        subst e'
        rw [hK (by rw [q]; simp)] at e; cases e)
    have hM : Mod K mg (hidT s₁.heap H) := ⟨hKb, nsK hns, ⟨mb, nsK hb, hbb⟩, let ⟨mc, h1, h2⟩ := hlim; ⟨mc, nsK h1, h2⟩⟩
    have e0 : Env0 P w K mg (hidT s₁.heap H) callerA [] s₁ H := ⟨rfl, hM, fun b o e => of_hidT e, Nat.le_of_eq (hidT_size _ _), trivial, fun b hb => absurd (show b ∈ ([] : List Addr) from hb) (by simp), hok, .of_eq hg⟩
    refine codeAny_mono ((F _ hKb (nsK hns)).run callerA [] s₁ H ⟨[.ref a], []⟩ [.ref a] [.ref a] _ _ hr e0 (hbind s₁ (.ref a)) (.cons rfl .nil) (hsp H hO hS)) fun r s' h => ?_
    cases r with
    | error e => exact (hCX H e s' h).elim
    | ok fl =>
      cases fl with
      | next => exact False.elim h
      | brk => exact False.elim h
      | cont => exact False.elim h
      | ret u =>
        obtain ⟨v, H', os, bare, un, hok', r', q⟩ := h
        have q' : v = .bl true := q
        subst q'
        obtain rfl : u = Value.bool true := r'
        refine ⟨rfl, OldK.of_keep fun b o e => ?_, os, bare⟩
        cases q : H b with
        | none => exact un.keep b o e q (by intro z; exact absurd (show b ∈ ([] : List Addr) from z) (by simp)) (by simp)
        | some u =>
          rcases hO b with z | ⟨ob, xs, z⟩
          · rw [q] at z; cases z
          · have z2 := un.frzs b ob _ z
            obtain ⟨e1, _⟩ := hok b _ z
            obtain ⟨e2, _⟩ := hok' b _ z2
            rw [e] at e1; cases e1
            exact e2
  cases hk : K.lookup a with
  | some o =>
    have e := KX a o hk
    rw [ha] at e
    cases e
    refine core (fun _ => none) (fun _ => .inl rfl) (.inr ⟨_, vs.toArray, _, hk, rfl, rfl, rfl, by rw [List.size_toArray, lenV]; exact hl, by simpa using rv⟩) (fun b u z => by have z' : (none : Option HO) = some u := z; cases z') (fun b z => absurd rfl z) fun z => absurd rfl z
  | none =>
    refine core (fun b => if b = a then some (.frz { cls := .type "list", data := .seq vs.toArray } (.lst (ns.map V.int))) else none) (fun b => ?_) (.inl (.inr ⟨{ cls := .type "list", data := .seq vs.toArray }, if_pos rfl⟩)) (fun b u z => ?_) (fun b z => ?_) fun _ => hk
    · by_cases hb : b = a
      · exact .inr ⟨_, _, if_pos hb⟩
      · exact .inl (if_neg hb)
    · by_cases hb : b = a
      · have z' := (if_pos hb).symm.trans z
        cases z'
        subst hb
        exact ⟨ha, by rw [List.length_map]; exact hl, vs, _, rv, ha⟩
      · have z' := (if_neg hb).symm.trans z
        cases z'
    · by_cases hb : b = a
      · exact hb
      · exact absurd (if_neg hb) z
end R
set_option maxHeartbeats 4000000
/-! R5: attributes, calls of the program's defs, methods, properties, new objects. -/
namespace R
open PySem PySem.Spec L2
open PyProof.Rows hiding St
section
variable {X : Cx} {W : WX} {CX : CXT} {a b c o : Expr} {f g h : Env → RM PV} {pos : Pos}
theorem outR.wish {α β : Type} {K : PySem.W.Frag} {Rl : Hp → List Addr → α → β → Prop} {W W' : WX} {G : Hp} {ρ : List Addr} {σ σ' : St} {r : Res α} {Q : β → Hp → Prop} (w : ∀ cls d H, W cls d σ H → W' cls d σ' H) (h : outR K Rl W G ρ σ r Q) : outR K Rl W' G ρ σ' r Q := by
  cases r with
  | ok a M => exact h
  | exc c xs M => exact fun G2 ρ2 H2 cls d a b c => w _ _ _ (h G2 ρ2 H2 cls d a b c)
  | bad => exact h
/-! ### what a def promises -/
def spOf (K : PySem.W.Frag) (n : Nat) (φ : List PV → RM PV) : Sp := fun vs H Q E => ∃ G ρ M xs, vs.length = n ∧ SimH K G ρ M H ∧ Reps K G ρ xs vs ∧ outR K (Rep K) (fun cls d _ H => E cls d H) G ρ [] (φ xs M) Q
theorem spOf_of {K : PySem.W.Frag} {φ : List PV → RM PV} {G H : Hp} {ρ : List Addr} {M : Mem} {xs : List PV} {vs : List V} {Q : VK} {σ : St} (n : Nat) (hn : φ xs M ≠ .bad → xs.length = n) (s : SimH K G ρ M H) (r : Reps K G ρ xs vs) (q : outR K (Rep K) W G ρ σ (φ xs M) Q) : spOf K n φ vs H Q (WE W σ) := by
  refine ⟨G, ρ, M, xs, ?_, s, r, outR.wish (fun _ _ _ h => h) q⟩
  rw [← r.length]
  exact hn fun e => by rw [e] at q; exact q
theorem star_any : ∀ {es : List Expr} {env : PySem.Env} {pos : Pos}, es.all notStar = true → (backTo pos (starEach es env)).any (·.1) = false
  | [], _, _, _ => rfl
  | e :: es, env, pos, h => by
    rw [List.all_cons, Bool.and_eq_true] at h
    rw [starEach_cons h.1]
    show (false || (backTo pos (starEach es env)).any (·.1)) = false
    rw [star_any h.2]; rfl
/-- a def as it may be called here -/
structure FnC0 (P : Program) (w : World) (K : PySem.W.Frag) (mg : Str → Option Value) (base : Heap) (CX : CXT) (k : Nat) (f : Addr) (n : Nat) (φ : List PV → RM PV) : Prop where
  ok : ∃ fd ps, ps.length = n ∧ FnOkG P w K mg base CX k f fd ps (spOf K n φ) ∧ Binds K fd ps []
  kp : PySem.W.keepIn K (.ref f) = true
  ar : ∀ xs M, φ xs M ≠ .bad → xs.length = n
abbrev FnC (X : Cx) := FnC0 X.prog X.w X.K X.mg X.base
theorem qe_call {e : Expr} {es : List Expr} {x : Str} {p : Pos} {k : Nat} {f : Addr} {n : Nat} {φ : List PV → RM PV} {fa : Env → RM (List PV)} (F : FnC X CX k f n φ) (hr : RoomG k X.A) (hg : Gl X x) (hm : X.mg x = some (.ref f)) (tk : ∀ σ, PassesAt CX X σ (WE W σ))
    (ha : QA X W (e :: es) fa) (hs : (e :: es).all notStar = true) (hdb : (x == ("__debug__" : Str)) = false) : QE X W (.Call (.Name x p) (e :: es) [] pos) (fun e => fa e >>= φ) := by
  obtain ⟨fd, ps, hl, F1, hb⟩ := F.ok
  rw [List.all_cons, Bool.and_eq_true] at hs
  exact QE.of (PE.imp (pe_callG F1 hr hg hm F.kp hb tk ha.pa hdb (starEach_cons hs.1) (star_any hs.2)) fun σ H Q ⟨G, ρ, M, e, s, r, q⟩ => ⟨G, ρ, M, e, s, r, outR_bind q fun G1 ρ1 M1 xs vs H1 x1 s1 r1 q1 => spOf_of n (F.ar _ _) s1 r1 q1⟩)
theorem pe_callS0 {CX : CXT} {k : Nat} {f : Addr} {fd : FuncData} {ps : List Str} {sp : Sp} {E : St → XK} {x : Str} {p : Pos} (F : FnOkG X.prog X.w X.K X.mg X.base CX k f fd ps sp) (hr : RoomG k X.A) (hg : Gl X x) (hm : X.mg x = some (.ref f)) (hk : PySem.W.keepIn X.K (.ref f) = true) (hb : Binds X.K fd ps []) (hx : ∀ σ, PassesAt CX X σ (E σ))
    (hdb : (x == ("__debug__" : Str)) = false) : PE X (.Call (.Name x p) [] [] pos) (tCallS sp E tNil) := by
  refine ⟨fun pins s σ H Q I h => ?_⟩
  refine wpAny_Call_Name_kw (ld_glob I hg hm ?_ hdb)
  exact PySem.W.callWith_K0 I.kIn hk (run_fnG (us := []) F hr hb (hx σ) I .nil h)
theorem qe_call0 {x : Str} {p : Pos} {k : Nat} {f : Addr} {φ : List PV → RM PV} (F : FnC X CX k f 0 φ) (hr : RoomG k X.A) (hg : Gl X x) (hm : X.mg x = some (.ref f)) (tk : ∀ σ, PassesAt CX X σ (WE W σ)) (hdb : (x == ("__debug__" : Str)) = false) : QE X W (.Call (.Name x p) [] [] pos) (fun _ => φ []) := by
  obtain ⟨fd, ps, hl, F1, hb⟩ := F.ok
  exact QE.of (PE.imp (pe_callS0 F1 hr hg hm F.kp hb tk hdb) fun σ H Q ⟨G, ρ, M, e, s, r, q⟩ => spOf_of 0 (F.ar _ _) s Reps.nil q)

/-! ### attributes -/
/-- the fields that stand for the receiver -/
def memI (n : Nat) : RM (Str × List Str × List PV) := fun M => match M[n]? with
  | some (.ins c ns xs) => .ok (c, ns, xs) M
  | _ => .bad
def fieldsOf : PV → RM (Str × List Str × List PV)
  | .ins c ns xs => pure (c, ns, xs)
  | .ref n => memI n
  | _ => RM.bad
theorem fieldsOf_ok {α β : Type} {K : PySem.W.Frag} {Rl : Hp → List Addr → α → β → Prop} {x : PV} {k : Str × List Str × List PV → RM α} {G H : Hp} {ρ : List Addr} {M : Mem} {σ : St} {Q : β → Hp → Prop} {v : V} (S : SimH K G ρ M H) (hx : Rep K G ρ x v) (h : outR K Rl W G ρ σ ((fieldsOf x >>= k) M) Q) :
    ∃ c ns xs a dx vs, v = .ref a ∧ H a = some (.ins (He.ga K c) dx (ns.zip vs)) ∧ ns.length = vs.length ∧ Reps K G ρ xs vs ∧ outR K Rl W G ρ σ (k (c, ns, xs) M) Q ∧ fieldsOf x M = .ok (c, ns, xs) M := by
  rw [bind_eq] at h
  cases x with
  | ins c ns xs =>
    simp only [Rep] at hx
    obtain ⟨a, dx, vs, rfl, e, l, r⟩ := hx
    exact ⟨c, ns, xs, a, dx, vs, rfl, S.sub _ _ e, l, r, h, rfl⟩
  | ref n =>
    simp only [Rep] at hx
    obtain ⟨a, rfl, e⟩ := hx
    rw [show fieldsOf (.ref n) = memI n from rfl] at h
    unfold memI at h
    cases q : M[n]? with
    | none => rw [q] at h; exact h.elim
    | some u =>
      cases u with
      | ins c ns xs =>
        rw [q] at h
        obtain ⟨dx, vs, e1, l, r⟩ := S.at_ e q
        exact ⟨c, ns, xs, a, dx, vs, rfl, e1, l, r, h, by show memI n M = _; unfold memI; rw [q]⟩
      | lst xs => rw [q] at h; exact h.elim
      | dct ks xs => rw [q] at h; exact h.elim
  | _ => exact h.elim
theorem zip_look {K : PySem.W.Frag} {G : Hp} {ρ : List Addr} {f : Str} : ∀ {ns : List Str} {xs : List PV} {vs : List V} {x : PV}, Reps K G ρ xs vs → (ns.zip xs).lookup f = some x → ∃ v, (ns.zip vs).lookup f = some v ∧ Rep K G ρ x v
  | [], xs, vs, x, r, h => by simp at h
  | n :: ns, [], vs, x, r, h => by simp at h
  | n :: ns, y :: xs, vs, x, r, h => by
    simp only [Reps] at r
    obtain ⟨v, us, rfl, r1, r2⟩ := r
    rw [List.zip_cons_cons, List.lookup_cons] at h ⊢
    cases e : f == n with
    | true => rw [e] at h; cases h; exact ⟨v, rfl, r1⟩
    | false => rw [e] at h; exact zip_look r2 h
theorem zip_none {f : Str} : ∀ {ns : List Str} {vs : List V}, ns.contains f = false → (ns.zip vs).lookup f = none
  | [], vs, h => by simp
  | n :: ns, [], h => by simp
  | n :: ns, v :: vs, h => by
    rw [List.contains_cons, Bool.or_eq_false_iff] at h
    rw [List.zip_cons_cons, List.lookup_cons, h.1]
    exact zip_none h.2
/-- o.f: ok c says that f is a field of the class c and nothing else -/
def fldW (ok : Str → Bool) (f : Str) (x : PV) : RM PV := fieldsOf x >>= fun t => if ok t.1 then optR ((t.2.1.zip t.2.2).lookup f) else RM.bad
def notSuper : Expr → Bool
  | .Call (.Name _ _) [] [] _ => false
  | _ => true
theorem base_ok {m : Str} {env : PySem.Env} (h : notSuper o = true) : attributeBase o m env (eval o env) = eval o env := by
  unfold attributeBase
  cases o <;> try rfl
  rename_i f args kws p
  cases f <;> try rfl
  cases args <;> try rfl
  cases kws <;> first | rfl | cases h
theorem qe_fld {ok : Str → Bool} {fl : Str} (hc : ∀ c, ok c = true → Cls X.K (He.ga X.K c) ∧ NoAttr X.K (He.ga X.K c) fl) (ha : QE X W o f) (hn : notSuper o = true) : QE X W (.Attribute o fl pos) (fun e => f e >>= fldW ok fl) :=
  QE.of (PE.imp (pe_fld ha.pe (base_ok hn)) fun σ H Q ⟨G, ρ, M, e, s, r, q⟩ => ⟨G, ρ, M, e, s, r, outR_bind q fun G1 ρ1 M1 x y H1 x1 s1 r1 q1 => by
    obtain ⟨c, ns, xs, a, dx, vs, rfl, e1, l, r2, q2, _⟩ := fieldsOf_ok s1 r1 q1
    obtain ⟨hok, q2⟩ := ite_outR q2
    obtain ⟨z, e2, q3⟩ := outR_opt q2
    obtain ⟨v, e3, r3⟩ := zip_look r2 e2
    obtain ⟨h1, h2⟩ := hc c hok
    exact ⟨a, _, dx, _, v, rfl, e1, h1, h2, e3, outR_pure q3 s1 r3⟩⟩)

/-! ### methods, properties -/
theorem meth_eval {m : Str} {apos : Pos} {args : List Expr} {env : PySem.Env} (hn : notSuper o = true) (hst : args.all notStar = true) (hl : args.length < 30) (hline : (apos.endLine == pos.line) = true) :
    eval (.Call (.Attribute o m apos) args [] pos) env = (do
      let ov ← eval o env
      standAt apos.atName
      let (f, first) ← holding [ov] (getMethod ov m (do return (← importBound o env).getD true))
      callWith pos f first (backTo pos (starEach args env)) (backToKw pos (keywordEach [] env))) := by
  show (do
    let ov ← attributeBase o m env (eval o env)
    standAt apos.atName
    methodCall o m apos pos env ov (args.length + 0) (backTo pos (starEach args env)) (backToKw pos (keywordEach [] env))) = _
  rw [base_ok hn]
  have hall : (backTo pos (starEach args env)).all (!·.1) = true := by
    have h := star_any (env := env) (pos := pos) hst
    rw [List.all_eq_not_any_not]
    simp only [Bool.not_not]
    rw [h]; rfl
  have few : methodCallForm (args.length + 0) (backTo pos (starEach args env)) (backToKw pos (keywordEach [] env)) = true := by
    unfold methodCallForm
    rw [hall]
    show (true && true && decide (args.length + 0 + 0 < 30)) = true
    simpa using hl
  unfold methodCall
  rw [few]
  unfold calleeOf methodCallPos
  simp only [if_true, hline, Bool.not_true, Bool.false_or, pure_bind]
/-- o.m(..), m a method of the classes that ok tells: by classes, the def's function -/
def methW (ok : Str → Bool) (m : Str) (φ : List PV → RM PV) (x : PV) (args : RM (List PV)) : RM PV := fieldsOf x >>= fun t => if ok t.1 && !t.2.1.contains m then args >>= fun ys => φ (x :: ys) else RM.bad
theorem meth_den {cn : Str} {m : Str} {n : Nat} {φ : List PV → RM PV} {fa : Env → RM (List PV)} {σ : St} {H : Hp} {Q : VK} (har : ∀ xs M, φ xs M ≠ .bad → xs.length = n) (h : denE X.K W (fun e => f e >>= fun x => methW (· == cn) m φ x (fa e)) σ H Q) :
    denE X.K W f σ H fun x H1 => ∃ a dx fs, x = .ref a ∧ H1 a = some (.ins (He.ga X.K cn) dx fs) ∧ fs.lookup m = none ∧ denA X.K W fa σ H1 fun vs H2 => spOf X.K n φ (x :: vs) H2 Q (WE W σ) := by
  obtain ⟨G, ρ, M, e, s, r, q⟩ := h
  refine ⟨G, ρ, M, e, s, r, outR_bind q fun G1 ρ1 M1 x y H1 x1 s1 r1 q1 => ?_⟩
  obtain ⟨c, ns, xs, a, dx, vs, rfl, e1, l, r2, q2, _⟩ := fieldsOf_ok s1 r1 q1
  obtain ⟨hok, q4⟩ := ite_outR q2
  clear q2 q1
  rw [Bool.and_eq_true, Bool.not_eq_true'] at hok
  have hcn : c = cn := by simpa using hok.1
  subst hcn
  exact ⟨a, dx, _, rfl, e1, zip_none hok.2, ⟨G1, ρ1, M1, e, s1, r.ext x1, outR_bind q4 fun G2 ρ2 M2 ys us H2 x2 s2 r2 q3 => spOf_of n (har _ _) s2 (Reps.cons (r1.ext x2 _ _) r2) q3⟩⟩
theorem qe_meth {cn : Str} {m : Str} {apos : Pos} {e0 : Expr} {es : List Expr} {k : Nat} {fn : Addr} {n : Nat} {φ : List PV → RM PV} {fa : Env → RM (List PV)} (cl : Cls X.K (He.ga X.K cn)) (hm : Meth X.K (He.ga X.K cn) m fn) (F : FnC X CX k fn n φ) (hr : RoomG k X.A) (tk : ∀ σ, PassesAt CX X σ (WE W σ)) (ho : QE X W o f)
    (ha : QA X W (e0 :: es) fa) (hn : notSuper o = true) (hst : (e0 :: es).all notStar = true) (hl : (e0 :: es).length < 30) (hline : (apos.endLine == pos.line) = true) :
    QE X W (.Call (.Attribute o m apos) (e0 :: es) [] pos) (fun e => f e >>= fun x => methW (· == cn) m φ x (fa e)) := by
  obtain ⟨fd, ps, hlen, F1, hb⟩ := F.ok
  refine QE.of ⟨fun pins s σ H Q I hd => ?_⟩
  refine PySem.W.methodCall_KW (pl := do return (← importBound o X.env).getD true) (thn (ho.pe.run pins s σ H _ I (meth_den F.ar hd)) fun u s1 ⟨x, H1, I1, rx, a, dx, fs, ex, ea, l, q⟩ => ?_) (meth_eval hn hst hl hline)
  subst ex
  obtain rfl : u = Value.ref a := rx
  refine getmeth_ok I1 ea cl hm l ?_
  rw [List.all_cons, Bool.and_eq_true] at hst
  refine PySem.W.callWith_K (first := [.ref a]) (h₀ := X.base) I.ok.mod.kin hm.kp (thn (ha.pa.run pos pins s1 σ H1 _ I1 q) fun us s2 ⟨vs, H2, I2, r, q2⟩ => ⟨I2.kIn, ?_⟩) (starEach_cons hst.1) (star_any hst.2)
  exact run_fnG (us := .ref a :: us) (vs := .ref a :: vs) F1 hr hb (tk σ) I2 (.cons rfl r) q2
theorem qe_meth0 {cn : Str} {m : Str} {apos : Pos} {k : Nat} {fn : Addr} {n : Nat} {φ : List PV → RM PV} (cl : Cls X.K (He.ga X.K cn)) (hm : Meth X.K (He.ga X.K cn) m fn) (F : FnC X CX k fn n φ) (hr : RoomG k X.A) (tk : ∀ σ, PassesAt CX X σ (WE W σ)) (ho : QE X W o f)
    (hn : notSuper o = true) (hline : (apos.endLine == pos.line) = true) :
    QE X W (.Call (.Attribute o m apos) [] [] pos) (fun e => f e >>= fun x => methW (· == cn) m φ x (pure [])) := by
  obtain ⟨fd, ps, hlen, F1, hb⟩ := F.ok
  refine QE.of ⟨fun pins s σ H Q I hd => ?_⟩
  refine PySem.W.methodCall_KW (pl := do return (← importBound o X.env).getD true) (thn (ho.pe.run pins s σ H _ I (meth_den (fa := fNil) F.ar hd)) fun u s1 ⟨x, H1, I1, rx, a, dx, fs, ex, ea, l, q⟩ => ?_) (meth_eval hn rfl (by decide) hline)
  subst ex
  obtain rfl : u = Value.ref a := rx
  refine getmeth_ok I1 ea cl hm l ?_
  obtain ⟨G, ρ, M, e, S, r, q⟩ := q
  exact PySem.W.callWith_K0 (first := [.ref a]) I1.kIn hm.kp (run_fnG (us := [.ref a]) (vs := [.ref a]) F1 hr hb (tk σ) I1 (.cons rfl .nil) (outR_pure q S Reps.nil))
/-- what raises is not told -/
def quietR (m : RM PV) : RM PV := fun M => match m M with
  | .ok x M' => .ok x M'
  | _ => .bad
/-- o.f, a property -/
theorem qe_prop {cn : Str} {fl : Str} {p g : Addr} {k : Nat} {n : Nat} {φ : List PV → RM PV} (cl : Cls X.K (He.ga X.K cn)) (hp : PropOf X.K (He.ga X.K cn) fl p g) (F : FnC X CX k g n φ) (pl : Passes CX X.nox E0) (hr : RoomG (k + 1) X.A) (ho : QE X W o f) (hn : notSuper o = true) :
    QE X W (.Attribute o fl pos) (fun e => f e >>= fun x => fieldsOf x >>= fun t => if t.1 == cn then quietR (φ [x]) else RM.bad) := by
  obtain ⟨fd, ps, hlen, F1, hb⟩ := F.ok
  refine QE.of (PE.imp (pe_propG (E0' := E0) ho.pe cl hp F1 hr hb pl (base_ok hn)) fun σ H Q ⟨G, ρ, M, e, s, r, q⟩ => ⟨G, ρ, M, e, s, r, outR_bind q fun G1 ρ1 M1 x y H1 x1 s1 r1 q1 => ?_⟩)
  obtain ⟨c, ns, xs, a, dx, vs, rfl, e1, l, r2, q2, _⟩ := fieldsOf_ok s1 r1 q1
  obtain ⟨hok, q4⟩ := ite_outR q2
  clear q2 q1
  have hcn : c = cn := by simpa using hok
  subst hcn
  have q2 := q4
  clear q4
  refine ⟨a, dx, _, rfl, e1, G1, ρ1, M1, [x], ?_, s1, Reps.cons r1 Reps.nil, ?_⟩
  · unfold quietR at q2
    cases w : φ [x] M1 with
    | ok z M2 => exact F.ar [x] M1 (by rw [w]; intro z; cases z)
    | exc c xs M2 => rw [w] at q2; exact q2.elim
    | bad => rw [w] at q2; exact q2.elim
  · unfold quietR at q2
    cases w : φ [x] M1 with
    | ok z M2 => rw [w] at q2; exact q2
    | exc c xs M2 => rw [w] at q2; exact q2.elim
    | bad => rw [w] at q2; exact q2.elim
end
end R
set_option maxHeartbeats 4000000
/-! R6: what the memory forgets behind a call; new instances. -/
namespace R
open PySem PySem.Spec L2
open PyProof.Rows hiding St
mutual
def noRef (n : Nat) : PV → Bool
  | .ref m => decide (m < n)
  | .tup xs => noRefs n xs
  | .lst xs => noRefs n xs
  | .dct _ xs => noRefs n xs
  | .ins _ _ xs => noRefs n xs
  | .exn _ _ => false
  | .non => true
  | .bl _ => true
  | .int _ => true
  | .str _ => true
def noRefs (n : Nat) : List PV → Bool
  | [] => true
  | x :: xs => noRef n x && noRefs n xs
end
def noRefO (n : Nat) : MO → Bool
  | .lst xs => noRefs n xs
  | .dct _ xs => noRefs n xs
  | .ins _ _ xs => noRefs n xs
section
variable {K : PySem.W.Frag} {G G' : Hp} {ρ : List Addr}
mutual
theorem Rep.noRef : ∀ (x : PV) (v : V), Rep K G ρ x v → R.noRef ρ.length x = true
  | .non, v, h => by simp only [R.noRef]
  | .bl _, v, h => by simp only [R.noRef]
  | .int _, v, h => by simp only [R.noRef]
  | .str _, v, h => by simp only [R.noRef]
  | .tup xs, v, h => by
    obtain ⟨a, vs, _, _, r⟩ := rep_tup.mp h
    simp only [R.noRef]; exact Reps.noRefs xs vs r
  | .lst xs, v, h => by
    obtain ⟨a, vs, _, _, r⟩ := rep_lst.mp h
    simp only [R.noRef]; exact Reps.noRefs xs vs r
  | .dct ks xs, v, h => by
    simp only [Rep] at h
    obtain ⟨a, vs, _, _, _, r⟩ := h
    simp only [R.noRef]; exact Reps.noRefs xs vs r
  | .ins c ns xs, v, h => by
    simp only [Rep] at h
    obtain ⟨a, dx, vs, _, _, _, r⟩ := h
    simp only [R.noRef]; exact Reps.noRefs xs vs r
  | .ref n, v, h => by
    simp only [Rep] at h
    obtain ⟨a, _, e⟩ := h
    simp only [R.noRef, decide_eq_true_eq]
    exact (List.getElem?_eq_some_iff.mp e).1
  | .exn _ _, v, h => by simp only [Rep] at h
theorem Reps.noRefs : ∀ (xs : List PV) (vs : List V), Reps K G ρ xs vs → R.noRefs ρ.length xs = true
  | [], vs, h => by simp only [R.noRefs]
  | x :: xs, vs, h => by
    simp only [Reps] at h
    obtain ⟨v, r, rfl, h1, h2⟩ := h
    simp only [R.noRefs, Rep.noRef x v h1, Reps.noRefs xs r h2, Bool.and_self]
end
theorem RepO.noRef {H : Hp} {a : Addr} {o : MO} (h : RepO K G ρ H a o) : noRefO ρ.length o = true := by
  cases o with
  | lst xs => obtain ⟨vs, _, r⟩ := h; exact Reps.noRefs xs vs r
  | dct ks xs => obtain ⟨vs, _, _, r⟩ := h; exact Reps.noRefs xs vs r
  | ins c ns xs => obtain ⟨dx, vs, _, _, r⟩ := h; exact Reps.noRefs xs vs r
mutual
theorem Rep.cut (n : Nat) : ∀ (x : PV) (v : V), Rep K G ρ x v → R.noRef n x = true → Rep K G (ρ.take n) x v
  | .non, v, h, f => by simp only [Rep] at h ⊢; exact h
  | .bl _, v, h, f => by simp only [Rep] at h ⊢; exact h
  | .int _, v, h, f => by simp only [Rep] at h ⊢; exact h
  | .str _, v, h, f => by simp only [Rep] at h ⊢; exact h
  | .tup xs, v, h, f => by
    obtain ⟨a, vs, h1, h2, r⟩ := rep_tup.mp h
    simp only [R.noRef] at f
    exact rep_tup.mpr ⟨a, vs, h1, h2, Reps.cut n xs vs r f⟩
  | .lst xs, v, h, f => by
    obtain ⟨a, vs, h1, h2, r⟩ := rep_lst.mp h
    simp only [R.noRef] at f
    exact rep_lst.mpr ⟨a, vs, h1, h2, Reps.cut n xs vs r f⟩
  | .dct ks xs, v, h, f => by
    simp only [Rep] at h ⊢
    obtain ⟨a, vs, h1, h2, h3, r⟩ := h
    simp only [R.noRef] at f
    exact ⟨a, vs, h1, h2, h3, Reps.cut n xs vs r f⟩
  | .ins c ns xs, v, h, f => by
    simp only [Rep] at h ⊢
    obtain ⟨a, dx, vs, h1, h2, h3, r⟩ := h
    simp only [R.noRef] at f
    exact ⟨a, dx, vs, h1, h2, h3, Reps.cut n xs vs r f⟩
  | .ref m, v, h, f => by
    simp only [Rep] at h ⊢
    obtain ⟨a, h1, e⟩ := h
    simp only [R.noRef, decide_eq_true_eq] at f
    exact ⟨a, h1, by rw [List.getElem?_take_of_lt f]; exact e⟩
  | .exn _ _, v, h, f => by simp only [Rep] at h
theorem Reps.cut (n : Nat) : ∀ (xs : List PV) (vs : List V), Reps K G ρ xs vs → R.noRefs n xs = true → Reps K G (ρ.take n) xs vs
  | [], vs, h, f => by simp only [Reps] at h ⊢; exact h
  | x :: xs, vs, h, f => by
    simp only [Reps] at h ⊢
    obtain ⟨v, r, e, h1, h2⟩ := h
    simp only [R.noRefs, Bool.and_eq_true] at f
    exact ⟨v, r, e, Rep.cut n x v h1 f.1, Reps.cut n xs r h2 f.2⟩
end
theorem RepO.cut {H : Hp} {a : Addr} {o : MO} (n : Nat) (h : RepO K G ρ H a o) (f : noRefO n o = true) : RepO K G (ρ.take n) H a o := by
  cases o with
  | lst xs => obtain ⟨vs, e, r⟩ := h; exact ⟨vs, e, r.cut n _ _ f⟩
  | dct ks xs => obtain ⟨vs, e, l, r⟩ := h; exact ⟨vs, e, l, r.cut n _ _ f⟩
  | ins c ns xs => obtain ⟨dx, vs, e, l, r⟩ := h; exact ⟨dx, vs, e, l, r.cut n _ _ f⟩
end
/-- what stood is as it was or names nothing new -/
def Keeps (M0 M1 : Mem) : Prop := M0.length ≤ M1.length ∧ ∀ (i : Nat) (o : MO), i < M0.length → M1[i]? = some o → M0[i]? = some o ∨ noRefO M0.length o = true
open Classical in
/-- behind a call the new objects are forgotten, if nothing names them -/
noncomputable def trim (M0 : Mem) : Res PV → Res PV
  | .ok x M1 => if noRef M0.length x = true ∧ Keeps M0 M1 then .ok x (M1.take M0.length) else .ok x M1
  | .exc c xs M1 => if noRefs M0.length xs = true ∧ Keeps M0 M1 then .exc c xs (M1.take M0.length) else .exc c xs M1
  | .bad => .bad
theorem trim_y {M0 M1 : Mem} {x : PV} (c : noRef M0.length x = true ∧ Keeps M0 M1) : trim M0 (.ok x M1) = .ok x (M1.take M0.length) := if_pos c
theorem trim_n {M0 M1 : Mem} {x : PV} (c : ¬ (noRef M0.length x = true ∧ Keeps M0 M1)) : trim M0 (.ok x M1) = .ok x M1 := if_neg c
theorem trim_ey {M0 M1 : Mem} {k : Str} {x : List PV} (c : noRefs M0.length x = true ∧ Keeps M0 M1) : trim M0 (.exc k x M1) = .exc k x (M1.take M0.length) := if_pos c
theorem trim_en {M0 M1 : Mem} {k : Str} {x : List PV} (c : ¬ (noRefs M0.length x = true ∧ Keeps M0 M1)) : trim M0 (.exc k x M1) = .exc k x M1 := if_neg c
section
variable {K : PySem.W.Frag} {G0 G1 H0 H1 : Hp} {ρ0 ρ1 : List Addr} {M0 M1 : Mem}
theorem take_same (s0 : SimH K G0 ρ0 M0 H0) (x : Ext G0 G1 ρ0 ρ1) : ρ1.take M0.length = ρ0 := by
  apply List.ext_getElem?
  intro i
  by_cases hi : i < M0.length
  · rw [List.getElem?_take_of_lt hi]
    have : i < ρ0.length := by rw [s0.len]; exact hi
    rw [List.getElem?_eq_getElem this]
    exact x.r i _ (List.getElem?_eq_getElem this)
  · rw [List.getElem?_eq_none (by simp; omega), List.getElem?_eq_none (by rw [s0.len]; omega)]
theorem trim_sim (s0 : SimH K G0 ρ0 M0 H0) (s1 : SimH K G1 ρ1 M1 H1) (x : Ext G0 G1 ρ0 ρ1) (k : Keeps M0 M1) : SimH K G1 ρ0 (M1.take M0.length) H1 := by
  have e := take_same s0 x
  refine ⟨s1.sub, by rw [List.length_take, s0.len]; have := k.1; omega, s0.nd, fun n a o e1 e2 => ?_⟩
  have hn : n < M0.length := by
    have := (List.getElem?_eq_some_iff.mp e1).1
    rw [s0.len] at this; exact this
  rw [List.getElem?_take_of_lt hn] at e2
  obtain ⟨g, r⟩ := s1.obj n a o (x.r _ _ e1) e2
  refine ⟨g, ?_⟩
  have f : noRefO M0.length o = true := by
    rcases k.2 n o hn e2 with h | h
    · have := (s0.obj n a o e1 h).2.noRef
      rw [s0.len] at this; exact this
    · exact h
  have := r.cut M0.length f
  rw [e] at this; exact this
theorem trim_ok {W : WX} {σ : St} {Q : VK} {r : Res PV} (s0 : SimH K G0 ρ0 M0 H0) (h : outR K (Rep K) W G0 ρ0 σ (trim M0 r) Q) : outR K (Rep K) W G0 ρ0 σ r Q := by
  cases r with
  | bad => exact h
  | ok v M1 =>
    intro G' ρ' H' y x s r
    by_cases c : noRef M0.length v = true ∧ Keeps M0 M1
    · rw [trim_y c] at h
      refine h G' ρ0 H' y ⟨x.g, fun _ _ h => h⟩ (trim_sim s0 s x c.2) ?_
      have := r.cut M0.length _ _ c.1
      rw [take_same s0 x] at this; exact this
    · rw [trim_n c] at h
      exact h G' ρ' H' y x s r
  | exc c xs M1 =>
    intro G' ρ' H' cls d x s r
    by_cases cc : noRefs M0.length xs = true ∧ Keeps M0 M1
    · rw [trim_ey cc] at h
      refine h G' ρ0 H' cls d ⟨x.g, fun _ _ h => h⟩ (trim_sim s0 s x cc.2) ⟨r.1, ?_⟩
      rcases r.2 with z | ⟨dd, f, v, y, e1, e2, e3, e4⟩
      · exact .inl z
      · refine .inr ⟨dd, f, v, y, e1, e2, e3, ?_⟩
        have c1 := cc.1
        subst e2
        simp only [noRefs, Bool.and_true] at c1
        have := e4.cut M0.length _ _ c1
        rw [take_same s0 x] at this; exact this
    · rw [trim_en cc] at h
      exact h G' ρ' H' cls d x s r
end
/-! ### new instances -/
section
variable {X : Cx} {W : WX} {CX : CXT} {k : Nat} {f C : Addr} {fd : FuncData} {ps : List Str} {sp : Sp} {E : XK}
theorem run_makeS {pins : List (Addr × Obj)} {σ : St} {H : Hp} {s : Shared} {Q : VK} {us : List Value} {vs : List V} (M : Mk X.K C f) (F : FnOkG X.prog X.w X.K X.mg X.base CX k f fd ps sp) (hr : RoomG (k + 1) X.A) (hb : Binds X.K fd ps [])
    (hx : PassesAt CX X σ E) (I : Inv X pins σ H s) (r : Vals vs us)
    (h : ∀ x dx, H x = none → H dx = none → dx ≠ x → sp (.ref x :: vs) (upd (upd H dx (.own x)) x (.ins C dx [])) (fun v H2 => v = .non ∧ Q (.ref x) H2) E) :
    wpAny (model X.prog X.w) X.A (call (.ref C) us) (EP X pins σ Q) X.xe s := by
  have hq := h (s.heap.objs.size + 1) s.heap.objs.size (I.hok.fresh (Nat.le_succ _)) (I.hok.fresh (Nat.le_refl _)) (Nat.ne_of_lt (Nat.lt_succ_self _))
  have I2 := Inv.made (C := C) I
  have r2 : Vals (V.ref (s.heap.objs.size + 1) :: vs) (Value.ref (s.heap.objs.size + 1) :: us) := .cons rfl r
  have hl : (Value.ref (s.heap.objs.size + 1) :: us).length = ps.length := by
    have e := r2.length
    rw [F.len _ _ _ _ hq] at e
    exact e.symm
  have b := hb _ (Value.ref (s.heap.objs.size + 1) :: us) I2.kIn (by rw [List.append_nil]; exact hl)
  rw [List.append_nil] at b
  refine wpAny_call (make_map (f := f) I.kIn M.makes M.init (beq_iff_eq.mp M.fn) (codeAny_mono (F.run _ X.stack _ _ ⟨Value.ref (s.heap.objs.size + 1) :: us, []⟩ (Value.ref (s.heap.objs.size + 1) :: us) _ _ E (hr.make C us [])
    (I2.env0.make C us []) b r2 hq) fun r s' hq' => ?_))
  cases r with
  | error e => exact hx pins _ _ e s' I2 hq'
  | ok fl =>
    cases fl with
    | ret u =>
      obtain ⟨v, H', I3, rv, ev, q3⟩ := I2.after hq'
      subst ev
      exact ⟨rv, ⟨V.ref (s.heap.objs.size + 1), H', I3, rfl, q3⟩⟩
    | next => exact False.elim hq'
    | brk => exact False.elim hq'
    | cont => exact False.elim hq'
end
/-- C(..), the instance stays in the memory -/
def newW (c : Str) (φ : List PV → RM PV) (ys : List PV) : RM PV := fun M => match φ (.ref M.length :: ys) (M ++ [.ins c [] []]) with
  | .ok .non M' => .ok (.ref M.length) M'
  | .exc c xs M' => .exc c xs M'
  | _ => .bad
open Classical in
/-- C(..), the instance is frozen -/
noncomputable def newF (c : Str) (φ : List PV → RM PV) (ys : List PV) : RM PV := fun M => match φ (.ref M.length :: ys) (M ++ [.ins c [] []]) with
  | .ok .non M' => match M'[M.length]? with
    | some (.ins c' ns xs) => if c' = c ∧ noRefs M.length xs = true ∧ Keeps M M' then .ok (.ins c ns xs) (M'.take M.length) else .bad
    | _ => .bad
  | .exc c xs M' => if noRefs M.length xs = true ∧ Keeps M M' then .exc c xs (M'.take M.length) else .exc c xs M'
  | _ => .bad
section
variable {X : Cx} {W : WX} {CX : CXT} {pos : Pos}
theorem made_sim {K : PySem.W.Frag} {G H : Hp} {ρ : List Addr} {M : Mem} {c : Str} {x dx : Addr} (S : SimH K G ρ M H) (hx : H x = none) (hd : H dx = none) (ne : dx ≠ x) :
    SimH K G (ρ ++ [x]) (M ++ [.ins c [] []]) (upd (upd H dx (.own x)) x (.ins (He.ga K c) dx [])) ∧ Ext G G ρ (ρ ++ [x]) := by
  refine S.alloc hx (fun a o e => ?_) (o := .ins c [] []) ⟨dx, [], ?_, rfl, Reps.nil⟩
  · rw [upd_ne (ne_of_none e hx), upd_ne (ne_of_none e hd)]; exact e
  · rw [upd_same]; rfl
theorem qe_new {e : Expr} {es : List Expr} {cn : Str} {p : Pos} {k : Nat} {f : Addr} {n : Nat} {φ : List PV → RM PV} {fa : Env → RM (List PV)} (Mk : Mk X.K (He.ga X.K cn) f) (F : FnC X CX k f n φ) (hr : RoomG (k + 1) X.A) (hg : Gl X cn) (hm : X.mg cn = some (.ref (He.ga X.K cn))) (tk : ∀ σ, PassesAt CX X σ (WE W σ))
    (ha : QA X W (e :: es) fa) (hs : (e :: es).all notStar = true) (hdb : (cn == ("__debug__" : Str)) = false) : QE X W (.Call (.Name cn p) (e :: es) [] pos) (fun e => fa e >>= newW cn φ) := by
  obtain ⟨fd, ps, hl, F1, hb⟩ := F.ok
  rw [List.all_cons, Bool.and_eq_true] at hs
  refine QE.of ⟨fun pins s σ H Q I ⟨G, ρ, M, e, S, r, q⟩ => ?_⟩
  refine wpAny_Call_Name_kw (ld_glob I hg hm ?_ hdb)
  refine PySem.W.callWith_K (h₀ := X.base) I.ok.mod.kin Mk.kp (thn (ha.pa.run pos pins s σ H (fun vs H1 => ∃ G ρ M xs, SimH X.K G ρ M H1 ∧ Reps X.K G ρ xs vs ∧ outR X.K (Rep X.K) W G ρ σ (newW cn φ xs M) Q) I
    ⟨G, ρ, M, e, S, r, outR_bind q fun G1 ρ1 M1 xs vs H1 x1 s1 r1 q1 => ⟨G1, ρ1, M1, xs, s1, r1, q1⟩⟩) fun us s1 ⟨vs, H1, I1, rv, G1, ρ1, M1, xs, S1, r1, q1⟩ => ⟨I1.kIn, ?_⟩) (starEach_cons hs.1) (star_any hs.2)
  refine run_makeS Mk F1 hr hb (tk σ) I1 rv fun x dx hx hd ne => ?_
  obtain ⟨S2, x2⟩ := made_sim (c := cn) S1 hx hd ne
  have rx : Rep X.K G1 (ρ1 ++ [x]) (.ref M1.length) (.ref x) := by
    simp only [Rep]
    exact ⟨x, rfl, by rw [← S1.len]; simp⟩
  refine spOf_of (σ := σ) (W := W) n (F.ar _ _) S2 (Reps.cons rx (r1.ext x2 _ _)) ?_
  unfold newW at q1
  cases w : φ (.ref M1.length :: xs) (M1 ++ [.ins cn [] []]) with
  | bad => rw [w] at q1; exact q1.elim
  | exc c ys M2 =>
    rw [w] at q1
    exact outR.ext x2 (show outR X.K (Rep X.K) W G1 ρ1 σ (.exc c ys M2) _ from q1)
  | ok z M2 =>
    rw [w] at q1
    cases z with
    | non => exact fun G3 ρ3 H3 y x3 s3 r3 => ⟨rep_non.mp r3, outR_ok q1 (x2.trans x3) s3 (rx.ext x3 _ _)⟩
    | _ => exact q1.elim
theorem qe_newF {e : Expr} {es : List Expr} {cn : Str} {p : Pos} {k : Nat} {f : Addr} {n : Nat} {φ : List PV → RM PV} {fa : Env → RM (List PV)} (Mk : Mk X.K (He.ga X.K cn) f) (F : FnC X CX k f n φ) (hr : RoomG (k + 1) X.A) (hg : Gl X cn) (hm : X.mg cn = some (.ref (He.ga X.K cn))) (tk : ∀ σ, PassesAt CX X σ (WE W σ))
    (ha : QA X W (e :: es) fa) (hs : (e :: es).all notStar = true) (hdb : (cn == ("__debug__" : Str)) = false) : QE X W (.Call (.Name cn p) (e :: es) [] pos) (fun e => fa e >>= newF cn φ) := by
  obtain ⟨fd, ps, hl, F1, hb⟩ := F.ok
  rw [List.all_cons, Bool.and_eq_true] at hs
  refine QE.of ⟨fun pins s σ H Q I ⟨G, ρ, M, e, S, r, q⟩ => ?_⟩
  refine wpAny_Call_Name_kw (ld_glob I hg hm ?_ hdb)
  refine PySem.W.callWith_K (h₀ := X.base) I.ok.mod.kin Mk.kp (thn (ha.pa.run pos pins s σ H (fun vs H1 => ∃ G ρ M xs, SimH X.K G ρ M H1 ∧ Reps X.K G ρ xs vs ∧ outR X.K (Rep X.K) W G ρ σ (newF cn φ xs M) Q) I
    ⟨G, ρ, M, e, S, r, outR_bind q fun G1 ρ1 M1 xs vs H1 x1 s1 r1 q1 => ⟨G1, ρ1, M1, xs, s1, r1, q1⟩⟩) fun us s1 ⟨vs, H1, I1, rv, G1, ρ1, M1, xs, S1, r1, q1⟩ => ⟨I1.kIn, ?_⟩) (starEach_cons hs.1) (star_any hs.2)
  refine run_makeS Mk F1 hr hb (tk σ) I1 rv fun x dx hx hd ne => ?_
  obtain ⟨S2, x2⟩ := made_sim (c := cn) S1 hx hd ne
  have rx : Rep X.K G1 (ρ1 ++ [x]) (.ref M1.length) (.ref x) := by
    simp only [Rep]
    exact ⟨x, rfl, by rw [← S1.len]; simp⟩
  refine spOf_of (σ := σ) (W := W) n (F.ar _ _) S2 (Reps.cons rx (r1.ext x2 _ _)) ?_
  unfold newF at q1
  cases w : φ (.ref M1.length :: xs) (M1 ++ [.ins cn [] []]) with
  | bad => rw [w] at q1; exact q1.elim
  | exc c ys M2 =>
    rw [w] at q1
    have q2 : ∀ Q' : VK, outR X.K (Rep X.K) W G1 ρ1 σ (trim M1 (.exc c ys M2)) Q' := by
      intro Q'
      dsimp only at q1
      split at q1
      · rename_i cc; rw [trim_ey cc]; exact q1
      · rename_i cc; rw [trim_en cc]; exact q1
    exact outR.ext x2 (show outR X.K (Rep X.K) W G1 ρ1 σ (.exc c ys M2) _ from trim_ok S1 (q2 _))
  | ok z M2 =>
    rw [w] at q1
    cases z with
    | non =>
      intro G3 ρ3 H3 y x3 s3 r3
      refine ⟨rep_non.mp r3, ?_⟩
      dsimp only at q1
      cases w2 : M2[M1.length]? with
      | none => rw [w2] at q1; exact q1.elim
      | some o =>
        rw [w2] at q1
        cases o with
        | lst _ => exact q1.elim
        | dct _ _ => exact q1.elim
        | ins c' ns zs =>
          dsimp only at q1
          split at q1
          · rename_i cc
            obtain ⟨rfl, c1, c2⟩ := cc
            have ex := x2.trans x3
            have hx3 : ρ3[M1.length]? = some x := x3.r _ _ (by rw [← S1.len]; simp)
            obtain ⟨hg, d3, vs3, e3, l3, r3'⟩ := s3.obj _ _ _ hx3 w2
            have e1 := take_same S1 ex
            have S4 := trim_sim S1 s3 ex c2
            have hnx : x ∉ ρ1 := S1.notIn hx
            have S5 : SimH X.K (upd G3 x (.ins (He.ga X.K c') d3 (ns.zip vs3))) ρ1 (M2.take M1.length) H3 := by
              refine ⟨fun a o e => ?_, S4.len, S4.nd, fun m a o ea eo => ?_⟩
              · by_cases hax : a = x
                · subst hax; rw [upd_same] at e; cases e; exact e3
                · rw [upd_ne hax] at e; exact S4.sub _ _ e
              · obtain ⟨g, rr⟩ := S4.obj m a o ea eo
                have hax : a ≠ x := fun z => hnx (z ▸ List.mem_of_getElem? ea)
                exact ⟨by rw [upd_ne hax]; exact g, rr.ext (Ext.upd hg) fun _ h => h⟩
            have ex5 : Ext G1 (upd G3 x (.ins (He.ga X.K c') d3 (ns.zip vs3))) ρ1 ρ1 := Ext.trans ⟨ex.g, fun _ _ h => h⟩ (Ext.upd hg)
            refine outR_ok q1 ex5 S5 ?_
            simp only [Rep]
            refine ⟨x, d3, vs3, rfl, upd_same, l3, ?_⟩
            have := r3'.cut M1.length _ _ c1
            rw [e1] at this
            exact this.ext (Ext.upd hg) _ _
          · exact q1.elim
    | _ => exact q1.elim
end
end R
set_option maxHeartbeats 4000000
/-! R7: built-in functions and methods. -/
namespace R
open PySem PySem.Spec L2
open PyProof.Rows hiding St
section
variable {X : Cx} {W : WX} {a b c o : Expr} {f g h : Env → RM PV} {pos : Pos}
theorem qe_callB {e : Expr} {es : List Expr} {x : Str} {p : Pos} {id : String} {fo : List PV → RM PV} {fa : Env → RM (List PV)} (hc : CallV X W (.builtin id) fo) (hg : Gl X x) (hm : X.mg x = none) (hv : bootBuiltins x = some (.builtin id)) (ha : QA X W (e :: es) fa) (hs : (e :: es).all notStar = true)
    (hn : x ≠ "__name__") (hdb : (x == ("__debug__" : Str)) = false) : QE X W (.Call (.Name x p) (e :: es) [] pos) (fun e => fa e >>= fo) := by
  rw [List.all_cons, Bool.and_eq_true] at hs
  exact QE.of (PE.imp (pe_callB hc.callr hg hm hv ha.pa hn hdb (starEach_cons hs.1) (star_any hs.2)) fun σ H Q ⟨G, ρ, M, e, s, r, q⟩ => ⟨G, ρ, M, e, s, r, outR_bind q fun G1 ρ1 M1 xs vs H1 x1 s1 r1 q1 => ⟨G1, ρ1, M1, xs, σ, s1, r1, q1⟩⟩)
theorem qe_callTy {e : Expr} {es : List Expr} {x : Str} {p : Pos} {T : String} {fo : List PV → RM PV} {fa : Env → RM (List PV)} (hc : CallV X W (.type T) fo) (hg : Gl X x) (hm : X.mg x = none) (hv : bootBuiltins x = some (.type T)) (ha : QA X W (e :: es) fa) (hs : (e :: es).all notStar = true)
    (hn : x ≠ "__name__") (hdb : (x == ("__debug__" : Str)) = false) : QE X W (.Call (.Name x p) (e :: es) [] pos) (fun e => fa e >>= fo) := by
  rw [List.all_cons, Bool.and_eq_true] at hs
  exact QE.of (PE.imp (pe_callTy hc.callr hg hm hv ha.pa hn hdb (starEach_cons hs.1) (star_any hs.2)) fun σ H Q ⟨G, ρ, M, e, s, r, q⟩ => ⟨G, ρ, M, e, s, r, outR_bind q fun G1 ρ1 M1 xs vs H1 x1 s1 r1 q1 => ⟨G1, ρ1, M1, xs, σ, s1, r1, q1⟩⟩)
theorem reps1 {K : PySem.W.Frag} {G : Hp} {ρ : List Addr} {x : PV} {vs : List V} (h : Reps K G ρ [x] vs) : ∃ v, vs = [v] ∧ Rep K G ρ x v := by
  simp only [Reps] at h
  obtain ⟨v, r, rfl, h1, rfl⟩ := h
  exact ⟨v, rfl, h1⟩
theorem reps2 {K : PySem.W.Frag} {G : Hp} {ρ : List Addr} {x y : PV} {vs : List V} (h : Reps K G ρ [x, y] vs) : ∃ v u, vs = [v, u] ∧ Rep K G ρ x v ∧ Rep K G ρ y u := by
  simp only [Reps] at h
  obtain ⟨v, r, rfl, h1, u, r2, rfl, h2, rfl⟩ := h
  exact ⟨v, u, rfl, h1, h2⟩
/-- the items of a sequence: a tuple's, a frozen list's, a memory list's -/
def seqW : PV → RM (List PV)
  | .tup xs => pure xs
  | .lst xs => pure xs
  | .ref n => memL n
  | _ => RM.bad
theorem bind_pure_R {α : Type} (m : RM α) : (m >>= pure) = m := by
  funext M
  rw [bind_eq]
  cases m M <;> rfl
theorem seqW_ok {α β : Type} {K : PySem.W.Frag} {Rl : Hp → List Addr → α → β → Prop} {x : PV} {k : List PV → RM α} {G H : Hp} {ρ : List Addr} {M : Mem} {σ : St} {Q : β → Hp → Prop} {v : V} (S : SimH K G ρ M H) (hx : Rep K G ρ x v) (h : outR K Rl W G ρ σ ((seqW x >>= k) M) Q) :
    ∃ xs p vs, v = .ref p ∧ (SqL K H p vs ∨ SqT K H p vs) ∧ Reps K G ρ xs vs ∧ outR K Rl W G ρ σ (k xs M) Q := by
  cases x with
  | tup xs =>
    obtain ⟨p, vs, rfl, h1, h2⟩ := rep_tup.mp hx
    exact ⟨xs, p, vs, rfl, .inr (SqT.ext S.sub h1), h2, h⟩
  | lst xs =>
    obtain ⟨p, vs, rfl, h1, h2⟩ := rep_lst.mp hx
    exact ⟨xs, p, vs, rfl, .inl (SqL.ext S.sub h1), h2, h⟩
  | ref n =>
    obtain ⟨xs, p, vs, _, _, rfl, e, r, q⟩ := memL_ok S hx (show outR K Rl W G ρ σ ((memL n >>= k) M) Q from h)
    exact ⟨xs, p, vs, rfl, .inl (SqL.of e), r, q⟩
  | _ => exact h.elim
/-- a list only -/
def lstW : PV → RM (List PV)
  | .lst xs => pure xs
  | .ref n => memL n
  | _ => RM.bad
theorem lstW_ok {α β : Type} {K : PySem.W.Frag} {Rl : Hp → List Addr → α → β → Prop} {x : PV} {k : List PV → RM α} {G H : Hp} {ρ : List Addr} {M : Mem} {σ : St} {Q : β → Hp → Prop} {v : V} (S : SimH K G ρ M H) (hx : Rep K G ρ x v) (h : outR K Rl W G ρ σ ((lstW x >>= k) M) Q) :
    ∃ xs p vs, v = .ref p ∧ SqL K H p vs ∧ Reps K G ρ xs vs ∧ outR K Rl W G ρ σ (k xs M) Q := by
  cases x with
  | lst xs =>
    obtain ⟨p, vs, rfl, h1, h2⟩ := rep_lst.mp hx
    exact ⟨xs, p, vs, rfl, SqL.ext S.sub h1, h2, h⟩
  | ref n =>
    obtain ⟨xs, p, vs, _, _, rfl, e, r, q⟩ := memL_ok S hx (show outR K Rl W G ρ σ ((memL n >>= k) M) Q from h)
    exact ⟨xs, p, vs, rfl, SqL.of e, r, q⟩
  | _ => exact h.elim

/-! ### len -/
def lenW : List PV → RM PV
  | [.str z] => if z.length ≤ sizeLine then pure (.int z.length) else RM.bad
  | [x] => seqW x >>= fun xs => pure (.int xs.length)
  | _ => RM.bad
theorem cv_len : CallV X W (.builtin "len") lenW := by
  intro pins s σ H xs us Q I r G ρ M ps σ' S hx q
  unfold lenW at q
  split at q
  · obtain ⟨v, rfl, h1⟩ := reps1 hx
    rw [rep_str] at h1; subst h1
    obtain ⟨hc, q⟩ := ite_outR q
    exact call_len_str pins s σ H _ us Q I r ⟨_, rfl, hc, outR_pure q S (rep_int.mpr rfl)⟩
  · obtain ⟨v, rfl, h1⟩ := reps1 hx
    obtain ⟨ys, p, vs, rfl, h2, h3, q⟩ := seqW_ok S h1 q
    refine call_len_seq pins s σ H _ us Q I r ⟨p, vs, rfl, h2, ?_⟩
    rw [← h3.length]
    exact outR_pure q S (rep_int.mpr rfl)
  · exact q.elim
/-! ### all, any -/
def boolsOf : List PV → Option (List Bool)
  | [] => some []
  | .bl b :: xs => (boolsOf xs).map (b :: ·)
  | _ :: _ => none
theorem bools_rep {K : PySem.W.Frag} {G : Hp} {ρ : List Addr} : ∀ {xs : List PV} {vs : List V} {bs : List Bool}, Reps K G ρ xs vs → boolsOf xs = some bs → vs = bs.map V.bl
  | [], vs, bs, r, e => by
    simp only [Reps] at r; subst r
    simp only [boolsOf, Option.some.injEq] at e; subst e; rfl
  | x :: xs, vs, bs, r, e => by
    simp only [Reps] at r
    obtain ⟨v, us, rfl, h1, h2⟩ := r
    cases x with
    | bl b =>
      simp only [boolsOf] at e
      cases q : boolsOf xs with
      | none => rw [q] at e; cases e
      | some cs =>
        rw [q] at e; cases e
        rw [rep_bl] at h1; subst h1
        rw [bools_rep h2 q]; rfl
    | _ => simp only [boolsOf] at e; cases e
def allW : List PV → RM PV
  | [x] => lstW x >>= fun xs => optR (boolsOf xs) >>= fun bs => pure (.bl (bs.all id))
  | _ => RM.bad
def anyW : List PV → RM PV
  | [x] => lstW x >>= fun xs => optR (boolsOf xs) >>= fun bs => pure (.bl (bs.any id))
  | _ => RM.bad
theorem optR_bind {α β γ : Type} {K : PySem.W.Frag} {Rl : Hp → List Addr → α → β → Prop} {o : Option γ} {k : γ → RM α} {G : Hp} {ρ : List Addr} {M : Mem} {σ : St} {Q : β → Hp → Prop} (h : outR K Rl W G ρ σ ((optR o >>= k) M) Q) : ∃ x, o = some x ∧ outR K Rl W G ρ σ (k x M) Q := by
  cases o with
  | none => exact h.elim
  | some x => exact ⟨x, rfl, h⟩
theorem cv_all (hc : X.calm = true) : CallV X W (.builtin "all") allW := by
  intro pins s σ H xs us Q I r G ρ M ps σ' S hx q
  unfold allW at q
  split at q
  · obtain ⟨v, rfl, h1⟩ := reps1 hx
    obtain ⟨ys, p, vs, rfl, h2, h3, q⟩ := lstW_ok S h1 q
    obtain ⟨bs, e, q⟩ := optR_bind q
    have := bools_rep h3 e
    subst this
    exact cr_all hc pins s σ H _ us Q I r ⟨p, bs, rfl, h2, outR_pure q S (rep_bl.mpr rfl)⟩
  · exact q.elim
theorem cv_any (hc : X.calm = true) : CallV X W (.builtin "any") anyW := by
  intro pins s σ H xs us Q I r G ρ M ps σ' S hx q
  unfold anyW at q
  split at q
  · obtain ⟨v, rfl, h1⟩ := reps1 hx
    obtain ⟨ys, p, vs, rfl, h2, h3, q⟩ := lstW_ok S h1 q
    obtain ⟨bs, e, q⟩ := optR_bind q
    have := bools_rep h3 e
    subst this
    exact cr_any hc pins s σ H _ us Q I r ⟨p, bs, rfl, h2, outR_pure q S (rep_bl.mpr rfl)⟩
  · exact q.elim
/-! ### sum, max, min, abs -/
def intsOf : List PV → Option (List Int)
  | [] => some []
  | .int b :: xs => (intsOf xs).map (b :: ·)
  | _ :: _ => none
theorem ints_rep {K : PySem.W.Frag} {G : Hp} {ρ : List Addr} : ∀ {xs : List PV} {vs : List V} {bs : List Int}, Reps K G ρ xs vs → intsOf xs = some bs → vs = bs.map V.int
  | [], vs, bs, r, e => by
    simp only [Reps] at r; subst r
    simp only [intsOf, Option.some.injEq] at e; subst e; rfl
  | x :: xs, vs, bs, r, e => by
    simp only [Reps] at r
    obtain ⟨v, us, rfl, h1, h2⟩ := r
    cases x with
    | int b =>
      simp only [intsOf] at e
      cases q : intsOf xs with
      | none => rw [q] at e; cases e
      | some cs =>
        rw [q] at e; cases e
        rw [rep_int] at h1; subst h1
        rw [ints_rep h2 q]; rfl
    | _ => simp only [intsOf] at e; cases e
theorem ints_len : ∀ {xs : List PV} {bs : List Int}, intsOf xs = some bs → bs.length = xs.length
  | [], bs, e => by simp only [intsOf, Option.some.injEq] at e; subst e; rfl
  | x :: xs, bs, e => by
    cases x with
    | int b =>
      simp only [intsOf] at e
      cases q : intsOf xs with
      | none => rw [q] at e; cases e
      | some cs => rw [q] at e; cases e; simp [ints_len q]
    | _ => simp only [intsOf] at e; cases e
theorem sum_rawT {prog : Program} {w : World} {A : Around} {E : Value → Shared → Prop} {s : Shared} {l : Addr} {its : List Value} {ns : List Int} {Q : Value → Shared → Prop} (hh : A.handled = none) (hl : s.heap.IsTuple l its.toArray) (hi : IntsAre its ns)
    (h : ∀ h' tk t', (∀ b o, s.heap.get? b = some o → h'.get? b = some o) → Q (.int ns.sum t') { s with heap := h', toks := tk }) : wpAny (model prog w) A (call (.builtin "sum") [.ref l]) Q E s := by
  obtain ⟨xs, e⟩ := hi.allInts.items
  have hn : numsOf (intItems xs).toList = ns := by rw [← e]; exact hi.numsOf
  rw [nums_intItems] at hn
  rw [e] at hl
  refine PySem.W.ktm_sumG hh hl fun h' tk t' hk => ?_
  have := h h' tk t' hk
  rw [preSum_eq, List.take_of_length_le (by simp), hn]; exact this
def sumW : List PV → RM PV
  | [x] => seqW x >>= fun xs => optR (intsOf xs) >>= fun ns => pure (.int ns.sum)
  | _ => RM.bad
theorem cv_sum (hc : X.calm = true) : CallV X W (.builtin "sum") sumW := by
  intro pins s σ H xs us Q I r G ρ M ps σ' S hx q
  unfold sumW at q
  split at q
  · obtain ⟨v, rfl, h1⟩ := reps1 hx
    obtain ⟨ys, p, vs, rfl, h2, h3, q⟩ := seqW_ok S h1 q
    obtain ⟨ns, e, q⟩ := optR_bind q
    have := ints_rep h3 e
    subst this
    rcases h2 with h2 | h2
    · exact cr_sum hc pins s σ H _ us Q I r ⟨p, ns, rfl, h2, outR_pure q S (rep_int.mpr rfl)⟩
    · obtain ⟨its, rv, ht, _⟩ := I.tuple h2
      rw [Vals.ref1 r]
      exact sum_rawT (I.ok.hd hc) (show s.heap.IsTuple p its.toArray from ht) rv.ints fun h' tk t' hk => ⟨.int _, H, I.kept hk, ⟨_, rfl⟩, outR_pure q S (rep_int.mpr rfl)⟩
  · exact q.elim
def absW : List PV → RM PV
  | [.int i] => pure (.int (if i < 0 then -i else i))
  | _ => RM.bad
theorem cv_abs : CallV X W (.builtin "abs") absW := by
  intro pins s σ H xs us Q I r G ρ M ps σ' S hx q
  unfold absW at q
  split at q
  · obtain ⟨v, rfl, h1⟩ := reps1 hx
    rw [rep_int] at h1; subst h1
    exact call_abs pins s σ H _ us Q I r ⟨_, rfl, outR_pure q S (rep_int.mpr rfl)⟩
  · exact q.elim
def max1 : List Int → Option Int
  | [] => none
  | x :: xs => some (xs.foldl (fun m y => if m < y then y else m) x)
def min1 : List Int → Option Int
  | [] => none
  | x :: xs => some (xs.foldl (fun m y => if y < m then y else m) x)
theorem foldmax (xs : List Int) : ∀ x : Int, x ≤ xs.foldl (fun m y => if m < y then y else m) x ∧ (∀ y ∈ xs, y ≤ xs.foldl (fun m y => if m < y then y else m) x) ∧ (xs.foldl (fun m y => if m < y then y else m) x = x ∨ xs.foldl (fun m y => if m < y then y else m) x ∈ xs) := by
  induction xs with
  | nil => intro x; simp
  | cons z zs ih =>
    intro x
    rw [List.foldl_cons]
    by_cases hz : x < z
    · rw [if_pos hz]
      obtain ⟨h1, h2, h3⟩ := ih z
      refine ⟨by omega, fun y hy => ?_, ?_⟩
      · rcases List.mem_cons.mp hy with rfl | hy
        · exact h1
        · exact h2 y hy
      · rcases h3 with h3 | h3
        · rw [h3]; exact .inr (List.mem_cons_self)
        · exact .inr (List.mem_cons_of_mem _ h3)
    · rw [if_neg hz]
      obtain ⟨h1, h2, h3⟩ := ih x
      refine ⟨h1, fun y hy => ?_, ?_⟩
      · rcases List.mem_cons.mp hy with rfl | hy
        · omega
        · exact h2 y hy
      · rcases h3 with h3 | h3
        · exact .inl h3
        · exact .inr (List.mem_cons_of_mem _ h3)
theorem foldmin (xs : List Int) : ∀ x : Int, xs.foldl (fun m y => if y < m then y else m) x ≤ x ∧ (∀ y ∈ xs, xs.foldl (fun m y => if y < m then y else m) x ≤ y) ∧ (xs.foldl (fun m y => if y < m then y else m) x = x ∨ xs.foldl (fun m y => if y < m then y else m) x ∈ xs) := by
  induction xs with
  | nil => intro x; simp
  | cons z zs ih =>
    intro x
    rw [List.foldl_cons]
    by_cases hz : z < x
    · rw [if_pos hz]
      obtain ⟨h1, h2, h3⟩ := ih z
      refine ⟨by omega, fun y hy => ?_, ?_⟩
      · rcases List.mem_cons.mp hy with rfl | hy
        · exact h1
        · exact h2 y hy
      · rcases h3 with h3 | h3
        · rw [h3]; exact .inr (List.mem_cons_self)
        · exact .inr (List.mem_cons_of_mem _ h3)
    · rw [if_neg hz]
      obtain ⟨h1, h2, h3⟩ := ih x
      refine ⟨h1, fun y hy => ?_, ?_⟩
      · rcases List.mem_cons.mp hy with rfl | hy
        · omega
        · exact h2 y hy
      · rcases h3 with h3 | h3
        · exact .inl h3
        · exact .inr (List.mem_cons_of_mem _ h3)
theorem max1_is {ns : List Int} {m m' : Int} (h : max1 ns = some m) (h1 : m' ∈ ns) (h2 : ∀ y, y ∈ ns → y ≤ m') : m' = m := by
  cases ns with
  | nil => cases h
  | cons x xs =>
    simp only [max1, Option.some.injEq] at h
    obtain ⟨g1, g2, g3⟩ := foldmax xs x
    rw [h] at g1 g2 g3
    have l1 : m ≤ m' := by
      rcases g3 with g3 | g3
      · rw [g3]; exact h2 _ (List.mem_cons_self)
      · exact h2 _ (List.mem_cons_of_mem _ g3)
    have l2 : m' ≤ m := by
      rcases List.mem_cons.mp h1 with rfl | h1
      · exact g1
      · exact g2 _ h1
    omega
theorem min1_is {ns : List Int} {m m' : Int} (h : min1 ns = some m) (h1 : m' ∈ ns) (h2 : ∀ y, y ∈ ns → m' ≤ y) : m' = m := by
  cases ns with
  | nil => cases h
  | cons x xs =>
    simp only [min1, Option.some.injEq] at h
    obtain ⟨g1, g2, g3⟩ := foldmin xs x
    rw [h] at g1 g2 g3
    have l1 : m' ≤ m := by
      rcases g3 with g3 | g3
      · rw [g3]; exact h2 _ (List.mem_cons_self)
      · exact h2 _ (List.mem_cons_of_mem _ g3)
    have l2 : m ≤ m' := by
      rcases List.mem_cons.mp h1 with rfl | h1
      · exact g1
      · exact g2 _ h1
    omega
def maxW : List PV → RM PV
  | [.int i, .int j] => pure (.int (if j > i then j else i))
  | [x] => lstW x >>= fun xs => optR (intsOf xs) >>= fun ns => optR (max1 ns) >>= fun m => pure (.int m)
  | _ => RM.bad
def minW : List PV → RM PV
  | [.int i, .int j] => pure (.int (if j < i then j else i))
  | [x] => lstW x >>= fun xs => optR (intsOf xs) >>= fun ns => optR (min1 ns) >>= fun m => pure (.int m)
  | _ => RM.bad
theorem cv_max (hc : X.calm = true) : CallV X W (.builtin "max") maxW := by
  intro pins s σ H xs us Q I r G ρ M ps σ' S hx q
  unfold maxW at q
  split at q
  · obtain ⟨v, u, rfl, h1, h2⟩ := reps2 hx
    rw [rep_int] at h1 h2; subst h1 h2
    exact call_max2 hc pins s σ H _ us Q I r ⟨_, _, rfl, outR_pure q S (rep_int.mpr rfl)⟩
  · obtain ⟨v, rfl, h1⟩ := reps1 hx
    obtain ⟨ys, p, vs, rfl, h2, h3, q⟩ := lstW_ok S h1 q
    obtain ⟨ns, e, q⟩ := optR_bind q
    obtain ⟨m, em, q⟩ := optR_bind q
    have := ints_rep h3 e
    subst this
    refine cr_max hc pins s σ H _ us Q I r ⟨p, ns, rfl, h2, ?_, fun m' k1 k2 => ?_⟩
    · cases ns with
      | nil => cases em
      | cons _ _ => simp
    · rw [max1_is em k1 k2]; exact outR_pure q S (rep_int.mpr rfl)
  · exact q.elim
theorem cv_min (hc : X.calm = true) : CallV X W (.builtin "min") minW := by
  intro pins s σ H xs us Q I r G ρ M ps σ' S hx q
  unfold minW at q
  split at q
  · obtain ⟨v, u, rfl, h1, h2⟩ := reps2 hx
    rw [rep_int] at h1 h2; subst h1 h2
    exact call_min2 hc pins s σ H _ us Q I r ⟨_, _, rfl, outR_pure q S (rep_int.mpr rfl)⟩
  · obtain ⟨v, rfl, h1⟩ := reps1 hx
    obtain ⟨ys, p, vs, rfl, h2, h3, q⟩ := lstW_ok S h1 q
    obtain ⟨ns, e, q⟩ := optR_bind q
    obtain ⟨m, em, q⟩ := optR_bind q
    have := ints_rep h3 e
    subst this
    refine cr_min hc pins s σ H _ us Q I r ⟨p, ns, rfl, h2, ?_, fun m' k1 k2 => ?_⟩
    · cases ns with
      | nil => cases em
      | cons _ _ => simp
    · rw [min1_is em k1 k2]; exact outR_pure q S (rep_int.mpr rfl)
  · exact q.elim
/-! ### tuple, list, str, int, divmod, sorted -/
def tupleW : List PV → RM PV
  | [.tup xs] => pure (.tup xs)
  | [x] => lstW x >>= fun xs => pure (.tup xs)
  | _ => RM.bad
theorem cv_tuple : CallV X W (.type "tuple") tupleW := by
  intro pins s σ H xs us Q I r G ρ M ps σ' S hx q
  unfold tupleW at q
  split at q
  · obtain ⟨v, rfl, h1⟩ := reps1 hx
    obtain ⟨p, vs, rfl, h2, h3⟩ := rep_tup.mp h1
    exact call_tuple_of pins s σ H _ us Q I r ⟨p, vs, rfl, .inr ⟨SqT.ext S.sub h2, outR_pure q S h1⟩⟩
  · obtain ⟨v, rfl, h1⟩ := reps1 hx
    obtain ⟨ys, p, vs, rfl, h2, h3, q⟩ := lstW_ok S h1 q
    exact call_tuple_of pins s σ H _ us Q I r ⟨p, vs, rfl, .inl ⟨h2, new_tup S h3 q⟩⟩
  · exact q.elim
def listW : List PV → RM PV
  | [x] => seqW x >>= fun xs => pure (.lst xs)
  | _ => RM.bad
theorem cv_list : CallV X W (.type "list") listW := by
  intro pins s σ H xs us Q I r G ρ M ps σ' S hx q
  unfold listW at q
  split at q
  · obtain ⟨v, rfl, h1⟩ := reps1 hx
    obtain ⟨ys, p, vs, rfl, h2, h3, q⟩ := seqW_ok S h1 q
    exact call_list_of pins s σ H _ us Q I r ⟨p, vs, rfl, h2, new_lst S h3 q⟩
  · exact q.elim
def strW : List PV → RM PV
  | [.int i] => if i.natAbs.log2 < 1920 then pure (.str (toString i)) else RM.bad
  | [.str z] => pure (.str z)
  | _ => RM.bad
theorem cv_str : CallV X W (.type "str") strW := by
  intro pins s σ H xs us Q I r G ρ M ps σ' S hx q
  unfold strW at q
  split at q
  · obtain ⟨v, rfl, h1⟩ := reps1 hx
    rw [rep_int] at h1; subst h1
    obtain ⟨hc, q⟩ := ite_outR q
    exact call_str_int pins s σ H _ us Q I r ⟨_, rfl, hc, outR_pure q S (rep_str.mpr rfl)⟩
  · obtain ⟨v, rfl, h1⟩ := reps1 hx
    rw [rep_str] at h1; subst h1
    exact SkE.call_str_str pins s σ H _ us Q I r ⟨_, rfl, outR_pure q S (rep_str.mpr rfl)⟩
  · exact q.elim
def intW : List PV → RM PV
  | [.int i] => pure (.int i)
  | [.bl b] => pure (.int (if b then 1 else 0))
  | [.str z] => if z.length ≤ 640 then optR ((PySem.intText? z).map PV.int) else RM.bad
  | _ => RM.bad
theorem cv_int : CallV X W (.type "int") intW := by
  intro pins s σ H xs us Q I r G ρ M ps σ' S hx q
  unfold intW at q
  split at q
  · obtain ⟨v, rfl, h1⟩ := reps1 hx
    rw [rep_int] at h1; subst h1
    exact call_int1 pins s σ H _ us Q I r (.inl ⟨_, rfl, outR_pure q S (rep_int.mpr rfl)⟩)
  · obtain ⟨v, rfl, h1⟩ := reps1 hx
    rw [rep_bl] at h1; subst h1
    exact call_int1 pins s σ H _ us Q I r (.inr ⟨_, rfl, outR_pure q S (rep_int.mpr rfl)⟩)
  · obtain ⟨v, rfl, h1⟩ := reps1 hx
    rw [rep_str] at h1; subst h1
    obtain ⟨hc, q⟩ := ite_outR q
    obtain ⟨z, e, q⟩ := outR_opt q
    cases q2 : PySem.intText? (_ : Str) with
    | none => rw [q2] at e; cases e
    | some n =>
      rw [q2] at e; cases e
      exact call_int_str pins s σ H _ us Q I r ⟨_, n, rfl, q2, hc, outR_pure q S (rep_int.mpr rfl)⟩
  · exact q.elim
def divmodW : List PV → RM PV
  | [.int i, .int j] => if decide (0 < j) && decide (j.natAbs.log2 < 9000) then pure (.tup [.int (i / j), .int (i % j)]) else RM.bad
  | _ => RM.bad
theorem cv_divmod : CallV X W (.builtin "divmod") divmodW := by
  intro pins s σ H xs us Q I r G ρ M ps σ' S hx q
  unfold divmodW at q
  split at q
  · obtain ⟨v, u, rfl, h1, h2⟩ := reps2 hx
    rw [rep_int] at h1 h2; subst h1 h2
    obtain ⟨hc, q⟩ := ite_outR q
    simp only [Bool.and_eq_true, decide_eq_true_iff] at hc
    exact call_divmodW pins s σ H _ us Q I r ⟨_, _, rfl, ⟨hc.1, PyProof.noPylong_of_log2 hc.2⟩, new_tup S (Reps.cons (rep_int.mpr rfl) (Reps.cons (rep_int.mpr rfl) Reps.nil)) q⟩
  · exact q.elim
theorem sorted_eq : ∀ {l m : List Int}, l.Perm m → l.Pairwise (· ≤ ·) → m.Pairwise (· ≤ ·) → l = m := fun {l m} p h1 h2 =>
  p.eq_of_pairwise (le := (· ≤ ·)) (fun a b _ _ h h' => Int.le_antisymm h h') h1 h2
def sortI (ns : List Int) : List Int := ns.mergeSort (fun a b => decide (a ≤ b))
theorem sortI_pw (ns : List Int) : (sortI ns).Pairwise (· ≤ ·) := by
  have := List.pairwise_mergeSort (le := fun a b : Int => decide (a ≤ b)) (fun a b c h1 h2 => by simp only [decide_eq_true_iff] at *; omega) (fun a b => by simp only [Bool.or_eq_true, decide_eq_true_iff]; omega) ns
  exact this.imp fun h => of_decide_eq_true h
theorem sortI_perm (ns : List Int) : (sortI ns).Perm ns := List.mergeSort_perm _ _
theorem reps_ints {K : PySem.W.Frag} {G : Hp} {ρ : List Addr} : ∀ (ns : List Int), Reps K G ρ (ns.map PV.int) (ns.map V.int)
  | [] => Reps.nil
  | n :: ns => Reps.cons (rep_int.mpr rfl) (reps_ints ns)
def sortedW : List PV → RM PV
  | [x] => lstW x >>= fun xs => optR (intsOf xs) >>= fun ns => pure (.lst ((sortI ns).map PV.int))
  | _ => RM.bad
theorem cv_sorted : CallV X W (.builtin "sorted") sortedW := by
  intro pins s σ H xs us Q I r G ρ M ps σ' S hx q
  unfold sortedW at q
  split at q
  · obtain ⟨v, rfl, h1⟩ := reps1 hx
    obtain ⟨ys, p, vs, rfl, h2, h3, q⟩ := lstW_ok S h1 q
    obtain ⟨ns, e, q⟩ := optR_bind q
    have := ints_rep h3 e
    subst this
    refine cr_sortedI pins s σ H _ us Q I r ⟨p, ns, rfl, h2, fun ns' l k1 k2 hl => ?_⟩
    have e2 : ns' = sortI ns := sorted_eq (k1.trans (sortI_perm ns).symm) k2 (sortI_pw ns)
    subst e2
    exact new_lst S (reps_ints _) q l hl
  · exact q.elim
end
end R
set_option maxHeartbeats 4000000
/-! R7b: == of lists, also of such that hold what is no data, by their lengths. -/
namespace R
open PySem PySem.Spec L2
open PyProof.Rows hiding St
/-- two tuples, one of them empty -/
def tpE : PV → PV → Option Bool
  | .tup xs, .tup ys => if xs.isEmpty || ys.isEmpty then some (xs.isEmpty && ys.isEmpty) else none
  | _, _ => none
theorem tpE_ok {x y : PV} {b : Bool} (h : tpE x y = some b) : ∃ xs ys, x = .tup xs ∧ y = .tup ys ∧ (xs.length = 0 ∨ ys.length = 0) ∧ b = (xs.length == ys.length) := by
  unfold tpE at h
  split at h
  · rename_i xs ys
    refine ⟨xs, ys, rfl, rfl, ?_⟩
    by_cases c : (xs.isEmpty || ys.isEmpty) = true
    · rw [if_pos c] at h
      injection h with h
      subst h
      cases xs <;> cases ys <;> simp at c ⊢
    · rw [if_neg c] at h; cases h
  · cases h
def eqX (x y : PV) : RM PV := match eqB x y with
  | some b => pure (.bl b)
  | none => match tpE x y with
    | some b => pure (.bl b)
    | none => lstW x >>= fun xs => lstW y >>= fun ys => if xs.length = ys.length then eqW (.lst xs) (.lst ys) else pure (.bl false)
def neX (x y : PV) : RM PV := match eqB x y with
  | some b => pure (.bl (!b))
  | none => match tpE x y with
    | some b => pure (.bl (!b))
    | none => lstW x >>= fun xs => lstW y >>= fun ys => if xs.length = ys.length then neW (.lst xs) (.lst ys) else pure (.bl true)
theorem dp_lst {K : PySem.W.Frag} {G H : Hp} {ρ : List Addr} (sub : ∀ a o, G a = some o → H a = some o) {xs : List PV} {d : PyData} {p : Addr} {vs : List V} (h : dataOf (.lst xs) = some d) (hs : SqL K H p vs) (r : Reps K G ρ xs vs) : Dp K H (.ref p) d := by
  cases q : datasOf xs with
  | none => simp [dataOf, q] at h
  | some ds =>
    simp [dataOf, q] at h
    subst h
    exact .lst hs (datasOf_ok sub _ _ _ q r)
section
variable {X : Cx} {W : WX}
theorem opv_eqX (hu : X.A.units + 64 < cLine) : OpV X W (compareOp .Eq) eqX := by
  intro pins s σ H x y v u Q I rx ry G ρ M px py σ' S hx hy q
  unfold eqX at q
  cases e : eqB px py with
  | some b =>
    rw [e] at q
    exact opv_eq hu pins s σ H x y v u Q I rx ry G ρ M px py σ' S hx hy (by unfold eqW; rw [e]; exact q)
  | none =>
    rw [e] at q
    dsimp only at q
    cases et : tpE px py with
    | some b =>
      rw [et] at q
      obtain ⟨xs, ys, rfl, rfl, hz, hb⟩ := tpE_ok et
      obtain ⟨a, vs, rfl, ha, ra⟩ := rep_tup.mp hx
      obtain ⟨a', us, rfl, ha', ra'⟩ := rep_tup.mp hy
      cases (show v = Value.ref a from rx)
      cases (show u = Value.ref a' from ry)
      obtain ⟨is, r1, p1, _⟩ := I.tuple (SqT.ext S.sub ha)
      obtain ⟨js, r2, p2, _⟩ := I.tuple (SqT.ext S.sub ha')
      have e1 := r1.length
      have e2 := r2.length
      have e3 := ra.length
      have e4 := ra'.length
      have hm : min is.toArray.size js.toArray.size = 0 := by rw [List.size_toArray, List.size_toArray]; omega
      refine SeqAt.RcAt.tuples (e := fun _ => true) p1 p2 (show X.A.units < cLine by omega) (fun j h1 h2 => (by rw [List.size_toArray] at h1 h2; omega : False).elim) _ _ _ _ ?_
      have hv : ((List.range (min is.toArray.size js.toArray.size)).all (fun _ => true) && is.toArray.size == js.toArray.size) = b := by
        rw [hm, hb]
        have : (is.length == js.length) = (xs.length == ys.length) := by rw [← e1, ← e2, ← e3, ← e4]
        simpa using this
      rw [hv]
      exact ⟨.bl (b), H, I, rfl, outR_pure q S (rep_bl.mpr rfl)⟩
    | none =>
    rw [et] at q
    obtain ⟨xs, a, vs, rfl, ha, ra, q⟩ := lstW_ok S hx q
    obtain ⟨ys, b, us, rfl, hb, rb, q⟩ := lstW_ok S hy q
    by_cases hl : xs.length = ys.length
    · rw [if_pos hl] at q
      obtain ⟨d, e, h1, h2, h3, h4, q⟩ := eqW_ok (α := Nat) (β := Nat) q
      exact op_eqD hu pins s σ H _ _ v u Q I rx ry ⟨d, e, dp_lst S.sub h1 ha ra, dp_lst S.sub h2 hb rb, h3, h4, outR_pure q S (rep_bl.mpr rfl)⟩
    · rw [if_neg hl] at q
      cases (show v = Value.ref a from rx)
      cases (show u = Value.ref b from ry)
      obtain ⟨is, r1, p1, _⟩ := I.list ha
      obtain ⟨js, r2, p2, _⟩ := I.list hb
      have hsz : (is.toArray.size != js.toArray.size) = true := by
        have e1 := r1.length
        have e2 := r2.length
        have e3 := ra.length
        have e4 := rb.length
        simp; omega
      exact SeqAt.RcAt.lists_lengths p1.isList p2.isList hsz (show X.A.units < cLine by omega) _ _ _ _ ⟨.bl false, H, I, rfl, outR_pure q S (rep_bl.mpr rfl)⟩
theorem opv_neX (hu : X.A.units + 64 < cLine) : OpV X W (compareOp .NotEq) neX := by
  intro pins s σ H x y v u Q I rx ry G ρ M px py σ' S hx hy q
  unfold neX at q
  cases e : eqB px py with
  | some b =>
    rw [e] at q
    exact opv_ne hu pins s σ H x y v u Q I rx ry G ρ M px py σ' S hx hy (by unfold neW; rw [e]; exact q)
  | none =>
    rw [e] at q
    dsimp only at q
    cases et : tpE px py with
    | some b =>
      rw [et] at q
      obtain ⟨xs, ys, rfl, rfl, hz, hb⟩ := tpE_ok et
      obtain ⟨a, vs, rfl, ha, ra⟩ := rep_tup.mp hx
      obtain ⟨a', us, rfl, ha', ra'⟩ := rep_tup.mp hy
      cases (show v = Value.ref a from rx)
      cases (show u = Value.ref a' from ry)
      obtain ⟨is, r1, p1, _⟩ := I.tuple (SqT.ext S.sub ha)
      obtain ⟨js, r2, p2, _⟩ := I.tuple (SqT.ext S.sub ha')
      have e1 := r1.length
      have e2 := r2.length
      have e3 := ra.length
      have e4 := ra'.length
      have hm : min is.toArray.size js.toArray.size = 0 := by rw [List.size_toArray, List.size_toArray]; omega
      refine SeqAt.RcNeAt.tuples (e := fun _ => true) p1 p2 (show X.A.units < cLine by omega) (fun j h1 h2 => (by rw [List.size_toArray] at h1 h2; omega : False).elim) _ _ _ _ ?_
      have hv : ((List.range (min is.toArray.size js.toArray.size)).all (fun _ => true) && is.toArray.size == js.toArray.size) = b := by
        rw [hm, hb]
        have : (is.length == js.length) = (xs.length == ys.length) := by rw [← e1, ← e2, ← e3, ← e4]
        simpa using this
      rw [hv]
      exact ⟨.bl (!b), H, I, rfl, outR_pure q S (rep_bl.mpr rfl)⟩
    | none =>
    rw [et] at q
    obtain ⟨xs, a, vs, rfl, ha, ra, q⟩ := lstW_ok S hx q
    obtain ⟨ys, b, us, rfl, hb, rb, q⟩ := lstW_ok S hy q
    by_cases hl : xs.length = ys.length
    · rw [if_pos hl] at q
      obtain ⟨d, e, h1, h2, h3, h4, q⟩ := neW_ok q
      exact op_neD hu pins s σ H _ _ v u Q I rx ry ⟨d, e, dp_lst S.sub h1 ha ra, dp_lst S.sub h2 hb rb, h3, h4, outR_pure q S (rep_bl.mpr rfl)⟩
    · rw [if_neg hl] at q
      cases (show v = Value.ref a from rx)
      cases (show u = Value.ref b from ry)
      obtain ⟨is, r1, p1, _⟩ := I.list ha
      obtain ⟨js, r2, p2, _⟩ := I.list hb
      have hsz : (is.toArray.size != js.toArray.size) = true := by
        have e1 := r1.length
        have e2 := r2.length
        have e3 := ra.length
        have e4 := rb.length
        simp; omega
      exact SeqAt.RcNeAt.lists_lengths p1.isList p2.isList hsz (show X.A.units < cLine by omega) _ _ _ _ ⟨.bl true, H, I, rfl, outR_pure q S (rep_bl.mpr rfl)⟩
end
/-- membership, of data of any depth -/
def inQ (x : PV) (ys : List PV) : RM Bool := if flatP x && ys.all flatP then pure (ys.any fun y => eqP y x) else match dataOf x, datasOf ys with
  | some d, some ds => if SeqAt.shaped d && SeqAt.shaped (.list ds) then pure (ds.any fun z => PyData.eqv z d) else RM.bad
  | _, _ => RM.bad
def inN (n : Bool → Bool) (fo : PV → PV → RM PV) (x y : PV) : RM PV := match y with
  | .tup ys => inQ x ys >>= fun b => pure (.bl (n b))
  | .lst ys => inQ x ys >>= fun b => pure (.bl (n b))
  | .ref m => memL m >>= fun ys => inQ x ys >>= fun b => pure (.bl (n b))
  | _ => fo x y
def inX (x y : PV) : RM PV := inN id inW x y
def ninX (x y : PV) : RM PV := inN not ninW x y
section
variable {X : Cx} {W : WX}
theorem inQ_go {op : CmpOp} (n : Bool → Bool) (h1 : OpR X (compareOp op) (fun x y H Q => ∃ p xs, y = .ref p ∧ (SqL X.K H p xs ∨ SqT X.K H p xs) ∧ flatV x = true ∧ xs.all flatV = true ∧ Q (.bl (n (inV x xs))) H))
    (h2 : OpR X (compareOp op) (fun x y H Q => ∃ d ds, Dp X.K H x d ∧ (Dp X.K H y (.list ds) ∨ Dp X.K H y (.tuple ds)) ∧ SeqAt.shaped d = true ∧ SeqAt.shaped (.list ds) = true ∧ Q (.bl (n (ds.any fun z => PyData.eqv z d))) H))
    {pins : List (Addr × Obj)} {s : Shared} {σ σ' : St} {H G : Hp} {ρ : List Addr} {M : Mem} {x : V} {v u : Value} {Q : VK} {px : PV} {ys : List PV} {p : Addr} {vs : List V} (I : Inv X pins σ H s) (rx : RelV x v) (ry : RelV (.ref p) u) (S : SimH X.K G ρ M H) (hx : Rep X.K G ρ px x) (hs : SqL X.K H p vs ∨ SqT X.K H p vs) (hr : Reps X.K G ρ ys vs)
    (q : outR X.K (Rep X.K) W G ρ σ' ((inQ px ys >>= fun b => pure (.bl (n b))) M) Q) : wpAny (model X.prog X.w) X.A (compareOp op v u) (EP X pins σ Q) X.xe s := by
  rw [bind_eq] at q
  unfold inQ at q
  by_cases c : (flatP px && ys.all flatP) = true
  · rw [if_pos c] at q
    rw [Bool.and_eq_true] at c
    refine h1 pins s σ H _ _ v u Q I rx ry ⟨p, vs, rfl, hs, flat_V hx c.1, flats_V hr c.2, ?_⟩
    rw [in_V hx c.1 hr c.2]
    exact outR_pure q S (rep_bl.mpr rfl)
  · rw [if_neg c] at q
    cases e1 : dataOf px with
    | none => rw [e1] at q; exact q.elim
    | some d =>
      cases e2 : datasOf ys with
      | none => rw [e1, e2] at q; exact q.elim
      | some ds =>
        rw [e1, e2] at q
        dsimp only at q
        by_cases c2 : (SeqAt.shaped d && SeqAt.shaped (.list ds)) = true
        · rw [if_pos c2] at q
          rw [Bool.and_eq_true] at c2
          refine h2 pins s σ H _ _ v u Q I rx ry ⟨d, ds, dataOf_ok S.sub _ _ _ e1 hx, ?_, c2.1, c2.2, outR_pure q S (rep_bl.mpr rfl)⟩
          have ha := datasOf_ok S.sub _ _ _ e2 hr
          rcases hs with h | h
          · exact .inl (.lst h ha)
          · exact .inr (.tup h ha)
        · rw [if_neg c2] at q; exact q.elim
theorem opv_inN {op : CmpOp} (n : Bool → Bool) {fo : PV → PV → RM PV} (h0 : OpV X W (compareOp op) fo) (h1 : OpR X (compareOp op) (fun x y H Q => ∃ p xs, y = .ref p ∧ (SqL X.K H p xs ∨ SqT X.K H p xs) ∧ flatV x = true ∧ xs.all flatV = true ∧ Q (.bl (n (inV x xs))) H))
    (h2 : OpR X (compareOp op) (fun x y H Q => ∃ d ds, Dp X.K H x d ∧ (Dp X.K H y (.list ds) ∨ Dp X.K H y (.tuple ds)) ∧ SeqAt.shaped d = true ∧ SeqAt.shaped (.list ds) = true ∧ Q (.bl (n (ds.any fun z => PyData.eqv z d))) H)) : OpV X W (compareOp op) (inN n fo) := by
  intro pins s σ H x y v u Q I rx ry G ρ M px py σ' S hx hy q
  cases py with
  | tup ys =>
    obtain ⟨a, vs, rfl, h3, h4⟩ := rep_tup.mp hy
    exact inQ_go n h1 h2 I rx ry S hx (.inr (SqT.ext S.sub h3)) h4 q
  | lst ys =>
    obtain ⟨a, vs, rfl, h3, h4⟩ := rep_lst.mp hy
    exact inQ_go n h1 h2 I rx ry S hx (.inl (SqL.ext S.sub h3)) h4 q
  | ref m =>
    obtain ⟨ys, a, vs, _, _, rfl, h3, h4, q⟩ := memL_ok S hy (show outR X.K (Rep X.K) W G ρ σ' ((memL m >>= fun ys => inQ px ys >>= fun b => pure (.bl (n b))) M) Q from q)
    exact inQ_go n h1 h2 I rx ry S hx (.inl (SqL.of h3)) h4 q
  | _ => exact h0 pins s σ H x y v u Q I rx ry G ρ M px _ σ' S hx hy q
theorem op_in_dat (hu : X.A.units + 65 < cLine) : OpR X (compareOp .In) (fun x y H Q => ∃ d ds, Dp X.K H x d ∧ (Dp X.K H y (.list ds) ∨ Dp X.K H y (.tuple ds)) ∧ SeqAt.shaped d = true ∧ SeqAt.shaped (.list ds) = true ∧ Q (.bl (id (ds.any fun z => PyData.eqv z d))) H) := by
  intro pins s σ H x y v u Q I rx ry ⟨d, ds, hd, he, sd, se, q⟩
  rcases he with he | he
  · exact op_inD hu pins s σ H x y v u Q I rx ry ⟨d, ds, hd, he, sd, se, q⟩
  · obtain ⟨as, r1⟩ := Dp.reads I d x v hd rx
    obtain ⟨bs, r2⟩ := Dp.reads I (.tuple ds) y u he ry
    exact SeqAt.in_tuple_reads r2 r1 (SeqAt.canLay_of_shaped se) (SeqAt.canLay_of_shaped sd) (room_in_shaped sd hu) ⟨.bl _, H, I, rfl, q⟩
theorem op_nin_dat (hu : X.A.units + 65 < cLine) : OpR X (compareOp .NotIn) (fun x y H Q => ∃ d ds, Dp X.K H x d ∧ (Dp X.K H y (.list ds) ∨ Dp X.K H y (.tuple ds)) ∧ SeqAt.shaped d = true ∧ SeqAt.shaped (.list ds) = true ∧ Q (.bl (not (ds.any fun z => PyData.eqv z d))) H) := by
  intro pins s σ H x y v u Q I rx ry ⟨d, ds, hd, he, sd, se, q⟩
  rcases he with he | he
  · exact op_notInD hu pins s σ H x y v u Q I rx ry ⟨d, ds, hd, he, sd, se, q⟩
  · obtain ⟨as, r1⟩ := Dp.reads I d x v hd rx
    obtain ⟨bs, r2⟩ := Dp.reads I (.tuple ds) y u he ry
    exact SeqAt.notIn_tuple_reads r2 r1 (SeqAt.canLay_of_shaped se) (SeqAt.canLay_of_shaped sd) (room_in_shaped sd hu) ⟨.bl _, H, I, rfl, q⟩
theorem opv_inX (hu : X.A.units + 65 < cLine) : OpV X W (compareOp .In) inX := opv_inN id opv_in op_in_seq (op_in_dat hu)
theorem opv_ninX (hu : X.A.units + 65 < cLine) : OpV X W (compareOp .NotIn) ninX := opv_inN not opv_nin op_notIn_seq (op_nin_dat hu)
end
end R
set_option maxHeartbeats 4000000
/-! R4r: xs[::-1], tuples and lists. -/
namespace R
open PySem PySem.Spec L2
open PyProof.Rows hiding St
section
variable {prog : Program} {w : World} {A : Around} {E : Value → Shared → Prop} {s : Shared}
theorem applied_back {sl : Addr} {vl vu vs : Value} {n : Nat} {Q : Int × Int × Nat → Shared → Prop} (hs : s.heap.IsSliceOf sl vl vu vs) (pl : IsPart vl none) (pu : IsPart vu none) (ps : IsPart vs (some (-1))) (h : Q ((n : Int) - 1, -1, n) s) : wpAny (model prog w) A (Builtin.Slice.sliceApplied (.ref sl) (pure (n : Int))) Q E s := by
  obtain ⟨o1, h1, h2, h3⟩ := id hs
  unfold Builtin.Slice.sliceApplied Builtin.Slice.sliceFields
  refine wpAny_bind (wpAny_bind (wpAny_field h1 h3 (x := vl) rfl (wpAny_bind (wpAny_field h1 h3 (x := vu) rfl (wpAny_bind (wpAny_field h1 h3 (x := vs) rfl (wpAny_pure ?_)))))))
  refine wpAny_bind (HT.slicePart_ ps ?_)
  refine wpAny_bind (HT.slicePart_ pl (wpAny_bind (HT.slicePart_ pu (wpAny_bind (wpAny_pure ?_)))))
  have e1 : Builtin.Slice.sliceAdjust none none (-1) (n : Int) = ((n : Int) - 1, -1) := rfl
  have e2 : Builtin.Slice.slicePlaces ((n : Int) - 1) (-1) (-1) = n := by
    unfold Builtin.Slice.slicePlaces
    rw [if_neg (by omega), show (- -1 : Int) = 1 from rfl]
    simp only [Int.ediv_one]
    split <;> omega
  show wpAny _ _ (match Builtin.Slice.sliceAdjust none none (-1) (n : Int) with | (a, b) => pure (a, (-1 : Int), Builtin.Slice.slicePlaces a b (-1))) _ _ s
  rw [e1]
  show wpAny _ _ (pure ((n : Int) - 1, (-1 : Int), Builtin.Slice.slicePlaces ((n : Int) - 1) (-1) (-1))) _ _ s
  rw [e2]
  exact wpAny_pure h
theorem pick_back {α : Type} (xs : Array α) : ((List.range xs.size).filterMap fun (m : Nat) => xs[((xs.size : Int) - 1 + (m : Int) * -1).toNat]?).toArray = xs.toList.reverse.toArray := by
  congr 1
  refine List.ext_getElem? fun i => ?_
  have key : ∀ n, n ≤ xs.size → (List.range n).filterMap (fun (m : Nat) => xs[((xs.size : Int) - 1 + (m : Int) * -1).toNat]?) = xs.toList.reverse.take n := by
    intro n
    induction n with
    | zero => intro _; rfl
    | succ n ih =>
      intro hn
      rw [List.range_succ, List.filterMap_append, ih (by omega)]
      have hi : ((xs.size : Int) - 1 + (n : Int) * -1).toNat = xs.size - 1 - n := by omega
      have hx : xs[xs.size - 1 - n]? = some (xs[xs.size - 1 - n]'(by omega)) := Array.getElem?_eq_getElem (by omega)
      have hr : xs.toList.reverse[n]? = some (xs[xs.size - 1 - n]'(by omega)) := by
        rw [List.getElem?_reverse (by rw [Array.length_toList]; omega)]
        rw [Array.length_toList, Array.getElem?_toList, hx]
      rw [List.take_add_one, hr]
      simp only [List.filterMap_cons, hi, hx, List.filterMap_nil, Option.toList_some]
  rw [key xs.size (Nat.le_refl _)]
  rw [List.take_of_length_le (by simp)]
theorem pick_text (z : Str) : (Builtin.Str.strSliceIndices none none (-1) z.length).filterMap (z.cps[·]?) = z.cps.toList.reverse := by
  have h := congrArg Array.toList (pick_back z.cps)
  simp only [List.toList_toArray] at h
  rw [← h]
  have e : Builtin.Str.strSliceIndices none none (-1) z.length = (List.range z.cps.size).map fun (m : Nat) => ((z.cps.size : Int) - 1 + (m : Int) * -1).toNat := by
    show sliceRange (((z.cps.size : Nat) : Int) - 1) (-1) (-1) = _
    unfold sliceRange
    rw [if_neg (by omega)]
    have hc : (if ((z.cps.size : Nat) : Int) - 1 > -1 then (((z.cps.size : Nat) : Int) - 1 - -1 - -1 - 1) / (- -1) else 0).toNat = z.cps.size := by
      rw [show (- -1 : Int) = 1 from rfl]
      simp only [Int.ediv_one]
      split <;> omega
    dsimp only
    rw [hc]
    refine List.map_congr_left fun m _ => ?_
    congr 1
    omega
  rw [e, List.filterMap_map]
  rfl
theorem getItem_tuple_back {t sl : Addr} {items : Array Value} {vl vu vs : Value} {Q : Value → Shared → Prop} (ht : IsTup s.heap t items) (hs : s.heap.IsSliceOf sl vl vu vs) (pl : IsPart vl none) (pu : IsPart vu none) (ps : IsPart vs (some (-1)))
    (h : Q (.ref s.heap.objs.size) { s with heap := s.heap.push { cls := .type "tuple", data := .seq items.toList.reverse.toArray } }) (hz : items.size ≤ sizeLine) : wpAny (model prog w) A (getItem (.ref t) (.ref sl)) Q E s := by
  have hok : sizeOk (.seq items.toList.reverse.toArray) := by
    show items.toList.reverse.toArray.size ≤ sizeLine
    rw [List.size_toArray, List.length_reverse, Array.length_toList]; exact hz
  obtain ⟨o1, h1, h2, h3⟩ := id hs
  have hT : s.TypeIs (.ref sl) "slice" := ⟨o1, h1, h2⟩
  unfold getItem
  try with_reducible refine wpAny_holding ?_
  first | refine wpAny_bind (wpAny_pure ?_) | skip
  refine wpAny_bind (wpAny_sequenceKey ht.typeIs (by decide) ?_)
  refine wpAny_bind (wpAny_callSpecial?_slot (name := Str.ofString "__getitem__") ht.typeIs PyProof.Rows.slot_tuple_getitem (wpAny_call_entry PyProof.Rows.slot_tuple_getitem ht.typeIs entry_tuple_getitem ?_ (args_tuple_getitem _ _)))
  show wpAny _ _ (Builtin.Tuple.tupleItemsOf (.ref t) >>= fun _ => _) _ _ s
  refine wpAny_bind (tupleItemsOf_ ht ?_)
  refine wpAny_bind (wpAny_typeOf hT ?_)
  rw [if_pos (by decide)]
  refine wpAny_bind (applied_back hs pl pu ps ?_)
  have hno : ¬ (((items.size : Int) - 1 == 0 && (-1 : Int) == 1 && items.size == items.size) = true) := by simp
  show wpAny _ _ (if ((items.size : Int) - 1 == 0 && (-1 : Int) == 1 && items.size == items.size) = true then _ else _) _ _ s
  rw [if_neg hno, pick_back]
  first | exact wpAny_bind (m := Builtin.Tuple.tupleExact _) (wpAny_newObj_type (wpAny_pure ⟨_, rfl, wpAny_pure h⟩) hok)
        | exact wpAny_bind (m := Builtin.Tuple.tupleExact _) (wpAny_newObj_type (wpAny_bind (wpAny_pure (wpAny_pure ⟨_, rfl, wpAny_pure h⟩))) hok)
        | exact wpAny_bind (wpAny_bind (m := Builtin.Tuple.tupleExact _) (wpAny_newObj_type (wpAny_pure (wpAny_pure ⟨_, rfl, wpAny_pure h⟩)) hok))
        | exact wpAny_bind (wpAny_bind (m := Builtin.Tuple.tupleExact _) (wpAny_newObj_type (wpAny_pure ⟨_, rfl, wpAny_pure h⟩) hok))
end
def revS (z : Str) : Str := ⟨z.cps.toList.reverse.toArray⟩
def tBack (K : PySem.W.Frag) (te : TE) : TE := fun σ H Q => te σ H fun x H1 => (∃ a xs, x = .ref a ∧ SqL K H1 a xs ∧ ∀ p, H1 p = none → Q (.ref p) (upd H1 p (.lst xs.reverse))) ∨ (∃ a xs, x = .ref a ∧ SqT K H1 a xs ∧ ∀ p, H1 p = none → Q (.ref p) (upd H1 p (.tup xs.reverse))) ∨ ∃ z, x = .str z ∧ z.length ≤ sizeLine ∧ Q (.str (revS z)) H1
section
variable {X : Cx} {W : WX}
theorem pe_back {e : Expr} {te : TE} {k : Nat} {p1 p2 p3 pos : Pos} (he : PE X e te) : PE X (.Subscript e (.Slice none none (some (.UnaryOp .USub (.Constant (.int 1) k p1) p2)) p3) pos) (tBack X.K te) := by
  refine ⟨fun pins s σ H Q I h => Subscript_ (thn (he.run pins s σ H _ I h) fun v s1 ⟨x, H1, I1, r1, q1⟩ => ?_)⟩
  have hst : PO X (some (.UnaryOp .USub (.Constant (.int 1) k p1) p2)) (tPart (tUn (rU fun i => .int (-i)) (tC (.int 1)))) := po_some (pe_un un_neg pe_int)
  refine wpAny_Slice (thn (po_none.run pins s1 σ H1 (fun o H2 => o = none ∧ H2 = H1) I1 ⟨rfl, rfl⟩) fun vl s2 ⟨l, H2, I2, pl, el, e2⟩ => ?_)
  subst el e2
  refine thn (po_none.run pins s2 σ H2 (fun o H3 => o = none ∧ H3 = H2) I2 ⟨rfl, rfl⟩) fun vu s3 ⟨u, H3, I3, pu, eu, e3⟩ => ?_
  subst eu e3
  refine thn (hst.run pins s3 σ H3 (fun o H4 => o = some (-1) ∧ H4 = H3) I3 ⟨1, rfl, -1, rfl, rfl, rfl⟩) fun vs s4 ⟨o, H4, I4, ps, eo, e4⟩ => ?_
  subst eo e4
  have I5 : Inv X pins σ H4 { s4 with heap := s4.heap.push { cls := .type "slice", data := .fields #[vl, vu, vs] } } := I4.kept (t' := s4.toks) fun b ob q => Heap.get?_push_of_some _ q
  show wpAny (model X.prog X.w) X.A (subscriptTail e (.Slice none none (some (.UnaryOp .USub (.Constant (.int 1) k p1) p2)) p3) v (.ref s4.heap.objs.size)) (EP X pins σ Q) X.xe { s4 with heap := s4.heap.push { cls := .type "slice", data := .fields #[vl, vu, vs] } }
  rcases q1 with ⟨a, xs, ea, hx, q⟩ | ⟨a, xs, ea, hx, q⟩ | ⟨z, ea, hz, q⟩
  · subst ea
    cases r1
    obtain ⟨its, r, ht, hz⟩ := I5.list hx
    have hlen := r.length
    refine tail_any (ops := [.ref a, .ref s4.heap.objs.size]) ht.isList.typeIs (PySem.slot_list_getitem.lookup) ?_ (by with_unfolding_all rfl)
    refine wpAny_getItem_list_slice ht.isList (Heap.IsSliceOf.new _ vl vu vs) pl pu ps (by decide) ?_ (by rw [List.size_toArray]; omega)
    rw [PySem.W.krv_pick]
    exact ⟨.ref _, _, I5.laid (t' := s4.toks) (o := .lst xs.reverse) (fun b ob q => Heap.get?_push_of_some _ q) (Nat.le_refl _) ⟨by rw [List.length_reverse]; exact hz, _, 0, r.reverse, Heap.get?_push_size _ rfl⟩, rfl, q _ (I5.hok.fresh (Nat.le_refl _))⟩
  · subst ea
    cases r1
    obtain ⟨its, r, ht, hz⟩ := I5.tuple hx
    have hlen := r.length
    refine tail_any (ops := [.ref a, .ref s4.heap.objs.size]) ht.typeIs (PyProof.Rows.slot_tuple_getitem.lookup) ?_ (by with_unfolding_all rfl)
    refine getItem_tuple_back ht (Heap.IsSliceOf.new _ vl vu vs) pl pu ps ?_ (by rw [List.size_toArray]; omega)
    exact ⟨.ref _, _, I5.laid (t' := s4.toks) (o := .tup xs.reverse) (fun b ob q => Heap.get?_push_of_some _ q) (Nat.le_refl _) ⟨by rw [List.length_reverse]; exact hz, _, r.reverse, IsTup.new _ _⟩, rfl, q _ (I5.hok.fresh (Nat.le_refl _))⟩
  · subst ea
    obtain ⟨t, rfl⟩ := r1
    refine tail_any (ops := [.str z t, .ref s4.heap.objs.size]) (typeIs_str _ _ _) (F.slot_str_getitem.lookup) ?_ (by with_unfolding_all rfl)
    obtain ⟨l, hl, el⟩ := IsPart.raw pl
    obtain ⟨u, hu, eu⟩ := IsPart.raw pu
    obtain ⟨st, hst, es⟩ := IsPart.raw ps
    have el : l = none := by cases l <;> simp at el ⊢
    have eu : u = none := by cases u <;> simp at eu ⊢
    subst el eu
    refine wpAny_getItem_str_slice (l := none) (u := none) (st := st) ?_ (by rw [es]; rfl) ?_
    · rw [hl, hu, hst]; exact ⟨_, Heap.get?_push_size _ rfl, rfl, rfl⟩
    · unfold sliceMade slicePicked
      rw [es]
      show Made.post (if (((-1 : Int) == 1) && _) = true then _ else _) _ _
      rw [if_neg (by simp)]
      have e1 : (Builtin.Str.strSliceIndices (Option.map (·.1) (none : Option (Int × Tok))) (Option.map (·.1) (none : Option (Int × Tok))) ((some (-1 : Int)).getD 1) z.length).filterMap (z.cps[·]?) = z.cps.toList.reverse := pick_text z
      rw [e1]
      refine ⟨?_, .str (revS z), H4, I5.tok _, ⟨_, rfl⟩, q⟩
      show z.cps.toList.reverse.toArray.size ≤ sizeLine
      rw [List.size_toArray, List.length_reverse, Array.length_toList]
      exact hz
def backW : PV → RM PV
  | .str z => if z.length ≤ sizeLine then pure (.str (revS z)) else RM.bad
  | .tup xs => pure (.tup xs.reverse)
  | .lst xs => pure (.lst xs.reverse)
  | .ref n => memL n >>= fun xs => pure (.lst xs.reverse)
  | _ => RM.bad
theorem qe_back {a : Expr} {f : Env → RM PV} {k : Nat} {p1 p2 p3 pos : Pos} (ha : QE X W a f) : QE X W (.Subscript a (.Slice none none (some (.UnaryOp .USub (.Constant (.int 1) k p1) p2)) p3) pos) (fun e => f e >>= backW) :=
  QE.of (PE.imp (pe_back ha.pe) fun σ H Q ⟨G, ρ, M, e, s, r, q⟩ => ⟨G, ρ, M, e, s, r, outR_bind q fun G1 ρ1 M1 x y H1 x1 s1 r1 q1 => by
    unfold backW at q1
    split at q1
    · rw [rep_str] at r1
      obtain ⟨hc, q1⟩ := ite_outR q1
      exact .inr (.inr ⟨_, r1, hc, outR_pure q1 s1 (rep_str.mpr rfl)⟩)
    · obtain ⟨p, vs, rfl, h1, h2⟩ := rep_tup.mp r1
      exact .inr (.inl ⟨p, vs, rfl, SqT.ext s1.sub h1, new_tup s1 h2.reverse q1⟩)
    · obtain ⟨p, vs, rfl, h1, h2⟩ := rep_lst.mp r1
      exact .inl ⟨p, vs, rfl, SqL.ext s1.sub h1, new_lst s1 h2.reverse q1⟩
    · obtain ⟨xs, p, vs, _, _, rfl, e1, r, q2⟩ := memL_ok s1 r1 q1
      exact .inl ⟨p, vs, rfl, SqL.of e1, new_lst s1 r.reverse q2⟩
    · exact q1.elim⟩)
end
end R
set_option maxHeartbeats 4000000
/-! R8: isinstance, methods of built-in types. -/
namespace R
open PySem PySem.Spec L2
open PyProof.Rows hiding St
section
variable {X : Cx} {W : WX} {a b c o : Expr} {f g h : Env → RM PV} {pos : Pos}
/-! ### isinstance of built-in types -/
def tyOf : PV → RM String
  | .non => pure "NoneType"
  | .bl _ => pure "bool"
  | .int _ => pure "int"
  | .str _ => pure "str"
  | .tup _ => pure "tuple"
  | .lst _ => pure "list"
  | .dct _ _ => pure "dict"
  | .ref n => memL n >>= fun _ => pure "list"
  | _ => RM.bad
def isiW (T : String) (x : PV) : RM PV := tyOf x >>= fun t => optR (kitB t T) >>= fun b => pure (.bl b)
theorem sqT_ty {K : PySem.W.Frag} {H : Hp} {a : Addr} {vs : List V} (h : SqT K H a vs) : TyX K H (.ref a) (.type "tuple") := by
  rcases h with (h | ⟨o, h⟩) | ⟨o, its, n, h, hc, _⟩
  · exact .base (.tup h)
  · exact .fTuple h
  · exact .kTuple h hc
theorem sqL_ty {K : PySem.W.Frag} {H : Hp} {a : Addr} {vs : List V} (h : SqL K H a vs) : TyX K H (.ref a) (.type "list") := by
  rcases h with (h | ⟨o, h⟩) | ⟨o, its, n, h, hc, _⟩
  · exact .base (.lst h)
  · exact .base (.frz h)
  · exact .kList h hc
theorem tyOf_ok {α β : Type} {K : PySem.W.Frag} {Rl : Hp → List Addr → α → β → Prop} {x : PV} {k : String → RM α} {G H : Hp} {ρ : List Addr} {M : Mem} {σ : St} {Q : β → Hp → Prop} {v : V} (S : SimH K G ρ M H) (hx : Rep K G ρ x v) (h : outR K Rl W G ρ σ ((tyOf x >>= k) M) Q) :
    ∃ t, TyX K H v (.type t) ∧ outR K Rl W G ρ σ (k t M) Q := by
  cases x with
  | non => rw [rep_non] at hx; subst hx; exact ⟨_, .base .non, h⟩
  | bl b => rw [rep_bl] at hx; subst hx; exact ⟨_, .base (.bl _), h⟩
  | int b => rw [rep_int] at hx; subst hx; exact ⟨_, .base (.int _), h⟩
  | str b => rw [rep_str] at hx; subst hx; exact ⟨_, .base (.str _), h⟩
  | tup xs => obtain ⟨p, vs, rfl, h1, h2⟩ := rep_tup.mp hx; exact ⟨_, sqT_ty (SqT.ext S.sub h1), h⟩
  | lst xs => obtain ⟨p, vs, rfl, h1, h2⟩ := rep_lst.mp hx; exact ⟨_, sqL_ty (SqL.ext S.sub h1), h⟩
  | dct ks xs =>
    simp only [Rep] at hx
    obtain ⟨p, vs, rfl, h1, _⟩ := hx
    exact ⟨_, .base (.dK (S.sub _ _ h1)), h⟩
  | ref n =>
    have h' : outR K Rl W G ρ σ ((memL n >>= fun _ => k "list") M) Q := by
      rw [show tyOf (.ref n) = (memL n >>= fun _ => pure "list") from rfl, assoc_R] at h
      exact h
    obtain ⟨xs, p, vs, _, _, rfl, e, r, q⟩ := memL_ok S hx h'
    exact ⟨_, .base (.lst e), q⟩
  | ins _ _ _ => exact h.elim
  | exn _ _ => exact h.elim
theorem qe_isi {T : Str} {Ts : String} {p p2 : Pos} (hg : Gl X "isinstance") (hm : X.mg "isinstance" = none) (hg2 : Gl X T) (hm2 : X.mg T = none) (hv : bootBuiltins T = some (.type Ts)) (hn : T ≠ "__name__") (hd : (T == ("__debug__" : Str)) = false) (ha : QE X W a f) (hs : notStar a = true) :
    QE X W (.Call (.Name "isinstance" p) [a, .Name T p2] [] pos) (fun e => f e >>= isiW Ts) :=
  QE.of (PE.imp (L2.pe_callB call_isi hg hm (by decide +kernel) (pa_cons ha.pe (pa_cons (pe_bltn (v := .ty Ts) hg2 hm2 hv rfl hn hd) pa_nil rfl) (starEach_cons hs)) (by decide) (by decide) (starEach_cons hs) rfl) fun σ H Q ⟨G, ρ, M, e, s, r, q⟩ => ⟨G, ρ, M, e, s, r, outR_bind q fun G1 ρ1 M1 x v H1 x1 s1 r1 q1 => by
    obtain ⟨t, ht, q2⟩ := tyOf_ok s1 r1 q1
    obtain ⟨b, e, q3⟩ := optR_bind q2
    exact ⟨v, .ty Ts, .type t, .type Ts, b, rfl, .ty _, ht, kit_ty e, outR_pure q3 s1 (rep_bl.mpr rfl)⟩⟩)
/-- isinstance(x, C), C a class of the program: the instance's class is told by cls; ok c says whether an instance of c is one -/
def isiC (ok : Str → Option Bool) (nt : String → Option Bool) (x : PV) : RM PV := match x with
  | .ins c _ _ => optR (ok c) >>= fun b => pure (.bl b)
  | x => tyOf x >>= fun t => optR (nt t) >>= fun b => pure (.bl b)
/-! ### methods by values -/
def MethV (X : Cx) (W : WX) (id : String) (fo : PV → List PV → RM PV) : Prop :=
  ∀ (pins : List (Addr × Obj)) (s : Shared) (σ : St) (H : Hp) (x : V) (xs : List V) (v : Value) (us : List Value) (Q : VK), Inv X pins σ H s → RelV x v → Vals xs us →
    ∀ (G : Hp) (ρ : List Addr) (M : Mem) (px : PV) (ps : List PV) (σ' : St), SimH X.K G ρ M H → Rep X.K G ρ px x → Reps X.K G ρ ps xs → outR X.K (Rep X.K) W G ρ σ' (fo px ps M) Q →
    wpAny (model X.prog X.w) X.A (call (.builtin id) (v :: us)) (EP X pins σ Q) X.xe s
/-- the receiver is of the type T -/
def recvW (T : String) : PV → RM PV
  | .str z => if T = "str" then pure (.str z) else RM.bad
  | .lst xs => if T = "list" then pure (.lst xs) else RM.bad
  | .ref n => if T = "list" then memL n >>= fun _ => pure (.ref n) else RM.bad
  | .dct ks xs => if T = "dict" then pure (.dct ks xs) else RM.bad
  | _ => RM.bad
theorem recv_ok {α β : Type} {K : PySem.W.Frag} {Rl : Hp → List Addr → α → β → Prop} {T : String} {x : PV} {k : PV → RM α} {G H : Hp} {ρ : List Addr} {M : Mem} {σ : St} {Q : β → Hp → Prop} {v : V} (S : SimH K G ρ M H) (hx : Rep K G ρ x v) (h : outR K Rl W G ρ σ ((recvW T x >>= k) M) Q) :
    tyV K T v H ∧ outR K Rl W G ρ σ (k x M) Q := by
  cases x with
  | str z =>
    by_cases c : T = "str"
    · rw [show recvW T (.str z) = pure (.str z) from if_pos c] at h
      rw [rep_str] at hx; subst hx
      exact ⟨c, h⟩
    · rw [show recvW T (.str z) = RM.bad from if_neg c] at h; exact h.elim
  | lst xs =>
    by_cases c : T = "list"
    · rw [show recvW T (.lst xs) = pure (.lst xs) from if_pos c] at h
      obtain ⟨p, vs, rfl, h1, h2⟩ := rep_lst.mp hx
      exact ⟨.inl ⟨c, vs, SqL.ext S.sub h1⟩, h⟩
    · rw [show recvW T (.lst xs) = RM.bad from if_neg c] at h; exact h.elim
  | ref n =>
    by_cases c : T = "list"
    · rw [show recvW T (.ref n) = (memL n >>= fun _ => pure (.ref n)) from if_pos c, assoc_R] at h
      obtain ⟨xs, p, vs, _, _, rfl, e, r, q⟩ := memL_ok S hx h
      exact ⟨.inl ⟨c, vs, SqL.of e⟩, q⟩
    · rw [show recvW T (.ref n) = RM.bad from if_neg c] at h; exact h.elim
  | dct ks xs =>
    by_cases c : T = "dict"
    · rw [show recvW T (.dct ks xs) = pure (.dct ks xs) from if_pos c] at h
      simp only [Rep] at hx
      obtain ⟨p, vs, rfl, h1, _⟩ := hx
      exact ⟨.inr (.inr (.inl ⟨c, .inl ⟨_, S.sub _ _ h1⟩⟩)), h⟩
    · rw [show recvW T (.dct ks xs) = RM.bad from if_neg c] at h; exact h.elim
  | _ => exact h.elim
def fMeth (T : String) (fo : PV → List PV → RM PV) (f : Env → RM PV) (fa : Env → RM (List PV)) : Env → RM PV := fun e => f e >>= fun x => recvW T x >>= fun x => fa e >>= fun ys => fo x ys
theorem qe_bm {e : Expr} {es : List Expr} {name : Str} {T id : String} {apos : Pos} {fo : PV → List PV → RM PV} {fa : Env → RM (List PV)} (pa : PlainAttrs T) (slot : Slot T name id) (hty : typeOf (.builtin id) = pure (.type "method_descriptor")) (hm : MethV X W id fo) (ho : QE X W o f) (ha : QA X W (e :: es) fa)
    (hn : notSuper o = true) (hst : (e :: es).all notStar = true) (hl : (e :: es).length < 30) (hline : (apos.endLine == pos.line) = true) :
    QE X W (.Call (.Attribute o name apos) (e :: es) [] pos) (fMeth T fo f fa) := by
  have hst' := hst
  rw [List.all_cons, Bool.and_eq_true] at hst
  let r : V → List V → Hp → VK → Prop := fun x vs H Q => ∃ G ρ M px ps σ', SimH X.K G ρ M H ∧ Rep X.K G ρ px x ∧ Reps X.K G ρ ps vs ∧ outR X.K (Rep X.K) W G ρ σ' (fo px ps M) Q
  have hr : MtR X id r := fun pins s σ H x xs v us Q I rx rs ⟨G, ρ, M, px, ps, σ', a, b, c, d⟩ => hm pins s σ H x xs v us Q I rx rs G ρ M px ps σ' a b c d
  have hall : (backTo pos (starEach (e :: es) X.env)).all (!·.1) = true := by
    have h := star_any (env := X.env) (pos := pos) hst'
    rw [List.all_eq_not_any_not]
    simp only [Bool.not_not]
    rw [h]; rfl
  refine QE.of (PE.imp (pe_bm pa slot hty hr ho.pe ha.pa (base_ok hn) ?_ hline (starEach_cons hst.1) (star_any hst.2)) fun σ H Q ⟨G, ρ, M, e, s, r, q⟩ => ⟨G, ρ, M, e, s, r, outR_bind q fun G1 ρ1 M1 x v H1 x1 s1 r1 q1 => ?_⟩)
  · rw [hall]
    show (true && true && decide ((e :: es).length + 0 + 0 < 30)) = true
    simpa using hl
  · obtain ⟨ht, q2⟩ := recv_ok s1 r1 q1
    exact ⟨ht, ⟨G1, ρ1, M1, e, s1, r.ext x1, outR_bind q2 fun G2 ρ2 M2 ys vs H2 x2 s2 r2 q3 => ⟨G2, ρ2, M2, x, ys, σ, s2, r1.ext x2 _ _, r2, q3⟩⟩⟩
/-- append -/
def appW : PV → List PV → RM PV
  | .ref n, [y] => fun M => match M[n]? with
    | some (.lst xs) => if xs.length < sizeLine then .ok .non (M.set n (.lst (xs ++ [y]))) else .bad
    | _ => .bad
  | _, _ => RM.bad
theorem mv_append : MethV X W "list.append" appW := by
  intro pins s σ H x xs v us Q I rx rs G ρ M px ps σ' S hx hs q
  unfold appW at q
  split at q
  · rename_i n y
    obtain ⟨w, rfl, hw⟩ := reps1 hs
    cases e : M[n]? with
    | none => rw [e] at q; exact q.elim
    | some u =>
      rw [e] at q
      cases u with
      | lst zs =>
        simp only [Rep] at hx
        obtain ⟨p, rfl, hp⟩ := hx
        obtain ⟨vs, h1, h2⟩ := S.at_ hp e
        dsimp only at q
        by_cases hc : zs.length < sizeLine
        · rw [if_pos hc] at q
          refine mt_append pins s σ H _ _ v us Q I rx rs ⟨p, vs, w, rfl, rfl, h1, by rw [← h2.length]; exact hc, ?_⟩
          have S2 := S.write (u := .lst (vs ++ [w])) (o' := .lst (zs ++ [y])) hp e ⟨_, upd_same, h2.app (Reps.cons hw Reps.nil)⟩
          exact outR_ok q Ext.refl S2 (rep_non.mpr rfl)
        · rw [if_neg hc] at q; exact q.elim
      | dct _ _ => exact q.elim
      | ins _ _ _ => exact q.elim
  · exact q.elim
/-! ### texts -/
theorem reps_strs {K : PySem.W.Frag} {G : Hp} {ρ : List Addr} : ∀ (ns : List Str), Reps K G ρ (ns.map PV.str) (ns.map V.str)
  | [] => Reps.nil
  | n :: ns => Reps.cons (rep_str.mpr rfl) (reps_strs ns)
def splitW : PV → List PV → RM PV
  | .str a, [.str b] => if (b.length != 0) && decide (a.length + 2 ≤ sizeLine) then pure (.lst ((Txt.split a b).map PV.str)) else RM.bad
  | _, _ => RM.bad
theorem mv_split : MethV X W "str.split" splitW := by
  intro pins s σ H x xs v us Q I rx rs G ρ M px ps σ' S hx hs q
  unfold splitW at q
  split at q
  · rename_i z w
    obtain ⟨y, rfl, hw⟩ := reps1 hs
    rw [rep_str] at hx hw; subst hx hw
    obtain ⟨hc, q⟩ := ite_outR q
    simp only [Bool.and_eq_true, decide_eq_true_iff] at hc
    exact mt_split pins s σ H _ _ v us Q I rx rs ⟨z, w, rfl, rfl, by simpa using hc.1, hc.2, new_lst S (reps_strs _) q⟩
  · exact q.elim
def strsOf : List PV → Option (List Str)
  | [] => some []
  | .str b :: xs => (strsOf xs).map (b :: ·)
  | _ :: _ => none
theorem strs_rep {K : PySem.W.Frag} {G : Hp} {ρ : List Addr} : ∀ {xs : List PV} {vs : List V} {bs : List Str}, Reps K G ρ xs vs → strsOf xs = some bs → vs = bs.map V.str
  | [], vs, bs, r, e => by
    simp only [Reps] at r; subst r
    simp only [strsOf, Option.some.injEq] at e; subst e; rfl
  | x :: xs, vs, bs, r, e => by
    simp only [Reps] at r
    obtain ⟨v, us, rfl, h1, h2⟩ := r
    cases x with
    | str b =>
      simp only [strsOf] at e
      cases q : strsOf xs with
      | none => rw [q] at e; cases e
      | some cs =>
        rw [q] at e; cases e
        rw [rep_str] at h1; subst h1
        rw [strs_rep h2 q]; rfl
    | _ => simp only [strsOf] at e; cases e
def joinOk (a : Str) (ys : List Str) : Bool := decide ((ys.map (·.length)).sum + ys.length * a.length ≤ 16777216)
def joinW : PV → List PV → RM PV
  | .str a, [x] => lstW x >>= fun xs => optR (strsOf xs) >>= fun ys => if joinOk a ys then pure (.str (Txt.join a ys)) else RM.bad
  | _, _ => RM.bad
theorem mv_join : MethV X W "str.join" joinW := by
  intro pins s σ H x xs v us Q I rx rs G ρ M px ps σ' S hx hs q
  unfold joinW at q
  split at q
  · rename_i z w
    obtain ⟨y, rfl, hw⟩ := reps1 hs
    rw [rep_str] at hx; subst hx
    obtain ⟨zs, p, vs, rfl, h2, h3, q⟩ := lstW_ok S hw q
    obtain ⟨ys, e, q⟩ := optR_bind q
    obtain ⟨hc, q⟩ := ite_outR q
    have := strs_rep h3 e
    subst this
    exact mt_join pins s σ H _ _ v us Q I rx rs ⟨z, p, ys, rfl, rfl, .inl h2, of_decide_eq_true hc, outR_pure q S (rep_str.mpr rfl)⟩
  · exact q.elim
end
end R
set_option maxHeartbeats 4000000
/-! R9: enumerate of a tuple; what is walked, by items. -/
namespace R
open PySem PySem.Spec L2
open PyProof.Rows hiding St
open AutoSeq1 (wpAny_loadPart')
theorem meets_enumerate_newT (l : Addr) (items : Array Value) (n : Nat) (dct : Option Addr) (sl : Array (Option Value)) :
    Meets (Builtin.«enumerate.__new__» ⟨[.type "enumerate", .ref l], []⟩) (fun _ R s => s.heap.get? l = some { cls := .type "tuple", dict := dct, data := .seq items n, slots := sl } ∧
      R (.ok (.ret (.ref (s.heap.push { cls := .type "tuple_iterator", data := .fields #[.ref l, .int 0 0] }).objs.size)))
        { s with heap := (s.heap.push { cls := .type "tuple_iterator", data := .fields #[.ref l, .int 0 0] }).push { cls := .type "enumerate", data := .fields #[.none, .bool false, .ref s.heap.objs.size, rawInt 0, .none, .none] } }) :=
  .of_wp fun prog w A R s h => by
    obtain ⟨hp, g, d, tk, os⟩ := s; obtain ⟨hl, h⟩ := h
    have hsub := sub_enumerate
    have hL : Heap.IsTuple (Shared.heap ⟨hp, g, d, tk, os⟩) l items := ⟨_, hl, rfl, n, rfl⟩
    wp_walk using wpAny_loadPart' hl
    refine wpAny_stack_any fun st => wpAny_pure ?_
    split
    · rename_i c _ _ _ _ _
      cases (c == Value.type "enumerate")
      · wp_walk using wpAny_loadPart' hl, wpAny_pyIter_tuple hL
        exact ⟨_, rfl, h⟩
      · wp_walk using wpAny_loadPart' hl, wpAny_pyIter_tuple hL
        exact ⟨_, rfl, h⟩
    · wp_walk using wpAny_loadPart' hl, wpAny_pyIter_tuple hL
      exact ⟨_, rfl, h⟩
section
variable {prog : Program} {w : World} {A : Around} {E : Value → Shared → Prop} {s : Shared}
theorem call_enumerate_tuple {l : Addr} {items : Array Value} {Q : Value → Shared → Prop} (hL : s.heap.IsTuple l items)
    (h : ∀ h', IsEnum h' (s.heap.objs.size + 1) s.heap.objs.size 0 .none → h'.IsTupleIter s.heap.objs.size l 0 → h'.objs.size = s.heap.objs.size + 2 →
      (∀ b o, s.heap.get? b = some o → h'.get? b = some o) → Q (.ref (s.heap.objs.size + 1)) { s with heap := h' }) :
    wpAny (model prog w) A (call (.type "enumerate") [.ref l]) Q E s := by
  obtain ⟨⟨c, dct, dt, sl⟩, hl, hc, n, hd⟩ := hL
  replace hc : c = .type "tuple" := hc
  replace hd : dt = .seq items n := hd
  subst hc hd
  refine callType_new F.called_enumerate (by decide) (F.typeCall_enumerate_1 _) (F.newCall_enumerate_1 _) (fun obj => F.args_object_init_2 obj _) F.entry_enumerate_new
    (meets_enumerate_newT l items n dct sl) ⟨hl, ?_⟩
  have hz : (s.heap.push { cls := .type "tuple_iterator", data := .fields #[.ref l, .int 0 0] }).objs.size = s.heap.objs.size + 1 := Heap.size_push ..
  show _ ∧ _
  rw [hz]
  have he : IsEnum ((s.heap.push { cls := .type "tuple_iterator", data := .fields #[.ref l, .int 0 0] }).push
      { cls := .type "enumerate", data := .fields #[.none, .bool false, .ref s.heap.objs.size, rawInt 0, .none, .none] }) (s.heap.objs.size + 1) s.heap.objs.size 0 .none := by
    have := Heap.get?_push_size (s.heap.push { cls := .type "tuple_iterator", data := .fields #[.ref l, .int 0 0] })
      (o := { cls := .type "enumerate", data := .fields #[.none, .bool false, .ref s.heap.objs.size, rawInt 0, .none, .none] }) rfl
    rw [hz] at this; exact this
  refine ⟨⟨_, he, rfl⟩, h _ he ⟨_, Heap.get?_push_of_some _ (Heap.get?_push_size _ rfl), rfl, rfl⟩ (by rw [Heap.size_push, hz]) fun b o x => Heap.get?_push_of_some _ (Heap.get?_push_of_some _ x)⟩
end
/-- the tuple at a, each item in a new pair -/
def IteT (K : PySem.W.Frag) (a : Addr) : It :=
  ⟨fun i H => ∃ (xs : List V) (x : V), SqT K H a xs ∧ xs[i]? = some x, fun i H v H' => ∃ T x, v = .ref T ∧ H T = none ∧ H' = upd H T (.tup [.int (i : Nat), x]) ∧ ∀ xs, SqT K H a xs → xs[i]? = some x, fun i H => ∃ xs : List V, SqT K H a xs ∧ xs.length ≤ i⟩
theorem turn_enumT {P : Program} {w : World} {K : PySem.W.Frag} {elts : List Expr} {kk : Nat} {tpos : Pos} (a e it : Addr) :
    Turn P w K (.Tuple elts kk tpos) (IteT K a) [e, it] e (fun i h => (∃ old, IsEnum h e it ((i : Nat) : Int) old) ∧ h.IsTupleIter it a i ∧ e ≠ it) where
  mem := by simp
  obj := fun i h st b hb => by
    obtain ⟨⟨old, he⟩, ⟨o, ho, hc, hd⟩, _⟩ := st
    have e' : b = e ∨ b = it := by simpa using hb
    rcases e' with z | z
    · rw [z]; exact ⟨_, he, fun v q => nomatch q⟩
    · rw [z]; exact ⟨o, ho, fun v q => by rw [hd] at q; cases q⟩
  keep := fun i h h' st k => let ⟨⟨old, he⟩, hi, hne⟩ := st; ⟨⟨old, k e (by simp) _ he⟩, hi.at fun o q => k it (by simp) o q, hne⟩
  item := by
    intro X hP hw hK hc i pins s σ H E I hf st hg
    subst hP hw hK
    obtain ⟨⟨old, he⟩, hit, hne⟩ := st
    obtain ⟨xs, x, hq, hx⟩ := hg
    obtain ⟨its, rv, p, hz⟩ := I.tuple hq
    obtain ⟨u, hu, ru⟩ := rv.get hx
    have hel : e < s.heap.objs.size := Heap.lt_size he
    have hil : it < s.heap.objs.size := by obtain ⟨_, q, _⟩ := hit; exact Heap.lt_size q
    have pT : s.heap.IsTuple a its.toArray := p
    have hae : a ≠ e := fun z => by
      obtain ⟨o, ho, hcl, _⟩ := p
      have he' : s.heap.get? e = _ := he
      rw [z, he'] at ho
      cases ho
      injection hcl with hz
      exact absurd hz (by decide)
    have hai : a ≠ it := fun z => by
      obtain ⟨o, ho, hcl, _⟩ := p
      obtain ⟨o2, ho2, hc2, _⟩ := hit
      rw [z, ho2] at ho
      cases ho
      rw [hcl] at hc2
      injection hc2 with hz
      exact absurd hz (by decide)
    have hlt : i < its.toArray.size := by
      have := (List.getElem?_eq_some_iff.mp hu).1
      simpa using this
    refine wpAny_pyNext_enum_itemC (Draws.tuple (A := X.A.in1) (show X.A.in1.handled = none from I.ok.hd hc) it a hai its.toArray) he ⟨hit, pT⟩ hlt hne (by simp only [List.mem_cons, List.not_mem_nil, or_false, not_or]; exact ⟨hne, hae.symm⟩) fun y h' tk hy ho hst' hT hsz hk => ?_
    have hyu : y = u := by
      have h2 : its[i]? = some y := by simpa using hy
      rw [hu] at h2
      exact (Option.some.inj h2).symm
    subst hyu
    refine ⟨_, rfl, wpAny_letOwnedTupleGo_enum (s := { s with heap := h', toks := tk + 1 }) ho fun h'' he' sb => ?_⟩
    have hT2 : h''.get? s.heap.objs.size = some { cls := .type "tuple", data := .seq #[.int i tk, y] } := (sb.2 _ (Nat.ne_of_gt hel)).trans hT
    have new : ObjOk X.prog X.w (upd H s.heap.objs.size (.tup [.int (i : Nat), x])) h'' s.heap.objs.size (.tup [.int (i : Nat), x]) :=
      ⟨by show 2 ≤ sizeLine; decide, [.int i tk, y], .cons ⟨_, rfl⟩ (.cons ru .nil), ⟨_, hT2, rfl, _, rfl⟩⟩
    have I1 : Inv X pins σ (upd H s.heap.objs.size (.tup [.int (i : Nat), x])) { s with heap := h'', toks := tk + 1 } :=
      I.turnedNew (ch := [e, it]) (fun b ob hb q => (sb.2 b (fun z => hb (by simp [z]))).trans (hk b ob (fun z => hb (by simp [z])) (fun z => hb (by simp [z])) q)) hf (Nat.le_refl _) new
    refine ⟨.ref s.heap.objs.size, _, I1, rfl, ⟨_, x, rfl, I.hok.fresh (Nat.le_refl _), rfl, fun ys hy => by rw [I.tuple_inj hy hq]; exact hx⟩, ⟨⟨y, ?_⟩, hst'.1.at fun o q => (sb.2 it (Ne.symm hne)).trans q, hne⟩, fun b hb => ?_⟩
    · have e1 : ((i + 1 : Nat) : Int) = (i : Int) + 1 := by omega
      rw [e1]; exact he'
    · have hb' : b < s.heap.objs.size := by
        have e' : b = e ∨ b = it := by simpa using hb
        rcases e' with z | z
        · rw [z]; exact hel
        · rw [z]; exact hil
      rw [upd_ne (Nat.ne_of_lt hb')]
      exact (hf b hb).1
  done := by
    intro X hP hw hK hc i pins s σ H E I hf st hg
    subst hP hw hK
    obtain ⟨⟨old, he⟩, hit, hne⟩ := st
    obtain ⟨xs, hq, hx⟩ := hg
    obtain ⟨its, rv, p, hz⟩ := I.tuple hq
    obtain ⟨f0, f1, f2, f3, f4, f5⟩ := hf it (by simp)
    have hl := rv.length
    have pT : s.heap.IsTuple a its.toArray := p
    have hai : a ≠ it := fun z => by
      obtain ⟨o, ho, hcl, _⟩ := p
      obtain ⟨o2, ho2, hc2, _⟩ := hit
      rw [z, ho2] at ho
      cases ho
      rw [hcl] at hc2
      injection hc2 with hz
      exact absurd hz (by decide)
    have hge : its.toArray.size ≤ i := by simp; omega
    have hnone : its.toArray[i]? = none := Array.getElem?_eq_none hge
    refine wpAny_pyNext_enum_endD (n := 0) (St := fun _ h => h.IsTupleIter it a i ∧ h.IsTuple a its.toArray) (P := fun _ _ => False) (fp := [it, a]) ?_ he ⟨hit, pT⟩ fun h' eb => ⟨rfl, I.turned (t' := s.toks) (fun b o hb q => eb b o hb q) f0 f1 f3 f4 f5⟩
    exact ⟨fun _ _ st => let ⟨o, ho, _⟩ := st.1; ⟨o, ho⟩, fun _ _ _ st hk => ⟨st.1.at fun o e => hk it (by simp) o e, st.2.at fun o e => hk a (by simp) o e⟩, fun i s Q E hi => absurd hi (Nat.not_lt_zero _),
      fun s Q E st hE => wpAny_nextOf_tuple_end (show X.A.in1.handled = none from I.ok.hd hc) st.1 st.2 hnone hE⟩
  self := fun A i s Q E st h => let ⟨⟨_, he⟩, _⟩ := st; wpAny_pyIter_enum he h
def iEnumT (K : PySem.W.Frag) (ta : TA) : TI := fun σ H R => ta σ H fun vs H1 => ∃ a xs, vs = [.ref a] ∧ SqT K H1 a xs ∧ R (IteT K a) H1
theorem pi_enumT {X : Cx} {e : Expr} {ta : TA} {p pos tpos : Pos} {elts : List Expr} {kk : Nat} (hg : Gl X "enumerate") (hm : X.mg "enumerate" = none) (ha : PA X [e] ta) (hs : starEach [e] X.env = [(false, eval e X.env)]) :
    PI X (.Tuple elts kk tpos) (.Call (.Name "enumerate" p) [e] [] pos) (iEnumT X.K ta) := by
  refine ⟨fun pins s σ H R I h => ?_⟩
  refine Call_ (ld_blt I hg hm boot_enumerate (PyProof.Rows.callWith_type1 (thn (ha.run pos pins s σ H _ I h) fun us s1 ⟨vs, H1, I1, r1, q1⟩ => ?_) hs rfl))
  obtain ⟨a, xs, ex, hq, q⟩ := q1
  subst ex
  cases r1 with
  | cons r rr =>
    cases rr
    cases r
    obtain ⟨its, rv, p', hz⟩ := I1.tuple hq
    refine call_enumerate_tuple (show s1.heap.IsTuple a its.toArray from p') fun h' he hit hsz hk => wpAny_pyIter_enum he ?_
    have I2 : Inv X pins σ H1 { s1 with heap := h' } := I1.kept (t' := s1.toks) hk
    refine ⟨s1.heap.objs.size + 1, [s1.heap.objs.size + 1, s1.heap.objs.size], _, _, H1, rfl, I2, turn_enumT a (s1.heap.objs.size + 1) s1.heap.objs.size, ⟨⟨.none, he⟩, hit, Nat.succ_ne_self _⟩, fun b hb => ?_, q⟩
    have e' : b = s1.heap.objs.size + 1 ∨ b = s1.heap.objs.size := by simpa using hb
    have hle : s1.heap.objs.size ≤ b := by
      rcases e' with z | z
      · rw [z]; exact Nat.le_add_right _ _
      · rw [z]; exact Nat.le_refl _
    exact I1.fpOk hle (I1.hok.fresh hle)
end R
set_option maxHeartbeats 4000000
/-! R10: statements. -/
namespace R
open PySem PySem.Spec L2
open PyProof.Rows hiding St
inductive SRes where
  | nx (e : Env) (M : Mem) | rt (x : PV) (M : Mem) | bk (e : Env) (M : Mem) | ct (e : Env) (M : Mem) | ex (c : Str) (xs : List PV) (e : Env) (M : Mem) | bad
  deriving Inhabited
abbrev SM := Env → Mem → SRes
def outS (K : PySem.W.Frag) (W : WX) (D : Ends) (G : Hp) (ρ : List Addr) : SRes → Prop
  | .nx e M => ∀ G' ρ' H' σ', Ext G G' ρ ρ' → SimH K G' ρ' M H' → RepE K G' ρ' e σ' → D.nx σ' H'
  | .bk e M => ∀ G' ρ' H' σ', Ext G G' ρ ρ' → SimH K G' ρ' M H' → RepE K G' ρ' e σ' → D.bk σ' H'
  | .ct e M => ∀ G' ρ' H' σ', Ext G G' ρ ρ' → SimH K G' ρ' M H' → RepE K G' ρ' e σ' → D.ct σ' H'
  | .rt x M => ∀ G' ρ' H' v, Ext G G' ρ ρ' → SimH K G' ρ' M H' → Rep K G' ρ' x v → D.rt v H'
  | .ex c xs e M => ∀ G' ρ' H' σ' cls d, Ext G G' ρ ρ' → SimH K G' ρ' M H' → RepE K G' ρ' e σ' → RepX K G' ρ' c xs cls d → W cls d σ' H'
  | .bad => False
def ds (K : PySem.W.Frag) (W : WX) (f : SM) : TS := fun D σ H => ∃ G ρ M e, SimH K G ρ M H ∧ RepE K G ρ e σ ∧ outS K W D G ρ (f e M)
structure QS (X : Cx) (W : WX) (st : Stmt) (f : SM) : Prop where
  ps : PS X st (ds X.K W f)
structure QSs (X : Cx) (W : WX) (sts : List Stmt) (f : SM) : Prop where
  pss : PSs X sts (ds X.K W f)
section
variable {K : PySem.W.Frag} {W W' : WX} {D D' : Ends} {G G' : Hp} {ρ ρ' : List Addr}
theorem outS.ext {r : SRes} (x : Ext G G' ρ ρ') (h : outS K W D G ρ r) : outS K W D G' ρ' r := by
  cases r with
  | nx e M => exact fun G2 ρ2 H2 s a b c => h G2 ρ2 H2 s (x.trans a) b c
  | bk e M => exact fun G2 ρ2 H2 s a b c => h G2 ρ2 H2 s (x.trans a) b c
  | ct e M => exact fun G2 ρ2 H2 s a b c => h G2 ρ2 H2 s (x.trans a) b c
  | rt e M => exact fun G2 ρ2 H2 s a b c => h G2 ρ2 H2 s (x.trans a) b c
  | ex k xs e M => exact fun G2 ρ2 H2 s cls d a b c r => h G2 ρ2 H2 s cls d (x.trans a) b c r
  | bad => exact h
theorem outS.bad {P : Prop} (h : outS K W D G ρ .bad) : P := h.elim
def sE {α : Type} (f : Env → RM α) (k : α → SM) : SM := fun e M => match f e M with
  | .ok x M' => k x e M'
  | .exc c xs M' => .ex c xs e M'
  | .bad => .bad
theorem outS_E {α β : Type} {Rl : Hp → List Addr → α → β → Prop} {f : Env → RM α} {k : α → SM} {e : Env} {M : Mem} {σ : St} {Q : β → Hp → Prop} (h : outS K W D G ρ (sE f k e M)) (r : RepE K G ρ e σ)
    (hk : ∀ G' ρ' M' x y H, Ext G G' ρ ρ' → SimH K G' ρ' M' H → Rl G' ρ' x y → outS K W D G' ρ' (k x e M') → Q y H) : outR K Rl W G ρ σ (f e M) Q := by
  unfold sE at h
  cases q : f e M with
  | ok x M' =>
    rw [q] at h
    exact fun G' ρ' H' y x1 s1 r1 => hk G' ρ' M' x y H' x1 s1 r1 (outS.ext x1 h)
  | exc c xs M' =>
    rw [q] at h
    exact fun G' ρ' H' cls d x1 s1 r1 => h G' ρ' H' σ cls d x1 s1 (r.ext x1) r1
  | bad => rw [q] at h; exact h
end
section
variable {X : Cx} {W : WX} {a b c o : Expr} {f g h : Env → RM PV} {F Fb Fc : SM} {st : Stmt} {sts : List Stmt} {pos pos' : Pos}
def sNil : SM := fun e M => .nx e M
def sSeq (f g : SM) : SM := fun e M => match f e M with
  | .nx e' M' => g e' M'
  | r => r
theorem qss_nil : QSs X W [] sNil := ⟨PSs.imp pss_nil fun D σ H ⟨G, ρ, M, e, s, r, q⟩ => q G ρ H σ Ext.refl s r⟩
theorem qss_cons (h1 : QS X W st F) (h2 : QSs X W sts Fb) : QSs X W (st :: sts) (sSeq F Fb) := ⟨PSs.imp (pss_cons h1.ps h2.pss) fun D σ H ⟨G, ρ, M, e, s, r, q⟩ => ⟨G, ρ, M, e, s, r, by
  unfold sSeq at q
  cases w : F e M with
  | nx e' M' =>
    rw [w] at q
    exact fun G2 ρ2 H2 σ2 x2 s2 r2 => ⟨G2, ρ2, M', e', s2, r2, outS.ext x2 q⟩
  | rt _ _ => rw [w] at q; exact q
  | bk _ _ => rw [w] at q; exact q
  | ct _ _ => rw [w] at q; exact q
  | ex _ _ _ _ => rw [w] at q; exact q
  | bad => rw [w] at q; exact q⟩⟩
theorem qss_one (h1 : QS X W st F) : QSs X W [st] F := ⟨pss_one h1.ps⟩
theorem qs_pass : QS X W (.Pass pos) sNil := ⟨PS.imp ps_pass fun D σ H ⟨G, ρ, M, e, s, r, q⟩ => q G ρ H σ Ext.refl s r⟩
theorem qs_doc {x : Str} {j : Nat} : QS X W (.Expr (.Constant (.str x) j pos) pos') sNil := ⟨PS.imp ps_doc fun D σ H ⟨G, ρ, M, e, s, r, q⟩ => q G ρ H σ Ext.refl s r⟩
def sBreak : SM := fun e M => .bk e M
def sCont : SM := fun e M => .ct e M
theorem qs_break : QS X W (.Break pos) sBreak := ⟨PS.imp ps_break fun D σ H ⟨G, ρ, M, e, s, r, q⟩ => q G ρ H σ Ext.refl s r⟩
theorem qs_cont : QS X W (.Continue pos) sCont := ⟨PS.imp ps_continue fun D σ H ⟨G, ρ, M, e, s, r, q⟩ => q G ρ H σ Ext.refl s r⟩
def sRet (f : Env → RM PV) : SM := sE f fun x _ M => .rt x M
theorem qs_ret (ha : QE X W a f) : QS X W (.Return (some a) pos) (sRet f) := ⟨PS.imp (ps_ret ha.pe) fun D σ H ⟨G, ρ, M, e, s, r, q⟩ => ⟨G, ρ, M, e, s, r, outS_E q r fun G1 ρ1 M1 x y H1 x1 s1 r1 q1 => q1 G1 ρ1 H1 y Ext.refl s1 r1⟩⟩
def sRetN : SM := fun _ M => .rt .non M
theorem qs_retN : QS X W (.Return none pos) sRetN := ⟨PS.imp ps_retN fun D σ H ⟨G, ρ, M, e, s, r, q⟩ => q G ρ H .non Ext.refl s (rep_non.mpr rfl)⟩
/-- an expression that is no comprehension: nothing is swapped -/
def noComp : Expr → Bool
  | .ListComp .. => false | .SetComp .. => false | .DictComp .. => false
  | _ => true
theorem noComp_sw {t : Option Expr} {l : Nat} {env : PySem.Env} (h : noComp a = true) : swapsWith a t l env = pure false := by cases a <;> first | rfl | cases h
def sExpr (f : Env → RM PV) : SM := sE f fun _ e M => .nx e M
theorem qs_expr (ha : QE X W a f) (hn : noComp a = true) : QS X W (.Expr a pos) (sExpr f) := ⟨PS.imp (ps_expr ha.pe (noComp_sw hn)) fun D σ H ⟨G, ρ, M, e, s, r, q⟩ => ⟨G, ρ, M, e, s, r, outS_E q r fun G1 ρ1 M1 x y H1 x1 s1 r1 q1 => q1 G1 ρ1 H1 σ Ext.refl s1 (r.ext x1)⟩⟩
def sIf (c : Env → RM PV) (t u : SM) : SM := sE (fun e => c e >>= asB) fun b => if b then t else u
theorem qs_if {sa sb : List Stmt} (hc : QE X W c h) (ha : QSs X W sa F) (hb : QSs X W sb Fb) : QS X W (.If c sa sb pos) (sIf h F Fb) := ⟨PS.imp (ps_if hc.pt ha.pss hb.pss) fun D σ H ⟨G, ρ, M, e, s, r, q⟩ => ⟨G, ρ, M, e, s, r, outS_E q r fun G1 ρ1 M1 x y H1 x1 s1 r1 q1 => by
  cases r1
  cases x with
  | true => exact ⟨G1, ρ1, M1, e, s1, r.ext x1, q1⟩
  | false => exact ⟨G1, ρ1, M1, e, s1, r.ext x1, q1⟩⟩⟩


/-! ### targets -/
def outG (K : PySem.W.Frag) (sl : List Nat) (σ : St) (G : Hp) (ρ : List Addr) (r : Res Env) (Q : St → Hp → Prop) : Prop := match r with
  | .ok e' M' => ∀ G' ρ' H' σ', Ext G G' ρ ρ' → SimH K G' ρ' M' H' → RepE K G' ρ' e' σ' → (∀ vs : List Nat, (∀ i ∈ sl, i ∈ vs) → wipe σ' vs = wipe σ vs) → Q σ' H'
  | _ => False
def dg (K : PySem.W.Frag) (sl : List Nat) (g : PV → Env → RM Env) : TG := fun v σ H Q => ∃ G ρ M e x, SimH K G ρ M H ∧ RepE K G ρ e σ ∧ Rep K G ρ x v ∧ outG K sl σ G ρ (g x e M) Q
def dgs (K : PySem.W.Frag) (sl : List Nat) (g : List PV → Env → RM Env) : TGs := fun vs σ H Q => ∃ G ρ M e xs, SimH K G ρ M H ∧ RepE K G ρ e σ ∧ Reps K G ρ xs vs ∧ outG K sl σ G ρ (g xs e M) Q
structure QG (X : Cx) (tg : Expr) (sl : List Nat) (g : PV → Env → RM Env) : Prop where
  pg : PG X tg (dg X.K sl g)
structure QGs (X : Cx) (ts : List Expr) (sl : List Nat) (g : List PV → Env → RM Env) : Prop where
  pgs : PGs X ts (dgs X.K sl g)
theorem PG.imp {tg : Expr} {t t' : TG} (h : PG X tg t) (w : ∀ v σ H Q, t' v σ H Q → t v σ H Q) : PG X tg t' := ⟨fun pins s σ H v u Q I r q => h.run pins s σ H v u Q I r (w v σ H Q q)⟩
theorem PGs.imp {ts : List Expr} {t t' : TGs} (h : PGs X ts t) (w : ∀ v σ H Q, t' v σ H Q → t v σ H Q) : PGs X ts t' := ⟨fun pins s σ H v u Q I r q => h.run pins s σ H v u Q I r (w v σ H Q q)⟩
theorem wipe_at {σ : St} : ∀ {vs : List Nat} {j : Nat}, j < σ.length → (wipe σ vs)[j]? = if j ∈ vs then some none else σ[j]?
  | [], j, h => by simp [wipe]
  | v :: vs, j, h => by
    unfold wipe
    by_cases e : v = j
    · subst e
      rw [List.getElem?_set_self (by rw [wipe_length]; exact h), if_pos List.mem_cons_self]
    · rw [List.getElem?_set_ne e, wipe_at h]
      by_cases m : j ∈ vs
      · rw [if_pos m, if_pos (List.mem_cons_of_mem _ m)]
      · rw [if_neg m, if_neg (fun z => (List.mem_cons.mp z).elim (fun q => e q.symm) m)]
theorem wipe_set {σ : St} {vs : List Nat} {i : Nat} {o : Option V} (hi : i ∈ vs) : wipe (σ.set i o) vs = wipe σ vs := by
  apply List.ext_getElem?
  intro j
  by_cases hj : j < σ.length
  · rw [wipe_at (by simpa using hj), wipe_at hj]
    by_cases m : j ∈ vs
    · rw [if_pos m, if_pos m]
    · rw [if_neg m, if_neg m, List.getElem?_set_ne (fun z : i = j => m (by rw [← z]; exact hi))]
  · rw [List.getElem?_eq_none (by rw [wipe_length]; simpa using hj), List.getElem?_eq_none (by rw [wipe_length]; simpa using hj)]
def gNm (i : Nat) : PV → Env → RM Env := fun x e => pure (e.set i (some x))
theorem qg_name {i : Nat} {x : Str} (hN : X.N.Nodup) (hi : X.N[i]? = some x) (hx : Loc X.env.scope x) (hf : X.fn x = true ∨ X.env.scope.names.lookup x = some .local) : QG X (.Name x pos) [i] (gNm i) :=
  ⟨PG.imp (pg_name hN hi hx hf) fun v σ H Q ⟨G, ρ, M, e, y, s, r, ry, q⟩ => q G ρ H _ Ext.refl s (r.set ry) fun vs h => wipe_set (h i List.mem_cons_self)⟩
def gsNil : List PV → Env → RM Env
  | [], e => pure e
  | _, _ => RM.bad
def gsCons (g : PV → Env → RM Env) (gs : List PV → Env → RM Env) : List PV → Env → RM Env
  | x :: r, e => g x e >>= fun e' => gs r e'
  | _, _ => RM.bad
theorem qgs_nil : QGs X [] [] gsNil := ⟨PGs.imp pgs_nil fun vs σ H Q ⟨G, ρ, M, e, xs, s, r, rx, q⟩ => by
  cases xs with
  | nil =>
    simp only [Reps] at rx
    exact ⟨rx, q G ρ H σ Ext.refl s r fun _ _ => rfl⟩
  | cons _ _ => exact q.elim⟩
theorem each_cons {e : Expr} {es : List Expr} {env : PySem.Env} (h : notStar e = true) : assignEach (e :: es) env = (false, assign e env) :: assignEach es env := by
  cases e <;> first | rfl | cases h
theorem each_len {env : PySem.Env} : ∀ {es : List Expr}, (assignEach es env).length = es.length
  | [] => rfl
  | e :: es => by
    have h := each_len (env := env) (es := es)
    cases e <;> (show (assignEach es env).length + 1 = _; rw [h]; rfl)
theorem each_star {env : PySem.Env} : ∀ {es : List Expr}, es.all notStar = true → (assignEach es env).findIdx? (·.1) = none
  | [], _ => rfl
  | e :: es, h => by
    rw [List.all_cons, Bool.and_eq_true] at h
    rw [each_cons h.1, List.findIdx?_cons, each_star h.2]
    rfl
theorem qgs_cons {e : Expr} {es : List Expr} {s1 s2 : List Nat} {g : PV → Env → RM Env} {gs : List PV → Env → RM Env} (h1 : QG X e s1 g) (h2 : QGs X es s2 gs) (hs : notStar e = true) : QGs X (e :: es) (s1 ++ s2) (gsCons g gs) :=
  ⟨PGs.imp (pgs_cons h1.pg h2.pgs (by rw [each_cons hs]; rfl)) fun vs σ H Q ⟨G, ρ, M, e, xs, s, r, rx, q⟩ => by
    cases xs with
    | nil => exact q.elim
    | cons x xs =>
      simp only [Reps] at rx
      obtain ⟨v, r', rfl, r1, r2⟩ := rx
      refine ⟨v, r', rfl, G, ρ, M, e, x, s, r, r1, ?_⟩
      replace q : outG X.K (s1 ++ s2) σ G ρ ((g x e >>= fun e' => gs xs e') M) Q := q
      rw [bind_eq] at q
      cases w : g x e M with
      | ok e' M' =>
        rw [w] at q
        replace q : outG X.K (s1 ++ s2) σ G ρ (gs xs e' M') Q := q
        intro G' ρ' H' σ' x1 s1' re hw
        refine ⟨G', ρ', M', e', xs, s1', re, r2.ext x1 _ _, ?_⟩
        cases w2 : gs xs e' M' with
        | ok e2 M2 =>
          rw [w2] at q
          exact fun G2 ρ2 H2 σ2 x2 s2' re2 hw2 => q G2 ρ2 H2 σ2 (x1.trans x2) s2' re2 fun vs hv => (hw2 vs fun i hi => hv i (List.mem_append_right _ hi)).trans (hw vs fun i hi => hv i (List.mem_append_left _ hi))
        | exc c ys M2 => rw [w2] at q; exact q.elim
        | bad => rw [w2] at q; exact q.elim
      | exc c ys M2 => rw [w] at q; exact q.elim
      | bad => rw [w] at q; exact q.elim⟩
/-- a, b = a tuple, a list -/
def gSq (n : Nat) (gs : List PV → Env → RM Env) : PV → Env → RM Env := fun x e => seqW x >>= fun xs => if xs.length = n then gs xs e else RM.bad
theorem qg_tup {es : List Expr} {k : Nat} {sl : List Nat} {gs : List PV → Env → RM Env} (hc : X.calm = true) (h : QGs X es sl gs) (hs : es.all notStar = true) : QG X (.Tuple es k pos) sl (gSq es.length gs) := by
  have p1 := pg_tup (pos := pos) (k := k) hc h.pgs each_len (each_star hs)
  have p2 := pg_lst (pos := pos) (k := k) hc h.pgs each_len (each_star hs)
  have p3 : PG X (.Tuple es k pos) (fun v σ H Q => gTup X.K es.length (dgs X.K sl gs) v σ H Q ∨ gLst X.K es.length (dgs X.K sl gs) v σ H Q) := ⟨fun pins s σ H v u Q I r q => q.elim (p1.run pins s σ H v u Q I r) (p2.run pins s σ H v u Q I r)⟩
  refine ⟨PG.imp p3 fun v σ H Q ⟨G, ρ, M, e, x, s, r, rx, q⟩ => ?_⟩
  have fin : ∀ xs vs, Reps X.K G ρ xs vs → outG X.K sl σ G ρ ((if xs.length = es.length then gs xs e else RM.bad) M) Q → vs.length = es.length ∧ dgs X.K sl gs vs σ H Q := fun xs vs rr q => by
    by_cases hl : xs.length = es.length
    · rw [if_pos hl] at q
      exact ⟨by rw [← rr.length]; exact hl, G, ρ, M, e, xs, s, r, rr, q⟩
    · rw [if_neg hl] at q; exact q.elim
  cases x with
  | tup xs =>
    obtain ⟨p, vs, rfl, h1, h2⟩ := rep_tup.mp rx
    obtain ⟨l, d⟩ := fin xs vs h2 q
    exact .inl ⟨p, vs, rfl, SqT.ext s.sub h1, l, d⟩
  | lst xs =>
    obtain ⟨p, vs, rfl, h1, h2⟩ := rep_lst.mp rx
    obtain ⟨l, d⟩ := fin xs vs h2 q
    exact .inr ⟨p, vs, rfl, SqL.ext s.sub h1, l, d⟩
  | ref n =>
    have q' : outG X.K sl σ G ρ ((memL n >>= fun xs => if xs.length = es.length then gs xs e else RM.bad) M) Q := q
    rw [bind_eq] at q'
    unfold memL at q'
    cases w : M[n]? with
    | none => rw [w] at q'; exact q'.elim
    | some u =>
      rw [w] at q'
      cases u with
      | lst xs =>
        simp only [Rep] at rx
        obtain ⟨p, rfl, hp⟩ := rx
        obtain ⟨vs, e1, r2⟩ := s.at_ hp w
        obtain ⟨l, d⟩ := fin xs vs r2 q'
        exact .inr ⟨p, vs, rfl, SqL.of e1, l, d⟩
      | dct _ _ => exact q'.elim
      | ins _ _ _ => exact q'.elim
  | _ => exact q.elim
def sAsg (f : Env → RM PV) (g : PV → Env → RM Env) : SM := sE f fun x e M => match g x e M with
  | .ok e' M' => .nx e' M'
  | _ => .bad
theorem asg_go {K : PySem.W.Frag} {W : WX} {D : Ends} {f : Env → RM PV} {g : PV → Env → RM Env} {sl : List Nat} {σ : St} {H : Hp} (h : ds K W (sAsg f g) D σ H) : tAsg (denE K W f) (dg K sl g) D σ H := by
  obtain ⟨G, ρ, M, e, s, r, q⟩ := h
  refine ⟨G, ρ, M, e, s, r, outS_E q r fun G1 ρ1 M1 x y H1 x1 s1 r1 q1 => ⟨G1, ρ1, M1, e, x, s1, r.ext x1, r1, ?_⟩⟩
  cases w : g x e M1 with
  | ok e' M' => rw [w] at q1; exact fun G2 ρ2 H2 σ2 x2 s2 re _ => q1 G2 ρ2 H2 σ2 x2 s2 re
  | exc c xs M' => rw [w] at q1; exact q1.elim
  | bad => rw [w] at q1; exact q1.elim
theorem sole_eq {tg : Expr} {l : Nat} {env : PySem.Env} (h : noComp a = true) : swapsWithSole [tg] a l env = pure false := noComp_sw h
def tupTg : Expr → Bool
  | .Tuple .. => true | .List .. => true | _ => false
def tupE : Expr → Bool
  | .Tuple .. => true | _ => false
theorem noSwap {tg e : Expr} {env : PySem.Env} (h : (tupTg tg && tupE e) = false) : swappedStores [tg] e env = pure none := by
  cases tg <;> first | rfl | (cases e <;> first | rfl | cases h)
theorem qs_asg {tg e : Expr} {sl : List Nat} {g : PV → Env → RM Env} (he : QE X W e f) (hg : QG X tg sl g) (hs : swapsWithSole [tg] e pos.line X.env = pure false) (hw : swappedStores [tg] e X.env = pure none) (hst : notStar tg = true) : QS X W (.Assign [tg] e pos) (sAsg f g) :=
  ⟨PS.imp (ps_asg he.pe hg.pg hs hw (by rw [each_cons hst]; rfl)) fun D σ H h => asg_go h⟩
end
end R
set_option maxHeartbeats 4000000
/-! R11: stores into lists and instances, swapped stores, what is walked, loops. -/
namespace R
open PySem PySem.Spec L2
open PyProof.Rows hiding St
section
variable {X : Cx} {W : WX} {a b c o i0 : Expr} {f g h : Env → RM PV} {F Fb Fc : SM} {st : Stmt} {sts : List Stmt} {pos pos' : Pos}
/-! ### o[i] = x -/
def setW : PV → PV → PV → RM Unit
  | .ref n, .int i, x => fun M => match M[n]? with
    | some (.lst xs) => (match ixN xs.length i with
      | some k => .ok () (M.set n (.lst (xs.set k x)))
      | none => .bad)
    | _ => .bad
  | _, _, _ => RM.bad
def gSubT (fo fi : Env → RM PV) : PV → Env → RM Env := fun x e => fo e >>= fun o => fi e >>= fun i => setW o i x >>= fun _ => pure e
theorem qg_sub (ho : QE X W o f) (hi : QE X W i0 g) (hp : plainIx i0 = true) : QG X (.Subscript o i0 pos) [] (gSubT f g) := by
  refine ⟨PG.imp (pg_sub ho.pe hi.pe set_list (fun v => by cases i0 <;> first | rfl | cases hp)) fun v σ H Q ⟨G, ρ, M, e, x, s, r, rx, q⟩ => ?_⟩
  replace q : outG X.K [] σ G ρ ((f e >>= fun o => g e >>= fun i => setW o i x >>= fun _ => pure e) M) Q := q
  rw [bind_eq] at q
  refine ⟨G, ρ, M, e, s, r, ?_⟩
  cases w : f e M with
  | exc c xs M' => rw [w] at q; exact q.elim
  | bad => rw [w] at q; exact q.elim
  | ok y M1 =>
    rw [w] at q
    replace q : outG X.K [] σ G ρ ((g e >>= fun i => setW y i x >>= fun _ => pure e) M1) Q := q
    rw [bind_eq] at q
    intro G1 ρ1 H1 u x1 s1 ru
    refine ⟨G1, ρ1, M1, e, s1, r.ext x1, ?_⟩
    cases w1 : g e M1 with
    | exc c xs M' => rw [w1] at q; exact q.elim
    | bad => rw [w1] at q; exact q.elim
    | ok z M2 =>
      rw [w1] at q
      replace q : outG X.K [] σ G ρ ((setW y z x >>= fun _ => pure e) M2) Q := q
      rw [bind_eq] at q
      intro G2 ρ2 H2 uz x2 s2 rz
      have ru2 := ru.ext x2 _ _
      cases y with
      | ref n =>
        cases z with
        | int k =>
          have e0 : setW (.ref n) (.int k) x M2 = (match M2[n]? with
            | some (.lst xs) => (match ixN xs.length k with
              | some j => .ok () (M2.set n (.lst (xs.set j x)))
              | none => .bad)
            | _ => .bad) := rfl
          rw [e0] at q
          clear e0
          cases w2 : M2[n]? with
          | none => rw [w2] at q; exact q.elim
          | some ob =>
            rw [w2] at q
            cases ob with
            | dct _ _ => exact q.elim
            | ins _ _ _ => exact q.elim
            | lst xs =>
              dsimp only at q
              cases w3 : ixN xs.length k with
              | none => rw [w3] at q; exact q.elim
              | some j =>
                rw [w3] at q
                simp only [Rep] at ru2
                obtain ⟨p, rfl, hp'⟩ := ru2
                rw [rep_int] at rz; subst rz
                obtain ⟨vs, e1, r2⟩ := s2.at_ hp' w2
                refine ⟨p, vs, k, j, rfl, rfl, e1, by rw [← r2.length]; exact w3, ?_⟩
                have S3 := s2.write (u := .lst (vs.set j v)) (o' := .lst (xs.set j x)) hp' w2 ⟨_, upd_same, r2.set j (rx.ext (x1.trans x2) _ _)⟩
                exact q G2 ρ2 _ σ (x1.trans x2) S3 (r.ext (x1.trans x2)) fun _ _ => rfl
        | _ => exact q.elim
      | _ => exact q.elim
/-! ### o.f = x -/
def putP (fl : Str) (x : PV) : List Str → List PV → List Str × List PV
  | n :: ns, y :: ys => if n = fl then (n :: ns, x :: ys) else ((n :: (putP fl x ns ys).1), y :: (putP fl x ns ys).2)
  | _, _ => ([fl], [x])
theorem put_rep {K : PySem.W.Frag} {G : Hp} {ρ : List Addr} {fl : Str} {x : PV} {v : V} (hx : Rep K G ρ x v) : ∀ {ns : List Str} {xs : List PV} {vs : List V}, ns.length = vs.length → Reps K G ρ xs vs →
    ∃ us, putF fl v (ns.zip vs) = (putP fl x ns xs).1.zip us ∧ (putP fl x ns xs).1.length = us.length ∧ Reps K G ρ (putP fl x ns xs).2 us
  | [], xs, vs, hl, r => by
    have e : vs = [] := List.length_eq_zero_iff.mp hl.symm
    subst e
    have e2 : xs = [] := List.length_eq_zero_iff.mp r.length
    subst e2
    exact ⟨[v], rfl, rfl, Reps.cons hx Reps.nil⟩
  | n :: ns, xs, [], hl, r => by simp at hl
  | n :: ns, xs, u :: vs, hl, r => by
    cases xs with
    | nil => simp only [Reps] at r; cases r
    | cons y ys =>
      simp only [Reps] at r
      obtain ⟨v0, r0, e0, r1, r2⟩ := r
      obtain ⟨rfl, rfl⟩ := List.cons.inj e0
      rw [List.zip_cons_cons]
      unfold putP putF
      by_cases c : n = fl
      · rw [if_pos c, if_pos c]
        exact ⟨v :: vs, rfl, hl, Reps.cons hx r2⟩
      · rw [if_neg c, if_neg c]
        obtain ⟨us, e1, e2, e3⟩ := put_rep (ns := ns) hx (by simpa using hl) r2
        exact ⟨u :: us, by rw [e1]; rfl, by simpa using e2, Reps.cons r1 e3⟩
/-- a field is stored: ok c: fl may be a field of c -/
def stoW (ok : Str → Bool) (fl : Str) (x : PV) : PV → RM Unit
  | .ref n => fun M => match M[n]? with
    | some (.ins c ns xs) => if ok c && decide (ns.length < 1000) then .ok () (M.set n (.ins c (putP fl x ns xs).1 (putP fl x ns xs).2)) else .bad
    | _ => .bad
  | _ => RM.bad
def sSto (ok : Str → Bool) (fl : Str) (fo fv : Env → RM PV) : SM := sE fv fun x => sE fo fun o e M => match stoW ok fl x o M with
  | .ok _ M' => .nx e M'
  | _ => .bad
theorem qs_sto {ok : Str → Bool} {fl : Str} (hc : ∀ c, ok c = true → Cls X.K (He.ga X.K c) ∧ NoAttr X.K (He.ga X.K c) fl) (ho : QE X W o f) (hv : QE X W a g) (hs : swapsWith a (some (.Attribute o fl pos')) pos.line X.env = pure false) : QS X W (.Assign [.Attribute o fl pos'] a pos) (sSto ok fl f g) := by
  refine ⟨PS.imp (ps_fld ho.pe hv.pe hs) fun D σ H ⟨G, ρ, M, e, s, r, q⟩ => ⟨G, ρ, M, e, s, r, outS_E q r fun G1 ρ1 M1 x y H1 x1 s1 r1 q1 => ⟨G1, ρ1, M1, e, s1, r.ext x1, outS_E q1 (r.ext x1) fun G2 ρ2 M2 z u H2 x2 s2 r2 q2 => ?_⟩⟩⟩
  unfold stoW at q2
  cases z with
  | ref n =>
    dsimp only at q2
    cases w2 : M2[n]? with
    | none => rw [w2] at q2; exact q2.elim
    | some ob =>
      rw [w2] at q2
      cases ob with
      | dct _ _ => exact q2.elim
      | lst _ => exact q2.elim
      | ins c ns xs =>
        dsimp only at q2
        by_cases hok : (ok c && decide (ns.length < 1000)) = true
        · rw [if_pos hok] at q2
          rw [Bool.and_eq_true, decide_eq_true_iff] at hok
          simp only [Rep] at r2
          obtain ⟨p, rfl, hp'⟩ := r2
          obtain ⟨dx, vs, e1, l, r3⟩ := s2.at_ hp' w2
          obtain ⟨h1, h2⟩ := hc c hok.1
          refine ⟨p, _, dx, ns.zip vs, rfl, e1, h1, h2, by rw [List.length_zip, ← l, Nat.min_self]; exact hok.2, ?_⟩
          obtain ⟨us, e2, e3, e4⟩ := put_rep (fl := fl) (r1.ext x2 _ _) l r3
          rw [e2]
          have S3 := s2.write (u := .ins (He.ga X.K c) dx ((putP fl x ns xs).1.zip us)) (o' := .ins c (putP fl x ns xs).1 (putP fl x ns xs).2) hp' w2 ⟨dx, us, upd_same, e3, e4⟩
          exact q2 G2 ρ2 _ σ Ext.refl S3 ((r.ext x1).ext x2)
        · rw [if_neg hok] at q2; exact q2.elim
  | _ => exact q2.elim
/-! ### a, b = x, y in swapped order -/
def sPar (ix : List Nat) (fa : Env → RM (List PV)) : SM := sE fa fun xs e M => match ix, xs with
  | [i, j], [x, y] => .nx ((e.set i (some x)).set j (some y)) M
  | [i, j, k], [x, y, z] => .nx (((e.set i (some x)).set j (some y)).set k (some z)) M
  | _, _ => .bad
theorem qs_par2 {i j : Nat} {x y : Str} {px py pt : Pos} {kt k2 pt2} {fa : Env → RM (List PV)} (hc : X.calm = true) (hN : X.N.Nodup) (hi : X.N[i]? = some x) (hj : X.N[j]? = some y) (hij : i ≠ j)
    (hx : X.env.scope.names.lookup x = some .local) (hy : X.env.scope.names.lookup y = some .local) (ha : QA X W [a, b] fa)
    (hw : swappedStores [.Tuple [.Name x px, .Name y py] kt pt] (.Tuple [a, b] k2 pt2) X.env = pure (some [x, y])) :
    QS X W (.Assign [.Tuple [.Name x px, .Name y py] kt pt] (.Tuple [a, b] k2 pt2) pos) (sPar [i, j] fa) :=
  ⟨PS.imp (ps_par hc hN hi hj hij hx hy ha.pa hw rfl) fun D σ H ⟨G, ρ, M, e, s, r, q⟩ => ⟨G, ρ, M, e, s, r, outS_E q r fun G1 ρ1 M1 xs vs H1 x1 s1 r1 q1 => by
    match xs, q1 with
    | [u, v], q1 =>
      obtain ⟨y1, y2, rfl, h1, h2⟩ := reps2 r1
      exact ⟨y1, y2, rfl, q1 G1 ρ1 H1 _ Ext.refl s1 (((r.ext x1).set h1).set h2)⟩⟩⟩
theorem qs_par3 {i j l : Nat} {x y z : Str} {px py pz pt : Pos} {kt k2 pt2} {fa : Env → RM (List PV)} (hc : X.calm = true) (hN : X.N.Nodup) (hi : X.N[i]? = some x) (hj : X.N[j]? = some y) (hl : X.N[l]? = some z) (hij : i ≠ j) (hil : i ≠ l) (hjl : j ≠ l)
    (hx : X.env.scope.names.lookup x = some .local) (hy : X.env.scope.names.lookup y = some .local) (hz : X.env.scope.names.lookup z = some .local) (ha : QA X W [a, b, c] fa)
    (hw : swappedStores [.Tuple [.Name x px, .Name y py, .Name z pz] kt pt] (.Tuple [a, b, c] k2 pt2) X.env = pure (some [x, y, z])) :
    QS X W (.Assign [.Tuple [.Name x px, .Name y py, .Name z pz] kt pt] (.Tuple [a, b, c] k2 pt2) pos) (sPar [i, j, l] fa) :=
  ⟨PS.imp (ps_par3 hc hN hi hj hl hij hil hjl hx hy hz ha.pa hw rfl) fun D σ H ⟨G, ρ, M, e, s, r, q⟩ => ⟨G, ρ, M, e, s, r, outS_E q r fun G1 ρ1 M1 xs vs H1 x1 s1 r1 q1 => by
    match xs, q1 with
    | [u, v, w], q1 =>
      simp only [Reps] at r1
      obtain ⟨y1, _, rfl, h1, y2, _, rfl, h2, y3, _, rfl, h3, rfl⟩ := r1
      exact ⟨y1, y2, y3, rfl, q1 G1 ρ1 H1 _ Ext.refl s1 ((((r.ext x1).set h1).set h2).set h3)⟩⟩⟩
/-- swappedStores, told -/
def swp (env : PySem.Env) (ts vs : List Expr) : Option (Option (List Str)) :=
  if (!(ts.length == 2 || ts.length == 3) || vs.length != ts.length || env.blockKind != .function) = true then some none
  else if (vs.any fun | .Starred .. => true | _ => false) = true then some none
  else
    let line := (ts.head?.map (·.pos.line)).getD 0
    let names := ts.filterMap fun
      | .Name id pos => if env.kindOf id == some .local && pos.line == line then some id else none
      | _ => none
    if (names.length != ts.length || names.eraseDups.length != names.length) = true then some none
    else if (vs.all (foldedForSure 8)) = true then some none
    else if (vs.all (constantsAlone 8)) = true then none
    else some (some names)
theorem swp_ok {env : PySem.Env} {ts vs : List Expr} {k k2 : Nat} {p p2 : Pos} {r : Option (List Str)} (h : swp env ts vs = some r) : swappedStores [.Tuple ts k p] (.Tuple vs k2 p2) env = pure r := by
  unfold swp at h
  show (if (!(ts.length == 2 || ts.length == 3) || vs.length != ts.length || env.blockKind != .function) = true then pure none
    else if (vs.any fun | .Starred .. => true | _ => false) = true then pure none
    else
      let line := (ts.head?.map (·.pos.line)).getD 0
      let names := ts.filterMap fun
        | .Name id pos => if env.kindOf id == some .local && pos.line == line then some id else none
        | _ => none
      if (names.length != ts.length || names.eraseDups.length != names.length) = true then pure none
      else if (vs.all (foldedForSure 8)) = true then pure none
      else if (vs.all (constantsAlone 8)) = true then unsupported "assign.tuple-of-constant-expressions:order-of-the-stores"
      else pure (some names) : Sem (Option (List Str))) = pure r
  dsimp only at h ⊢
  split at h
  · rename_i c; rw [if_pos c]; cases h; rfl
  · rename_i c; rw [if_neg c]
    split at h
    · rename_i c; rw [if_pos c]; cases h; rfl
    · rename_i c; rw [if_neg c]
      split at h
      · rename_i c; rw [if_pos c]; cases h; rfl
      · rename_i c; rw [if_neg c]
        split at h
        · rename_i c; rw [if_pos c]; cases h; rfl
        · rename_i c; rw [if_neg c]
          split at h
          · cases h
          · rename_i c; rw [if_neg c]; cases h; rfl
end
end R
set_option maxHeartbeats 4000000
/-! R12: what is walked, for, while. -/
namespace R
open PySem PySem.Spec L2
open PyProof.Rows hiding St
/-- what a loop walks: its items; the memory's lists that are to stay as they are -/
structure Wk where
  xs : List PV
  dep : List (Nat × List PV) := []
def Wk.holds (w : Wk) (M : Mem) : Prop := ∀ p ∈ w.dep, M[p.1]? = some (.lst p.2)
theorem Wk.holds0 {xs : List PV} {M : Mem} : (Wk.mk xs []).holds M := fun _ h => by cases h
def RIt (K : PySem.W.Frag) : Hp → List Addr → Wk → It → Prop := fun G ρ w J => ∀ G' ρ' M H i, Ext G G' ρ ρ' → SimH K G' ρ' M H → w.holds M →
  (∀ x, w.xs[i]? = some x → J.go i H ∧ ∀ v H', J.yld i H v H' → ∃ G2, Ext G' G2 ρ' ρ' ∧ SimH K G2 ρ' M H' ∧ Rep K G2 ρ' x v) ∧ (w.xs.length ≤ i → J.stop i H)
def di (K : PySem.W.Frag) (W : WX) (f : Env → RM Wk) : TI := fun σ H R => ∃ G ρ M e, SimH K G ρ M H ∧ RepE K G ρ e σ ∧ outR K (RIt K) W G ρ σ (f e M) R
structure QI (X : Cx) (W : WX) (tg iter : Expr) (f : Env → RM Wk) : Prop where
  pi : PI X tg iter (di X.K W f)
theorem outR_okI {α β : Type} {K : PySem.W.Frag} {W : WX} {Rl : Hp → List Addr → α → β → Prop} {r : Res α} {x : α} {M : Mem} {G : Hp} {ρ : List Addr} {σ : St} {Q : β → Hp → Prop} (w : r = .ok x M) (k : ∀ G' ρ' H' y, Ext G G' ρ ρ' → SimH K G' ρ' M H' → Rl G' ρ' x y → Q y H') : outR K Rl W G ρ σ r Q := by
  rw [w]; exact k
theorem pi_imp {X : Cx} {tg iter : Expr} {t t' : TI} (h : PI X tg iter t) (w : ∀ σ H R, t' σ H R → t σ H R) : PI X tg iter t' := ⟨fun pins s σ H R I q => h.run pins s σ H R I (w σ H R q)⟩
theorem pi_or {X : Cx} {tg iter : Expr} {t u : TI} (h : PI X tg iter t) (h2 : PI X tg iter u) : PI X tg iter (fun σ H R => t σ H R ∨ u σ H R) := ⟨fun pins s σ H R I q => q.elim (h.run pins s σ H R I) (h2.run pins s σ H R I)⟩
theorem pi_badd {X : Cx} {tg iter : Expr} {t : TI} (h : PI X tg iter t) : PI X tg iter (fun _ _ _ => False) := ⟨fun pins s σ H R I q => q.elim⟩
section
variable {K : PySem.W.Frag} {G G' : Hp} {ρ ρ' : List Addr} {M : Mem} {H : Hp}
theorem Itt_R {a : Addr} {xs : List PV} {vs : List V} (h1 : SqT K G a vs) (h2 : Reps K G ρ xs vs) : RIt K G ρ ⟨xs, []⟩ (Itt K a) := fun G' ρ' M H i x S _ => by
  have h1' := SqT.ext x.g h1
  have hH := SqT.ext S.sub h1'
  refine ⟨fun y hy => ?_, fun hl => ⟨vs, hH, by rw [← h2.length]; exact hl⟩⟩
  obtain ⟨v, ev, rv⟩ := h2.get hy
  refine ⟨⟨vs, v, hH, ev⟩, fun u H' ⟨eH, hu⟩ => ?_⟩
  subst eH
  have := (hu vs hH).symm.trans ev
  cases this
  exact ⟨G', Ext.refl, S, rv.ext x _ _⟩
theorem Itl_R {a : Addr} {xs : List PV} {vs : List V} (h1 : SqL K G a vs) (h2 : Reps K G ρ xs vs) : RIt K G ρ ⟨xs, []⟩ (Itl K a) := fun G' ρ' M H i x S _ => by
  have h1' := SqL.ext x.g h1
  have hH := SqL.ext S.sub h1'
  refine ⟨fun y hy => ?_, fun hl => ⟨vs, hH, by rw [← h2.length]; exact hl⟩⟩
  obtain ⟨v, ev, rv⟩ := h2.get hy
  refine ⟨⟨vs, v, hH, ev⟩, fun u H' ⟨eH, hu⟩ => ?_⟩
  subst eH
  have := (hu vs hH).symm.trans ev
  cases this
  exact ⟨G', Ext.refl, S, rv.ext x _ _⟩
theorem Itl_M {a : Addr} {n : Nat} {xs : List PV} (h1 : ρ[n]? = some a) : RIt K G ρ ⟨xs, [(n, xs)]⟩ (Itl K a) := fun G' ρ' M H i x S hd => by
  have e := hd (n, xs) List.mem_cons_self
  obtain ⟨vs, e1, h2⟩ := S.at_ (x.r _ _ h1) e
  have hH : SqL K H a vs := SqL.of e1
  refine ⟨fun y hy => ?_, fun hl => ⟨vs, hH, by rw [← h2.length]; exact hl⟩⟩
  obtain ⟨v, ev, rv⟩ := h2.get hy
  refine ⟨⟨vs, v, hH, ev⟩, fun u H' ⟨eH, hu⟩ => ?_⟩
  subst eH
  have := (hu vs hH).symm.trans ev
  cases this
  exact ⟨G', Ext.refl, S, rv⟩
theorem Itr_R {lo : Int} {n : Nat} : RIt K G ρ ⟨(List.range n).map fun i => .int (lo + (i : Nat)), []⟩ (Itr lo n) := fun G' ρ' M H i x S _ => by
  refine ⟨fun y hy => ?_, fun hl => (show n ≤ i by simpa using hl)⟩
  simp only [List.getElem?_map, Option.map_eq_some_iff] at hy
  obtain ⟨j, hj, rfl⟩ := hy
  obtain ⟨h1, h2⟩ := List.getElem?_eq_some_iff.mp hj
  rw [List.getElem_range] at h2
  subst h2
  rw [List.length_range] at h1
  refine ⟨h1, fun u H' ⟨eH, hu⟩ => ?_⟩
  subst eH
  exact ⟨G', Ext.refl, S, rep_int.mpr hu⟩
theorem Its_R {z : Str} : RIt K G ρ ⟨z.cps.toList.map fun c => .str ⟨#[c]⟩, []⟩ (Its z) := fun G' ρ' M H i x S _ => by
  refine ⟨fun y hy => ?_, fun hl => by simpa [Its] using hl⟩
  simp only [List.getElem?_map, Option.map_eq_some_iff] at hy
  obtain ⟨c, hj, rfl⟩ := hy
  refine ⟨by have := (List.getElem?_eq_some_iff.mp hj).1; simpa [Its] using this, fun u H' ⟨eH, c', hc, hu⟩ => ?_⟩
  subst eH
  rw [Array.getElem?_toList] at hj
  rw [hj] at hc
  cases hc
  exact ⟨G', Ext.refl, S, rep_str.mpr hu⟩
/-- enumerate's pairs -/
def numbered (xs : List PV) : List PV := (List.range xs.length).zipWith (fun i x => .tup [.int (i : Nat), x]) xs
theorem numbered_len (xs : List PV) : (numbered xs).length = xs.length := by simp [numbered]
theorem numbered_at {xs : List PV} {i : Nat} {y : PV} (h : (numbered xs)[i]? = some y) : ∃ x, xs[i]? = some x ∧ y = .tup [.int (i : Nat), x] := by
  unfold numbered at h
  rw [List.getElem?_zipWith] at h
  cases e : xs[i]? with
  | none => rw [e] at h; cases q : (List.range xs.length)[i]? <;> rw [q] at h <;> cases h
  | some x =>
    rw [e] at h
    have hl := (List.getElem?_eq_some_iff.mp e).1
    rw [List.getElem?_range hl] at h
    cases h
    exact ⟨x, rfl, rfl⟩
/-- a pair just made -/
theorem pair_R {T : Addr} {p q : PV} {x y : V} (S : SimH K G ρ M H) (hT : H T = none) (h1 : Rep K G ρ p x) (h2 : Rep K G ρ q y) : Ext G (upd G T (.tup [x, y])) ρ ρ ∧ SimH K (upd G T (.tup [x, y])) ρ M (upd H T (.tup [x, y])) ∧ Rep K (upd G T (.tup [x, y])) ρ (.tup [p, q]) (.ref T) := by
  have e := Ext.upd (ρ := ρ) (o := .tup [x, y]) (S.fresh hT)
  exact ⟨e, S.froz hT _, rep_tup.mpr ⟨T, _, rfl, .inl (.inl upd_same), (Reps.cons h1 (Reps.cons h2 Reps.nil)).ext e _ _⟩⟩
theorem IteT_R {a : Addr} {xs : List PV} {vs : List V} (h1 : SqT K G a vs) (h2 : Reps K G ρ xs vs) : RIt K G ρ ⟨numbered xs, []⟩ (IteT K a) := fun G' ρ' M H i x S _ => by
  have h1' := SqT.ext x.g h1
  have hH := SqT.ext S.sub h1'
  refine ⟨fun y hy => ?_, fun hl => ⟨vs, hH, by rw [← h2.length]; simpa [numbered_len] using hl⟩⟩
  obtain ⟨z, hz, rfl⟩ := numbered_at hy
  obtain ⟨v, ev, rv⟩ := h2.get hz
  refine ⟨⟨vs, v, hH, ev⟩, fun u H' ⟨T, w, eu, hT, eH, hu⟩ => ?_⟩
  subst eH eu
  have := (hu vs hH).symm.trans ev
  cases this
  obtain ⟨e1, e2, e3⟩ := pair_R S hT (rep_int.mpr rfl) (rv.ext x _ _)
  exact ⟨_, e1, e2, e3⟩
theorem Ite_R {a : Addr} {xs : List PV} {vs : List V} (h1 : SqL K G a vs) (h2 : Reps K G ρ xs vs) : RIt K G ρ ⟨numbered xs, []⟩ (Ite K a) := fun G' ρ' M H i x S _ => by
  have h1' := SqL.ext x.g h1
  have hH := SqL.ext S.sub h1'
  refine ⟨fun y hy => ?_, fun hl => ⟨vs, hH, by rw [← h2.length]; simpa [numbered_len] using hl⟩⟩
  obtain ⟨z, hz, rfl⟩ := numbered_at hy
  obtain ⟨v, ev, rv⟩ := h2.get hz
  refine ⟨⟨vs, v, hH, ev⟩, fun u H' ⟨T, w, eu, hT, eH, hu⟩ => ?_⟩
  subst eH eu
  have := (hu vs hH).symm.trans ev
  cases this
  obtain ⟨e1, e2, e3⟩ := pair_R S hT (rep_int.mpr rfl) (rv.ext x _ _)
  exact ⟨_, e1, e2, e3⟩
theorem Ite_M {a : Addr} {n : Nat} {xs : List PV} (h1 : ρ[n]? = some a) : RIt K G ρ ⟨numbered xs, [(n, xs)]⟩ (Ite K a) := fun G' ρ' M H i x S hd => by
  have e := hd (n, xs) List.mem_cons_self
  obtain ⟨vs, e1, h2⟩ := S.at_ (x.r _ _ h1) e
  have hH : SqL K H a vs := SqL.of e1
  refine ⟨fun y hy => ?_, fun hl => ⟨vs, hH, by rw [← h2.length]; simpa [numbered_len] using hl⟩⟩
  obtain ⟨z, hz, rfl⟩ := numbered_at hy
  obtain ⟨v, ev, rv⟩ := h2.get hz
  refine ⟨⟨vs, v, hH, ev⟩, fun u H' ⟨T, w, eu, hT, eH, hu⟩ => ?_⟩
  subst eH eu
  have := (hu vs hH).symm.trans ev
  cases this
  obtain ⟨e1, e2, e3⟩ := pair_R S hT (rep_int.mpr rfl) rv
  exact ⟨_, e1, e2, e3⟩
/-- zip's pairs -/
def zipped (xs ys : List PV) : List PV := xs.zipWith (fun x y => .tup [x, y]) ys
theorem zipped_at {xs ys : List PV} {i : Nat} {z : PV} (h : (zipped xs ys)[i]? = some z) : ∃ x y, xs[i]? = some x ∧ ys[i]? = some y ∧ z = .tup [x, y] := by
  unfold zipped at h
  rw [List.getElem?_zipWith] at h
  cases e : xs[i]? with
  | none => rw [e] at h; cases h
  | some x =>
    cases e2 : ys[i]? with
    | none => rw [e, e2] at h; cases h
    | some y => rw [e, e2] at h; cases h; exact ⟨x, y, rfl, rfl, rfl⟩
theorem ItzT_R {a b : Addr} {xs ys : List PV} {vs us : List V} (h1 : SqT K G a vs) (h2 : Reps K G ρ xs vs) (g1 : SqT K G b us) (g2 : Reps K G ρ ys us) : RIt K G ρ ⟨zipped xs ys, []⟩ (RZ.ItzT K a b) := fun G' ρ' M H i x S _ => by
  have hH := SqT.ext S.sub (SqT.ext x.g h1)
  have gH := SqT.ext S.sub (SqT.ext x.g g1)
  refine ⟨fun y hy => ?_, fun hl => ⟨vs, us, hH, gH, ?_⟩⟩
  · obtain ⟨z, w, hz, hw, rfl⟩ := zipped_at hy
    obtain ⟨v, ev, rv⟩ := h2.get hz
    obtain ⟨u, eu, ru⟩ := g2.get hw
    refine ⟨⟨vs, us, v, u, hH, gH, ev, eu⟩, fun t H' ⟨T, v', u', et, hT, eH, hv, hu⟩ => ?_⟩
    subst eH et
    have e1 := (hv vs hH).symm.trans ev
    have e2 := (hu us gH).symm.trans eu
    cases e1; cases e2
    obtain ⟨e1, e2, e3⟩ := pair_R S hT (rv.ext x _ _) (ru.ext x _ _)
    exact ⟨_, e1, e2, e3⟩
  · have : (zipped xs ys).length = min xs.length ys.length := by simp [zipped]
    rw [← h2.length, ← g2.length]
    simp only [this] at hl
    omega
theorem Itz_R {a b : Addr} {xs ys : List PV} {vs us : List V} (h1 : SqL K G a vs) (h2 : Reps K G ρ xs vs) (g1 : SqL K G b us) (g2 : Reps K G ρ ys us) : RIt K G ρ ⟨zipped xs ys, []⟩ (Itz K a b) := fun G' ρ' M H i x S _ => by
  have hH := SqL.ext S.sub (SqL.ext x.g h1)
  have gH := SqL.ext S.sub (SqL.ext x.g g1)
  refine ⟨fun y hy => ?_, fun hl => ⟨vs, us, hH, gH, ?_⟩⟩
  · obtain ⟨z, w, hz, hw, rfl⟩ := zipped_at hy
    obtain ⟨v, ev, rv⟩ := h2.get hz
    obtain ⟨u, eu, ru⟩ := g2.get hw
    refine ⟨⟨vs, us, v, u, hH, gH, ev, eu⟩, fun t H' ⟨T, v', u', et, hT, eH, hv, hu⟩ => ?_⟩
    subst eH et
    have e1 := (hv vs hH).symm.trans ev
    have e2 := (hu us gH).symm.trans eu
    cases e1; cases e2
    obtain ⟨e1, e2, e3⟩ := pair_R S hT (rv.ext x _ _) (ru.ext x _ _)
    exact ⟨_, e1, e2, e3⟩
  · have : (zipped xs ys).length = min xs.length ys.length := by simp [zipped]
    rw [← h2.length, ← g2.length]
    simp only [this] at hl
    omega
end
section
variable {X : Cx} {W : WX} {a b c o i0 tg : Expr} {f g h : Env → RM PV} {F Fb Fc : SM} {st : Stmt} {sts : List Stmt} {pos pos' : Pos}
def wkOf : PV → RM Wk
  | .tup xs => pure ⟨xs, []⟩
  | .lst xs => pure ⟨xs, []⟩
  | .str z => pure ⟨z.cps.toList.map fun c => .str ⟨#[c]⟩, []⟩
  | .ref n => memL n >>= fun xs => pure ⟨xs, [(n, xs)]⟩
  | _ => RM.bad
theorem qi_seq (ha : QE X W a f) : QI X W tg a (fun e => f e >>= wkOf) := by
  refine ⟨pi_imp (pi_or (pi_list ha.pe) (pi_or (pi_tup ha.pe) (pi_str ha.pe))) fun σ H R ⟨G, ρ, M, e, s, r, q⟩ => ?_⟩
  change outR X.K (RIt X.K) W G ρ σ ((f e >>= wkOf) M) R at q
  rw [bind_eq] at q
  cases w : f e M with
  | exc c xs M' => exact .inl ⟨G, ρ, M, e, s, r, by rw [w] at q ⊢; exact q⟩
  | bad => rw [w] at q; exact q.elim
  | ok x M' =>
    rw [w] at q
    cases x with
    | tup xs =>
      refine .inr (.inl ⟨G, ρ, M, e, s, r, outR_okI w fun G1 ρ1 H1 y x1 s1 r1 => ?_⟩)
      obtain ⟨p, vs, rfl, h1, h2⟩ := rep_tup.mp r1
      exact ⟨p, rfl, ⟨vs, SqT.ext s1.sub h1⟩, outR_ok (x := (⟨xs, []⟩ : Wk)) q x1 s1 (Itt_R h1 h2)⟩
    | lst xs =>
      refine .inl ⟨G, ρ, M, e, s, r, outR_okI w fun G1 ρ1 H1 y x1 s1 r1 => ?_⟩
      obtain ⟨p, vs, rfl, h1, h2⟩ := rep_lst.mp r1
      exact ⟨p, rfl, ⟨vs, SqL.ext s1.sub h1⟩, outR_ok (x := (⟨xs, []⟩ : Wk)) q x1 s1 (Itl_R h1 h2)⟩
    | str z =>
      refine .inr (.inr ⟨G, ρ, M, e, s, r, outR_okI w fun G1 ρ1 H1 y x1 s1 r1 => ?_⟩)
      rw [rep_str] at r1; subst r1
      exact ⟨z, rfl, outR_ok (x := (⟨_, []⟩ : Wk)) q x1 s1 Its_R⟩
    | ref n =>
      refine .inl ⟨G, ρ, M, e, s, r, outR_okI w fun G1 ρ1 H1 y x1 s1 r1 => ?_⟩
      obtain ⟨xs, p, vs, e0, e1, rfl, e2, r2, q2⟩ := memL_ok s1 r1 (outR.ext x1 (show outR X.K (RIt X.K) W G ρ σ ((memL n >>= fun xs => pure ⟨xs, [(n, xs)]⟩) M') R from q))
      exact ⟨p, rfl, ⟨vs, SqL.of e2⟩, outR_pure q2 s1 (Itl_M e1)⟩
    | _ => exact q.elim
/-- by choice, so that the kernel never counts down from 2 ^ 62 -/
noncomputable def rngB (i : Int) : Bool := @decide (-(2 ^ 62) ≤ i ∧ i < 2 ^ 62) (Classical.propDecidable _)
theorem rngB_iff {i : Int} : rngB i = true ↔ -(2 ^ 62) ≤ i ∧ i < 2 ^ 62 := by unfold rngB; exact @decide_eq_true_iff _ (Classical.propDecidable _)
/-- lo, .., hi - 1 -/
def rngP (lo hi : Int) : List PV := (List.range (hi - lo).toNat).map fun i => .int (lo + (i : Nat))
noncomputable def range1W : List PV → RM Wk
  | [.int j] => if rngB j then pure ⟨rngP 0 j, []⟩ else RM.bad
  | _ => RM.bad
noncomputable def range2W : List PV → RM Wk
  | [.int i, .int j] => if rngB i && rngB j then pure ⟨rngP i j, []⟩ else RM.bad
  | _ => RM.bad
theorem qi_range1 {p : Pos} {fa : Env → RM (List PV)} (hg : Gl X "range") (hm : X.mg "range" = none) (ha : QA X W [a] fa) (hs : notStar a = true) : QI X W tg (.Call (.Name "range" p) [a] [] pos) (fun e => fa e >>= range1W) :=
  ⟨pi_imp (pi_range1 hg hm ha.pa (by rw [starEach_cons hs]; rfl)) fun σ H R ⟨G, ρ, M, e, s, r, q⟩ => ⟨G, ρ, M, e, s, r, outR_bind q fun G1 ρ1 M1 xs vs H1 x1 s1 r1 q1 => by
    match xs, q1 with
    | [.int j], q1 =>
      obtain ⟨v, rfl, h1⟩ := reps1 r1
      rw [rep_int] at h1; subst h1
      obtain ⟨hc, q2⟩ := ite_outR q1
      obtain ⟨c1, c2⟩ := rngB_iff.mp hc
      refine ⟨j, rfl, c1, c2, outR_pure q2 s1 ?_⟩
      have := Itr_R (K := X.K) (G := G1) (ρ := ρ1) (lo := 0) (n := j.toNat)
      unfold rngP
      rw [Int.sub_zero]
      exact this⟩⟩
theorem qi_range2 {p : Pos} {fa : Env → RM (List PV)} (hg : Gl X "range") (hm : X.mg "range" = none) (ha : QA X W [a, b] fa) (hs : notStar a = true) (hs2 : notStar b = true) : QI X W tg (.Call (.Name "range" p) [a, b] [] pos) (fun e => fa e >>= range2W) :=
  ⟨pi_imp (pi_range2 hg hm ha.pa (by rw [starEach_cons hs, starEach_cons hs2]; rfl) (by rw [starEach_cons hs2]; rfl)) fun σ H R ⟨G, ρ, M, e, s, r, q⟩ => ⟨G, ρ, M, e, s, r, outR_bind q fun G1 ρ1 M1 xs vs H1 x1 s1 r1 q1 => by
    match xs, q1 with
    | [.int i, .int j], q1 =>
      obtain ⟨v, u, rfl, h1, h2⟩ := reps2 r1
      rw [rep_int] at h1 h2; subst h1 h2
      obtain ⟨hc, q2⟩ := ite_outR q1
      rw [Bool.and_eq_true] at hc
      obtain ⟨c1, c2⟩ := rngB_iff.mp hc.1
      obtain ⟨c3, c4⟩ := rngB_iff.mp hc.2
      exact ⟨i, j, rfl, ⟨c1, c2, c3, c4⟩, outR_pure q2 s1 Itr_R⟩⟩⟩
def enumW : List PV → RM Wk
  | [.tup xs] => pure ⟨numbered xs, []⟩
  | [.lst xs] => pure ⟨numbered xs, []⟩
  | [.ref n] => memL n >>= fun xs => pure ⟨numbered xs, [(n, xs)]⟩
  | _ => RM.bad
theorem qi_enum {p tpos : Pos} {elts : List Expr} {kk : Nat} {fa : Env → RM (List PV)} (hg : Gl X "enumerate") (hm : X.mg "enumerate" = none) (ha : QA X W [a] fa) (hs : notStar a = true) : QI X W (.Tuple elts kk tpos) (.Call (.Name "enumerate" p) [a] [] pos) (fun e => fa e >>= enumW) := by
  refine ⟨pi_imp (pi_or (pi_enum hg hm ha.pa (by rw [starEach_cons hs]; rfl)) (pi_enumT hg hm ha.pa (by rw [starEach_cons hs]; rfl))) fun σ H R ⟨G, ρ, M, e, s, r, q⟩ => ?_⟩
  change outR X.K (RIt X.K) W G ρ σ ((fa e >>= enumW) M) R at q
  rw [bind_eq] at q
  cases w : fa e M with
  | exc c xs M' => exact .inl ⟨G, ρ, M, e, s, r, by rw [w] at q ⊢; exact q⟩
  | bad => rw [w] at q; exact q.elim
  | ok x M' =>
    rw [w] at q
    match x, q, w with
    | [.tup xs], q, w =>
      refine .inr ⟨G, ρ, M, e, s, r, outR_okI w fun G1 ρ1 H1 y x1 s1 r1 => ?_⟩
      obtain ⟨v, rfl, h1⟩ := reps1 r1
      obtain ⟨p, vs, rfl, h1, h2⟩ := rep_tup.mp h1
      exact ⟨p, vs, rfl, SqT.ext s1.sub h1, outR_ok (x := (⟨numbered xs, []⟩ : Wk)) q x1 s1 (IteT_R h1 h2)⟩
    | [.lst xs], q, w =>
      refine .inl ⟨G, ρ, M, e, s, r, outR_okI w fun G1 ρ1 H1 y x1 s1 r1 => ?_⟩
      obtain ⟨v, rfl, h1⟩ := reps1 r1
      obtain ⟨p, vs, rfl, h1, h2⟩ := rep_lst.mp h1
      exact ⟨p, vs, rfl, SqL.ext s1.sub h1, outR_ok (x := (⟨numbered xs, []⟩ : Wk)) q x1 s1 (Ite_R h1 h2)⟩
    | [.ref n], q, w =>
      refine .inl ⟨G, ρ, M, e, s, r, outR_okI w fun G1 ρ1 H1 y x1 s1 r1 => ?_⟩
      obtain ⟨v, rfl, h1⟩ := reps1 r1
      obtain ⟨xs, p, vs, e0, e1, rfl, e2, r2, q2⟩ := memL_ok s1 h1 (outR.ext x1 (show outR X.K (RIt X.K) W G ρ σ ((memL n >>= fun xs => pure ⟨numbered xs, [(n, xs)]⟩) M') R from q))
      exact ⟨p, vs, rfl, SqL.of e2, outR_pure q2 s1 (Ite_M e1)⟩
def zipW : List PV → RM Wk
  | [.tup xs, .tup ys] => pure ⟨zipped xs ys, []⟩
  | [.lst xs, .lst ys] => pure ⟨zipped xs ys, []⟩
  | _ => RM.bad
theorem qi_zip {p tpos : Pos} {elts : List Expr} {kk : Nat} {fa : Env → RM (List PV)} (hg : Gl X "zip") (hm : X.mg "zip" = none) (ha : QA X W [a, b] fa) (hs : notStar a = true) (hs2 : notStar b = true) : QI X W (.Tuple elts kk tpos) (.Call (.Name "zip" p) [a, b] [] pos) (fun e => fa e >>= zipW) := by
  refine ⟨pi_imp (RZ.pi_zipA hg hm ha.pa (by rw [starEach_cons hs]) (by rw [starEach_cons hs2]; rfl)) fun σ H R ⟨G, ρ, M, e, s, r, q⟩ => ⟨G, ρ, M, e, s, r, outR_bind q fun G1 ρ1 M1 xs vs H1 x1 s1 r1 q1 => ?_⟩⟩
  match xs, q1 with
  | [.tup xs, .tup ys], q1 =>
    obtain ⟨v, u, rfl, h1, h2⟩ := reps2 r1
    obtain ⟨p1, vs, rfl, h3, h4⟩ := rep_tup.mp h1
    obtain ⟨p2, us, rfl, h5, h6⟩ := rep_tup.mp h2
    exact ⟨p1, p2, vs, us, rfl, .inr ⟨SqT.ext s1.sub h3, SqT.ext s1.sub h5, outR_pure q1 s1 (ItzT_R h3 h4 h5 h6)⟩⟩
  | [.lst xs, .lst ys], q1 =>
    obtain ⟨v, u, rfl, h1, h2⟩ := reps2 r1
    obtain ⟨p1, vs, rfl, h3, h4⟩ := rep_lst.mp h1
    obtain ⟨p2, us, rfl, h5, h6⟩ := rep_lst.mp h2
    exact ⟨p1, p2, vs, us, rfl, .inl ⟨SqL.ext s1.sub h3, SqL.ext s1.sub h5, outR_pure q1 s1 (Itz_R h3 h4 h5 h6)⟩⟩

/-! ### for -/
open Classical in
/-- the loop over the items, from here -/
noncomputable def forL (w : Wk) (g : PV → Env → RM Env) (body : SM) : List PV → SM
  | [], e, M => if w.holds M then .nx e M else .bad
  | x :: xs, e, M => if w.holds M then (match g x e M with
    | .ok e1 M1 => (match body e1 M1 with
      | .nx e2 M2 => forL w g body xs e2 M2
      | .ct e2 M2 => forL w g body xs e2 M2
      | .bk e2 M2 => .nx e2 M2
      | r => r)
    | _ => .bad) else .bad
noncomputable def sFor (fi : Env → RM Wk) (g : PV → Env → RM Env) (body : SM) : SM := sE fi fun w => forL w g body w.xs
def plainIt : Expr → Bool
  | .Set .. => false
  | _ => true
theorem plainIt_ok {env : PySem.Env} (h : plainIt a = true) : ∀ x, foldedSetIterable a env x = pure x := fun x => by cases a <;> first | rfl | cases h
theorem qs_for {fi : Env → RM Wk} {gt : PV → Env → RM Env} {sl : List Nat} (hp : PassesOwn (model X.prog X.w) X.A X.env X.xe) (hc : X.calm = true) (hi : QI X W tg a fi) (hg : QG X tg sl gt) (hb : QSs X W sts F) (hpl : plainIt a = true) : QS X W (.For tg a sts [] pos) (sFor fi gt F) := by
  refine ⟨PS.imp (ps_for hp hc hi.pi hg.pg hb.pss (plainIt_ok hpl)) fun D σ H ⟨G, ρ, M, e, s, r, q⟩ => ⟨G, ρ, M, e, s, r, outS_E q r fun G1 ρ1 M1 w J H1 x1 s1 r1 q1 => ?_⟩⟩
  refine ⟨fun i m σ' H' => ∃ G' ρ' M' e', Ext G1 G' ρ1 ρ' ∧ SimH X.K G' ρ' M' H' ∧ RepE X.K G' ρ' e' σ' ∧ m = w.xs.length - i ∧ outS X.K W D G' ρ' (forL w gt F (w.xs.drop i) e' M'), ⟨w.xs.length, G1, ρ1, M1, e, Ext.refl, s1, r.ext x1, by simp, q1⟩, ?_⟩
  rintro i m σ' H' ⟨G', ρ', M', e', x', s', r', rfl, q'⟩
  by_cases hlt : i < w.xs.length
  · rw [List.drop_eq_getElem_cons hlt] at q'
    unfold forL at q'
    by_cases hd : w.holds M'
    · rw [if_pos hd] at q'
      obtain ⟨hgo, hy⟩ := (r1 G' ρ' M' H' i x' s' hd).1 w.xs[i] (List.getElem?_eq_getElem hlt)
      refine .inr ⟨hgo, fun σ2 H2 => ∃ G2 ρ2 M2 e2, Ext G1 G2 ρ1 ρ2 ∧ SimH X.K G2 ρ2 M2 H2 ∧ RepE X.K G2 ρ2 e2 σ2 ∧ outS X.K W D G2 ρ2 (forL w gt F (w.xs.drop (i + 1)) e2 M2), fun σ2 H2 ⟨G2, ρ2, M2, e2, a1, a2, a3, a4⟩ => ⟨w.xs.length - (i + 1), by omega, G2, ρ2, M2, e2, a1, a2, a3, rfl, a4⟩, fun v H2 hv => ?_⟩
      obtain ⟨G2, x2, s2, rv⟩ := hy v H2 hv
      refine ⟨G2, ρ', M', e', w.xs[i], s2, r'.ext x2, rv, ?_⟩
      cases w1 : gt w.xs[i] e' M' with
      | exc c ys M2 => rw [w1] at q'; exact q'.elim
      | bad => rw [w1] at q'; exact q'.elim
      | ok e1 M2 =>
        rw [w1] at q'
        dsimp only at q'
        refine fun G3 ρ3 H3 σ3 x3 s3 r3 _ => ⟨G3, ρ3, M2, e1, s3, r3, ?_⟩
        have q3 := outS.ext (x2.trans x3) q'
        have x13 := x'.trans (x2.trans x3)
        cases w2 : F e1 M2 with
        | nx e2 M3 =>
          rw [w2] at q3
          exact fun G4 ρ4 H4 σ4 x4 s4 r4 => ⟨G4, ρ4, M3, e2, x13.trans x4, s4, r4, outS.ext x4 q3⟩
        | ct e2 M3 =>
          rw [w2] at q3
          exact fun G4 ρ4 H4 σ4 x4 s4 r4 => ⟨G4, ρ4, M3, e2, x13.trans x4, s4, r4, outS.ext x4 q3⟩
        | bk e2 M3 => rw [w2] at q3; exact q3
        | rt z M3 => rw [w2] at q3; exact q3
        | ex c ys e2 M3 => rw [w2] at q3; exact q3
        | bad => rw [w2] at q3; exact q3.elim
    · rw [if_neg hd] at q'; exact q'.elim
  · rw [List.drop_eq_nil_of_le (by omega)] at q'
    unfold forL at q'
    by_cases hd : w.holds M'
    · rw [if_pos hd] at q'
      exact .inl ⟨(r1 G' ρ' M' H' i x' s' hd).2 (by omega), q' G' ρ' H' σ' Ext.refl s' r'⟩
    · rw [if_neg hd] at q'; exact q'.elim

/-! ### while -/
/-- so many turns at most -/
def whN (c : Env → RM PV) (body : SM) : Nat → SM
  | 0, _, _ => .bad
  | n + 1, e, M => match (c e >>= asB) M with
    | .ok b M1 => if b then (match body e M1 with
      | .nx e2 M2 => whN c body n e2 M2
      | .ct e2 M2 => whN c body n e2 M2
      | .bk e2 M2 => .nx e2 M2
      | r => r) else .nx e M1
    | .exc k xs M1 => .ex k xs e M1
    | .bad => .bad
theorem whN_sE (c : Env → RM PV) (body : SM) (n : Nat) : whN c body (n + 1) = sE (fun e => c e >>= asB) (fun b e M => if b then (match body e M with
      | .nx e2 M2 => whN c body n e2 M2
      | .ct e2 M2 => whN c body n e2 M2
      | .bk e2 M2 => .nx e2 M2
      | r => r) else .nx e M) := by
  funext e M
  unfold sE
  rw [whN]
  dsimp only
  cases (c e >>= asB) M <;> rfl
open Classical in
noncomputable def sWhile (c : Env → RM PV) (body : SM) : SM := fun e M => if h : ∃ n, whN c body n e M ≠ .bad then whN c body (Classical.choose h) e M else .bad
theorem qs_while (hp : PassesOwn (model X.prog X.w) X.A X.env X.xe) (hc : QE X W c h) (hb : QSs X W sts F) : QS X W (.While c sts [] pos) (sWhile h F) := by
  refine ⟨PS.imp (ps_while hp hc.pt hb.pss) fun D σ H ⟨G, ρ, M, e, s, r, q⟩ => ?_⟩
  unfold sWhile at q
  by_cases hx : ∃ n, whN h F n e M ≠ .bad
  · rw [dif_pos hx] at q
    refine ⟨fun m σ' H' => ∃ G' ρ' M' e', SimH X.K G' ρ' M' H' ∧ RepE X.K G' ρ' e' σ' ∧ outS X.K W D G' ρ' (whN h F m e' M'), ⟨_, G, ρ, M, e, s, r, q⟩, ?_⟩
    rintro m σ' H' ⟨G', ρ', M', e', s', r', q'⟩
    cases m with
    | zero => exact q'.elim
    | succ n =>
      rw [whN_sE] at q'
      refine ⟨G', ρ', M', e', s', r', outS_E q' r' fun G1 ρ1 M1 b b' H1 x1 s1 r1 q1 => ?_⟩
      cases r1
      cases b with
      | false => exact q1 G1 ρ1 H1 σ' Ext.refl s1 (r'.ext x1)
      | true =>
        refine ⟨fun σ2 H2 => ∃ G2 ρ2 M2 e2, SimH X.K G2 ρ2 M2 H2 ∧ RepE X.K G2 ρ2 e2 σ2 ∧ outS X.K W D G2 ρ2 (whN h F n e2 M2), fun σ2 H2 ⟨G2, ρ2, M2, e2, a2, a3, a4⟩ => ⟨n, by omega, G2, ρ2, M2, e2, a2, a3, a4⟩, ?_⟩
        refine ⟨G1, ρ1, M1, e', s1, r'.ext x1, ?_⟩
        rw [if_pos rfl] at q1
        cases w2 : F e' M1 with
        | nx e2 M3 =>
          rw [w2] at q1
          exact fun G4 ρ4 H4 σ4 x4 s4 r4 => ⟨G4, ρ4, M3, e2, s4, r4, outS.ext x4 q1⟩
        | ct e2 M3 =>
          rw [w2] at q1
          exact fun G4 ρ4 H4 σ4 x4 s4 r4 => ⟨G4, ρ4, M3, e2, s4, r4, outS.ext x4 q1⟩
        | bk e2 M3 => rw [w2] at q1; exact q1
        | rt z M3 => rw [w2] at q1; exact q1
        | ex c ys e2 M3 => rw [w2] at q1; exact q1
        | bad => rw [w2] at q1; exact q1.elim
  · rw [dif_neg hx] at q; exact q.elim
/-- more turns tell the same -/
theorem whN_mono {c : Env → RM PV} {body : SM} : ∀ {n m : Nat} {e : Env} {M : Mem}, n ≤ m → whN c body n e M ≠ .bad → whN c body m e M = whN c body n e M
  | 0, m, e, M, _, h => absurd rfl h
  | n + 1, 0, e, M, hl, h => by omega
  | n + 1, m + 1, e, M, hl, h => by
    rw [whN] at h ⊢
    rw [whN]
    cases w : (c e >>= asB) M with
    | exc _ _ _ => rfl
    | bad => rfl
    | ok b M1 =>
      rw [w] at h
      dsimp only at h ⊢
      cases b with
      | false => rfl
      | true =>
        rw [if_pos rfl] at h
        rw [if_pos rfl, if_pos rfl]
        cases w2 : body e M1 with
        | nx e2 M3 => rw [w2] at h; exact whN_mono (by omega) h
        | ct e2 M3 => rw [w2] at h; exact whN_mono (by omega) h
        | _ => rfl
theorem sWhile_eq {c : Env → RM PV} {body : SM} {n : Nat} {e : Env} {M : Mem} (h : whN c body n e M ≠ .bad) : sWhile c body e M = whN c body n e M := by
  have hx : ∃ n, whN c body n e M ≠ .bad := ⟨n, h⟩
  unfold sWhile
  rw [dif_pos hx]
  have h2 := Classical.choose_spec hx
  rcases Nat.le_total n (Classical.choose hx) with l | l
  · exact whN_mono l h
  · exact (whN_mono l h2).symm
end
end R
set_option maxHeartbeats 4000000
/-! R13: comprehensions. -/
namespace R
open PySem PySem.Spec L2
open PyProof.Rows hiding St
abbrev Wn : WX := fun _ _ _ _ => False
def wipeE (e : Env) : List Nat → Env
  | [] => e
  | v :: vs => (wipeE e vs).set v none
theorem wipeE_length (e : Env) : ∀ vs : List Nat, (wipeE e vs).length = e.length
  | [] => rfl
  | v :: vs => by unfold wipeE; rw [List.length_set, wipeE_length e vs]
theorem wipeE_at {e : Env} : ∀ {vs : List Nat} {j : Nat}, j < e.length → (wipeE e vs)[j]? = if j ∈ vs then some none else e[j]?
  | [], j, h => by simp [wipeE]
  | v :: vs, j, h => by
    unfold wipeE
    by_cases e' : v = j
    · subst e'
      rw [List.getElem?_set_self (by rw [wipeE_length]; exact h), if_pos List.mem_cons_self]
    · rw [List.getElem?_set_ne e', wipeE_at h]
      by_cases m : j ∈ vs
      · rw [if_pos m, if_pos (List.mem_cons_of_mem _ m)]
      · rw [if_neg m, if_neg (fun z => (List.mem_cons.mp z).elim (fun q => e' q.symm) m)]
theorem wipe_wipe {σ : St} {vs : List Nat} : wipe (wipe σ vs) vs = wipe σ vs := by
  apply List.ext_getElem?
  intro j
  by_cases hj : j < σ.length
  · rw [wipe_at (by rw [wipe_length]; exact hj), wipe_at hj]
    by_cases m : j ∈ vs
    · rw [if_pos m, if_pos m]
    · rw [if_neg m, if_neg m]
  · rw [List.getElem?_eq_none (by rw [wipe_length, wipe_length]; omega), List.getElem?_eq_none (by rw [wipe_length]; omega)]
theorem RepE.wipe {K : PySem.W.Frag} {G : Hp} {ρ : List Addr} {e : Env} {σ : St} {vs : List Nat} (h : RepE K G ρ e σ) : RepE K G ρ (wipeE e vs) (wipe σ vs) := by
  refine ⟨by rw [wipeE_length, wipe_length]; exact h.1, fun i x q => ?_⟩
  have hi : i < e.length := by
    have := (List.getElem?_eq_some_iff.mp q).1
    rwa [wipeE_length] at this
  rw [wipeE_at hi] at q
  by_cases m : i ∈ vs
  · rw [if_pos m] at q; cases q
  · rw [if_neg m] at q
    obtain ⟨v, h1, h2⟩ := h.2 i x q
    exact ⟨v, by rw [wipe_at (by rw [← h.1]; exact hi), if_neg m]; exact h1, h2⟩
open Classical in
/-- the items that a comprehension puts into the memory's list n -/
noncomputable def lcL (w : Wk) (g : PV → Env → RM Env) (t : Env → RM Bool) (f : Env → RM PV) (n : Nat) (e0 : Env) : List PV → RM Unit
  | [], M => if w.holds M then .ok () M else .bad
  | x :: xs, M => if w.holds M then (match g x e0 M with
    | .ok e1 M1 => (match t e1 M1 with
      | .ok b M2 => if b then (match f e1 M2 with
          | .ok y M3 => (match M3[n]? with
            | some (.lst acc) => if acc.length < sizeLine then lcL w g t f n e0 xs (M3.set n (.lst (acc ++ [y]))) else .bad
            | _ => .bad)
          | _ => .bad) else lcL w g t f n e0 xs M2
      | _ => .bad)
    | _ => .bad) else .bad
/-- the list stays in the memory -/
noncomputable def fLcM (fi : Env → RM Wk) (vs : List Nat) (g : PV → Env → RM Env) (t : Env → RM Bool) (f : Env → RM PV) : Env → RM PV := fun e => fi e >>= fun w => fun M => match lcL w g t f M.length (wipeE e vs) w.xs (M ++ [.lst []]) with
  | .ok _ M' => .ok (.ref M.length) M'
  | _ => .bad
open Classical in
/-- the list is frozen -/
noncomputable def fLc (fi : Env → RM Wk) (vs : List Nat) (g : PV → Env → RM Env) (t : Env → RM Bool) (f : Env → RM PV) : Env → RM PV := fun e => fi e >>= fun w => fun M => match lcL w g t f M.length (wipeE e vs) w.xs (M ++ [.lst []]) with
  | .ok _ M' => (match M'[M.length]? with
    | some (.lst acc) => if noRefs M.length acc = true ∧ Keeps M M' then .ok (.lst acc) (M'.take M.length) else .bad
    | _ => .bad)
  | _ => .bad
section
variable {X : Cx} {W : WX} {a b c o elt tg iter : Expr} {f g h : Env → RM PV} {F Fb Fc : SM} {st : Stmt} {sts : List Stmt} {pos pos' : Pos}
/-- a clause's tests -/
structure QT (X : Cx) (W : WX) (ifs : List Expr) (t : Env → RM Bool) : Prop where
  pts : PTs X ifs (denT X.K W t)
theorem PTs.imp {ifs : List Expr} {t t' : TT} (h : PTs X ifs t) (w : ∀ σ H Q, t' σ H Q → t σ H Q) : PTs X ifs t' := ⟨fun pins s σ H Q I q => h.run pins s σ H Q I (w σ H Q q)⟩
def tNone : Env → RM Bool := fun _ => pure true
theorem qt_none : QT X W [] tNone := ⟨PTs.imp pts_nil fun σ H Q ⟨G, ρ, M, e, s, r, q⟩ => outR_pure (x := true) q s rfl⟩
theorem qt_one (hc : QE X W c h) : QT X W [c] (fun e => h e >>= asB) := ⟨pts_one hc.pt⟩
/-- a loop's memory list, frozen at last -/
theorem freeze {K : PySem.W.Frag} {G1 G3 H1 H3 : Hp} {ρ1 ρ3 : List Addr} {M1 M2 : Mem} {D : Addr} {acc : List PV} (S1 : SimH K G1 ρ1 M1 H1) (hD : H1 D = none) (x3 : Ext G1 G3 (ρ1 ++ [D]) ρ3) (s3 : SimH K G3 ρ3 M2 H3) (w2 : M2[M1.length]? = some (.lst acc)) (c1 : noRefs M1.length acc = true) (c2 : Keeps M1 M2) :
    ∃ G5, Ext G1 G5 ρ1 ρ1 ∧ SimH K G5 ρ1 (M2.take M1.length) H3 ∧ Rep K G5 ρ1 (.lst acc) (.ref D) := by
  have hx3 : ρ3[M1.length]? = some D := x3.r _ _ (by rw [← S1.len]; simp)
  have ex : Ext G1 G3 ρ1 ρ3 := ⟨x3.g, fun n a e => x3.r n a (by rw [List.getElem?_append_left (List.getElem?_eq_some_iff.mp e).1]; exact e)⟩
  obtain ⟨hg, vs3, e3, r3'⟩ := s3.obj _ _ _ hx3 w2
  have e1 := take_same S1 ex
  have S4 := trim_sim S1 s3 ex c2
  have hnx : D ∉ ρ1 := S1.notIn hD
  refine ⟨upd G3 D (.lst vs3), Ext.trans ⟨ex.g, fun _ _ h => h⟩ (Ext.upd hg), ⟨fun a o e => ?_, S4.len, S4.nd, fun m a o ea eo => ?_⟩, ?_⟩
  · by_cases hax : a = D
    · subst hax; rw [upd_same] at e; cases e; exact e3
    · rw [upd_ne hax] at e; exact S4.sub _ _ e
  · obtain ⟨g, rr⟩ := S4.obj m a o ea eo
    have hax : a ≠ D := fun z => hnx (z ▸ List.mem_of_getElem? ea)
    exact ⟨by rw [upd_ne hax]; exact g, rr.ext (Ext.upd hg) fun _ h => h⟩
  · have := r3'.cut M1.length _ _ c1
    rw [e1] at this
    exact rep_lst.mpr ⟨D, vs3, rfl, .inl (.inl upd_same), this.ext (Ext.upd hg) _ _⟩
/-- a comprehension's reading: fin tells of the memory at the end -/
theorem lc_go {fi : Env → RM Wk} {vs sl : List Nat} {gt : PV → Env → RM Env} {t : Env → RM Bool} {σ : St} {H : Hp} {Q : VK} {fin : Mem → Mem → Res PV} (hsl : ∀ i ∈ sl, i ∈ vs)
    (hfin : ∀ (G1 H1 : Hp) (ρ1 : List Addr) (M1 : Mem) (D : Addr) (G3 H3 : Hp) (ρ3 : List Addr) (M2 : Mem), SimH X.K G1 ρ1 M1 H1 → H1 D = none → Ext G1 G3 (ρ1 ++ [D]) ρ3 → SimH X.K G3 ρ3 M2 H3 → outR X.K (Rep X.K) W G1 ρ1 σ (fin M1 M2) Q → Q (.ref D) H3)
    (hd : denE X.K W (fun e => fi e >>= fun w => fun M => match lcL w gt t g M.length (wipeE e vs) w.xs (M ++ [.lst []]) with
      | .ok _ M' => fin M M'
      | _ => .bad) σ H Q) : tLc (di X.K W fi) (dg X.K sl gt) (denT X.K Wn t) (denE X.K Wn g) vs σ H Q := by
  obtain ⟨G, ρ, M, e, s, r, q⟩ := hd
  refine ⟨G, ρ, M, e, s, r, outR_bind q fun G1 ρ1 M1 w J H1 x1 s1 r1 q1 => fun D hD => ?_⟩
  obtain ⟨S2, x2⟩ := s1.alloc (H' := upd H1 D (.lst [])) hD (fun a o e => by rw [upd_ne (ne_of_none e hD)]; exact e) (o := .lst []) ⟨[], upd_same, Reps.nil⟩
  have r2 := (r.ext (x1.trans x2)).wipe (vs := vs)
  cases w1 : lcL w gt t g M1.length (wipeE e vs) w.xs (M1 ++ [.lst []]) with
  | exc c ys M2 => simp only [w1] at q1; exact q1.elim
  | bad => simp only [w1] at q1; exact q1.elim
  | ok _ M2 =>
    simp only [w1] at q1
    refine ⟨fun i m H' => ∃ G' ρ' M', Ext G1 G' (ρ1 ++ [D]) ρ' ∧ SimH X.K G' ρ' M' H' ∧ m = w.xs.length - i ∧ lcL w gt t g M1.length (wipeE e vs) (w.xs.drop i) M' = .ok () M2, ⟨_, G1, ρ1 ++ [D], _, Ext.refl, S2, rfl, by simpa using w1⟩, ?_⟩
    rintro i m H' ⟨G', ρ', M', x', s', rfl, q'⟩
    have xw : Ext G1 G' ρ1 ρ' := Ext.trans x2 x'
    by_cases hlt : i < w.xs.length
    · rw [List.drop_eq_getElem_cons hlt] at q'
      rw [lcL] at q'
      by_cases hh : w.holds M'
      · rw [if_pos hh] at q'
        obtain ⟨hgo, hy⟩ := (r1 G' ρ' M' H' i xw s' hh).1 w.xs[i] (List.getElem?_eq_getElem hlt)
        refine .inr ⟨hgo, fun H2 => ∃ G2 ρ2 M3, Ext G1 G2 (ρ1 ++ [D]) ρ2 ∧ SimH X.K G2 ρ2 M3 H2 ∧ lcL w gt t g M1.length (wipeE e vs) (w.xs.drop (i + 1)) M3 = .ok () M2, fun H2 ⟨G2, ρ2, M3, a1, a2, a3⟩ => ⟨w.xs.length - (i + 1), by omega, G2, ρ2, M3, a1, a2, rfl, a3⟩, fun v H2 hv => ?_⟩
        obtain ⟨G2, x3, s2, rv⟩ := hy v H2 hv
        refine ⟨G2, ρ', M', wipeE e vs, w.xs[i], s2, r2.ext (x'.trans x3), rv, ?_⟩
        cases w3 : gt w.xs[i] (wipeE e vs) M' with
        | exc c ys M3 => rw [w3] at q'; cases q'
        | bad => rw [w3] at q'; cases q'
        | ok e1 M3 =>
          rw [w3] at q'
          dsimp only at q'
          refine fun G3 ρ3 H3 σ3 x4 s3 r3 hw => ⟨by rw [hw vs hsl, wipe_wipe], G3, ρ3, M3, e1, s3, r3, ?_⟩
          cases w4 : t e1 M3 with
          | exc c ys M4 => rw [w4] at q'; cases q'
          | bad => rw [w4] at q'; cases q'
          | ok b M4 =>
            rw [w4] at q'
            dsimp only at q'
            intro G4 ρ4 H4 b' x5 s4 rb
            cases rb
            cases b with
            | false => exact ⟨G4, ρ4, M4, x'.trans (x3.trans (x4.trans x5)), s4, q'⟩
            | true =>
              rw [if_pos rfl] at q'
              refine ⟨G4, ρ4, M4, e1, s4, r3.ext x5, ?_⟩
              cases w5 : g e1 M4 with
              | exc c ys M5 => rw [w5] at q'; cases q'
              | bad => rw [w5] at q'; cases q'
              | ok y M5 =>
                rw [w5] at q'
                dsimp only at q'
                intro G5 ρ5 H5 u x6 s5 ru
                cases w6 : M5[M1.length]? with
                | none => rw [w6] at q'; cases q'
                | some ob =>
                  rw [w6] at q'
                  cases ob with
                  | dct _ _ => cases q'
                  | ins _ _ _ => cases q'
                  | lst acc =>
                    dsimp only at q'
                    by_cases hz : acc.length < sizeLine
                    · rw [if_pos hz] at q'
                      have xx := x'.trans (x3.trans (x4.trans (x5.trans x6)))
                      have hD5 : ρ5[M1.length]? = some D := xx.r _ _ (by rw [← s1.len]; simp)
                      obtain ⟨us, e5, r5⟩ := s5.at_ hD5 w6
                      have S6 := s5.write (u := .lst (us ++ [u])) (o' := .lst (acc ++ [y])) hD5 w6 ⟨_, upd_same, r5.app (Reps.cons ru Reps.nil)⟩
                      exact ⟨us, e5, by rw [← r5.length]; exact hz, G5, ρ5, _, xx, S6, q'⟩
                    · rw [if_neg hz] at q'; cases q'
      · rw [if_neg hh] at q'; cases q'
    · rw [List.drop_eq_nil_of_le (by omega)] at q'
      rw [lcL] at q'
      by_cases hh : w.holds M'
      · rw [if_pos hh] at q'
        cases q'
        refine .inl ⟨(r1 G' ρ' M2 H' i xw s' hh).2 (by omega), hfin G1 H1 ρ1 M1 D G' H' ρ' M2 s1 hD x' s' q1⟩
      · rw [if_neg hh] at q'; cases q'
theorem lc_goM {fi : Env → RM Wk} {vs sl : List Nat} {gt : PV → Env → RM Env} {t : Env → RM Bool} {σ : St} {H : Hp} {Q : VK} (hsl : ∀ i ∈ sl, i ∈ vs) (hd : denE X.K W (fLcM fi vs gt t g) σ H Q) : tLc (di X.K W fi) (dg X.K sl gt) (denT X.K Wn t) (denE X.K Wn g) vs σ H Q :=
  lc_go (fin := fun M M' => .ok (.ref M.length) M') hsl (fun G1 H1 ρ1 M1 D G3 H3 ρ3 M2 S1 hD x3 s3 q => by
    have x2 : Ext G1 G3 ρ1 ρ3 := ⟨x3.g, fun n a e => x3.r n a (by rw [List.getElem?_append_left (List.getElem?_eq_some_iff.mp e).1]; exact e)⟩
    refine outR_ok q x2 s3 ?_
    simp only [Rep]
    exact ⟨D, rfl, x3.r _ _ (by rw [← S1.len]; simp)⟩) hd
open Classical in
theorem lc_goF {fi : Env → RM Wk} {vs sl : List Nat} {gt : PV → Env → RM Env} {t : Env → RM Bool} {σ : St} {H : Hp} {Q : VK} (hsl : ∀ i ∈ sl, i ∈ vs) (hd : denE X.K W (fLc fi vs gt t g) σ H Q) : tLc (di X.K W fi) (dg X.K sl gt) (denT X.K Wn t) (denE X.K Wn g) vs σ H Q :=
  lc_go (fin := fun M M' => match M'[M.length]? with
    | some (.lst acc) => if noRefs M.length acc = true ∧ Keeps M M' then .ok (.lst acc) (M'.take M.length) else .bad
    | _ => .bad) hsl (fun G1 H1 ρ1 M1 D G3 H3 ρ3 M2 S1 hD x3 s3 q => by
    cases w : M2[M1.length]? with
    | none => rw [w] at q; exact q.elim
    | some ob =>
      rw [w] at q
      cases ob with
      | dct _ _ => exact q.elim
      | ins _ _ _ => exact q.elim
      | lst acc =>
        dsimp only at q
        by_cases hc : noRefs M1.length acc = true ∧ Keeps M1 M2
        · rw [if_pos hc] at q
          obtain ⟨G5, y1, y2, y3⟩ := freeze S1 hD x3 s3 w hc.1 hc.2
          exact outR_ok q y1 y2 y3
        · rw [if_neg hc] at q; exact q.elim) hd
section
variable {ifs : List Expr} {scope : Scope} {own : List (Str × Nat)} {fi : Env → RM Wk} {sl : List Nat} {gt : PV → Env → RM Env} {t : Env → RM Bool}
theorem qe_lc (hc : X.calm = true) (hN : X.N.Nodup) (hi : QI X W tg iter fi) (ok : BlkOk X.N X.env.scope scope own) (hsl : ∀ i ∈ sl, i ∈ own.map (·.2))
    (hg : ∀ (s : Shared) (H : Hp) (C : Addr) (cl : List (Str × Addr)) (fp : List Addr), QG (X.blk s H scope (compEnvC scope cl C X.env) fp) tg sl gt) (ht : ∀ (s : Shared) (H : Hp) (C : Addr) (cl : List (Str × Addr)) (fp : List Addr), QT (X.blk s H scope (compEnvC scope cl C X.env) fp) Wn ifs t)
    (he : ∀ (s : Shared) (H : Hp) (C : Addr) (cl : List (Str × Addr)) (fp : List Addr), QE (X.blk s H scope (compEnvC scope cl C X.env) fp) Wn elt g) (hpl : plainIt iter = true) :
    QE X W (.ListComp elt [⟨tg, iter, ifs, 0⟩] scope pos) (fLc fi (own.map (·.2)) gt t g) :=
  QE.of (PE.imp (pe_lc hc hN hi.pi ok (fun s H C cl fp => (hg s H C cl fp).pg) (fun s H C cl fp => (ht s H C cl fp).pts) (fun s H C cl fp => (he s H C cl fp).pe) (plainIt_ok hpl)) fun σ H Q hd => lc_goF hsl hd)
theorem qe_lcM (hc : X.calm = true) (hN : X.N.Nodup) (hi : QI X W tg iter fi) (ok : BlkOk X.N X.env.scope scope own) (hsl : ∀ i ∈ sl, i ∈ own.map (·.2))
    (hg : ∀ (s : Shared) (H : Hp) (C : Addr) (cl : List (Str × Addr)) (fp : List Addr), QG (X.blk s H scope (compEnvC scope cl C X.env) fp) tg sl gt) (ht : ∀ (s : Shared) (H : Hp) (C : Addr) (cl : List (Str × Addr)) (fp : List Addr), QT (X.blk s H scope (compEnvC scope cl C X.env) fp) Wn ifs t)
    (he : ∀ (s : Shared) (H : Hp) (C : Addr) (cl : List (Str × Addr)) (fp : List Addr), QE (X.blk s H scope (compEnvC scope cl C X.env) fp) Wn elt g) (hpl : plainIt iter = true) :
    QE X W (.ListComp elt [⟨tg, iter, ifs, 0⟩] scope pos) (fLcM fi (own.map (·.2)) gt t g) :=
  QE.of (PE.imp (pe_lc hc hN hi.pi ok (fun s H C cl fp => (hg s H C cl fp).pg) (fun s H C cl fp => (ht s H C cl fp).pts) (fun s H C cl fp => (he s H C cl fp).pe) (plainIt_ok hpl)) fun σ H Q hd => lc_goM hsl hd)
theorem set_go {i : Nat} {σ : St} {H : Hp} {D : Ends} {te : TE} {f : Env → RM PV} (hl : ∀ Q, denE X.K W f σ H Q → te σ H Q) (h : ds X.K W (sAsg f (gNm i)) D σ H) : tAsg te (gName i) D σ H := by
  obtain ⟨G, ρ, M, e, s, r, q⟩ := h
  exact hl _ ⟨G, ρ, M, e, s, r, outS_E q r fun G1 ρ1 M1 x y H1 x1 s1 r1 q1 => (show outS X.K W D G1 ρ1 (.nx (e.set i (some x)) M1) from q1) G1 ρ1 H1 _ Ext.refl s1 ((r.ext x1).set r1)⟩
theorem qs_setLc {i : Nat} {y : Str} {py spos : Pos} (hc : X.calm = true) (hN : X.N.Nodup) (hy : X.N[i]? = some y) (hyl : X.env.scope.names.lookup y = some .local)
    (hsw : swapsWith (.ListComp elt [⟨tg, iter, ifs, 0⟩] scope pos) (some (.Name y py)) spos.line X.env = pure true) (hi : QI X W tg iter fi) (ok : BlkOk X.N X.env.scope scope own) (hsl : ∀ i ∈ sl, i ∈ own.map (·.2))
    (hg : ∀ (s : Shared) (H : Hp) (C : Addr) (cl : List (Str × Addr)) (fp : List Addr), QG (X.blk s H scope (compEnvC scope cl C X.env) fp) tg sl gt) (ht : ∀ (s : Shared) (H : Hp) (C : Addr) (cl : List (Str × Addr)) (fp : List Addr), QT (X.blk s H scope (compEnvC scope cl C X.env) fp) Wn ifs t)
    (he : ∀ (s : Shared) (H : Hp) (C : Addr) (cl : List (Str × Addr)) (fp : List Addr), QE (X.blk s H scope (compEnvC scope cl C X.env) fp) Wn elt g) (hpl : plainIt iter = true) (mm : Bool) :
    QS X W (.Assign [.Name y py] (.ListComp elt [⟨tg, iter, ifs, 0⟩] scope pos) spos) (sAsg (if mm then fLcM fi (own.map (·.2)) gt t g else fLc fi (own.map (·.2)) gt t g) (gNm i)) :=
  ⟨PS.imp (ps_setLc hc hN hy hyl hsw hi.pi ok (fun s H C cl fp => (hg s H C cl fp).pg) (fun s H C cl fp => (ht s H C cl fp).pts) (fun s H C cl fp => (he s H C cl fp).pe) (plainIt_ok hpl)) fun D σ H hd => by
    cases mm with
    | true => exact set_go (fun Q hd => lc_goM hsl hd) hd
    | false => exact set_go (fun Q hd => lc_goF hsl hd) hd⟩
end
end
end R
set_option maxHeartbeats 4000000
/-! R14: constants of the module, static methods, exceptions, try. -/
namespace R
open PySem PySem.Spec L2
open PyProof.Rows hiding St
section
variable {X : Cx} {W : WX} {CX : CXT} {a b c o : Expr} {f g h : Env → RM PV} {F Fb Fc : SM} {st : Stmt} {sts : List Stmt} {pos pos' : Pos}
/-- a name of the module with a value -/
def GloC0 (K : PySem.W.Frag) (mg : Str → Option Value) (x : Str) (pv : PV) : Prop := ∃ u v, mg x = some u ∧ RelV v u ∧ ∀ G ρ, Rep K G ρ pv v
theorem qe_gv {x : Str} {pv : PV} (hg : Gl X x) (hc : GloC0 X.K X.mg x pv) (hd : (x == ("__debug__" : Str)) = false) : QE X W (.Name x pos) (fun _ => pure pv) := by
  obtain ⟨u, v, h1, h2, h3⟩ := hc
  exact qe_pure (pe_glob hg h1 h2 hd) fun G ρ M H _ => h3 G ρ
/-- a dict of the module: its text keys, ints -/
def DicC0 (K : PySem.W.Frag) (w : World) (mg : Str → Option Value) (x : Str) (tb : List (Str × Int)) : Prop := ∃ a es n, mg x = some (.ref a) ∧ KDict K w a es n ∧ ∀ s, match tb.lookup s with
  | some i => ∃ t, findBy Value.isStrOf es s = some (.int i t)
  | none => findBy Value.isStrOf es s = none
def getC (tb : List (Str × Int)) : PV → PV → RM PV
  | .str s, z => pure (match tb.lookup s with
    | some i => .int i
    | none => z)
  | _, _ => RM.bad
theorem qe_dgetC {x : Str} {tb : List (Str × Int)} {p apos : Pos} (hg : Gl X x) (hc : DicC0 X.K X.w X.mg x tb) (hd : (x == ("__debug__" : Str)) = false) (ha : QE X W a f) (hb : QE X W b g) (hs1 : notStar a = true) (hs2 : notStar b = true) (hline : (apos.endLine == pos.line) = true) :
    QE X W (.Call (.Attribute (.Name x p) "get" apos) [a, b] [] pos) (f2 (getC tb) f g) := by
  obtain ⟨d, es, n, hm, D, hk⟩ := hc
  refine QE.of ⟨fun pins s σ H Q I ⟨G, ρ, M, e, S, r, q⟩ => ?_⟩
  have htr : backTo pos (starEach [a, b] X.env) = [(false, eval a X.env), (false, eval b X.env)] := by
    rw [starEach_cons hs1, starEach_cons hs2]; rfl
  refine wpAny_Call_method rfl (by rw [starEach_cons hs1, starEach_cons hs2]; rfl) hline PySem.F.plainAttrs_dict PySem.F.slot_dict_get PySem.F.type_dict_get (ld_glob I hg hm ?_ hd)
  have I0 := I
  refine ⟨kd_type D I0, fun b' e => ?_, ?_⟩
  · cases e
    exact ⟨_, I0.kIn _ _ D.at_, rfl⟩
  rw [htr]
  refine Calls.callWith_builtin rfl (Calls.evalArgs_plain (Calls.spliced_cons (thn (ha.pe.run pins s σ H _ I ⟨G, ρ, M, e, S, r, outR_bind q fun G1 ρ1 M1 px x H1 x1 s1 r1 q1 => (⟨G1, ρ1, M1, px, x1, s1, r1, q1⟩ : ∃ G1 ρ1 M1 px, Ext G G1 ρ ρ1 ∧ SimH X.K G1 ρ1 M1 H1 ∧ Rep X.K G1 ρ1 px x ∧ outR X.K (Rep X.K) W G1 ρ1 σ ((g e >>= fun y => getC tb px y) M1) Q)⟩) fun u s2 ⟨v, H1, I1, rv, G1, ρ1, M1, px, x1, S1, r1, q1⟩ => Calls.spliced_cons (thn (hb.pe.run pins s2 σ H1 _ I1 ⟨G1, ρ1, M1, e, S1, r.ext x1, outR_bind q1 fun G2 ρ2 M2 py y H2 x2 s2 r2 q2 => (⟨G2, ρ2, M2, py, x2, s2, r2, q2⟩ : ∃ G2 ρ2 M2 py, Ext G1 G2 ρ1 ρ2 ∧ SimH X.K G2 ρ2 M2 H2 ∧ Rep X.K G2 ρ2 py y ∧ outR X.K (Rep X.K) W G2 ρ2 σ (getC tb px py M2) Q)⟩) fun u2 s3 ⟨v2, H2, I2, rv2, G2, ρ2, M2, py, x2, S2, r2, q2⟩ => Calls.spliced_nil ?_))))
  cases px with
  | str z =>
    rw [rep_str] at r1; subst r1
    obtain ⟨t, rfl⟩ := rv
    have hh := hk z
    have hmap := PySem.W.mapOf_K (prog := X.prog) (w := X.w) I2.kIn D.at_ D.lit
    refine call_meetsIn PySem.F.slot_dict_get hmap.typeIs PySem.F.entry_dict_get (PySem.F.args_dict_get_3 _ _ _) (meets_dict_get_default (strKind X.prog X.w) d (strKind_is X.prog X.w z t) D.low u2) ⟨_, hmap, ?_⟩
    cases hl : tb.lookup z with
    | none =>
      rw [hl] at hh
      rw [show findBy Value.isStrOf es z = none from hh]
      have q3 : outR X.K (Rep X.K) W G2 ρ2 σ ((pure py : RM PV) M2) Q := by
        have q3 : outR X.K (Rep X.K) W G2 ρ2 σ ((pure (match tb.lookup z with | some i => .int i | none => py) : RM PV) M2) Q := q2
        rw [hl] at q3; exact q3
      exact ⟨v2, H2, I2.tok _, rv2, outR_pure q3 S2 r2⟩
    | some i =>
      rw [hl] at hh
      obtain ⟨t', hh⟩ := hh
      rw [hh]
      have q3 : outR X.K (Rep X.K) W G2 ρ2 σ ((pure (.int i) : RM PV) M2) Q := by
        have q3 : outR X.K (Rep X.K) W G2 ρ2 σ ((pure (match tb.lookup z with | some i => .int i | none => py) : RM PV) M2) Q := q2
        rw [hl] at q3; exact q3
      exact ⟨.int i, H2, I2.tok _, ⟨_, rfl⟩, outR_pure q3 S2 (rep_int.mpr rfl)⟩
  | _ => exact q2.elim
/-! ### C.m(..), m a staticmethod -/
structure SMet (K : PySem.W.Frag) (C : Addr) (m : Str) (p g : Addr) : Prop where
  rd : PySem.W.readsIn K C (.type "type") = true
  ga : PySem.W.specialIn K (.ref C) "__getattribute__" = some (some (.builtin "type.__getattribute__"))
  ty : PySem.W.typeIn K (.ref C) = some (.type "type")
  at_ : PySem.W.findCls K (.ref C) (.type "type") m = some (.get (.builtin "staticmethod.__get__") (.ref p) .none (.ref C))
  rc : ∃ rest, PySem.W.recIn K p "staticmethod" = some (.ref g :: rest)
  hv : PySem.W.handedIn (.ref g) = true
theorem qe_static {cn : Str} {m : Str} {apos p : Pos} {e0 : Expr} {es : List Expr} {k : Nat} {rc fn : Addr} {n : Nat} {φ : List PV → RM PV} {fa : Env → RM (List PV)} (hS : SMet X.K (He.ga X.K cn) m rc fn) (F : FnC X CX k fn n φ) (hr : RoomG k X.A) (hg : Gl X cn) (hm : X.mg cn = some (.ref (He.ga X.K cn))) (tk : ∀ σ, PassesAt CX X σ (WE W σ))
    (ha : QA X W (e0 :: es) fa) (hdb : (cn == ("__debug__" : Str)) = false) (hst : (e0 :: es).all notStar = true) (hl : (e0 :: es).length < 30) (hline : (apos.endLine == pos.line) = true) :
    QE X W (.Call (.Attribute (.Name cn p) m apos) (e0 :: es) [] pos) (fun e => fa e >>= φ) := by
  obtain ⟨fd, ps, hlen, F1, hb⟩ := F.ok
  refine QE.of ⟨fun pins s σ H Q I ⟨G, ρ, M, e, S, r, q⟩ => ?_⟩
  refine PySem.W.methodCall_KW (pl := do return (← importBound (.Name cn p) X.env).getD true) (ld_glob I hg hm ?_ hdb) (meth_eval rfl hst hl hline)
  obtain ⟨rest, hrc⟩ := hS.rc
  have hst' := hst
  rw [List.all_cons, Bool.and_eq_true] at hst
  obtain ⟨m', fr⟩ := I.fr
  refine PySem.W.method_cls I.kIn hS.ga (PySem.W.cls_sm fr I.ok.mod.kin hS.ty hS.rd hS.at_ hrc hS.hv ?_)
  refine PySem.W.callWith_K (first := []) (h₀ := X.base) I.ok.mod.kin F.kp (thn (ha.pa.run pos pins _ σ H (fun vs H1 => ∃ G ρ M xs, SimH X.K G ρ M H1 ∧ Reps X.K G ρ xs vs ∧ outR X.K (Rep X.K) W G ρ σ (φ xs M) Q) (I.tok _) ⟨G, ρ, M, e, S, r, outR_bind q fun G1 ρ1 M1 xs vs H1 x1 s1 r1 q1 => ⟨G1, ρ1, M1, xs, s1, r1, q1⟩⟩) fun us s2 ⟨vs, H2, I2, rv, G1, ρ1, M1, xs, S1, r1, q1⟩ => ⟨I2.kIn, ?_⟩) (starEach_cons hst.1) (star_any hst.2)
  exact run_fnG F1 hr hb (tk σ) I2 rv (spOf_of n (F.ar _ _) S1 r1 q1)
end
end R
set_option maxHeartbeats 4000000
/-! R15: raise, try. -/
namespace R
open PySem PySem.Spec L2
open PyProof.Rows hiding St
theorem sky_imp {B : Heap} {l : List PySem.Env} {a : Addr} {Z Z' : Obj → Prop} {L : Addr} {h : Heap} (z : ∀ o, Z o → Z' o) (x : Sky B l a Z L h) : Sky B l a Z' L h := by
  rcases x with ⟨h1, h2, h3, oe, vs, h4, h5, h6⟩ | x | x
  · exact .inl ⟨h1, h2, h3, oe, vs, h4, z _ h5, h6⟩
  · exact .inr (.inl (L2H.flyingZ_imp z x))
  · exact .inr (.inr ⟨x.1, x.2.1, x.2.2.1, L2H.tracedZ_imp z x.2.2.2⟩)
theorem takesN_of {X : Cx} {W : WX} (tk : L2.Takes X W) : L2N.Takes X W := fun u s' ⟨a, B, sI, pins, σ, H, cls, d, e, I, nb, up, sky, na, os, ag, w⟩ =>
  tk u s' ⟨a, B, sI, pins, σ, H, cls, d, e, I, nb, up, sky_imp (fun o z => z.zc) sky, na, os, ag, w⟩
theorem takesN_none {X : Cx} : L2N.Takes X Wn := takesN_of takes_none5
/-! ### the making of an own exception -/
/-- what C.__init__ promises: its one field is laid -/
def spI (C : Addr) (fl : Str) : Sp := fun vs H Q _ => ∃ a y, vs = [.ref a, y] ∧ H a = some (exo a C none) ∧ ∀ dx, H dx = none → dx ≠ a → Q .non (upd (upd H dx (exd dx [(fl, y)])) a (exo a C (some dx)))
structure ExC0 (P : Program) (w : World) (K : PySem.W.Frag) (mg : Str → Option Value) (base : Heap) (c fl : Str) : Prop where
  T : OexC K (He.ga K c)
  mg_ : mg c = some (.ref (He.ga K c))
  init : ∃ fI fd ps, PySem.W.findIn K (.ref (He.ga K c)) "__init__" = some (some (.ref fI)) ∧ PySem.W.typeIn K (.ref fI) = some (.type "function") ∧ FnOk P w K mg base CX0 1 fI fd ps (spI (He.ga K c) fl) ∧ Binds K fd ps []
  inH : ∃ fI fd ps, PySem.W.findIn K (.ref (He.ga K c)) "__init__" = some (some (.ref fI)) ∧ PySem.W.typeIn K (.ref fI) = some (.type "function") ∧ L2H.FnH P w K mg base CX0 1 fI fd ps (spI (He.ga K c) fl) ∧ Binds K fd ps []
section
variable {X : Cx} {W : WX} {a : Expr} {f : Env → RM PV}
theorem pmk_oexN {x : Str} {C fI : Addr} {k : Nat} {fd : FuncData} {ps : List Str} {sp : Sp} {e : Expr} {es : List Expr} {ta : TA} {p pos : Pos} (T : OexC X.K C) (iC : PySem.W.findIn X.K (.ref C) "__init__" = some (some (.ref fI))) (tI : PySem.W.typeIn X.K (.ref fI) = some (.type "function"))
    (F1 : FnOk X.prog X.w X.K X.mg X.base CX0 k fI fd ps sp) (hr : Room (k + 1) X.A) (hb : Binds X.K fd ps []) (hg : Gl X x) (hm : X.mg x = some (.ref C)) (ha : PA X (e :: es) ta)
    (hdb : (x == ("__debug__" : Str)) = false) (he : starEach (e :: es) X.env = (false, eval e X.env) :: starEach es X.env) (hpl : (backTo pos (starEach es X.env)).any (·.1) = false) :
    L2N.PMk X (.Call (.Name x p) (e :: es) [] pos) (tMkO C sp [] ta) := by
  intro pins s σ H Q I h
  obtain ⟨nm, q, N, bs, bm, sn, sub, ab, col, dd, k0, k1, k2, k3, k5, hC, hbm⟩ := T.cls
  refine wpAny_Call_Name_kw (ld_glob I hg hm ?_ hdb)
  refine PySem.W.callWith_K (h₀ := X.base) I.ok.mod.kin T.kC (thn (ha.run pos pins s σ H _ I h) fun us s1 ⟨vs, H1, I1, r1, hz, q1⟩ => ⟨I1.kIn, ?_⟩) he hpl
  show wpAny _ _ (call (.ref C) us) _ _ _
  obtain ⟨hp, g, dr, tk, os⟩ := s1
  have hsz : hp.objs.size ≤ hp.objs.size + 1 := Nat.le_succ _
  have hn : H1 (hp.objs.size + 1) = none := I1.hok.fresh hsz
  have hq := q1 (hp.objs.size + 1) hn
  have kk : ∀ b o, hp.get? b = some o → ((hp.push (PySem.W.kdv_tup us)).push (PySem.HandSPX.excO C hp.objs.size)).get? b = some o := fun b o e => Heap.get?_push_of_some _ (Heap.get?_push_of_some _ e)
  have hget : ((hp.push (PySem.W.kdv_tup us)).push (PySem.HandSPX.excO C hp.objs.size)).get? (hp.objs.size + 1) = some (PySem.HandSPX.excO C hp.objs.size) := by heap_get
  have I2 : Inv X pins σ (upd H1 (hp.objs.size + 1) (exo (hp.objs.size + 1) C none)) ⟨(hp.push (PySem.W.kdv_tup us)).push (PySem.HandSPX.excO C hp.objs.size), g, dr, tk, os⟩ :=
    I1.laid (t' := tk) (a := hp.objs.size + 1) (o := exo (hp.objs.size + 1) C none) (h' := (hp.push (PySem.W.kdv_tup us)).push (PySem.HandSPX.excO C hp.objs.size)) kk hsz (exo_ok hget)
  rw [List.append_nil] at hq
  have r2 : Vals (V.ref (hp.objs.size + 1) :: vs) (Value.ref (hp.objs.size + 1) :: us) := .cons rfl r1
  have hl : (Value.ref (hp.objs.size + 1) :: us ++ []).length = ps.length := by
    have e := r2.length
    rw [F1.len _ _ _ _ hq] at e
    rw [List.append_nil]
    exact e.symm
  have hus : us.length ≤ sizeLine := by
    rw [← Paired.length r1, sizeLine_eq]
    omega
  have b2 := hb _ (Value.ref (hp.objs.size + 1) :: us) I2.kIn hl
  rw [List.append_nil] at b2
  refine wpAny_call (PySem.HandSPX.call_own F.excBase_ValueError (fun Y => PySem.HandSPX.refsVE_contains Y bm hbm) (I1.kIn _ _ hC) (PySem.W.looks_findIn I1.kIn iC) (fun self => PySem.W.bind_fn I1.kIn self tI) hus
    (codeAny_mono (F1.run _ X.stack _ _ ⟨Value.ref (hp.objs.size + 1) :: us, []⟩ (Value.ref (hp.objs.size + 1) :: us) _ _ (fun _ _ _ => False) (hr.make C us []) (I2.env0.make C us []) b2 r2 hq) fun r s' hq' => ?_))
  cases r with
  | error er => exact False.elim hq'
  | ok fl =>
    cases fl with
    | ret u =>
      obtain ⟨v, H2, os2, bare2, un2, hok2, rv, ev, d, fs, ea, ed, hd1, q2⟩ := hq'
      subst ev
      obtain ⟨h2, g2, d2, t2, os'⟩ := s'
      obtain ⟨t0, G, J, kG, ge, hoe, na⟩ := mk_end0 (d2 := d2) (t2 := t2) I1 hsz kk un2 hok2 os2 bare2 ea ed hd1
      refine ⟨rv, ⟨hp.objs.size + 1, _, _, ⟨G, g2, d2, t2, os'⟩, _, .ref C, some d, rfl, J, kG, ge, hoe, ⟨rfl, rfl, fun vs hv => ?_⟩, rfl, rfl, na, rfl, bare2, raises_own T.exC T.tyC, q2⟩⟩
      cases hv
      rfl
    | next => exact False.elim hq'
    | brk => exact False.elim hq'
    | cont => exact False.elim hq'
/-- raise C(x) -/
def sRaise (c : Str) (f : Env → RM PV) : SM := sE f fun x e M => .ex c [x] e M
theorem qs_raise {c fl : Str} {p pos pos2 : Pos} (hc : X.calm = true) (E : ExC0 X.prog X.w X.K X.mg X.base c fl) (hr : Room 2 X.A) (tk : L2N.Takes X W) (hg : Gl X c) (hdb : (c == ("__debug__" : Str)) = false) (ha : QE X W a f) (hs : notStar a = true) :
    QS X W (.Raise (some (.Call (.Name c p) [a] [] pos)) none pos2) (sRaise c f) := by
  obtain ⟨fI, fd, ps, iC, tI, F1, hb⟩ := E.init
  refine ⟨PS.imp (L2N.ps_raise hc tk (pmk_oexN E.T iC tI F1 hr hb hg E.mg_ (qa_cons ha qa_nil hs).pa hdb (starEach_cons hs) rfl)) fun D σ H ⟨G, ρ, M, e, s, r, q⟩ => ?_⟩
  refine ⟨G, ρ, M, e, s, r, ?_⟩
  have q' : outR X.K (Rep X.K) W G ρ σ (f e M) (fun y H1 => ∃ G1 ρ1 M1 x, Ext G G1 ρ ρ1 ∧ SimH X.K G1 ρ1 M1 H1 ∧ Rep X.K G1 ρ1 x y ∧ outS X.K W D G1 ρ1 (.ex c [x] e M1)) := outS_E q r fun G1 ρ1 M1 x y H1 x1 s1 r1 q1 => ⟨G1, ρ1, M1, x, x1, s1, r1, q1⟩
  show outR X.K (Reps X.K) W G ρ σ ((f e >>= fun x => fNil e >>= fun xs => pure (x :: xs)) M) _
  rw [bind_eq]
  cases w : f e M with
  | exc k ys M2 => rw [w] at q'; exact q'
  | bad => rw [w] at q'; exact q'.elim
  | ok x M2 =>
    intro G1 ρ1 H1 vs x1 s1 r1
    obtain ⟨y, rfl, ry⟩ := reps1 r1
    refine ⟨by simp, fun a0 ha0 => ⟨a0, y, rfl, upd_same, fun dx hdx ne => ⟨rfl, dx, [(fl, y)], upd_same, ?_, ?_, ?_⟩⟩⟩
    · rw [upd_ne ne, upd_same]
    · rw [upd_ne ne] at hdx; exact hdx
    · have hd1 : H1 dx = none := by rw [upd_ne ne] at hdx; exact hdx
      have eH : upd (del (upd (upd (upd H1 a0 (exo a0 (He.ga X.K c) none)) dx (exd dx [(fl, y)])) a0 (exo a0 (He.ga X.K c) (some dx))) a0) dx (.xd [(fl, y)]) = upd H1 dx (.xd [(fl, y)]) := by
        funext b
        by_cases h1 : b = dx
        · subst h1; rw [upd_same, upd_same]
        · rw [upd_ne h1, upd_ne h1]
          by_cases h2 : b = a0
          · subst h2; rw [del_same, ha0]
          · rw [del_ne h2, upd_ne h2, upd_ne h1, upd_ne h2]
      rw [eH]
      have e2 : f e M = .ok x M2 := w
      have q2 : outS X.K W D G ρ (.ex c [x] e M2) := by
        unfold sRaise sE at q
        rw [w] at q
        exact q
      exact q2 _ ρ1 _ σ _ _ (x1.trans (Ext.upd (s1.fresh hd1))) (s1.froz hd1 _) ((r.ext x1).ext (Ext.upd (s1.fresh hd1))) ⟨rfl, .inr ⟨dx, fl, y, x, rfl, rfl, upd_same, ry.ext (Ext.upd (s1.fresh hd1)) _ _⟩⟩
/-- C.__init__(self, given): self.f = given -/
theorem exc_init {P : Program} {w : World} {K : PySem.W.Frag} {mg : Str → Option Value} {base : Heap} {x qual : Str} {params : Arguments} {body : List Stmt} {scope : Scope} {fI C : Addr} {fd : FuncData} {s g fl : Str} {p1 p2 p3 p4 : Pos} (Fd : FunD K x qual params body scope [] [] fI fd) (S : FnScope [s, g] [s, g] scope)
    (hb : body = [.Assign [.Attribute (.Name s p1) fl p2] (.Name g p3) p4]) (T : OexC K C) (hno : PySem.W.findIn K (.ref C) fl = some none) (h1 : (s == ("__debug__" : Str)) = false) (h2 : (s == ("__classdict__" : Str)) = false) (h3 : (g == ("__debug__" : Str)) = false) (h4 : (g == ("__classdict__" : Str)) = false) : FnOk P w K mg base CX0 1 fI fd [s, g] (spI C fl) := by
  have v1 : Vis scope s := by
    rcases S.par s List.mem_cons_self with h | h
    · exact .inl h
    · exact .inr (.inl h)
  have v2 : Vis scope g := by
    rcases S.par g (List.mem_cons_of_mem _ List.mem_cons_self) with h | h
    · exact .inl h
    · exact .inr (.inl h)
  refine Fd.ok S (fun vs H Q E ⟨a, y, e, _⟩ => by rw [e]; rfl) fun cdv A outer s0 H vs Q E hr ⟨a, y, e, h5, h6⟩ => ?_
  subst hb e
  refine ⟨_, pss_one (ps_ost (pe_var (i := 0) rfl v1 h1 h2) (pe_var (i := 1) rfl v2 h3 h4)), ?_⟩
  exact ⟨y, rfl, .ref a, rfl, a, C, rfl, T, hno, .inl ⟨h5, fun dx hd ne => h6 dx hd ne⟩⟩
end
end R
set_option maxHeartbeats 4000000
/-! R16: try .. except. -/
namespace R
open PySem PySem.Spec L2
open PyProof.Rows hiding St
/-- the first clause that names the class; what a suite raises is not told -/
def hdl (mt : Str → Str → Option Bool) (c : Str) : List (Str × SM) → SM
  | [], _, _ => .bad
  | (h, s) :: r, e, M => match mt c h with
    | some true => (match s e M with
      | .ex _ _ _ _ => .bad
      | r => r)
    | some false => hdl mt c r e M
    | none => .bad
def sTry (mt : Str → Str → Option Bool) (body : SM) (hs : List (Str × SM)) : SM := fun e M => match body e M with
  | .ex c _ e' M' => hdl mt c hs e' M'
  | r => r
inductive QH (X : Cx) : List ExceptHandler → List (Str × SM) → Prop
  | nil : QH X [] []
  | cons {h : Str} {F : SM} {b₀ : Stmt} {suite : List Stmt} {np pos' : Pos} {hds : List ExceptHandler} {l : List (Str × SM)} (hg : Gl X h) (hdb : (h == ("__debug__" : Str)) = false) (hm : X.mg h = some (.ref (He.ga X.K h)))
      (hsu : ∀ (a : Addr) (pn : List (Addr × Obj)), QSs (X.suite a pn) Wn (b₀ :: suite) F) (r : QH X hds l) : QH X (.ExceptHandler (some (.Name h np)) none (b₀ :: suite) pos' :: hds) ((h, F) :: l)
def hdsOf (K : PySem.W.Frag) (l : List (Str × SM)) : List (Value × (Addr → Value → Option Addr → TS)) := l.map fun q => (.ref (He.ga K q.1), fun _ _ _ => ds K Wn q.2)
theorem QH.hds {X : Cx} {hds : List ExceptHandler} {l : List (Str × SM)} (h : QH X hds l) : L2.HdsOk X hds (hdsOf X.K l) := by
  induction h with
  | nil => exact .nil
  | cons hg hdb hm hsu r ih => exact .cons ⟨hg, hdb, .inl hm⟩ (fun a oe cls d pn _ _ => (hsu a _).pss) ih
theorem hdl_ok {K : PySem.W.Frag} {W : WX} {D : Ends} {mt : Str → Str → Option Bool} (hmt : ∀ c h b, mt c h = some b → PySem.W.exmOne K (.ref (He.ga K c)) (.ref (He.ga K h)) = some b) {c : Str} {xs : List PV} {cls : Value} {d : Option Addr} {G H : Hp} {ρ : List Addr} {e : Env} {M : Mem} {σ : St} (S : SimH K G ρ M H) (r : RepE K G ρ e σ) (rx : RepX K G ρ c xs cls d) :
    ∀ {l : List (Str × SM)}, outS K W D G ρ (hdl mt c l e M) → L2.wMany K Wn D (hdsOf K l) cls d σ H
  | [], q => q.elim
  | (h, F) :: l, q => by
    unfold hdl at q
    cases w : mt c h with
    | none => rw [w] at q; exact q.elim
    | some b =>
      rw [w] at q
      refine ⟨b, by rw [rx.1]; exact hmt c h b w, fun eb a _ => ?_, fun eb => ?_⟩
      · subst eb
        dsimp only at q
        refine ⟨G, ρ, M, e, S, r, ?_⟩
        show outS K Wn D G ρ (F e M)
        cases w2 : F e M with
        | nx _ _ => rw [w2] at q; exact q
        | rt _ _ => rw [w2] at q; exact q
        | bk _ _ => rw [w2] at q; exact q
        | ct _ _ => rw [w2] at q; exact q
        | ex _ _ _ _ => rw [w2] at q; exact q.elim
        | bad => rw [w2] at q; exact q.elim
      · subst eb
        exact hdl_ok hmt S r rx (l := l) q
theorem qs_try {X : Cx} {W : WX} {mt : Str → Str → Option Bool} {body : List Stmt} {Fb : SM} {h₀ : ExceptHandler} {hds : List ExceptHandler} {l : List (Str × SM)} {pos : Pos} (hmt : ∀ c h b, mt c h = some b → PySem.W.exmOne X.K (.ref (He.ga X.K c)) (.ref (He.ga X.K h)) = some b) (hs : X.stack = X.env :: X.outer) (hf : X.env.frame = some X.env.locals)
    (hb : ∀ (W : WX) (pn : List (Addr × Obj)) (xe : Value → Shared → Prop), L2.Takes (X.tr pn xe) W → PassesOwn (model X.prog X.w) X.A X.env xe → QSs (X.tr pn xe) W body Fb) (hh : QH X (h₀ :: hds) l) : QS X W (.Try body (h₀ :: hds) [] [] pos) (sTry mt Fb l) := by
  refine ⟨PS.imp (L2.ps_try_many (Wout := Wn) (tb := fun W => ds X.K W Fb) hs hf takes_none5 (fun W pn xe tk po => (hb W pn xe tk po).pss) hh.hds) fun D σ H ⟨G, ρ, M, e, s, r, q⟩ => ⟨G, ρ, M, e, s, r, ?_⟩⟩
  unfold sTry at q
  cases w : Fb e M with
  | nx _ _ => rw [w] at q; exact q
  | rt _ _ => rw [w] at q; exact q
  | bk _ _ => rw [w] at q; exact q
  | ct _ _ => rw [w] at q; exact q
  | ex c xs e' M' =>
    rw [w] at q
    exact fun G' ρ' H' σ' cls d x' s' r' rx => hdl_ok hmt s' r' rx (outS.ext x' q)
  | bad => rw [w] at q; exact q.elim
end R
set_option maxHeartbeats 4000000
/-! R16d: try: .. except (A, B): raise C(x). -/
namespace R
open PySem PySem.Spec L2
open PyProof.Rows hiding St
/-- C.__init__(self, given), called where an exception is handled -/
theorem exc_initH {P : Program} {w : World} {K : PySem.W.Frag} {mg : Str → Option Value} {base : Heap} {x qual : Str} {params : Arguments} {body : List Stmt} {scope : Scope} {fI C : Addr} {fd : FuncData} {s g fl : Str} {p1 p2 p3 p4 : Pos} (Fd : FunD K x qual params body scope [] [] fI fd) (S : FnScope [s, g] [s, g] scope)
    (hb : body = [.Assign [.Attribute (.Name s p1) fl p2] (.Name g p3) p4]) (T : OexC K C) (hno : PySem.W.findIn K (.ref C) fl = some none) (h1 : (s == ("__debug__" : Str)) = false) (h2 : (s == ("__classdict__" : Str)) = false) (h3 : (g == ("__debug__" : Str)) = false) (h4 : (g == ("__classdict__" : Str)) = false) : L2H.FnH P w K mg base CX0 1 fI fd [s, g] (spI C fl) := by
  have v1 : Vis scope s := by
    rcases S.par s List.mem_cons_self with h | h
    · exact .inl h
    · exact .inr (.inl h)
  have v2 : Vis scope g := by
    rcases S.par g (List.mem_cons_of_mem _ List.mem_cons_self) with h | h
    · exact .inl h
    · exact .inr (.inl h)
  obtain ⟨oc, od, dV, kV, doc, pm, an, cdv, ct, osl, rfl, lk, hcd, hD, hK⟩ := Fd.ex
  refine L2H.fn_ofH (k := 0) lk hcd S (fun vs H Q E ⟨a, y, e, _⟩ => by rw [e]; rfl) fun A outer s0 H vs Q E p hot hr ⟨a, y, e, h5, h6⟩ => ?_
  subst hb e
  refine ⟨_, pss_one (ps_ost (pe_var (i := 0) rfl v1 h1 h2) (pe_var (i := 1) rfl v2 h3 h4)), ?_⟩
  exact ⟨y, rfl, .ref a, rfl, a, C, rfl, T, hno, .inl ⟨h5, fun dx hd ne => h6 dx hd ne⟩⟩
section
variable {X : Cx} {W : WX} {a : Expr} {f : Env → RM PV}
theorem qs_raiseHot {c fl : Str} {p pos pos2 : Pos} (hc : L2H.HotC X) (E : ExC0 X.prog X.w X.K X.mg X.base c fl) (hr : L2H.RoomH 2 X.A) (tk : L2.Takes X W) (hg : Gl X c) (hdb : (c == ("__debug__" : Str)) = false) (ha : QE X W a f) (hs : notStar a = true) :
    QS X W (.Raise (some (.Call (.Name c p) [a] [] pos)) none pos2) (sRaise c f) := by
  obtain ⟨fI, fd, ps, iC, tI, F1, hb⟩ := E.inH
  refine ⟨PS.imp (L2H.ps_raiseH hc tk (L2H.pmk5_oexH E.T iC tI F1 hr hc hb pass0 hg E.mg_ (qa_cons ha qa_nil hs).pa hdb (starEach_cons hs) rfl).pmk) fun D σ H ⟨G, ρ, M, e, s, r, q⟩ => ?_⟩
  refine ⟨G, ρ, M, e, s, r, ?_⟩
  have q' : outR X.K (Rep X.K) W G ρ σ (f e M) (fun y H1 => ∃ G1 ρ1 M1 x, Ext G G1 ρ ρ1 ∧ SimH X.K G1 ρ1 M1 H1 ∧ Rep X.K G1 ρ1 x y ∧ outS X.K W D G1 ρ1 (.ex c [x] e M1)) := outS_E q r fun G1 ρ1 M1 x y H1 x1 s1 r1 q1 => ⟨G1, ρ1, M1, x, x1, s1, r1, q1⟩
  show outR X.K (Reps X.K) W G ρ σ ((f e >>= fun x => fNil e >>= fun xs => pure (x :: xs)) M) _
  rw [bind_eq]
  cases w : f e M with
  | exc k ys M2 => rw [w] at q'; exact q'
  | bad => rw [w] at q'; exact q'.elim
  | ok x M2 =>
    intro G1 ρ1 H1 vs x1 s1 r1
    obtain ⟨y, rfl, ry⟩ := reps1 r1
    refine ⟨by simp, fun a0 ha0 => ⟨a0, y, rfl, upd_same, fun dx hdx ne => ⟨rfl, dx, [(fl, y)], upd_same, ?_, ?_, ?_⟩⟩⟩
    · rw [upd_ne ne, upd_same]
    · rw [upd_ne ne] at hdx; exact hdx
    · have hd1 : H1 dx = none := by rw [upd_ne ne] at hdx; exact hdx
      have eH : upd (del (upd (upd (upd H1 a0 (exo a0 (He.ga X.K c) none)) dx (exd dx [(fl, y)])) a0 (exo a0 (He.ga X.K c) (some dx))) a0) dx (.xd [(fl, y)]) = upd H1 dx (.xd [(fl, y)]) := by
        funext b
        by_cases h1 : b = dx
        · subst h1; rw [upd_same, upd_same]
        · rw [upd_ne h1, upd_ne h1]
          by_cases h2 : b = a0
          · subst h2; rw [del_same, ha0]
          · rw [del_ne h2, upd_ne h2, upd_ne h1, upd_ne h2]
      rw [eH]
      have e2 : f e M = .ok x M2 := w
      have q2 : outS X.K W D G ρ (.ex c [x] e M2) := by
        unfold sRaise sE at q
        rw [w] at q
        exact q
      exact q2 _ ρ1 _ σ _ _ (x1.trans (Ext.upd (s1.fresh hd1))) (s1.froz hd1 _) ((r.ext x1).ext (Ext.upd (s1.fresh hd1))) ⟨rfl, .inr ⟨dx, fl, y, x, rfl, rfl, upd_same, ry.ext (Ext.upd (s1.fresh hd1)) _ _⟩⟩
end
/-! ### the clause of two classes -/
def wTwo (K : PySem.W.Frag) (c1 c2 : Value) (ts : Addr → Value → Option Addr → TS) (Wo : WX) (D : Ends) : WX := fun cls d σ H => ∃ b, PySem.W.exmAny K cls [c1, c2] = some b ∧ (b = true → ∀ a, H a = none → ts a cls d D σ H) ∧ (b = false → Wo cls d σ H)
theorem slots_push {h0 h1 : Heap} {o : Obj} (u : h0.UpToSlots h1) : h0.UpToSlots (h1.push o) := fun b o' e hd => let ⟨sl, q⟩ := u b o' e hd; ⟨sl, Heap.get?_push_of_some _ q⟩
theorem fly_push {B h : Heap} {l : List PySem.Env} {e : Addr} {Z : Obj → Prop} {o : Obj} (x : HandSPX.FlyingZ B l e Z h) : HandSPX.FlyingZ B l e Z (h.push o) := by
  obtain ⟨x1, x2, x3, oe, vs, T, oT, ts, q1, q2, q3, q4, q5, q6, q7, q8, q9⟩ := x
  exact ⟨fun b o' k => Heap.get?_push_of_some _ (x1 b o' k), x2, Heap.FunFrames.of_keeps (fun b o' k _ => ⟨o', Heap.get?_push_of_some _ k, rfl⟩) x3, oe, vs, T, oT, ts, Heap.get?_push_of_some _ q1, q2, q3, q4, q5, q6, Heap.get?_push_of_some _ q7, q8, q9⟩
/-- what flies through a clause of two classes that names neither -/
def wBy (K : PySem.W.Frag) (c1 c2 : Value) (Wo : WX) : WX := fun cls d σ H => PySem.W.exmAny K cls [c1, c2] = some false ∧ Wo cls d σ H
section
variable {X : Cx} {y1 y2 : Str} {c1 c2 : Value} {bd su : List Stmt} {b0 : Stmt} {n1 n2 ps0 ps1 tp0 : Pos} {kk : Nat} {tb : WX → TS} {ts : Addr → Value → Option Addr → TS} {Wo : WX}
theorem ps_tryT (hs : X.stack = X.env :: X.outer) (hf : X.env.frame = some X.env.locals) (N1 : Names X y1 c1) (N2 : Names X y2 c2) (pA : ∀ hd : Option Value, PassesOwnAt (model X.prog X.w) (X.A.mark hd) X.A X.env X.xe) (tk : L2.Takes X Wo)
    (hb : ∀ (W : WX) (pn : List (Addr × Obj)) (xe : Value → Shared → Prop), L2N.Takes (X.tr pn xe) W → PassesOwn (model X.prog X.w) X.A X.env xe → PSs (X.tr pn xe) bd (tb W))
    (hsu : ∀ (a : Addr) (oe : Obj) (cls : Value) (d : Option Addr) (pn : List (Addr × Obj)), L2N.Zn cls d oe → (∃ vs, oe.data = .fields vs) → L2.Takes (L2H.suiteX X a ((a, oe) :: pn)) Wo → L2H.HotC (L2H.suiteX X a ((a, oe) :: pn)) →
      PSs (L2H.suiteX X a ((a, oe) :: pn)) (b0 :: su) (ts a cls d)) :
    PS X (.Try bd [.ExceptHandler (some (.Tuple [.Name y1 n1, .Name y2 n2] kk tp0)) none (b0 :: su) ps1] [] [] ps0) (fun D σ H => tb (wTwo X.K c1 c2 ts Wo D) D σ H) := by
  refine ⟨fun pins s σ H D J0 h => ?_⟩
  have ok := J0.ok
  have frs_eq : X.A.frames = some (X.env :: X.outer) := by rw [ok.frames, hs]
  refine wpAny_Try_except ?_
  refine wpAny_mono ((hb (wTwo X.K c1 c2 ts Wo D) (X.pn ++ pins) (fun e t1 => wpAny (model X.prog X.w) X.A (noteFrame e X.env) (fun _ t2 => wpAny (model X.prog X.w) X.A (setFlight e none) (fun _ t3 =>
    wpAny (model X.prog X.w) X.A (handleBy e X.env [.ExceptHandler (some (.Tuple [.Name y1 n1, .Name y2 n2] kk tp0)) none (b0 :: su) ps1]) (SP X pins D) X.xe t3) X.xe t2) X.xe t1) (fun u t xx => ?_) PassesOwn.looking).run [] s σ H D (J0.toTry _) h) (fun f t1 hsp => ?_) (fun e t1 he => he)
  · obtain ⟨a, B, t0, pins', σ', H', cls, d, rfl, J', nb, up, sky, na, os, ag, b, exq, yes, no⟩ := xx
    have J : Inv X pins σ' H' t0 := J'.ofTry ok
    have sky' : L2.Sky B (X.env :: X.outer) a (L2N.Zn cls d) X.env.locals t.heap := by rw [← hs]; exact sky
    show wpAny (model X.prog X.w) X.A (noteFrame (.ref a) X.env) _ _ _
    refine L2N.Sky.land L2N.Zn.steady frs_eq hf sky' fun g1 fl1 ug1 => ?_
    have J1 : Inv X pins σ' H' { t with heap := g1 } := J.landed nb fl1.1 (up.trans ug1) os ag
    obtain ⟨o1, w1, ha1, hz1, hd1⟩ := fl1.there
    have nfr : a ∉ frs (X.env :: X.outer) := fun hm => by
      obtain ⟨_, o', e', hnf⟩ := fl1.2.2.1.mem hm
      rw [ha1] at e'; cases e'
      exact hnf _ hd1
    have nLoc : a ≠ X.env.locals := fun z => nfr (List.mem_filterMap.mpr ⟨X.env, List.mem_cons_self, by rw [hf, z]⟩)
    have nFs : a ∉ X.fs := fun hm => by
      obtain ⟨e, he, q⟩ := List.mem_filterMap.mp hm
      exact nfr (List.mem_filterMap.mpr ⟨e, List.mem_cons_of_mem _ he, q⟩)
    have U1 := J1.suite ha1 hd1 na nLoc nFs
    refine wpAny_handleBy_cons (codeAny_handlers_test ?_) (by intro q; cases q)
    have LT : PySem.W.Looks (model X.prog X.w) g1 (typeOf (.ref a)) cls := fun A Q E s k q => wpAny_typeOf_ref (k _ _ ha1) (by rw [hz1.1]; exact q)
    have named : ∀ {y : Str} {c : Value} {np : Pos} {Q : Value → Shared → Prop} {E : Value → Shared → Prop}, Names X y c → Q c { t with heap := g1 } → wpAny (model X.prog X.w) (X.A.mark (some (.ref a))) (eval (.Name y np) X.env) Q E { t with heap := g1 } := fun {y c np Q E} hn q => by
      obtain ⟨hg, hdbg, hm | ⟨hm, hv, hnn⟩⟩ := hn
      · exact ld_glob (X := X.suite a ((a, o1) :: (X.pn ++ pins))) U1 hg hm q hdbg
      · exact ld_blt (X := X.suite a ((a, o1) :: (X.pn ++ pins))) U1 hg hm hv q hnn hdbg
    refine wpAny_Tuple ?_
    refine wpAny_items_cons (named N1 ?_)
    refine wpAny_items_cons (named N2 ?_)
    refine wpAny_items_nil ⟨by size_fits, ?_⟩
    have kp : ∀ q o, g1.get? q = some o → (g1.push { cls := .type "tuple", data := .seq [c1, c2].toArray }).get? q = some o := fun _ _ z => Heap.get?_push_of_some _ z
    refine (PySem.W.exm_tup2 ((J1.kIn).keeps kp) (LT.keeps kp) (Heap.get?_push_size g1 rfl) exq).here ?_
    have fl2 := fly_push (o := { cls := .type "tuple", data := .seq [c1, c2].toArray }) fl1
    have ug2 : t.heap.UpToSlots (g1.push { cls := .type "tuple", data := .seq [c1, c2].toArray }) := slots_push ug1
    generalize g1.push { cls := .type "tuple", data := .seq [c1, c2].toArray } = g2 at fl2 ug2 ⊢
    cases b with
    | true =>
      refine codeAny_handlers_suite ?_
      refine HandSPX.lands_againZ fl2 fun g4 fl4 ug4 => ?_
      have J4 : Inv X pins σ' H' { t with heap := g4 } := J.landed nb fl4.1 ((up.trans ug2).trans ug4) os ag
      obtain ⟨o4, w4, ha4, hz4, hd4⟩ := fl4.there
      have U4 := J4.suite ha4 hd4 na nLoc nFs
      have tkS : L2.Takes (L2H.suiteX X a ((a, o4) :: (X.pn ++ pins))) Wo := fun u2 s2 x2 => by
        obtain ⟨a2, B2, r2, pn2, σ2, H2, cls2, d2, e2, I2, nb2, up2, sky2, na2, os2, ag2, w2⟩ := x2
        exact tk u2 s2 ⟨a2, B2, r2, pins, σ2, H2, cls2, d2, e2, L2H.unsuiteX I2 ok, nb2, up2, sky2, na2, os2, ag2, w2⟩
      have hot : L2H.HotC (L2H.suiteX X a ((a, o4) :: (X.pn ++ pins))) := ⟨(a, o4), ⟨rfl, w4, hd4, hz4.2.2 w4 hd4⟩, List.mem_cons_self⟩
      refine wpAny_mono ((hsu a o4 cls d (X.pn ++ pins) hz4 ⟨_, hd4⟩ tkS hot).run [] _ _ H' _ (L2H.suiteX_of U4) (yes rfl a na)) (fun f t6 hsp => ?_) (fun e6 t6 z => pA (some (.ref a)) e6 t6 z)
      cases f with
      | ret u => exact hsp.elim fun v6 ⟨σ6, H6, U6, r6, q6⟩ => ⟨v6, σ6, H6, L2H.unsuiteX U6 ok, r6, q6⟩
      | next => exact hsp.elim fun σ6 ⟨H6, U6, q6⟩ => ⟨σ6, H6, L2H.unsuiteX U6 ok, q6⟩
      | brk => exact hsp.elim fun σ6 ⟨H6, U6, q6⟩ => ⟨σ6, H6, L2H.unsuiteX U6 ok, q6⟩
      | cont => exact hsp.elim fun σ6 ⟨H6, U6, q6⟩ => ⟨σ6, H6, L2H.unsuiteX U6 ok, q6⟩
    | false =>
      show wpAny _ X.A (handleBy (.ref a) X.env []) _ _ _
      refine wpAny_handleBy_nil ?_
      have fl5 := L2H.flyingZ_imp (fun o z => z.zc) fl2
      obtain ⟨_, _, _, oe, vs, T, oT, ts', he, hz, hd, h1, hr⟩ := id fl5
      unfold PySem.passOn
      refine wpAny_bind (wpAny_field he hd h1 ?_)
      rw [if_neg (show ¬ ((Value.ref T == Value.none) = true) from by simp)]
      have fin : wpAny (model X.prog X.w) X.A (setFlight (.ref a) X.env.frame) (fun _ t4 => wpAny (model X.prog X.w) X.A (throw (.ref a) : Sem Flow) (SP X pins D) X.xe t4) X.xe { t with heap := g2 } := by
        rw [hf]
        refine HandSPX.setFlight_upZ fl5 fun g6 hh6 ug6 => wpAny_throw (tk _ _ ?_)
        exact ⟨a, B, t0, pins, σ', H', cls, d, rfl, J, nb, (up.trans ug2).trans ug6, .inr (.inr (by rw [hs]; exact hh6)), na, os, ag, no rfl⟩
      first
        | exact wpAny_bind (wpAny_pure (wpAny_bind fin))
        | exact wpAny_bind fin
  · cases f with
    | ret u => exact hsp.elim fun v ⟨σ', H', J', r, q⟩ => ⟨v, σ', H', J'.ofTry ok, r, q⟩
    | next => exact hsp.elim fun σ' ⟨H', J', q⟩ => wpAny_execs_nil ⟨σ', H', J'.ofTry ok, q⟩
    | brk => exact hsp.elim fun σ' ⟨H', J', q⟩ => ⟨σ', H', J'.ofTry ok, q⟩
    | cont => exact hsp.elim fun σ' ⟨H', J', q⟩ => ⟨σ', H', J'.ofTry ok, q⟩
end
/-! ### the reading -/
def sTryR (mt : Str → Str → Option Bool) (h1 h2 c : Str) (body : SM) (f : Env → RM PV) : SM := fun e M => match body e M with
  | .ex cl ys e1 M1 => match mt cl h1, mt cl h2 with
    | some b1, some b2 => if (b1 || b2) = true then sRaise c f e1 M1 else .ex cl ys e1 M1
    | _, _ => .bad
  | r => r
theorem exmAny2 {K : PySem.W.Frag} {cls c1 c2 : Value} {b1 b2 : Bool} (h1 : PySem.W.exmOne K cls c1 = some b1) (h2 : PySem.W.exmOne K cls c2 = some b2) : PySem.W.exmAny K cls [c1, c2] = some (b1 || b2) := by
  simp [PySem.W.exmAny, h1, h2]
section
variable {X : Cx} {W : WX} {mt : Str → Str → Option Bool} {bd : List Stmt} {Fb : SM} {h1 h2 c : Str} {st : Stmt} {f : Env → RM PV} {n1 n2 p0 p1 p2 : Pos} {kk : Nat}
theorem qs_tryR (hmt : ∀ c h b, mt c h = some b → PySem.W.exmOne X.K (.ref (He.ga X.K c)) (.ref (He.ga X.K h)) = some b) (hs : X.stack = X.env :: X.outer) (hf : X.env.frame = some X.env.locals)
    (N1 : Names X h1 (.ref (He.ga X.K h1))) (N2 : Names X h2 (.ref (He.ga X.K h2))) (pA : ∀ hd : Option Value, PassesOwnAt (model X.prog X.w) (X.A.mark hd) X.A X.env X.xe) (tk : L2.Takes X W)
    (hb : ∀ (W : WX) (pn : List (Addr × Obj)) (xe : Value → Shared → Prop), L2N.Takes (X.tr pn xe) W → PassesOwn (model X.prog X.w) X.A X.env xe → QSs (X.tr pn xe) W bd Fb)
    (hsu : ∀ (a : Addr) (pn : List (Addr × Obj)), L2.Takes (L2H.suiteX X a pn) W → L2H.HotC (L2H.suiteX X a pn) → QS (L2H.suiteX X a pn) W st (sRaise c f)) :
    QS X W (.Try bd [.ExceptHandler (some (.Tuple [.Name h1 n1, .Name h2 n2] kk p2)) none [st] p1] [] [] p0) (sTryR mt h1 h2 c Fb f) := by
  refine ⟨PS.imp (ps_tryT (Wo := W) (tb := fun W => ds X.K W Fb) (ts := fun _ _ _ => ds X.K W (sRaise c f)) hs hf N1 N2 pA tk (fun W pn xe tk po => (hb W pn xe tk po).pss) fun a oe cls d pn _ _ tkS hot => pss_one (hsu a _ tkS hot).ps) fun D σ H ⟨G, ρ, M, e, s, r, q⟩ => ⟨G, ρ, M, e, s, r, ?_⟩⟩
  unfold sTryR at q
  cases w : Fb e M with
  | nx _ _ => rw [w] at q; exact q
  | rt _ _ => rw [w] at q; exact q
  | bk _ _ => rw [w] at q; exact q
  | ct _ _ => rw [w] at q; exact q
  | bad => rw [w] at q; exact q.elim
  | ex cl ys e1 M1 =>
    rw [w] at q
    intro G1 ρ1 H1 σ1 cls d x1 s1 r1 rx
    dsimp only at q
    cases m1 : mt cl h1 with
    | none => rw [m1] at q; exact q.elim
    | some b1 =>
      cases m2 : mt cl h2 with
      | none => rw [m1, m2] at q; exact q.elim
      | some b2 =>
        rw [m1, m2] at q
        dsimp only at q
        refine ⟨b1 || b2, by rw [rx.1]; exact exmAny2 (hmt _ _ _ m1) (hmt _ _ _ m2), fun eb a _ => ?_, fun eb => ?_⟩
        · rw [if_pos eb] at q
          exact ⟨G1, ρ1, M1, e1, s1, r1, outS.ext x1 q⟩
        · rw [if_neg (by rw [eb]; simp)] at q
          exact q _ _ _ _ _ _ x1 s1 r1 rx
end
end R
set_option maxHeartbeats 4000000
/-! R16b: lists joined, list(range), repr, dict(zip), its get and values, calls by keywords, a try that runs through. -/
namespace R
open PySem PySem.Spec L2
open PyProof.Rows hiding St
section
variable {X : Cx} {W : WX} {CX : CXT} {a b c o : Expr} {f g h : Env → RM PV} {F Fb Fc : SM} {st : Stmt} {sts : List Stmt} {pos pos' : Pos}
/-! ### list + list -/
def isLst : PV → Bool
  | .lst _ => true | .ref _ => true | _ => false
def catW (x y : PV) : RM (List PV) := lstW x >>= fun xs => lstW y >>= fun ys => if xs.length + ys.length ≤ sizeLine then pure (xs ++ ys) else RM.bad
theorem cat_rule {v u : Value} {xs ys : List V} {pins : List (Addr × Obj)} {s : Shared} {σ : St} {H : Hp} {Q : VK} {p q : Addr} (I : Inv X pins σ H s) (rx : RelV (.ref p) v) (ry : RelV (.ref q) u) (hp : SqL X.K H p xs) (hq : SqL X.K H q ys) (hl : xs.length + ys.length ≤ sizeLine)
    (h : ∀ a, H a = none → Q (.ref a) (upd H a (.lst (xs ++ ys)))) : wpAny (model X.prog X.w) X.A (binaryOp .Add v u) (EP X pins σ Q) X.xe s := by
  cases rx
  cases ry
  obtain ⟨its, r1, p1, z1⟩ := I.list hp
  obtain ⟨its2, r2, p2, z2⟩ := I.list hq
  obtain ⟨⟨oc1, od1, dt1, sl1⟩, h1, c1, n1, e1⟩ := p1.isList
  obtain ⟨⟨oc2, od2, dt2, sl2⟩, h2, c2, n2, e2⟩ := p2.isList
  simp only at c1 e1 c2 e2
  subst c1 e1 c2 e2
  have q1 := h _ (I.hok.fresh (Nat.le_refl _))
  have ea : its.toArray ++ its2.toArray = (its ++ its2).toArray := by simp
  have l1 := r1.length
  have l2 := r2.length
  refine concat_meets ⟨_, h1, rfl⟩ ⟨_, h2, rfl⟩ noFill_list_add seq_list_add PySem.F.slot_list_add PySem.F.entry_list_add (PySem.F.args_list_add_2 _ _) (list_addW p q its.toArray its2.toArray n1 n2 od1 od2 sl1 sl2 (by rw [List.size_toArray, List.size_toArray]; omega)) ⟨h1, h2, ?_⟩
  rw [ea]
  exact ⟨.ref _, _, I.lnew (t' := s.toks) (r1.append r2) (by rw [List.length_append]; omega), rfl, q1⟩
def addW (x y : PV) : RM PV := if isLst x then catW x y >>= fun zs => pure (.lst zs) else addV x y
/-- the sum stays in the memory -/
def addM (x y : PV) : RM PV := catW x y >>= fun zs M => .ok (.ref M.length) (M ++ [.lst zs])
theorem cat_ok {α β : Type} {K : PySem.W.Frag} {Rl : Hp → List Addr → α → β → Prop} {x y : PV} {k : List PV → RM α} {G H : Hp} {ρ : List Addr} {M : Mem} {σ : St} {Q : β → Hp → Prop} {v u : V} (S : SimH K G ρ M H) (hx : Rep K G ρ x v) (hy : Rep K G ρ y u) (h : outR K Rl W G ρ σ ((catW x y >>= k) M) Q) :
    ∃ xs ys p q vs us, v = .ref p ∧ u = .ref q ∧ SqL K H p vs ∧ SqL K H q us ∧ Reps K G ρ xs vs ∧ Reps K G ρ ys us ∧ xs.length + ys.length ≤ sizeLine ∧ outR K Rl W G ρ σ (k (xs ++ ys) M) Q := by
  have h' : outR K Rl W G ρ σ ((lstW x >>= fun xs => lstW y >>= fun ys => (if xs.length + ys.length ≤ sizeLine then pure (xs ++ ys) else RM.bad) >>= k) M) Q := by
    unfold catW at h
    rw [assoc_R] at h
    have e : (fun x => (lstW y >>= fun ys => if x.length + ys.length ≤ sizeLine then pure (x ++ ys) else RM.bad) >>= k) = fun xs => lstW y >>= fun ys => (if xs.length + ys.length ≤ sizeLine then pure (xs ++ ys) else RM.bad) >>= k := by
      funext z; rw [assoc_R]
    rw [e] at h
    exact h
  obtain ⟨xs, p, vs, e1, h1, r1, h2⟩ := lstW_ok S hx h'
  obtain ⟨ys, q, us, e2, h3, r2, h4⟩ := lstW_ok S hy h2
  by_cases hc : xs.length + ys.length ≤ sizeLine
  · rw [if_pos hc] at h4
    exact ⟨xs, ys, p, q, vs, us, e1, e2, h1, h3, r1, r2, hc, h4⟩
  · rw [if_neg hc] at h4; exact h4.elim
theorem opv_addW : OpV X W (binaryOp .Add) addW := by
  intro pins s σ H x y v u Q I rx ry G ρ M px py σ' S hx hy q
  unfold addW at q
  by_cases hc : isLst px = true
  · rw [if_pos hc] at q
    obtain ⟨xs, ys, p, r, vs, us, rfl, rfl, h1, h2, h3, h4, hl, q⟩ := cat_ok S hx hy q
    exact cat_rule I rx ry h1 h2 (by rw [← h3.length, ← h4.length]; exact hl) (new_lst S (h3.app h4) q)
  · rw [if_neg hc] at q
    exact opv_add pins s σ H x y v u Q I rx ry G ρ M px py σ' S hx hy q
theorem opv_addM : OpV X W (binaryOp .Add) addM := by
  intro pins s σ H x y v u Q I rx ry G ρ M px py σ' S hx hy q
  obtain ⟨xs, ys, p, r, vs, us, rfl, rfl, h1, h2, h3, h4, hl, q⟩ := cat_ok S hx hy q
  exact cat_rule I rx ry h1 h2 (by rw [← h3.length, ← h4.length]; exact hl) (new_mem S (h3.app h4) q)
/-! ### list(range(n)), tuple(range(n)) -/
def lrangeW : PV → RM PV
  | .int j => if decide (0 ≤ j) && decide (j ≤ 1000) then pure (.lst (rngP 0 j)) else RM.bad
  | _ => RM.bad
def trangeW : PV → RM PV
  | .int j => if decide (0 ≤ j) && decide (j ≤ 1000) then pure (.tup (rngP 0 j)) else RM.bad
  | _ => RM.bad
theorem items_vals {n : Nat} {acc : Array Value} (h : ItemsOf (fun i v => ∃ t, v = Value.int ((0 : Int) + (i : Nat) * 1) t) acc n) : Vals ((List.range n).map fun i => V.int (0 + (i : Nat))) acc.toList := by
  have hs : acc.toList.length = n := by simpa using h.1
  have key : ∀ (l : List Value) (k : Nat), (∀ j v, l[j]? = some v → ∃ t, v = Value.int ((0 : Int) + ((k + j : Nat) : Int) * 1) t) → Vals ((List.range' k l.length).map fun i => V.int (0 + (i : Nat))) l := by
    intro l
    induction l with
    | nil => intro k _; exact .nil
    | cons v l ih =>
      intro k hk
      rw [List.length_cons, List.range'_succ, List.map_cons]
      obtain ⟨t, e⟩ := hk 0 v rfl
      refine .cons ⟨t, ?_⟩ (ih (k + 1) fun j v hj => ?_)
      · rw [e]; simp
      · obtain ⟨t, e⟩ := hk (j + 1) v (by simpa using hj)
        exact ⟨t, by rw [e]; congr 2; omega⟩
  have := key acc.toList 0 fun j v hj => by
    obtain ⟨t, e⟩ := h.2 j v (by simpa using hj)
    exact ⟨t, by rw [e]; simp⟩
  rw [hs, ← List.range_eq_range'] at this
  exact this
theorem range_vals {K : PySem.W.Frag} {G : Hp} {ρ : List Addr} (j : Int) : Reps K G ρ (rngP 0 j) ((List.range j.toNat).map fun i => V.int (0 + (i : Nat))) := by
  unfold rngP
  rw [Int.sub_zero]
  generalize List.range j.toNat = l
  induction l with
  | nil => exact Reps.nil
  | cons i l ih => exact Reps.cons (rep_int.mpr rfl) ih
theorem range_size (j : Int) (h : 0 ≤ j) : Builtin.Range.rangeSize 0 j 1 = (j.toNat : Int) := by rw [rangeSize_one]; split <;> omega
theorem eval_range {p2 pos2 : Pos} {pins : List (Addr × Obj)} {s : Shared} {σ : St} {H : Hp} {R : V → Hp → Prop} {Qv : Value → Shared → Prop} {ta : TE} (hg : Gl X "range") (hm : X.mg "range" = none) (ha : PE X a ta) (hs : notStar a = true) (I : Inv X pins σ H s) (h : ta σ H R)
    (hR : ∀ x H1, R x H1 → ∃ j, x = .int j)
    (hQ : ∀ (j : Int) (H2 : Hp) (s2 : Shared) (r : Addr) (t u v : Tok), Inv X pins σ H2 s2 → IsRange s2.heap r 0 j 1 t u v → R (.int j) H2 → Qv (.ref r) s2) : wpAny (model X.prog X.w) X.A (eval (.Call (.Name "range" p2) [a] [] pos2) X.env) Qv X.xe s := by
  have hst : starEach [a] X.env = (false, eval a X.env) :: starEach [] X.env := starEach_cons hs
  refine Call_ (ld_blt I hg hm boot_range (PyProof.Rows.callWith_type1 (one_arg ha I h (fun v s2 x H2 I2 rv hr => ?_) hst) hst rfl))
  obtain ⟨j, rfl⟩ := hR x H2 hr
  obtain ⟨t, rfl⟩ := rv
  refine call_range_1 (hQ j H2 _ _ _ _ _ (I2.kept fun b o e => Heap.get?_push_of_some _ e) (IsRange.new ..) hr)
theorem qe_lrange {p p2 pos2 : Pos} (hgL : Gl X "list") (hmL : X.mg "list" = none) (hg : Gl X "range") (hm : X.mg "range" = none) (hc : X.calm = true) (ha : QE X W a f) (hs : notStar a = true) : QE X W (.Call (.Name "list" p) [.Call (.Name "range" p2) [a] [] pos2] [] pos) (fun e => f e >>= lrangeW) := by
  refine QE.of ⟨fun pins s σ H Q I ⟨G, ρ, M, e, S, r, q⟩ => ?_⟩
  refine Call_ (ld_blt (u := Value.type "list") I hgL hmL (by kernel_rfl) (PyProof.Rows.callWith_type1 (args_cons (eval_range hg hm ha.pe hs I (R := fun x H1 => ∃ G1 ρ1 M1 j, x = .int j ∧ SimH X.K G1 ρ1 M1 H1 ∧ outR X.K (Rep X.K) W G1 ρ1 σ (lrangeW (.int j) M1) Q) ⟨G, ρ, M, e, S, r, outR_bind q fun G1 ρ1 M1 x v H1 x1 s1 r1 q1 => by
    cases x with
    | int j => exact ⟨G1, ρ1, M1, j, rep_int.mp r1, s1, q1⟩
    | _ => exact q1.elim⟩ (fun x H1 ⟨_, _, _, j, e, _⟩ => ⟨j, e⟩) fun j H2 s2 r0 t u v I2 hR0 ⟨G1, ρ1, M1, j', ej, S1, q1⟩ => args_nil ?_) rfl) rfl rfl))
  cases ej
  obtain ⟨hb, q2⟩ := ite_outR q1
  simp only [Bool.and_eq_true, decide_eq_true_iff] at hb
  refine call_list_range (I2.ok.hd hc) hR0 (small_one (by omega) (by omega) (by omega) (by omega)) (range_size j hb.1) (by omega) fun h' tk acc' c' hk hS' hacc => ?_
  have hv := items_vals hacc
  refine ⟨.ref _, _, I2.laid (t' := tk) hk (Nat.le_refl _) (o := .lst ((List.range j.toNat).map fun i => V.int (0 + (i : Nat)))) ⟨by rw [List.length_map, List.length_range, sizeLine_eq]; omega, acc'.toList, c', hv, by rw [hS']⟩, rfl, new_lst S1 (range_vals j) q2 _ (I2.hok.fresh (Nat.le_refl _))⟩
theorem qe_trange {p p2 pos2 : Pos} (hgL : Gl X "tuple") (hmL : X.mg "tuple" = none) (hg : Gl X "range") (hm : X.mg "range" = none) (hc : X.calm = true) (ha : QE X W a f) (hs : notStar a = true) : QE X W (.Call (.Name "tuple" p) [.Call (.Name "range" p2) [a] [] pos2] [] pos) (fun e => f e >>= trangeW) := by
  refine QE.of ⟨fun pins s σ H Q I ⟨G, ρ, M, e, S, r, q⟩ => ?_⟩
  refine Call_ (ld_blt (u := Value.type "tuple") I hgL hmL (by kernel_rfl) (PyProof.Rows.callWith_type1 (args_cons (eval_range hg hm ha.pe hs I (R := fun x H1 => ∃ G1 ρ1 M1 j, x = .int j ∧ SimH X.K G1 ρ1 M1 H1 ∧ outR X.K (Rep X.K) W G1 ρ1 σ (trangeW (.int j) M1) Q) ⟨G, ρ, M, e, S, r, outR_bind q fun G1 ρ1 M1 x v H1 x1 s1 r1 q1 => by
    cases x with
    | int j => exact ⟨G1, ρ1, M1, j, rep_int.mp r1, s1, q1⟩
    | _ => exact q1.elim⟩ (fun x H1 ⟨_, _, _, j, e, _⟩ => ⟨j, e⟩) fun j H2 s2 r0 t u v I2 hR0 ⟨G1, ρ1, M1, j', ej, S1, q1⟩ => args_nil ?_) rfl) rfl rfl))
  cases ej
  obtain ⟨hb, q2⟩ := ite_outR q1
  simp only [Bool.and_eq_true, decide_eq_true_iff] at hb
  refine call_tuple_range (I2.ok.hd hc) hR0 (small_one (by omega) (by omega) (by omega) (by omega)) (range_size j hb.1) (by omega) fun h' tk acc' hk hacc => ?_
  have hv := items_vals hacc
  have I4 := I2.kept (t' := tk) hk
  refine ⟨.ref _, _, I4.laid (t' := tk) (fun b o e => Heap.get?_push_of_some _ e) (Nat.le_refl _) (o := .tup ((List.range j.toNat).map fun i => V.int (0 + (i : Nat)))) ⟨by rw [List.length_map, List.length_range, sizeLine_eq]; omega, acc'.toList, hv, ⟨_, Heap.get?_push_size _ rfl, rfl, 0, by simp⟩⟩, rfl, new_tup S1 (range_vals j) q2 _ (I4.hok.fresh (Nat.le_refl _))⟩
/-! ### repr -/
def reprOk (d : PyData) : Bool := d.showable && (!d.hasDict && (decide (d.shown.length ≤ sizeLine) && decide (d.depth ≤ 60)))
def reprW : PV → RM PV
  | .tup xs => optR (dataOf (.tup xs)) >>= fun d => if reprOk d then pure (.str d.shown) else RM.bad
  | .lst xs => optR (dataOf (.lst xs)) >>= fun d => if reprOk d then pure (.str d.shown) else RM.bad
  | _ => RM.bad
theorem repr_rule {pins : List (Addr × Obj)} {s : Shared} {σ : St} {H : Hp} {Q : VK} {p : Addr} {d : PyData} (hg : X.A.guards = some []) (hu : X.A.units + 65 < cLine) (I : Inv X pins σ H s) (h : Dp X.K H (.ref p) d) (ok : reprOk d = true) (q : Q (.str d.shown) H) :
    wpAny (model X.prog X.w) X.A (call (.builtin "repr") [.ref p]) (EP X pins σ Q) X.xe s := by
  unfold reprOk at ok
  simp only [Bool.and_eq_true, decide_eq_true_iff, Bool.not_eq_true'] at ok
  obtain ⟨as, hr⟩ := Dp.reads I d _ _ h rfl
  exact repr_of_reads' hr ok.1 (fun z => by rw [ok.2.1] at z; cases z) hg (by omega) (fun _ _ e => e) (fun h' u tk hk => ⟨.str _, H, I.kept hk, ⟨_, rfl⟩, q⟩) ok.2.2.1
def repr1 : List PV → RM PV
  | [x] => reprW x
  | _ => RM.bad
theorem cv_repr (hg : X.A.guards = some []) (hu : X.A.units + 65 < cLine) : CallV X W (.builtin "repr") repr1 := by
  intro pins s σ H xs us Q I r G ρ M ps σ' S hx q
  unfold repr1 at q
  split at q
  · rename_i x
    obtain ⟨v, rfl, h1⟩ := reps1 hx
    cases x with
    | tup zs =>
      obtain ⟨d, e, q⟩ := optR_bind (show outR X.K (Rep X.K) W G ρ σ' ((optR (dataOf (.tup zs)) >>= fun d => if reprOk d then pure (.str d.shown) else RM.bad) M) Q from q)
      obtain ⟨hc, q⟩ := ite_outR q
      have hd := dataOf_ok S.sub _ _ _ e h1
      obtain ⟨p, vs, rfl, _, _⟩ := rep_tup.mp h1
      rw [Vals.ref1 r]
      exact repr_rule hg hu I hd hc (outR_pure q S (rep_str.mpr rfl))
    | lst zs =>
      obtain ⟨d, e, q⟩ := optR_bind (show outR X.K (Rep X.K) W G ρ σ' ((optR (dataOf (.lst zs)) >>= fun d => if reprOk d then pure (.str d.shown) else RM.bad) M) Q from q)
      obtain ⟨hc, q⟩ := ite_outR q
      have hd := dataOf_ok S.sub _ _ _ e h1
      obtain ⟨p, vs, rfl, _, _⟩ := rep_lst.mp h1
      rw [Vals.ref1 r]
      exact repr_rule hg hu I hd hc (outR_pure q S (rep_str.mpr rfl))
    | _ => exact q.elim
  · exact q.elim
/-! ### a try whose body is let run through -/
def sTryx (body : SM) : SM := fun e M => match body e M with
  | .ex _ _ _ _ => .bad
  | r => r
theorem qs_tryx {hds : List ExceptHandler} {h₀ : ExceptHandler} (hb : QSs X.nox Wn sts F) : QS X W (.Try sts (h₀ :: hds) [] [] pos) (sTryx F) := by
  refine ⟨PS.imp (ps_try_thru0 hb.pss) fun D σ H ⟨G, ρ, M, e, s, r, q⟩ => ⟨G, ρ, M, e, s, r, ?_⟩⟩
  unfold sTryx at q
  cases w : F e M with
  | nx _ _ => rw [w] at q; exact q
  | rt _ _ => rw [w] at q; exact q
  | bk _ _ => rw [w] at q; exact q
  | ct _ _ => rw [w] at q; exact q
  | ex _ _ _ _ => rw [w] at q; exact q.elim
  | bad => rw [w] at q; exact q.elim

/-! ### dicts by keys -/
def keyOf1 : PV → Option Key
  | .int i => some (.inl i)
  | .str z => some (.inr z)
  | _ => none
def keysOf : List PV → Option (List Key)
  | [] => some []
  | x :: xs => match keyOf1 x, keysOf xs with
    | some k, some ks => some (k :: ks)
    | _, _ => none
theorem key1_rep {K : PySem.W.Frag} {G : Hp} {ρ : List Addr} {x : PV} {v : V} {k : Key} (h : Rep K G ρ x v) (e : keyOf1 x = some k) : v = kV k := by
  cases x with
  | int i => cases e; exact rep_int.mp h
  | str i => cases e; exact rep_str.mp h
  | _ => cases e
theorem keys_rep {K : PySem.W.Frag} {G : Hp} {ρ : List Addr} : ∀ {xs : List PV} {vs : List V} {ks : List Key}, Reps K G ρ xs vs → keysOf xs = some ks → vs = ks.map kV
  | [], vs, ks, r, e => by
    simp only [Reps] at r; subst r
    simp only [keysOf, Option.some.injEq] at e; subst e; rfl
  | x :: xs, vs, ks, r, e => by
    simp only [Reps] at r
    obtain ⟨v, us, rfl, h1, h2⟩ := r
    simp only [keysOf] at e
    cases e1 : keyOf1 x with
    | none => rw [e1] at e; cases e
    | some k =>
      cases e2 : keysOf xs with
      | none => rw [e1, e2] at e; cases e
      | some ks' =>
        rw [e1, e2] at e
        cases e
        rw [key1_rep h1 e1, keys_rep h2 e2]; rfl
theorem put_new {kvs : List (Key × V)} {k : Key} {v : V} (h : k ∉ kvs.map (·.1)) : putK kvs k v = kvs ++ [(k, v)] := by
  unfold putK
  rw [if_neg]
  intro z
  obtain ⟨q, hq, e⟩ := List.any_eq_true.mp z
  exact h (List.mem_map.mpr ⟨q, hq, of_decide_eq_true e⟩)
theorem merge_new : ∀ {more acc : List (Key × V)}, (acc.map (·.1) ++ more.map (·.1)).Nodup → mergeK acc more = acc ++ more
  | [], acc, _ => by simp [mergeK]
  | q :: more, acc, h => by
    have h1 : q.1 ∉ acc.map (·.1) := fun z => by
      rw [List.nodup_append] at h
      exact h.2.2 _ z _ (List.mem_cons_self) rfl
    show mergeK (putK acc q.1 q.2) more = _
    rw [put_new h1, merge_new (by simpa using h)]
    simp
theorem zip_fst {α β : Type} : ∀ {ks : List α} {vs : List β}, ks.length = vs.length → (ks.zip vs).map (·.1) = ks
  | [], vs, h => by simp
  | k :: ks, [], h => by simp at h
  | k :: ks, v :: vs, h => by simp [zip_fst (by simpa using h)]
/-- dict(zip(xs, ys)), two lists of one length, the keys apart -/
def dzipW : List PV → RM PV
  | [x, y] => lstW x >>= fun xs => lstW y >>= fun ys => optR (keysOf xs) >>= fun ks => if decide ks.Nodup && decide (ks.length = ys.length) then pure (.dct ks ys) else RM.bad
  | _ => RM.bad
/-- d.get(k, z) -/
def dgetW : PV → PV → PV → RM PV
  | .dct ks xs, k, z => optR (keyOf1 k) >>= fun k => pure (((ks.zip xs).lookup k).getD z)
  | _, _, _ => RM.bad
/-- list(d.values()) -/
def dvalW : PV → RM PV
  | .dct _ xs => pure (.lst xs)
  | _ => RM.bad
theorem rep_dct {K : PySem.W.Frag} {G : Hp} {ρ : List Addr} {ks : List Key} {xs : List PV} {v : V} : Rep K G ρ (.dct ks xs) v ↔ ∃ a vs, v = .ref a ∧ G a = some (.dK (ks.zip vs)) ∧ ks.length = vs.length ∧ Reps K G ρ xs vs := by simp only [Rep]
theorem kv_zip {P : Program} {w : World} : ∀ {ks : List Key} {ys : List V} {its us : List Value}, Vals (ks.map kV) its → Vals ys us → ks.length = ys.length → KV (ks.zip ys) (ks.zip us) ∧ ∀ (i : Nat) (key v : Value), its[i]? = some key → us[i]? = some v → ∃ k, (ks.zip us)[i]? = some (k, v) ∧ keyIs k key = true
  | [], ys, its, us, r1, r2, hl => by
    have : ys = [] := List.length_eq_zero_iff.mp hl.symm
    subst this
    cases r1
    cases r2
    exact ⟨.nil, fun i key v h => by simp at h⟩
  | k :: ks, [], its, us, r1, r2, hl => by simp at hl
  | k :: ks, y :: ys, its, us, r1, r2, hl => by
    cases r1 with
    | cons a1 b1 =>
      cases r2 with
      | cons a2 b2 =>
        obtain ⟨h1, h2⟩ := kv_zip (P := P) (w := w) b1 b2 (by simpa using hl)
        refine ⟨.cons ⟨rfl, a2⟩ h1, fun i key v e1 e2 => ?_⟩
        cases i with
        | zero =>
          simp only [List.getElem?_cons_zero, Option.some.injEq] at e1 e2
          subst e1 e2
          exact ⟨k, rfl, kV_is (P := P) (w := w) a1⟩
        | succ i =>
          obtain ⟨k', h3, h4⟩ := h2 i key v (by simpa using e1) (by simpa using e2)
          exact ⟨k', by simpa using h3, h4⟩
theorem qe_dzip {e0 e1 : Expr} {fa : Env → RM (List PV)} {p p2 pos2 : Pos} (hgD : Gl X "dict") (hmD : X.mg "dict" = none) (hg : Gl X "zip") (hm : X.mg "zip" = none) (hc : X.calm = true) (ha : QA X W [e0, e1] fa) (hs : notStar e0 = true) (hs2 : notStar e1 = true) :
    QE X W (.Call (.Name "dict" p) [.Call (.Name "zip" p2) [e0, e1] [] pos2] [] pos) (fun e => fa e >>= dzipW) := by
  refine QE.of ⟨fun pins s σ H Q I ⟨G, ρ, M, e, S, r, q⟩ => ?_⟩
  refine Call_ (ld_blt (u := Value.type "dict") I hgD hmD (by kernel_rfl) (PyProof.Rows.callWith_type1 (args_cons (Call_ (ld_blt (u := Value.type "zip") I hg hm PyProof.Rows.boot_zip (PyProof.Rows.callWith_type1 (thn (ha.pa.run pos2 pins s σ H (fun vs H1 => ∃ G1 ρ1 M1 xs, SimH X.K G1 ρ1 M1 H1 ∧ Reps X.K G1 ρ1 xs vs ∧ outR X.K (Rep X.K) W G1 ρ1 σ (dzipW xs M1) Q) I ⟨G, ρ, M, e, S, r, outR_bind q fun G1 ρ1 M1 xs vs H1 x1 s1 r1 q1 => ⟨G1, ρ1, M1, xs, s1, r1, q1⟩⟩) fun us s1 ⟨vs, H1, I1, r1, G1, ρ1, M1, ps, S1, rs, q1⟩ => ?_) (starEach_cons hs) (by rw [starEach_cons hs2]; rfl)))) rfl) rfl rfl))
  match ps, q1, rs with
  | [x, y], q1, rs =>
    obtain ⟨v, u, rfl, h1, h2⟩ := reps2 rs
    obtain ⟨xs, a1, vs, rfl, hq1, h3, q1⟩ := lstW_ok S1 h1 (show outR X.K (Rep X.K) W G1 ρ1 σ ((lstW x >>= fun xs => lstW y >>= fun ys => optR (keysOf xs) >>= fun ks => if decide ks.Nodup && decide (ks.length = ys.length) then pure (.dct ks ys) else RM.bad) M1) Q from q1)
    obtain ⟨ys, a2, ws, rfl, hq2, h4, q1⟩ := lstW_ok S1 h2 q1
    obtain ⟨ks, ek, q1⟩ := optR_bind q1
    obtain ⟨hb, q1⟩ := ite_outR q1
    simp only [Bool.and_eq_true, decide_eq_true_iff] at hb
    have ev := keys_rep h3 ek
    subst ev
    obtain ⟨its, rv, p1, z1⟩ := I1.list hq1
    obtain ⟨its2, rv2, p2', z2⟩ := I1.list hq2
    cases r1 with
    | cons ra rb =>
      cases rb with
      | cons rc rd =>
        cases rd
        cases ra
        cases rc
        have l4 := h4.length
        obtain ⟨kv, hat⟩ := kv_zip (P := X.prog) (w := X.w) rv rv2 (by rw [← l4]; exact hb.2)
        have lits : its.length = ks.length := by have := rv.length; simpa using this.symm
        have lits2 : its2.length = ks.length := by have := rv2.length; rw [← this, ← l4, hb.2]
        refine call_zip_2 p1.isList p2'.isList fun h' hz hTI hTO hi1 hi2 hsz hk => args_nil ?_
        have hbig := I1.big
        have hge : ∀ c o, s1.heap.get? c = some o → c < s1.heap.objs.size := fun c o e => Heap.lt_size e
        refine call_dict_pairs (knd := mixKind X.prog X.w) (kvs := ks.zip its2) (PairArg.zip (s1.heap.objs.size + 4) (s1.heap.objs.size + 2) (s1.heap.objs.size + 3) s1.heap.objs.size (s1.heap.objs.size + 1) a1 a2 (PySem.W.ktu_apart s1.heap.objs.size a1 a2 p1.lt p2'.lt) its.toArray its2.toArray) (I1.ok.hd hc) ⟨hz, hTI, ⟨_, _, hTO⟩, hi1, hi2, p1.isList.at fun o e => hk _ o e, p2'.isList.at fun o e => hk _ o e⟩ ⟨?_, fun i key v hkv => ?_⟩ ?_ fun h2' tk hd hk2 => ?_
        · simp [lits, lits2]
        · obtain ⟨k, e1, e2⟩ := hat i key v (by simpa using hkv.1) (by simpa using hkv.2)
          exact ⟨k, e1, e2⟩
        · simp only [List.size_toArray, lits, lits2, Nat.min_self]
          rw [List.length_map] at z1
          exact z1
        · have hsz' : h'.objs.size = s1.heap.objs.size + 5 := hsz
          have hge5 : s1.heap.objs.size ≤ h'.objs.size := by rw [hsz']; exact Nat.le_add_right _ _
          have hm0 : (h'.objs.size == sysModules) = false := beq_eq_false_iff_ne.mpr (Nat.ne_of_gt (Nat.lt_of_lt_of_le hbig hge5))
          have keep : ∀ b o, s1.heap.get? b = some o → h2'.get? b = some o := fun b o e => hk2 b o (by
            have := hge b o e
            simp only [List.mem_cons, List.not_mem_nil, or_false, not_or]
            exact ⟨Nat.ne_of_lt (Nat.lt_of_lt_of_le this (Nat.le_add_right _ _)), Nat.ne_of_lt (Nat.lt_of_lt_of_le this (Nat.le_add_right _ _)), Nat.ne_of_lt this, Nat.ne_of_lt (Nat.lt_of_lt_of_le this (Nat.le_add_right _ _))⟩) (hk b o e)
          have emg : mergeK [] (ks.zip ws) = ks.zip ws := merge_new (by
            rw [List.map_nil, List.nil_append, zip_fst (by rw [← l4]; exact hb.2)]
            exact hb.1)
          have hlen : (ks.zip ws).length ≤ sizeLine := by
            rw [List.length_zip]
            rw [List.length_map] at z1
            omega
          have obj : ObjOk X.prog X.w (upd H1 h'.objs.size (.dK (ks.zip ws))) h2' h'.objs.size (.dK (ks.zip ws)) := by
            have := KV.merge kv (.nil : KV [] [])
            rw [emg] at this
            exact ⟨hlen, hm0, merged [] (ks.zip its2), this, hd⟩
          have hfr : H1 h'.objs.size = none := I1.hok.fresh hge5
          have I2 : Inv X pins σ (upd H1 h'.objs.size (.dK (ks.zip ws))) { s1 with heap := h2', toks := tk } := I1.laid (t' := tk) keep hge5 obj
          refine ⟨.ref h'.objs.size, _, I2, rfl, ?_⟩
          refine outR_ok q1 (Ext.upd (S1.fresh hfr)) (S1.froz hfr _) (rep_dct.mpr ⟨_, ws, rfl, upd_same, by rw [← l4]; exact hb.2, h4.ext (Ext.upd (S1.fresh hfr)) _ _⟩)

theorem val_zip {K : PySem.W.Frag} {G : Hp} {ρ : List Addr} {k : Key} : ∀ {ks : List Key} {xs : List PV} {vs : List V}, Reps K G ρ xs vs → (∀ x, ((ks.zip xs).find? fun q => decide (q.1 = k)) = some x → ∃ v, valV (ks.zip vs) k = some v ∧ Rep K G ρ x.2 v) ∧ (((ks.zip xs).find? fun q => decide (q.1 = k)) = none → valV (ks.zip vs) k = none)
  | [], xs, vs, r => ⟨fun x h => by simp at h, fun _ => by simp [valV]⟩
  | k0 :: ks, [], vs, r => by
    simp only [Reps] at r; subst r
    exact ⟨fun x h => by simp at h, fun _ => by simp [valV]⟩
  | k0 :: ks, x :: xs, vs, r => by
    simp only [Reps] at r
    obtain ⟨v, us, rfl, h1, h2⟩ := r
    obtain ⟨i1, i2⟩ := val_zip (k := k) (ks := ks) h2
    unfold valV at i1 i2 ⊢
    rw [List.zip_cons_cons, List.zip_cons_cons, List.find?_cons, List.find?_cons]
    by_cases e : k0 = k
    · simp only [e, decide_true]
      exact ⟨fun y h => by cases h; exact ⟨v, rfl, h1⟩, fun h => by cases h⟩
    · simp only [e, decide_false]
      exact ⟨i1, i2⟩
def asD : PV → RM (List Key × List PV)
  | .dct ks xs => pure (ks, xs)
  | _ => RM.bad
def findK (k : Key) (d : List Key × List PV) : Option PV := ((d.1.zip d.2).find? fun q => decide (q.1 = k)).map (·.2)
def fDget (f g h : Env → RM PV) : Env → RM PV := fun e => f e >>= asD >>= fun d => g e >>= fun k => h e >>= fun z => optR (keyOf1 k) >>= fun k => pure ((findK k d).getD z)
theorem asD_ok {α β : Type} {K : PySem.W.Frag} {Rl : Hp → List Addr → α → β → Prop} {m : RM PV} {k : List Key × List PV → RM α} {G : Hp} {ρ : List Addr} {M : Mem} {σ : St} {Q : β → Hp → Prop} {R' : V → Hp → Prop}
    (q : outR K Rl W G ρ σ ((m >>= asD >>= k) M) Q) (hk : ∀ ks xs G' ρ' M' H v, Ext G G' ρ ρ' → SimH K G' ρ' M' H → Rep K G' ρ' (.dct ks xs) v → outR K Rl W G' ρ' σ (k (ks, xs) M') Q → R' v H) : outR K (Rep K) W G ρ σ (m M) R' := by
  have q' : outR K Rl W G ρ σ ((m >>= fun x => asD x >>= k) M) Q := by
    rw [bind_eq] at q ⊢
    rw [bind_eq] at q
    cases w : m M with
    | ok z M3 => rw [w] at q; exact q
    | exc c xs M3 => rw [w] at q; exact q
    | bad => rw [w] at q; exact q
  refine outR_bind q' fun G1 ρ1 M1 x y H1 x1 s1 r1 q1 => ?_
  cases x with
  | dct ks xs => exact hk ks xs G1 ρ1 M1 H1 y x1 s1 r1 q1
  | _ => exact q1.elim
theorem qe_dgetv {apos : Pos} (hu : X.A.units + 1 < cLine) (ho : QE X W o f) (ha : QE X W a g) (hb : QE X W b h) (hn : notSuper o = true) (hs1 : notStar a = true) (hs2 : notStar b = true) (hline : (apos.endLine == pos.line) = true) : QE X W (.Call (.Attribute o "get" apos) [a, b] [] pos) (fDget f g h) := by
  refine QE.of (PE.imp (pe_dget2 hu ho.pe ha.pe hb.pe ⟨base_ok hn, by rw [starEach_cons hs1, starEach_cons hs2]; rfl, hline, by rw [starEach_cons hs1, starEach_cons hs2]; rfl⟩) fun σ H Q ⟨G, ρ, M, e, s, r, q⟩ => ⟨G, ρ, M, e, s, r, asD_ok q fun ks xs G1 ρ1 M1 H1 v x1 s1 rd q1 => ?_⟩)
  obtain ⟨d, vs, rfl, hd, hl, hr⟩ := rep_dct.mp rd
  refine ⟨d, rfl, .inl ⟨_, .inl (s1.sub _ _ hd)⟩, G1, ρ1, M1, e, s1, r.ext x1, outR_bind q1 fun G2 ρ2 M2 k y H2 x2 s2 rk q2 => ⟨G2, ρ2, M2, e, s2, (r.ext x1).ext x2, outR_bind q2 fun G3 ρ3 M3 z u H3 x3 s3 rz q3 => ?_⟩⟩
  obtain ⟨kk, ek, q4⟩ := optR_bind q3
  have ey := key1_rep rk ek
  subst ey
  have hr3 := hr.ext (x2.trans x3) _ _
  have hd3 := (x2.trans x3).g _ _ hd
  refine ⟨valV (ks.zip vs) kk, .inl ⟨_, kk, .inl (s3.sub _ _ hd3), rfl, rfl⟩, ?_⟩
  obtain ⟨i1, i2⟩ := val_zip (k := kk) (ks := ks) hr3
  unfold findK at q4
  cases e1 : (ks.zip xs).find? fun q => decide (q.1 = kk) with
  | none =>
    rw [i2 e1]
    dsimp only at q4
    rw [e1] at q4
    exact outR_pure q4 s3 rz
  | some p =>
    obtain ⟨v, h1, h2⟩ := i1 p e1
    rw [h1]
    dsimp only at q4
    rw [e1] at q4
    exact outR_pure q4 s3 h2
theorem items_kv {kvs : List (Key × V)} {vs : List (Key × Value)} (r : KV kvs vs) : Vals (kvs.map (·.2)) (vs.map (·.2)) := by
  unfold KV at r
  induction r with
  | nil => exact .nil
  | cons h t ih => exact .cons h.2 ih
theorem zip_snd {α β : Type} : ∀ {ks : List α} {vs : List β}, ks.length = vs.length → (ks.zip vs).map (·.2) = vs
  | [], vs, h => by
    have : vs = [] := List.length_eq_zero_iff.mp h.symm
    subst this; rfl
  | k :: ks, [], h => by simp at h
  | k :: ks, v :: vs, h => by simp [zip_snd (by simpa using h)]
theorem qe_dvals {p ap p2 : Pos} (hgL : Gl X "list") (hmL : X.mg "list" = none) (hc : X.calm = true) (ho : QE X W o f) (hn : notSuper o = true) (hline : (ap.endLine == p2.line) = true) : QE X W (.Call (.Name "list" p) [.Call (.Attribute o "values" ap) [] [] p2] [] pos) (fun e => f e >>= asD >>= fun d => pure (.lst d.2)) := by
  refine QE.of ⟨fun pins s σ H Q I ⟨G, ρ, M, e, S, r, q⟩ => ?_⟩
  refine Call_ (ld_blt (u := Value.type "list") I hgL hmL (by kernel_rfl) (PyProof.Rows.callWith_type1 (args_cons (wpAny_Call_method (T := "dict") (id := "dict.values") (base_ok hn) rfl hline F.plainAttrs_dict F.slot_dict_values F.type_dict_values (thn (ho.pe.run pins s σ H (fun v H1 => ∃ ks xs G1 ρ1 M1, SimH X.K G1 ρ1 M1 H1 ∧ Rep X.K G1 ρ1 (.dct ks xs) v ∧ outR X.K (Rep X.K) W G1 ρ1 σ ((pure (.lst xs) : RM PV) M1) Q) I ⟨G, ρ, M, e, S, r, asD_ok q fun ks xs G1 ρ1 M1 H1 v x1 s1 rd q1 => ⟨ks, xs, G1, ρ1, M1, s1, rd, q1⟩⟩) fun u s1 ⟨v, H1, I1, rv, ks, xs, G1, ρ1, M1, S1, rd, q1⟩ => ?_)) rfl) rfl rfl))
  obtain ⟨d, vs, rfl, hd, hl, hr⟩ := rep_dct.mp rd
  obtain rfl : u = Value.ref d := rv
  obtain ⟨hz, hsm, us, kv, hm⟩ := dk_of I1.hok (S1.sub _ _ hd)
  refine ⟨hm.typeIs, hm.mapOf.noDict, ?_⟩
  show wpAny _ _ (callWith p2 (.builtin "dict.values") [.ref d] [] []) _ X.xe s1
  refine method_meetsIn F.slot_dict_values F.entry_dict_values rfl (PySem.evalArgs_none ⟨rfl, hm.typeIs, F.args_dict_values_1 _, _, meets_dict_values (mixKind X.prog X.w) d hsm, ⟨us, hm⟩, args_nil ?_⟩)
  obtain ⟨es, ep, hraw, hsz, hat⟩ := hm.raw
  have I2 : Inv X pins σ H1 { s1 with heap := s1.heap.push { cls := .type "dict_values", data := .fields #[.ref d] } } := I1.kept (t' := s1.toks) fun b ob q => Heap.get?_push_of_some _ q
  have lk : ks.length = es.size := by rw [hsz]; have := Paired.length kv; rw [← this, List.length_zip, ← hl, Nat.min_self]
  refine PySem.W.kdl_call (KdlSrc.rawValues (r := s1.heap.objs.size) (d := d) (es := es) (ep := ep)) (I1.ok.hd hc) ⟨⟨_, Heap.get?_push_size _ rfl, rfl, rfl⟩, hraw.push _⟩ (by rw [hsz, ← Paired.length kv]; exact hz) fun h' tk acc' c' hk hS' hacc => ?_
  have hv : Vals vs acc'.toList := by
    have r2 := items_kv kv
    rw [zip_snd hl] at r2
    have e2 : acc'.toList = us.map (·.2) := by
      apply List.ext_getElem?
      intro j
      by_cases hj : j < es.size
      · have hj2 : j < us.length := by rw [← hsz]; exact hj
        have ha : j < acc'.size := by rw [hacc.1]; exact hj
        obtain ⟨hi, e3⟩ := hacc.2 j acc'[j] (Array.getElem?_eq_getElem ha)
        obtain ⟨_, e4⟩ := hat j hj us[j].1 us[j].2 (by rw [List.getElem?_eq_getElem hj2])
        rw [Array.getElem?_toList, Array.getElem?_eq_getElem ha, List.getElem?_map, List.getElem?_eq_getElem hj2, e3]
        exact congrArg some e4
      · rw [List.getElem?_eq_none (by rw [Array.length_toList, hacc.1]; omega), List.getElem?_eq_none (by rw [List.length_map, ← hsz]; omega)]
    rw [e2]; exact r2
  refine ⟨.ref _, _, I2.laid (t' := tk) hk (Nat.le_refl _) (o := .lst vs) ⟨by rw [← hl, lk, hsz, ← Paired.length kv]; exact hz, acc'.toList, c', hv, by rw [hS']⟩, rfl, new_lst S1 hr q1 _ (I2.hok.fresh (Nat.le_refl _))⟩
end
end R
set_option maxHeartbeats 4000000
/-! R16c: a call by two keywords, the later parameter first. -/
namespace R
open PySem PySem.Spec L2
open PyProof.Rows hiding St
structure FnKw (P : Program) (w : World) (K : PySem.W.Frag) (mg : Str → Option Value) (base : Heap) (CX : CXT) (k : Nat) (f : Addr) (k1 k2 : Str) (φ : List PV → RM PV) : Prop where
  ok : ∃ fd, FnOkG P w K mg base CX k f fd [k2, k1] (spOf K 2 φ) ∧ ∀ (s : Shared) (u1 u2 : Value), K.In s.heap → BindsTo s fd ⟨[], [(k1, u1), (k2, u2)]⟩ [(k2, u2), (k1, u1)]
  kp : PySem.W.keepIn K (.ref f) = true
  ar : ∀ xs M, φ xs M ≠ .bad → xs.length = 2
theorem FnKw.mono {P : Program} {w : World} {K : PySem.W.Frag} {mg : Str → Option Value} {base : Heap} {CX : CXT} {j k : Nat} {f : Addr} {k1 k2 : Str} {φ : List PV → RM PV} (F : FnKw P w K mg base CX j f k1 k2 φ) (h : j ≤ k) : FnKw P w K mg base CX k f k1 k2 φ :=
  ⟨let ⟨fd, b, c⟩ := F.ok; ⟨fd, b.mono h, c⟩, F.kp, F.ar⟩
section
variable {X : Cx} {W : WX} {CX : CXT} {a b : Expr} {f g : Env → RM PV} {pos : Pos}
theorem qe_kw2 {x k1 k2 : Str} {p q1 q2 : Pos} {k : Nat} {fa : Addr} {φ : List PV → RM PV} (F : FnKw X.prog X.w X.K X.mg X.base CX k fa k1 k2 φ) (hr : RoomG k X.A) (hg : Gl X x) (hm : X.mg x = some (.ref fa)) (tk : ∀ σ, PassesAt CX X σ (WE W σ))
    (ha : QE X W a f) (hb : QE X W b g) (hdb : (x == ("__debug__" : Str)) = false) : QE X W (.Call (.Name x p) [] [⟨some k1, a, q1⟩, ⟨some k2, b, q2⟩] pos) (fun e => f e >>= fun x => g e >>= fun y => φ [y, x]) := by
  obtain ⟨fd, F1, hbi⟩ := F.ok
  refine QE.of ⟨fun pins s σ H Q I ⟨G, ρ, M, e, S, r, q⟩ => ?_⟩
  refine wpAny_Call_Name_kw (ld_glob I hg hm ?_ hdb)
  refine PySem.W.callWith_KW0 (h₀ := X.base) I.ok.mod.kin F.kp rfl ?_ rfl
  refine thn ((pk_cons (nm := some k1) (kpos := q1) ha.pe (pk_cons (nm := some k2) (kpos := q2) hb.pe pk_nil)).run pos pins s σ H (fun vs H2 => ∃ v1 v2, vs = [v1, v2] ∧ spOf X.K 2 φ [v2, v1] H2 Q (WE W σ)) I ?_) fun us s2 ⟨vs, H2, I2, rz, v1, v2, ev, q2⟩ => ⟨I2.kIn, ?_⟩
  · refine ⟨G, ρ, M, e, S, r, outR_bind q fun G1 ρ1 M1 x v H1 x1 s1 r1 q1 => ⟨G1, ρ1, M1, e, s1, r.ext x1, outR_bind q1 fun G2 ρ2 M2 y v2 H2 x2 s2 r2 q2 => ⟨v, v2, rfl, ?_⟩⟩⟩
    exact spOf_of 2 (F.ar _ _) s2 (Reps.cons r2 (Reps.cons (r1.ext x2 _ _) Reps.nil)) q2
  · subst ev
    cases rz with
    | cons r1 rz =>
      cases rz with
      | cons r2 rz =>
        cases rz with
        | nil =>
          rename_i u1 _ u2
          show wpAny _ _ (call (.ref fa) [] [(k1, _), (k2, _)]) _ _ _
          exact run_fnGK (args := ⟨[], [(k1, _), (k2, _)]⟩) (us := [_, _]) F1 hr (hbi _ _ _ I2.kIn) (tk σ) I2 (.cons r2 (.cons r1 .nil)) q2
end
theorem binds_kw2 {x qual : Str} {params : Arguments} {body : List Stmt} {scope : Scope} {kV doc pm : Value} {an : Option Addr} {cdv ct : Value} {u1 u2 : Value} {a1 a2 : Arg} (hne : a1.arg ≠ a2.arg) (hp : params = ⟨[], [a2, a1], none, [], [], none, []⟩) :
    bindArgs (PySem.W.fnOf x qual params body scope .none kV doc pm an cdv ct) ⟨[], [(a1.arg, u1), (a2.arg, u2)]⟩ = pure [(a2.arg, u2), (a1.arg, u1)] := by
  subst hp
  have n1 : (a1.arg == a2.arg) = false := by simpa using hne
  have n2 : (a2.arg == a1.arg) = false := by simpa using fun e : a2.arg = a1.arg => hne e.symm
  simp [bindArgs, PySem.W.fnOf, show seqItems? Value.none = pure none from rfl, List.lookup, n1, n2]
end R
set_option maxHeartbeats 4000000
/-! R16e: {}, {3: ()}; a list whose last element is a text with a part replaced. -/
namespace R
open PySem PySem.Spec L2
open PyProof.Rows hiding St
section
variable {X : Cx} {W : WX} {pos : Pos}
theorem qe_d0 : QE X W (.Dict [] [] pos) (fun _ => pure (.dct [] [])) :=
  QE.of (PE.imp pe_dnewK fun σ H Q ⟨G, ρ, M, e, s, r, q⟩ p hp => outR_ok q (Ext.upd (s.fresh hp)) (s.froz hp _) (by
    simp only [Rep]
    exact ⟨p, [], rfl, upd_same, rfl, Reps.nil⟩))
theorem qe_d1 {k : Int} {j kk : Nat} {p1 p2 : Pos} : QE X W (.Dict [some (.Constant (.int k) j p1)] [.Tuple [] kk p2] pos) (fun _ => pure (.dct [.inl k] [.tup []])) := by
  refine QE.of (PE.imp (pe_disp (pps_cons (pe_int (i := k)) (pe_tup pa_nil) pps_nil) rfl rfl (by simp) (by simp)) fun σ H Q ⟨G, ρ, M, e, s, r, q⟩ p hp => ?_)
  show ([] : List V).length ≤ sizeLine ∧ ∀ b, upd H p (.dK []) b = none → _
  refine ⟨Nat.zero_le _, fun b hb => ⟨?_, [(.inl k, .ref b)], rfl, by simp, ?_⟩⟩
  · have hne : p ≠ b := fun e => by subst e; rw [upd_same] at hb; cases hb
    rw [upd_ne hne, upd_same]
  · have hne : p ≠ b := fun e => by subst e; rw [upd_same] at hb; cases hb
    have hb' : H b = none := by rw [upd_ne (Ne.symm hne)] at hb; exact hb
    have s1 := s.froz hb' (.tup [])
    have hp1 : upd H b (.tup []) p = none := by rw [upd_ne hne]; exact hp
    have s2 := s1.froz hp1 (.dK [(.inl k, .ref b)])
    have eH : upd (upd (upd H p (.dK [])) b (.tup [])) p (.dK (mergeK [] [(.inl k, .ref b)])) = upd (upd H b (.tup [])) p (.dK [(.inl k, .ref b)]) := by
      funext a
      by_cases h1 : a = p
      · subst h1; rw [upd_same, upd_same]; rfl
      · rw [upd_ne h1, upd_ne h1]
        by_cases h2 : a = b
        · subst h2; rw [upd_same, upd_same]
        · rw [upd_ne h2, upd_ne h2, upd_ne h1]
    rw [eH]
    have x1 := Ext.upd (ρ := ρ) (s.fresh hb') (o := HO.tup [])
    have x2 := Ext.upd (ρ := ρ) (s1.fresh hp1) (o := HO.dK [(.inl k, .ref b)])
    refine outR_ok q (x1.trans x2) s2 ?_
    simp only [Rep]
    exact ⟨p, [.ref b], rfl, upd_same, rfl, Reps.cons (rep_tup.mpr ⟨b, [], rfl, .inl (.inl (x2.g _ _ upd_same)), Reps.nil⟩) Reps.nil⟩
/-! ### a list that ends with a text, a part of it replaced -/
def replOk (x z : Str) : Bool := decide (x.length + (x.length + 1) * z.length ≤ 16777216)
def replW (y z : Str) : PV → RM PV
  | .str x => if replOk x z then pure (.str (Txt.replace x y z)) else RM.bad
  | _ => RM.bad
def tRepC (to : TE) (y z : Str) : TE := fun σ H Q => to σ H fun v H1 => ∃ x, v = .str x ∧ x.length + (x.length + 1) * z.length ≤ 16777216 ∧ Q (.str (Txt.replace x y z)) H1
theorem pet_repc {o : Expr} {to : TE} {y z : Str} {j0 j1 : Nat} {c0 c1 ap : Pos} (ho : PE X o to) (hn : notSuper o = true) (hyz : (y == z) = false) (hline : (ap.endLine == pos.line) = true) :
    PET X (.Call (.Attribute o "replace" ap) [.Constant (.str y) j0 c0, .Constant (.str z) j1 c1] [] pos) (tRepC to y z) := by
  intro pins s σ H Q h0 I h
  refine PySem.Call_method2 (base_ok hn) rfl hline (wpAny_mono (PySem.wpAny_toks (ho.run pins s σ H _ I h)) (fun v s1 w => ?_) fun _ _ z => z.2)
  obtain ⟨hk, x, H1, I1, r1, x0, e, hb, q⟩ := w
  subst e
  obtain ⟨t, rfl⟩ := r1
  refine ⟨"str", _, F.plainAttrs_str, F.slot_str_replace, F.type_str_replace, typeIs_str _ _ _, (fun _ e => nomatch e), Calls.callWith_builtin rfl (Calls.evalArgs_plain (Calls.spliced_cons (Calls.Constant_str (Calls.spliced_cons (Calls.Constant_str (Calls.spliced_nil ?_))))))⟩
  have h1 : 1 ≤ s1.toks := Nat.le_trans h0 hk
  exact PySem.SC.replace (show s1.toks ≠ 0 by omega) (show s1.toks + 1 ≠ 0 by omega) (show s1.toks ≠ s1.toks + 1 by omega) hyz hb fun t' k => ⟨.str (Txt.replace x0 y z), H1, I1.tok k, ⟨t', rfl⟩, q⟩
theorem den_c {c : Str} {σ : St} {H : Hp} {Q : VK} (h : denE X.K W (fun _ => pure (.str c)) σ H Q) : Q (.str c) H := by
  obtain ⟨G, ρ, M, e, s, r, q⟩ := h
  exact q G ρ H (.str c) Ext.refl s (rep_str.mpr rfl)
/-- an operation with a written text gives out a token -/
theorem pa_tok {a : Expr} {op : Operator} {c : Str} {j : Nat} {cp bp : Pos} {r : R2} {ta : TE} {es : List Expr} {tb : TA} (ho : OpR X (binaryOp op) r) (ha : PE X a ta) (hr : PAT X es tb) : PA X (.BinOp a op (.Constant (.str c) j cp) bp :: es) (tCons (tOp r ta (denE X.K W fun _ => pure (.str c))) tb) := by
  refine ⟨fun pos pins s σ H Q I h => ?_⟩
  show wpAny _ _ (spliced ((false, eval (.BinOp a op (.Constant (.str c) j cp) bp) X.env) :: backTo pos (starEach es X.env))) _ _ s
  refine Calls.spliced_cons (wpAny_BinOp (thn (ha.run pins s σ H _ I h) fun v s1 ⟨x, H1, I1, r1, q1⟩ => Calls.Constant_str (wpAny_mono (PySem.wpAny_toks (ho pins _ σ H1 x (.str c) v _ _ (I1.tok (s1.toks + 1)) r1 ⟨s1.toks, rfl⟩ (den_c q1))) (fun u s2 w => ?_) fun _ _ z => z.2)))
  obtain ⟨hk, y, H2, I2, r2, q2⟩ := w
  have h1 : 1 ≤ s2.toks := Nat.le_trans (Nat.le_add_left 1 _) hk
  exact thn (hr pos pins s2 σ H2 _ h1 I2 q2) fun us s3 ⟨xs, H3, I3, r3, q3⟩ => ⟨y :: xs, H3, I3, .cons r2 r3, q3⟩
/-- [a op "c", .., o.replace("y", "z")] -/
theorem qe_lstR {a o : Expr} {op : Operator} {fo : PV → PV → RM PV} {c y z : Str} {j j0 j1 : Nat} {cp bp c0 c1 ap rp : Pos} {f h : Env → RM PV} {es : List Expr} {g : Env → RM (List PV)} (hop : OpV X W (binaryOp op) fo) (ha : QE X W a f) (hg : QA X W es g) (hall : es.all notStar = true) (ho : QE X W o h)
    (hn : notSuper o = true) (hyz : (y == z) = false) (hline : (ap.endLine == rp.line) = true) :
    QE X W (.List (.BinOp a op (.Constant (.str c) j cp) bp :: (es ++ [.Call (.Attribute o "replace" ap) [.Constant (.str y) j0 c0, .Constant (.str z) j1 c1] [] rp])) pos) (fLst (fCons (f2 fo f fun _ => pure (.str c)) (fApp g fun e => h e >>= replW y z))) := by
  have hp : PET X (.Call (.Attribute o "replace" ap) [.Constant (.str y) j0 c0, .Constant (.str z) j1 c1] [] rp) (denE X.K W fun e => h e >>= replW y z) := fun pins s σ H Q h0 I ⟨G, ρ, M, e, S, r, q⟩ =>
    pet_repc ho.pe hn hyz hline pins s σ H Q h0 I ⟨G, ρ, M, e, S, r, outR_bind q fun G1 ρ1 M1 x v H1 x1 s1 r1 q1 => by
      unfold replW at q1
      split at q1
      · rw [rep_str] at r1
        obtain ⟨hc, q1⟩ := ite_outR q1
        exact ⟨_, r1, of_decide_eq_true hc, outR_pure q1 s1 (rep_str.mpr rfl)⟩
      · exact q1.elim⟩
  refine QE.of (PE.imp (pe_lst (pa_tok (W := W) hop.opr ha.pe (hg.ap hall _ _ rfl hp))) fun σ H Q ⟨G, ρ, M, e, s, r, q⟩ => ?_)
  have q0 : denE X.K W (f2 fo f fun _ => pure (.str c)) σ H (fun x H1 => denA X.K W (fApp g fun e => h e >>= replW y z) σ H1 fun xs H2 => (x :: xs).length ≤ sizeLine ∧ ∀ p, H2 p = none → Q (.ref p) (upd H2 p (.lst (x :: xs)))) := by
    refine ⟨G, ρ, M, e, s, r, outR_bind (show outR X.K (Rep X.K) W G ρ σ ((f2 fo f (fun _ => pure (.str c)) e >>= fun x => (fApp g (fun e => h e >>= replW y z) e >>= fun xs => pure (x :: xs)) >>= fun ys => if lineOk ys then pure (.lst ys) else RM.bad) M) Q from ?_) fun G1 ρ1 M1 x v H1 x1 s1 r1 q1 => ⟨G1, ρ1, M1, e, s1, r.ext x1, ?_⟩⟩
    · have e1 : fLst (fCons (f2 fo f fun _ => pure (.str c)) (fApp g fun e => h e >>= replW y z)) e = (f2 fo f (fun _ => pure (.str c)) e >>= fun x => (fApp g (fun e => h e >>= replW y z) e >>= fun xs => pure (x :: xs)) >>= fun ys => if lineOk ys then pure (.lst ys) else RM.bad) := by
        unfold fLst
        show ((_ >>= fun x => _ >>= fun xs => _) >>= _) = _
        rw [assoc_R]
      rw [e1] at q
      exact q
    · rw [assoc_R] at q1
      refine outR_bind q1 fun G2 ρ2 M2 xs vs H2 x2 s2 r2 q2 => ?_
      have r3 : Reps X.K G2 ρ2 (x :: xs) (v :: vs) := Reps.cons (r1.ext x2 _ _) r2
      obtain ⟨hc, q3⟩ := ite_outR (show outR X.K (Rep X.K) W G2 ρ2 σ ((if lineOk (x :: xs) then pure (.lst (x :: xs)) else RM.bad) M2) Q from q2)
      exact ⟨by rw [← Reps.length r3]; exact of_decide_eq_true hc, new_lst s2 r3 q3⟩
  obtain ⟨G, ρ, M, e, s, r, q⟩ := q0
  exact den_op2 ⟨G, ρ, M, e, s, r, q⟩
end
end R
set_option maxHeartbeats 4000000
/-! R17: the terms, their readings, the check against the text. -/
namespace R
open PySem PySem.Spec L2
open PyProof.Rows hiding St
inductive Kd where
  | e | a | o | i | t | g | gs | s | b | h
inductive Bop where
  | add | sub | mul | fdiv | mod | pow | addm
  deriving DecidableEq
inductive Cop where
  | eq | ne | lt | le | gt | ge | in_ | nin | is_ | nis
  deriving DecidableEq
/-- built-in functions and types -/
inductive Bi where
  | len | all | any | sum | abs | max | min | divmod | sorted | tuple | list | str | int | repr
  deriving DecidableEq
/-- methods of built-in types -/
inductive Bm where
  | append | split | join
  deriving DecidableEq
inductive Ty where
  | int | bool | str | tuple | list | dict
  deriving DecidableEq
inductive Tm : Kd → Type where
  | var (i : Nat) : Tm .e
  | int (z : Int) : Tm .e
  | bl (b : Bool) : Tm .e
  | str (s : Str) : Tm .e
  | non : Tm .e
  | gv (i : Nat) : Tm .e
  | bin (op : Bop) (x y : Tm .e) : Tm .e
  | cmp (op : Cop) (x y : Tm .e) : Tm .e
  | chain (op op' : Cop) (x y z : Tm .e) : Tm .e
  | and1 (x : Tm .e) : Tm .e
  | and_ (x y : Tm .e) : Tm .e
  | or1 (x : Tm .e) : Tm .e
  | or_ (x y : Tm .e) : Tm .e
  | not_ (x : Tm .e) : Tm .e
  | neg (x : Tm .e) : Tm .e
  | ite (c x y : Tm .e) : Tm .e
  | tup (l : Tm .a) : Tm .e
  | lst (m : Bool) (l : Tm .a) : Tm .e
  | idx (x y : Tm .e) : Tm .e
  | slc (x : Tm .e) (l u : Tm .o) : Tm .e
  | rev (x : Tm .e) : Tm .e
  | dE : Tm .e
  | d1 (k : Int) : Tm .e
  | lstR (op : Bop) (x : Tm .e) (c : Str) (l : Tm .a) (o : Tm .e) (y z : Str) : Tm .e
  | call (i : Nat) (l : Tm .a) : Tm .e
  | meth (i : Nat) (x : Tm .e) (l : Tm .a) : Tm .e
  | prop (i : Nat) (x : Tm .e) : Tm .e
  | bi (b : Bi) (l : Tm .a) : Tm .e
  | isi (x : Tm .e) (t : Ty) : Tm .e
  | fld (c f : Str) (x : Tm .e) : Tm .e
  | bm (b : Bm) (x : Tm .e) (l : Tm .a) : Tm .e
  | lc (m : Bool) (own : List (Str × Nat)) (g : Tm .g) (it : Tm .i) (t : Tm .t) (x : Tm .e) : Tm .e
  | dget (i : Nat) (x y : Tm .e) : Tm .e
  | lrange (x : Tm .e) : Tm .e
  | trange (x : Tm .e) : Tm .e
  | dzip (l : Tm .a) : Tm .e
  | dgetv (x y z : Tm .e) : Tm .e
  | dvals (x : Tm .e) : Tm .e
  | kw2 (i : Nat) (x y : Tm .e) : Tm .e
  | nil : Tm .a
  | cons (x : Tm .e) (l : Tm .a) : Tm .a
  | star (x : Tm .e) (l : Tm .a) : Tm .a
  | onone : Tm .o
  | osome (x : Tm .e) : Tm .o
  | seq (x : Tm .e) : Tm .i
  | range1 (x : Tm .e) : Tm .i
  | range2 (x y : Tm .e) : Tm .i
  | enum (x : Tm .e) : Tm .i
  | zip (x y : Tm .e) : Tm .i
  | tt : Tm .t
  | tst (x : Tm .e) : Tm .t
  | gnm (i : Nat) : Tm .g
  | gtup (n : Nat) (l : Tm .gs) : Tm .g
  | gsub (o i : Tm .e) : Tm .g
  | gnil : Tm .gs
  | gcons (x : Tm .g) (l : Tm .gs) : Tm .gs
  | ret (x : Tm .e) : Tm .s
  | retN : Tm .s
  | ex (x : Tm .e) : Tm .s
  | doc : Tm .s
  | pass : Tm .s
  | brk : Tm .s
  | cnt : Tm .s
  | ifs (c : Tm .e) (x y : Tm .b) : Tm .s
  | asg (g : Tm .g) (x : Tm .e) : Tm .s
  | setlc (i : Nat) (m : Bool) (own : List (Str × Nat)) (g : Tm .g) (it : Tm .i) (t : Tm .t) (x : Tm .e) : Tm .s
  | par (ix : List Nat) (l : Tm .a) : Tm .s
  | sto (c f : Str) (o x : Tm .e) : Tm .s
  | for_ (g : Tm .g) (it : Tm .i) (b : Tm .b) : Tm .s
  | whl (c : Tm .e) (b : Tm .b) : Tm .s
  | raise (c f : Str) (x : Tm .e) : Tm .s
  | try_ (b : Tm .b) (h : Tm .h) : Tm .s
  | tryx (b : Tm .b) : Tm .s
  | tryr (h1 h2 c f : Str) (b : Tm .b) (x : Tm .e) : Tm .s
  | bnil : Tm .b
  | bone (s : Tm .s) : Tm .b
  | bcons (s : Tm .s) (b : Tm .b) : Tm .b
  | hnil : Tm .h
  | hcons (c : Str) (b : Tm .b) (h : Tm .h) : Tm .h

/-! ### readings -/
def bopV : Bop → PV → PV → RM PV
  | .add => addW | .addm => addM | .sub => subV | .mul => mulV | .fdiv => fdivV | .mod => modV | .pow => powV
def bopE : Bop → Operator
  | .add => .Add | .addm => .Add | .sub => .Sub | .mul => .Mult | .fdiv => .FloorDiv | .mod => .Mod | .pow => .Pow
def copV : Cop → PV → PV → RM PV
  | .eq => eqX | .ne => neX | .lt => cmpW fun i j => decide (i < j) | .le => cmpW fun i j => decide (i ≤ j) | .gt => cmpW fun i j => decide (j < i) | .ge => cmpW fun i j => decide (j ≤ i)
  | .in_ => inX | .nin => ninX | .is_ => isW | .nis => nisW
def copE : Cop → CmpOp
  | .eq => .Eq | .ne => .NotEq | .lt => .Lt | .le => .LtE | .gt => .Gt | .ge => .GtE | .in_ => .In | .nin => .NotIn | .is_ => .Is | .nis => .IsNot
def biV : Bi → List PV → RM PV
  | .len => lenW | .all => allW | .any => anyW | .sum => sumW | .abs => absW | .max => maxW | .min => minW | .divmod => divmodW | .sorted => sortedW | .tuple => tupleW | .list => listW | .str => strW | .int => intW | .repr => repr1
def biN : Bi → Str
  | .len => "len" | .all => "all" | .any => "any" | .sum => "sum" | .abs => "abs" | .max => "max" | .min => "min" | .divmod => "divmod" | .sorted => "sorted" | .tuple => "tuple" | .list => "list" | .str => "str" | .int => "int" | .repr => "repr"
def biC : Bi → Bool
  | .all => true | .any => true | .sum => true | .max => true | .min => true | .repr => true | _ => false
def bmT : Bm → String
  | .append => "list" | .split => "str" | .join => "str"
def bmN : Bm → Str
  | .append => "append" | .split => "split" | .join => "join"
def bmV : Bm → PV → List PV → RM PV
  | .append => appW | .split => splitW | .join => joinW
def tyN : Ty → Str
  | .int => "int" | .bool => "bool" | .str => "str" | .tuple => "tuple" | .list => "list" | .dict => "dict"
def tyS : Ty → String
  | .int => "int" | .bool => "bool" | .str => "str" | .tuple => "tuple" | .list => "list" | .dict => "dict"
/-- what a kind of term reads as -/
abbrev Sm : Kd → Type
  | .e => Env → RM PV
  | .a => Env → RM (List PV)
  | .o => Env → RM (Option Int)
  | .i => Env → RM Wk
  | .t => Env → RM Bool
  | .g => PV → Env → RM Env
  | .gs => List PV → Env → RM Env
  | .s => SM
  | .b => SM
  | .h => List (Str × SM)
/-- what stands around: the callees' functions, the module's constants, its dicts, which class is which -/
structure Wd where
  fn : Nat → List PV → RM PV
  gv : Nat → PV
  dc : Nat → List (Str × Int)
  mt : Str → Str → Option Bool
  mcl : Nat → Str
  mnm : Nat → Str
noncomputable def ev (D : Wd) : {k : Kd} → Tm k → Sm k
  | _, .var i => fVar i
  | _, .int z => fun _ => pure (.int z)
  | _, .bl b => fun _ => pure (.bl b)
  | _, .str s => fun _ => pure (.str s)
  | _, .non => fun _ => pure .non
  | _, .gv i => fun _ => pure (D.gv i)
  | _, .bin op x y => f2 (bopV op) (ev D x) (ev D y)
  | _, .cmp op x y => f2 (copV op) (ev D x) (ev D y)
  | _, .chain op op' x y z => fChain (copV op) (copV op') (ev D x) (ev D y) (ev D z)
  | _, .and1 x => ev D x
  | _, .and_ x y => fAnd (ev D x) (ev D y)
  | _, .or1 x => ev D x
  | _, .or_ x y => fOr (ev D x) (ev D y)
  | _, .not_ x => fNot (ev D x)
  | _, .neg x => fun e => ev D x e >>= negW
  | _, .ite c x y => fIf (ev D c) (ev D x) (ev D y)
  | _, .tup l => fTup (ev D l)
  | _, .lst m l => if m then fLstM (ev D l) else fLst (ev D l)
  | _, .idx x y => f2 idxW (ev D x) (ev D y)
  | _, .slc x l u => fSlice (ev D x) (ev D l) (ev D u)
  | _, .rev x => fun e => ev D x e >>= backW
  | _, .dE => fun _ => pure (.dct [] [])
  | _, .d1 k => fun _ => pure (.dct [.inl k] [.tup []])
  | _, .lstR op x c l o y z => fLst (fCons (f2 (bopV op) (ev D x) fun _ => pure (.str c)) (fApp (ev D l) fun e => ev D o e >>= replW y z))
  | _, .call i l => fun e => ev D l e >>= D.fn i
  | _, .meth i x l => fun e => ev D x e >>= fun v => methW (· == D.mcl i) (D.mnm i) (D.fn i) v (ev D l e)
  | _, .prop i x => fun e => ev D x e >>= fun v => fieldsOf v >>= fun t => if t.1 == D.mcl i then quietR (D.fn i [v]) else RM.bad
  | _, .bi b l => fun e => ev D l e >>= biV b
  | _, .isi x t => fun e => ev D x e >>= isiW (tyS t)
  | _, .fld c f x => fun e => ev D x e >>= fldW (· == c) f
  | _, .bm b x l => fMeth (bmT b) (bmV b) (ev D x) (ev D l)
  | _, .lc m own g it t x => if m then fLcM (ev D it) (own.map (·.2)) (ev D g) (ev D t) (ev D x) else fLc (ev D it) (own.map (·.2)) (ev D g) (ev D t) (ev D x)
  | _, .dget i x y => f2 (getC (D.dc i)) (ev D x) (ev D y)
  | _, .lrange x => fun e => ev D x e >>= lrangeW
  | _, .trange x => fun e => ev D x e >>= trangeW
  | _, .dzip l => fun e => ev D l e >>= dzipW
  | _, .dgetv x y z => fDget (ev D x) (ev D y) (ev D z)
  | _, .dvals x => fun e => ev D x e >>= asD >>= fun d => pure (.lst d.2)
  | _, .kw2 i x y => fun e => ev D x e >>= fun a => ev D y e >>= fun b => D.fn i [b, a]
  | _, .nil => fNil
  | _, .cons x l => fCons (ev D x) (ev D l)
  | _, .star x l => fStar (ev D x) (ev D l)
  | _, .onone => fNone
  | _, .osome x => fSome (ev D x)
  | _, .seq x => fun e => ev D x e >>= wkOf
  | _, .range1 x => fun e => fCons (ev D x) fNil e >>= range1W
  | _, .range2 x y => fun e => fCons (ev D x) (fCons (ev D y) fNil) e >>= range2W
  | _, .enum x => fun e => fCons (ev D x) fNil e >>= enumW
  | _, .zip x y => fun e => fCons (ev D x) (fCons (ev D y) fNil) e >>= zipW
  | _, .tt => tNone
  | _, .tst x => fun e => ev D x e >>= asB
  | _, .gnm i => gNm i
  | _, .gtup n l => gSq n (ev D l)
  | _, .gsub o i => gSubT (ev D o) (ev D i)
  | _, .gnil => gsNil
  | _, .gcons x l => gsCons (ev D x) (ev D l)
  | _, .ret x => sRet (ev D x)
  | _, .retN => sRetN
  | _, .ex x => sExpr (ev D x)
  | _, .doc => sNil
  | _, .pass => sNil
  | _, .brk => sBreak
  | _, .cnt => sCont
  | _, .ifs c x y => sIf (ev D c) (ev D x) (ev D y)
  | _, .asg g x => sAsg (ev D x) (ev D g)
  | _, .setlc i m own g it t x => sAsg (if m then fLcM (ev D it) (own.map (·.2)) (ev D g) (ev D t) (ev D x) else fLc (ev D it) (own.map (·.2)) (ev D g) (ev D t) (ev D x)) (gNm i)
  | _, .par ix l => sPar ix (ev D l)
  | _, .sto c f o x => sSto (· == c) f (ev D o) (ev D x)
  | _, .for_ g it b => sFor (ev D it) (ev D g) (ev D b)
  | _, .whl c b => sWhile (ev D c) (ev D b)
  | _, .raise c _ x => sRaise c (ev D x)
  | _, .try_ b h => sTry D.mt (ev D b) (ev D h)
  | _, .tryx b => sTryx (ev D b)
  | _, .tryr h1 h2 c _ b x => sTryR D.mt h1 h2 c (ev D b) (ev D x)
  | _, .bnil => sNil
  | _, .bone s => ev (k := .s) D s
  | _, .bcons s b => sSeq (ev D s) (ev D b)
  | _, .hnil => []
  | _, .hcons c b h => (c, ev D b) :: ev D h
/-- the slots that a target fills -/
def slots : {k : Kd} → Tm k → List Nat
  | _, .gnm i => [i]
  | _, .gtup _ l => slots l
  | _, .gcons x l => slots x ++ slots l
  | _, _ => []

/-! ### the check against the text -/
abbrev Syn : Kd → Type
  | .e => Expr
  | .a => List Expr
  | .o => Option Expr
  | .i => Expr
  | .t => List Expr
  | .g => Expr
  | .gs => List Expr
  | .s => Stmt
  | .b => List Stmt
  | .h => List ExceptHandler
/-- a callee: a def of the module, a staticmethod, a class (made frozen or not), a method, a property; n: what it lets out has no context -/
inductive CK where
  | glob (x : Str) (n : Bool) | stat (c x : Str) (n : Bool) | new (c : Str) (fz n : Bool) | meth (c x : Str) (n : Bool) | prop (c x : Str) (n : Bool) | kw2 (x k1 k2 : Str) (n : Bool)
  deriving DecidableEq
/-- a def's surroundings, by names -/
structure Lc where
  N : List Str
  cal : List CK
  gv : List Str
  dc : List Str
  fl : List (Str × Str)
  xs : List (Str × Str)
/-- where one stands: the scope, whose cells were made at the entry, no except suite, a def's own block, only callees without context -/
structure Sc where
  sc : Scope
  fn : Str → Bool
  cm : Bool
  st : Bool
  md : Bool
  hp : Bool
def okN (x : Str) : Bool := !(x == ("__debug__" : Str)) && (!(x == ("__classdict__" : Str)) && !(x == ("__name__" : Str)))
def visB (sc : Scope) (x : Str) : Bool := match sc.names.lookup x with
  | some .local => true | some .cell => true | some .free => true | _ => false
def locB (sc : Scope) (x : Str) : Bool := match sc.names.lookup x with
  | some .local => true | some .cell => true | _ => false
def glB (sc : Scope) (x : Str) : Bool := okN x && decide (sc.names.lookup x = some .globalImplicit)
def notSl : Expr → Bool
  | .Slice .. => false | _ => true
def isTup : Expr → Bool
  | .Tuple .. => true | _ => false
/-- swappedStores, by the scope -/
def swpS (sc : Scope) (ts vs : List Expr) : Option (Option (List Str)) :=
  if (!(ts.length == 2 || ts.length == 3) || vs.length != ts.length) = true then some none
  else if (vs.any fun | .Starred .. => true | _ => false) = true then some none
  else
    let line := (ts.head?.map (·.pos.line)).getD 0
    let names := ts.filterMap fun
      | .Name id pos => if sc.names.lookup id == some .local && pos.line == line then some id else none
      | _ => none
    if (names.length != ts.length || names.eraseDups.length != names.length) = true then some none
    else if (vs.all (foldedForSure 8)) = true then some none
    else if (vs.all (constantsAlone 8)) = true then none
    else some (some names)
def swNone (sc : Scope) (tg e : Expr) : Bool := match tg, e with
  | .Tuple ts _ _, .Tuple vs _ _ => decide (swpS sc ts vs = some none)
  | .List _ _, .Tuple _ _ _ => false
  | _, _ => true
/-- a comprehension stored by its own loop -/
def swB (sc : Scope) (tg e : Expr) : Bool := match tg, e with
  | .Name t p, .ListComp _ _ s q => sc.names.lookup t == some .local && p.line == q.line && !(s.names.any fun (n, k) => n == t && (k == .local || k == .cell))
  | _, _ => false
def lcFree : Expr → Bool
  | .SetComp .. => false | .DictComp .. => false | _ => true
def blkS (scope : Scope) (S : Sc) : Sc := ⟨relS scope S.sc, fun x => scope.names.lookup x == some .cell, S.cm, false, false, false⟩
def calF (n : Bool) (S : Sc) : Bool := S.cm && (n || !S.md)
def namesOf : List Expr → List Str
  | [] => []
  | .Name x _ :: r => x :: namesOf r
  | _ :: r => namesOf r
def needT : {k : Kd} → Tm k → Bool
  | _, .enum _ => true | _, .zip _ _ => true | _, _ => false
def ixOk (N : List Str) (ix : List Nat) (xs : List Str) : Bool := decide (ix.map (fun i => N[i]?) = xs.map some) && decide ix.Nodup
def chk (L : Lc) : {k : Kd} → Tm k → Sc → Syn k → Bool
  | _, .var i => fun S s => match s with
    | .Name x _ => decide (L.N[i]? = some x) && (visB S.sc x && okN x)
    | _ => false
  | _, .int z => fun _ s => match s with
    | .Constant (.int j) _ _ => decide (j = z)
    | _ => false
  | _, .bl z => fun _ s => match s with
    | .Constant (.bool j) _ _ => decide (j = z)
    | _ => false
  | _, .str z => fun _ s => match s with
    | .Constant (.str j) _ _ => decide (j = z)
    | _ => false
  | _, .non => fun _ s => match s with
    | .Constant .none _ _ => true
    | _ => false
  | _, .gv i => fun S s => match s with
    | .Name x _ => decide (L.gv[i]? = some x) && glB S.sc x
    | _ => false
  | _, .bin op x y => fun S s => match s with
    | .BinOp l o r _ => decide (o = bopE op) && (chk L x S l && chk L y S r)
    | _ => false
  | _, .cmp op x y => fun S s => match s with
    | .Compare l [o] [r] _ => decide (o = copE op) && (!behindInMarks o r && (chk L x S l && chk L y S r))
    | _ => false
  | _, .chain op op' x y z => fun S s => match s with
    | .Compare l [o, o'] [r, r'] _ => decide (o = copE op) && (decide (o' = copE op') && (!lastMarks [o, o'] [r, r'] && (chk L x S l && (chk L y S r && chk L z S r'))))
    | _ => false
  | _, .and1 x => fun S s => match s with
    | .BoolOp .And [l] _ => chk L x S l
    | _ => false
  | _, .and_ x y => fun S s => match s with
    | .BoolOp .And (l :: r :: rest) p => chk L x S l && chk L y S (.BoolOp .And (r :: rest) p)
    | _ => false
  | _, .or1 x => fun S s => match s with
    | .BoolOp .Or [l] _ => chk L x S l
    | _ => false
  | _, .or_ x y => fun S s => match s with
    | .BoolOp .Or (l :: r :: rest) p => chk L x S l && chk L y S (.BoolOp .Or (r :: rest) p)
    | _ => false
  | _, .not_ x => fun S s => match s with
    | .UnaryOp .Not l _ => chk L x S l
    | _ => false
  | _, .neg x => fun S s => match s with
    | .UnaryOp .USub l _ => chk L x S l
    | _ => false
  | _, .ite c x y => fun S s => match s with
    | .IfExp c' l r _ => chk L c S c' && (chk L x S l && chk L y S r)
    | _ => false
  | _, .tup l => fun S s => match s with
    | .Tuple es _ _ => chk L l S es
    | _ => false
  | _, .lst _ l => fun S s => match s with
    | .List es _ => chk L l S es
    | _ => false
  | _, .idx x y => fun S s => match s with
    | .Subscript l r _ => plainIx r && (chk L x S l && chk L y S r)
    | _ => false
  | _, .rev x => fun S s => match s with
    | .Subscript a (.Slice none none (some (.UnaryOp .USub (.Constant (.int j) _ _) _)) _) _ => decide (j = 1) && chk L x S a
    | _ => false
  | _, .dE => fun _ s => match s with
    | .Dict [] [] _ => true
    | _ => false
  | _, .d1 k => fun _ s => match s with
    | .Dict [some (.Constant (.int j) _ _)] [.Tuple [] _ _] _ => decide (j = k)
    | _ => false
  | _, .lstR op x c l o y z => fun S s => match s with
    | .List (.BinOp a p (.Constant (.str c') _ _) _ :: r) _ => decide (p = bopE op) && (decide (c' = c) && (!(y == z) && (r.dropLast.all notStar && (chk L x S a && (chk L l S r.dropLast && (match r.getLast? with
      | some (.Call (.Attribute o' m ap) [.Constant (.str y') _ _, .Constant (.str z') _ _] [] rp) => decide (m = ("replace" : Str)) && (decide (y' = y) && (decide (z' = z) && (notSuper o' && ((ap.endLine == rp.line) && chk L o S o'))))
      | _ => false))))))
    | _ => false
  | _, .slc x l u => fun S s => match s with
    | .Subscript a (.Slice lo hi none _) _ => chk L x S a && (chk L l S lo && chk L u S hi)
    | _ => false
  | _, .call i l => fun S s => match s with
    | .Call (.Name x _) es [] _ => (match L.cal[i]? with
      | some (.glob y n) => decide (x = y) && (glB S.sc x && (calF n S && (es.all notStar && chk L l S es)))
      | some (.new y _ n) => decide (x = y) && (glB S.sc x && (calF n S && (es.all notStar && (!es.isEmpty && chk L l S es))))
      | _ => false)
    | .Call (.Attribute (.Name x _) m ap) es [] p => (match L.cal[i]? with
      | some (.stat y m' n) => decide (x = y) && (decide (m = m') && (glB S.sc x && (calF n S && (es.all notStar && (!es.isEmpty && (decide (es.length < 30) && ((ap.endLine == p.line) && chk L l S es)))))))
      | _ => false)
    | _ => false
  | _, .meth i x l => fun S s => match s with
    | .Call (.Attribute o m ap) es [] p => (match L.cal[i]? with
      | some (.meth _ m' n) => decide (m = m') && (calF n S && (notSuper o && (es.all notStar && (decide (es.length < 30) && ((ap.endLine == p.line) && (chk L x S o && chk L l S es))))))
      | _ => false)
    | _ => false
  | _, .prop i x => fun S s => match s with
    | .Attribute o f _ => (match L.cal[i]? with
      | some (.prop _ f' _) => decide (f = f') && (S.cm && (notSuper o && chk L x S o))
      | _ => false)
    | _ => false
  | _, .bi b l => fun S s => match s with
    | .Call (.Name x _) es [] _ => decide (x = biN b) && (glB S.sc x && (es.all notStar && (!es.isEmpty && ((!biC b || S.cm) && chk L l S es))))
    | _ => false
  | _, .isi x t => fun S s => match s with
    | .Call (.Name f _) [e, .Name T _] [] _ => decide (f = ("isinstance" : Str)) && (glB S.sc f && (decide (T = tyN t) && (glB S.sc T && (notStar e && chk L x S e))))
    | _ => false
  | _, .fld c f x => fun S s => match s with
    | .Attribute o f' _ => decide (f = f') && (decide ((c, f) ∈ L.fl) && (notSuper o && chk L x S o))
    | _ => false
  | _, .bm b x l => fun S s => match s with
    | .Call (.Attribute o m ap) es [] p => decide (m = bmN b) && (notSuper o && (es.all notStar && (!es.isEmpty && (decide (es.length < 30) && ((ap.endLine == p.line) && (chk L x S o && chk L l S es))))))
    | _ => false
  | _, .lc _ own g it t x => fun S s => match s with
    | .ListComp e [⟨tg, iter, ifs, 0⟩] scope _ => S.cm && (blkC L.N S.sc scope own && (decide (∀ i ∈ slots g, i ∈ own.map (·.2)) && (plainIt iter && ((!needT it || isTup tg) &&
        (chk L it S iter && (chk L g (blkS scope S) tg && (chk L t (blkS scope S) ifs && chk L x (blkS scope S) e)))))))
    | _ => false
  | _, .dget i x y => fun S s => match s with
    | .Call (.Attribute (.Name n _) m ap) [a, b] [] p => decide (L.dc[i]? = some n) && (decide (m = ("get" : Str)) && (glB S.sc n && (notStar a && (notStar b && ((ap.endLine == p.line) && (chk L x S a && chk L y S b))))))
    | _ => false
  | _, .lrange x => fun S s => match s with
    | .Call (.Name f _) [.Call (.Name g _) [a] [] _] [] _ => S.cm && (decide (f = ("list" : Str)) && (decide (g = ("range" : Str)) && (glB S.sc f && (glB S.sc g && (notStar a && chk L x S a)))))
    | _ => false
  | _, .trange x => fun S s => match s with
    | .Call (.Name f _) [.Call (.Name g _) [a] [] _] [] _ => S.cm && (decide (f = ("tuple" : Str)) && (decide (g = ("range" : Str)) && (glB S.sc f && (glB S.sc g && (notStar a && chk L x S a)))))
    | _ => false
  | _, .dzip l => fun S s => match s with
    | .Call (.Name f _) [.Call (.Name g _) [a, b] [] _] [] _ => S.cm && (decide (f = ("dict" : Str)) && (decide (g = ("zip" : Str)) && (glB S.sc f && (glB S.sc g && (notStar a && (notStar b && chk L l S [a, b]))))))
    | _ => false
  | _, .dgetv x y z => fun S s => match s with
    | .Call (.Attribute o m ap) [a, b] [] p => decide (m = ("get" : Str)) && (notSuper o && (notStar a && (notStar b && ((ap.endLine == p.line) && (chk L x S o && (chk L y S a && chk L z S b))))))
    | _ => false
  | _, .dvals x => fun S s => match s with
    | .Call (.Name f _) [.Call (.Attribute o m ap) [] [] p] [] _ => S.cm && (decide (f = ("list" : Str)) && (decide (m = ("values" : Str)) && (glB S.sc f && (notSuper o && ((ap.endLine == p.line) && chk L x S o)))))
    | _ => false
  | _, .kw2 i x y => fun S s => match s with
    | .Call (.Name n _) [] [⟨some a, e, _⟩, ⟨some b, e', _⟩] _ => (match L.cal[i]? with
      | some (.kw2 z k1 k2 m) => decide (n = z) && (decide (a = k1) && (decide (b = k2) && (glB S.sc n && (calF m S && (chk L x S e && chk L y S e')))))
      | _ => false)
    | _ => false
  | _, .nil => fun _ s => match s with
    | [] => true
    | _ => false
  | _, .cons x l => fun S s => match s with
    | e :: es => notStar e && (chk L x S e && chk L l S es)
    | _ => false
  | _, .star x l => fun S s => match s with
    | .Starred e _ :: es => chk L x S e && chk L l S es
    | _ => false
  | _, .onone => fun _ s => match s with
    | none => true
    | _ => false
  | _, .osome x => fun S s => match s with
    | some e => chk L x S e
    | _ => false
  | _, .seq x => fun S s => chk L x S s
  | _, .range1 x => fun S s => match s with
    | .Call (.Name f _) [a] [] _ => decide (f = ("range" : Str)) && (glB S.sc f && (notStar a && chk L x S a))
    | _ => false
  | _, .range2 x y => fun S s => match s with
    | .Call (.Name f _) [a, b] [] _ => decide (f = ("range" : Str)) && (glB S.sc f && (notStar a && (notStar b && (chk L x S a && chk L y S b))))
    | _ => false
  | _, .enum x => fun S s => match s with
    | .Call (.Name f _) [a] [] _ => decide (f = ("enumerate" : Str)) && (glB S.sc f && (notStar a && chk L x S a))
    | _ => false
  | _, .zip x y => fun S s => match s with
    | .Call (.Name f _) [a, b] [] _ => decide (f = ("zip" : Str)) && (glB S.sc f && (notStar a && (notStar b && (chk L x S a && chk L y S b))))
    | _ => false
  | _, .tt => fun _ s => match s with
    | [] => true
    | _ => false
  | _, .tst x => fun S s => match s with
    | [e] => chk L x S e
    | _ => false
  | _, .gnm i => fun S s => match s with
    | .Name x _ => decide (L.N[i]? = some x) && (locB S.sc x && (S.fn x || decide (S.sc.names.lookup x = some .local)))
    | _ => false
  | _, .gtup n l => fun S s => match s with
    | .Tuple es _ _ => S.cm && (decide (n = es.length) && (es.all notStar && chk L l S es))
    | _ => false
  | _, .gsub o i => fun S s => match s with
    | .Subscript o' i' _ => plainIx i' && (chk L o S o' && chk L i S i')
    | _ => false
  | _, .gnil => fun _ s => match s with
    | [] => true
    | _ => false
  | _, .gcons x l => fun S s => match s with
    | e :: es => notStar e && (chk L x S e && chk L l S es)
    | _ => false
  | _, .ret x => fun S s => match s with
    | .Return (some e) _ => chk L x S e
    | _ => false
  | _, .retN => fun _ s => match s with
    | .Return none _ => true
    | _ => false
  | _, .ex x => fun S s => match s with
    | .Expr e _ => noComp e && chk L x S e
    | _ => false
  | _, .doc => fun _ s => match s with
    | .Expr (.Constant (.str _) _ _) _ => true
    | _ => false
  | _, .pass => fun _ s => match s with
    | .Pass _ => true
    | _ => false
  | _, .brk => fun _ s => match s with
    | .Break _ => true
    | _ => false
  | _, .cnt => fun _ s => match s with
    | .Continue _ => true
    | _ => false
  | _, .ifs c x y => fun S s => match s with
    | .If c' a b _ => chk L c S c' && (chk L x S a && chk L y S b)
    | _ => false
  | _, .asg g x => fun S s => match s with
    | .Assign [tg] e _ => notStar tg && (lcFree e && (!swB S.sc tg e && (swNone S.sc tg e && (chk L g S tg && chk L x S e))))
    | _ => false
  | _, .setlc i _ own g it t x => fun S s => match s with
    | .Assign [.Name y py] (.ListComp e [⟨tg, iter, ifs, 0⟩] scope pos) _ => swB S.sc (.Name y py) (.ListComp e [⟨tg, iter, ifs, 0⟩] scope pos) && (decide (L.N[i]? = some y) &&
        (S.cm && (blkC L.N S.sc scope own && (decide (∀ i ∈ slots g, i ∈ own.map (·.2)) && (plainIt iter && ((!needT it || isTup tg) &&
        (chk L it S iter && (chk L g (blkS scope S) tg && (chk L t (blkS scope S) ifs && chk L x (blkS scope S) e)))))))))
    | _ => false
  | _, .par ix l => fun S s => match s with
    | .Assign [.Tuple ts _ _] (.Tuple vs _ _) _ => S.cm && (decide (swpS S.sc ts vs = some (some (namesOf ts))) && (ixOk L.N ix (namesOf ts) && (decide (ts.length = ix.length) && (decide (vs.length = ix.length) && ((ix.length == 2 || ix.length == 3) &&
        ((namesOf ts).all (fun x => decide (S.sc.names.lookup x = some .local)) && chk L l S vs))))))
    | _ => false
  | _, .sto c f o x => fun S s => match s with
    | .Assign [.Attribute o' f' _] e _ => decide (f = f') && (decide ((c, f) ∈ L.fl) && (noComp e && (chk L o S o' && chk L x S e)))
    | _ => false
  | _, .for_ g it b => fun S s => match s with
    | .For tg iter body [] _ => S.cm && (S.st && (plainIt iter && ((!needT it || isTup tg) && (chk L it S iter && (chk L g S tg && chk L b S body)))))
    | _ => false
  | _, .whl c b => fun S s => match s with
    | .While c' body [] _ => S.st && (chk L c S c' && chk L b S body)
    | _ => false
  | _, .raise c f x => fun S s => match s with
    | .Raise (some (.Call (.Name c' _) [e] [] _)) none _ => decide (c = c') && (decide ((c, f) ∈ L.xs) && (S.cm && (glB S.sc c && (notStar e && chk L x S e))))
    | _ => false
  | _, .try_ b h => fun S s => match s with
    | .Try body (h0 :: hs) [] [] _ => S.cm && (S.st && (chk L b { S with md := false, hp := false } body && chk L h { S with cm := false, st := false, md := false, hp := false } (h0 :: hs)))
    | _ => false
  | _, .tryr h1 h2 c f b x => fun S s => match s with
    | .Try body [.ExceptHandler (some (.Tuple [.Name a1 _, .Name a2 _] _ _)) none [.Raise (some (.Call (.Name c' _) [e] [] _)) none _] _] [] [] _ =>
      decide (h1 = a1) && (decide (h2 = a2) && (decide (c = c') && (decide ((c, f) ∈ L.xs) && (decide (a1 ∈ L.xs.map (·.1)) && (decide (a2 ∈ L.xs.map (·.1)) && (S.cm && (S.st && (S.hp && (!S.md && (glB S.sc a1 && (glB S.sc a2 && (glB S.sc c && (notStar e &&
        (chk L b { S with md := true, hp := false } body && chk L x { S with cm := false, st := false, md := false, hp := false } e))))))))))))))
    | _ => false
  | _, .tryx b => fun S s => match s with
    | .Try body (_ :: _) [] [] _ => chk L b S body
    | _ => false
  | _, .bnil => fun _ s => match s with
    | [] => true
    | _ => false
  | _, .bone x => fun S s => match s with
    | [a] => chk (k := .s) L x S a
    | _ => false
  | _, .bcons x b => fun S s => match s with
    | a :: r => chk L x S a && chk L b S r
    | _ => false
  | _, .hnil => fun _ s => match s with
    | [] => true
    | _ => false
  | _, .hcons c b h => fun S s => match s with
    | .ExceptHandler (some (.Name x _)) none (b0 :: sts) _ :: r => decide (x = c) && (glB S.sc x && (decide (x ∈ L.xs.map (·.1)) && (chk L b S (b0 :: sts) && chk L h S r)))
    | _ => false
end R
set_option maxHeartbeats 4000000
/-! R18: what is checked, is so. -/
namespace R
open PySem PySem.Spec L2
open PyProof.Rows hiding St
def cxB (n : Bool) (P : Program) (w : World) : CXT := match n with
  | true => L2N.CX P w
  | false => L2.CX P w
def CalI (P : Program) (w : World) (K : PySem.W.Frag) (mg : Str → Option Value) (base : Heap) (k : Nat) (φ : List PV → RM PV) (mcl mnm : Str) : CK → Prop
  | .glob x n => ∃ f ar, mg x = some (.ref f) ∧ FnC0 P w K mg base (cxB n P w) k f ar φ
  | .stat c x n => ∃ rc f ar, SMet K (He.ga K c) x rc f ∧ mg c = some (.ref (He.ga K c)) ∧ FnC0 P w K mg base (cxB n P w) k f ar φ
  | .new c fz n => ∃ f ar φ', Mk K (He.ga K c) f ∧ mg c = some (.ref (He.ga K c)) ∧ FnC0 P w K mg base (cxB n P w) k f ar φ' ∧ φ = (if fz then newF c φ' else newW c φ')
  | .meth c x n => ∃ f ar, Cls K (He.ga K c) ∧ Meth K (He.ga K c) x f ∧ FnC0 P w K mg base (cxB n P w) k f ar φ ∧ mcl = c ∧ mnm = x
  | .prop c x n => ∃ p g ar, Cls K (He.ga K c) ∧ PropOf K (He.ga K c) x p g ∧ FnC0 P w K mg base (cxB n P w) k g ar φ ∧ mcl = c
  | .kw2 x k1 k2 n => ∃ f, mg x = some (.ref f) ∧ FnKw P w K mg base (cxB n P w) k f k1 k2 φ
def bltNames : List Str := ["len", "all", "any", "sum", "abs", "max", "min", "divmod", "sorted", "tuple", "list", "str", "int", "bool", "dict", "isinstance", "range", "enumerate", "zip", "repr"]
structure CtxOk (L : Lc) (D : Wd) (S : Sc) (k : Nat) (X : Cx) (W : WX) : Prop where
  sc : X.env.scope = S.sc
  fn : X.fn = S.fn
  N : X.N = L.N
  nd : X.N.Nodup
  kind : S.sc.kind = .function
  un : X.A.units + 65 < cLine
  calm : S.cm = true → X.calm = true
  room : S.cm = true → RoomG (k + 2) X.A
  tkN : S.cm = true → L2N.Takes X W
  tkL : S.cm = true → S.md = false → L2.Takes X W
  st : S.st = true → PassesOwn (model X.prog X.w) X.A X.env X.xe ∧ X.stack = X.env :: X.outer ∧ X.env.frame = some X.env.locals
  cal : ∀ i c, L.cal[i]? = some c → CalI X.prog X.w X.K X.mg X.base k (D.fn i) (D.mcl i) (D.mnm i) c
  gv : ∀ i x, L.gv[i]? = some x → GloC0 X.K X.mg x (D.gv i)
  dc : ∀ i x, L.dc[i]? = some x → DicC0 X.K X.w X.mg x (D.dc i)
  fl : ∀ c f, (c, f) ∈ L.fl → Cls X.K (He.ga X.K c) ∧ NoAttr X.K (He.ga X.K c) f
  xs : ∀ c f, (c, f) ∈ L.xs → ExC0 X.prog X.w X.K X.mg X.base c f
  mt : ∀ c h b, D.mt c h = some b → PySem.W.exmOne X.K (.ref (He.ga X.K c)) (.ref (He.ga X.K h)) = some b
  bt : ∀ x ∈ bltNames, X.mg x = none
  hp : S.hp = true → ∀ hd : Option Value, PassesOwnAt (model X.prog X.w) (X.A.mark hd) X.A X.env X.xe
inductive QHp (X : Cx) (W : WX) : List ExceptHandler → List (Str × SM) → Prop
  | nil : QHp X W [] []
  | cons {h : Str} {F : SM} {b₀ : Stmt} {suite : List Stmt} {np pos' : Pos} {hds : List ExceptHandler} {l : List (Str × SM)} (hg : Gl X h) (hdb : (h == ("__debug__" : Str)) = false) (hm : X.mg h = some (.ref (He.ga X.K h)))
      (hsu : QSs X W (b₀ :: suite) F) (r : QHp X W hds l) : QHp X W (.ExceptHandler (some (.Name h np)) none (b₀ :: suite) pos' :: hds) ((h, F) :: l)
theorem qh_of {X : Cx} : ∀ {hds : List ExceptHandler} {l : List (Str × SM)}, (∀ a pn, QHp (X.suite a pn) Wn hds l) → QH X hds l := by
  intro hds
  induction hds with
  | nil =>
    intro l h
    cases h 0 []
    exact .nil
  | cons a r ih =>
    intro l h
    have h0 := h 0 []
    cases h0 with
    | cons hg hdb hm hsu hr =>
      refine .cons hg hdb hm (fun a pn => ?_) (ih fun a pn => ?_)
      · cases h a pn with
        | cons _ _ _ hsu _ => exact hsu
      · cases h a pn with
        | cons _ _ _ _ hr => exact hr
def isBo : Expr → Bool
  | .BoolOp _ _ _ => true | _ => false
structure QEb (X : Cx) (W : WX) (e : Expr) (f : Env → RM PV) : Prop where
  qe : QE X W e f
  pw : isBo e = true → PW X e (denT X.K W fun s => f s >>= asB)
def Snd (D : Wd) : (kd : Kd) → Tm kd → Syn kd → Cx → WX → Prop
  | .e, t, s, X, W => QEb X W s (ev D t)
  | .a, t, s, X, W => QA X W s (ev D t)
  | .o, t, s, X, W => QO X W s (ev D t)
  | .i, t, s, X, W => ∀ tg, (needT t = true → isTup tg = true) → QI X W tg s (ev D t)
  | .t, t, s, X, W => QT X W s (ev D t)
  | .g, t, s, X, W => QG X s (slots t) (ev D t)
  | .gs, t, s, X, W => QGs X s (slots t) (ev D t)
  | .s, t, s, X, W => QS X W s (ev D t)
  | .b, t, s, X, W => QSs X W s (ev D t)
  | .h, t, s, X, W => QHp X W s (ev D t)
section
variable {L : Lc} {D : Wd} {S : Sc} {k : Nat} {X : Cx} {W : WX}
theorem andB {a b : Bool} (h : (a && b) = true) : a = true ∧ b = true := Bool.and_eq_true_iff.mp h
theorem okN_1 {x : Str} (h : okN x = true) : (x == ("__debug__" : Str)) = false := by
  have := (andB h).1
  simpa using this
theorem okN_2 {x : Str} (h : okN x = true) : (x == ("__classdict__" : Str)) = false := by
  have := (andB (andB h).2).1
  simpa using this
theorem okN_3 {x : Str} (h : okN x = true) : x ≠ "__name__" := by
  have := (andB (andB h).2).2
  intro e
  subst e
  simp at this
theorem CtxOk.vis (C : CtxOk L D S k X W) {x : Str} (h : visB S.sc x = true) : Vis X.env.scope x := by
  rw [C.sc]
  unfold visB at h
  split at h
  · exact .inl ‹_›
  · exact .inr (.inl ‹_›)
  · exact .inr (.inr ‹_›)
  · cases h
theorem CtxOk.loc (C : CtxOk L D S k X W) {x : Str} (h : locB S.sc x = true) : Loc X.env.scope x := by
  rw [C.sc]
  unfold locB at h
  split at h
  · exact .inl ‹_›
  · exact .inr ‹_›
  · cases h
theorem CtxOk.gl (C : CtxOk L D S k X W) {x : Str} (h : glB S.sc x = true) : Gl X x := by
  have := of_decide_eq_true (andB h).2
  show X.env.scope.names.lookup x = _
  rw [C.sc]; exact this
theorem gl1 {sc : Scope} {x : Str} (h : glB sc x = true) : (x == ("__debug__" : Str)) = false := okN_1 (andB h).1
theorem gl3 {sc : Scope} {x : Str} (h : glB sc x = true) : x ≠ "__name__" := okN_3 (andB h).1
theorem CtxOk.pass (C : CtxOk L D S k X W) {n : Bool} (h : calF n S = true) : ∀ σ, PassesAt (cxB n X.prog X.w) X σ (WE W σ) := fun σ => by
  obtain ⟨h1, h2⟩ := andB h
  cases n with
  | true => exact L2N.passAt (C.tkN h1) σ
  | false =>
    have : S.md = false := by simpa using h2
    exact L2.passAt (C.tkL h1 this) σ
theorem passB {n : Bool} : Passes (cxB n X.nox.prog X.nox.w) X.nox E0 := by
  cases n with
  | true => exact fun _ _ _ _ _ _ _ ⟨_, _, _, _, _, _, _, _, _, _, _, _, z⟩ => z.elim
  | false => exact passL
theorem CtxOk.rm (C : CtxOk L D S k X W) {n : Bool} (h : calF n S = true) : RoomG (k + 1) X.A := (C.room (andB h).1).mono (by omega)
theorem CtxOk.rm0 (C : CtxOk L D S k X W) {n : Bool} (h : calF n S = true) : RoomG k X.A := (C.room (andB h).1).mono (by omega)
theorem CtxOk.blk (C : CtxOk L D S k X W) {scope : Scope} (hcm : S.cm = true) (hk : scope.kind = .function) (s : Shared) (H : Hp) (Ca : Addr) (cl : List (Str × Addr)) (fp : List Addr) : CtxOk L D (blkS scope S) k (X.blk s H scope (compEnvC scope cl Ca X.env) fp) Wn where
  sc := by
    show relabel scope X.env = relS scope S.sc
    rw [← C.sc]; rfl
  fn := rfl
  N := C.N
  nd := C.nd
  kind := hk
  un := C.un
  calm := C.calm
  room := C.room
  tkN := fun _ => takesN_none
  tkL := fun _ _ => takes_none5
  st := fun h => by cases h
  cal := C.cal
  gv := C.gv
  dc := C.dc
  fl := C.fl
  xs := C.xs
  mt := C.mt
  bt := C.bt
  hp := fun h => by cases h
theorem CtxOk.tr (C : CtxOk L D S k X W) (W' : WX) (pn : List (Addr × Obj)) (xe : Value → Shared → Prop) (tk : L2.Takes (X.tr pn xe) W') (po : PassesOwn (model X.prog X.w) X.A X.env xe) (hst : S.st = true) : CtxOk L D { S with md := false, hp := false } k (X.tr pn xe) W' where
  sc := C.sc
  fn := C.fn
  N := C.N
  nd := C.nd
  kind := C.kind
  un := C.un
  calm := C.calm
  room := C.room
  tkN := fun _ => takesN_of tk
  tkL := fun _ _ => tk
  st := fun h => ⟨po, (C.st hst).2⟩
  cal := C.cal
  gv := C.gv
  dc := C.dc
  fl := C.fl
  xs := C.xs
  mt := C.mt
  bt := C.bt
  hp := fun h => by cases h
theorem CtxOk.suite (C : CtxOk L D S k X W) (a : Addr) (pn : List (Addr × Obj)) : CtxOk L D { S with cm := false, st := false, md := false, hp := false } k (X.suite a pn) Wn where
  sc := C.sc
  fn := C.fn
  N := C.N
  nd := C.nd
  kind := C.kind
  un := C.un
  calm := fun h => by cases h
  room := fun h => by cases h
  tkN := fun h => by cases h
  tkL := fun h => by cases h
  st := fun h => by cases h
  cal := C.cal
  gv := C.gv
  dc := C.dc
  fl := C.fl
  xs := C.xs
  mt := C.mt
  bt := C.bt
  hp := fun h => by cases h
theorem CtxOk.trN (C : CtxOk L D S k X W) (W' : WX) (pn : List (Addr × Obj)) (xe : Value → Shared → Prop) (tk : L2N.Takes (X.tr pn xe) W') (po : PassesOwn (model X.prog X.w) X.A X.env xe) (hst : S.st = true) : CtxOk L D { S with md := true, hp := false } k (X.tr pn xe) W' where
  sc := C.sc
  fn := C.fn
  N := C.N
  nd := C.nd
  kind := C.kind
  un := C.un
  calm := C.calm
  room := C.room
  tkN := fun _ => tk
  tkL := fun _ h => by cases h
  st := fun h => ⟨po, (C.st hst).2⟩
  cal := C.cal
  gv := C.gv
  dc := C.dc
  fl := C.fl
  xs := C.xs
  mt := C.mt
  bt := C.bt
  hp := fun h => by cases h
theorem CtxOk.suiteX (C : CtxOk L D S k X W) (a : Addr) (pn : List (Addr × Obj)) : CtxOk L D { S with cm := false, st := false, md := false, hp := false } k (L2H.suiteX X a pn) W where
  sc := C.sc
  fn := C.fn
  N := C.N
  nd := C.nd
  kind := C.kind
  un := C.un
  calm := fun h => by cases h
  room := fun h => by cases h
  tkN := fun h => by cases h
  tkL := fun h => by cases h
  st := fun h => by cases h
  cal := C.cal
  gv := C.gv
  dc := C.dc
  fl := C.fl
  xs := C.xs
  mt := C.mt
  bt := C.bt
  hp := fun h => by cases h
theorem CtxOk.nox (C : CtxOk L D S k X W) : CtxOk L D S k X.nox Wn where
  sc := C.sc
  fn := C.fn
  N := C.N
  nd := C.nd
  kind := C.kind
  un := C.un
  calm := C.calm
  room := C.room
  tkN := fun _ => takesN_none
  tkL := fun _ _ => takes_none5
  st := fun h => ⟨fun _ _ z => z.elim, (C.st h).2⟩
  cal := C.cal
  gv := C.gv
  dc := C.dc
  fl := C.fl
  xs := C.xs
  mt := C.mt
  bt := C.bt
  hp := fun _ _ => fun _ _ z => z.elim
theorem CtxOk.hu (C : CtxOk L D S k X W) : X.A.units + 64 < cLine := by have := C.un; omega
theorem bop_ok (op : Bop) : OpV X W (binaryOp (bopE op)) (bopV op) := by
  cases op
  · exact opv_addW
  · exact opv_sub
  · exact opv_mul
  · exact opv_fdiv
  · exact opv_mod
  · exact opv_pow
  · exact opv_addM
theorem cop_ok (hu : X.A.units + 65 < cLine) (op : Cop) : OpV X W (compareOp (copE op)) (copV op) := by
  cases op
  · exact opv_eqX (by omega)
  · exact opv_neX (by omega)
  · exact opv_lt
  · exact opv_le
  · exact opv_gt
  · exact opv_ge
  · exact opv_inX hu
  · exact opv_ninX hu
  · exact opv_is
  · exact opv_nis
theorem CtxOk.bi (C : CtxOk L D S k X W) (b : Bi) (hc : (!biC b || S.cm) = true) (hg : glB S.sc (biN b) = true) {e : Expr} {es : List Expr} {fa : Env → RM (List PV)} {p pos : Pos} (ha : QA X W (e :: es) fa) (hs : (e :: es).all notStar = true) : QE X W (.Call (.Name (biN b) p) (e :: es) [] pos) (fun e => fa e >>= biV b) := by
  have g := C.gl hg
  have m := C.bt (biN b) (by cases b <;> decide +kernel)
  have d := gl1 hg
  have n := gl3 hg
  cases b
  · exact qe_callB cv_len g m (by kernel_rfl) ha hs n d
  · exact qe_callB (cv_all (C.calm hc)) g m (by kernel_rfl) ha hs n d
  · exact qe_callB (cv_any (C.calm hc)) g m (by kernel_rfl) ha hs n d
  · exact qe_callB (cv_sum (C.calm hc)) g m (by kernel_rfl) ha hs n d
  · exact qe_callB cv_abs g m (by kernel_rfl) ha hs n d
  · exact qe_callB (cv_max (C.calm hc)) g m (by kernel_rfl) ha hs n d
  · exact qe_callB (cv_min (C.calm hc)) g m (by kernel_rfl) ha hs n d
  · exact qe_callB cv_divmod g m (by kernel_rfl) ha hs n d
  · exact qe_callB cv_sorted g m (by kernel_rfl) ha hs n d
  · exact qe_callTy cv_tuple g m (by kernel_rfl) ha hs n d
  · exact qe_callTy cv_list g m (by kernel_rfl) ha hs n d
  · exact qe_callTy cv_str g m (by kernel_rfl) ha hs n d
  · exact qe_callTy cv_int g m (by kernel_rfl) ha hs n d
  · exact qe_callB (cv_repr (C.room hc).gd C.un) g m (by kernel_rfl) ha hs n d
end
end R
set_option maxHeartbeats 4000000
/-! R19: what is checked, is so: the induction. -/
namespace R
open PySem PySem.Spec L2
open PyProof.Rows hiding St
section
variable {L : Lc} {D : Wd} {S : Sc} {k : Nat} {X : Cx} {W : WX}
theorem CtxOk.bm (C : CtxOk L D S k X W) (b : Bm) {o e : Expr} {es : List Expr} {f : Env → RM PV} {fa : Env → RM (List PV)} {ap pos : Pos} (ho : QE X W o f) (ha : QA X W (e :: es) fa) (hn : notSuper o = true) (hs : (e :: es).all notStar = true) (hl : (e :: es).length < 30) (hline : (ap.endLine == pos.line) = true) :
    QE X W (.Call (.Attribute o (bmN b) ap) (e :: es) [] pos) (fMeth (bmT b) (bmV b) f fa) := by
  cases b
  · exact qe_bm PySem.F.plainAttrs_list PySem.F.slot_list_append PySem.F.type_list_append mv_append ho ha hn hs hl hline
  · exact qe_bm PySem.F.plainAttrs_str PySem.F.slot_str_split PySem.F.type_str_split mv_split ho ha hn hs hl hline
  · exact qe_bm PySem.F.plainAttrs_str PySem.F.slot_str_join PySem.F.type_str_join mv_join ho ha hn hs hl hline
theorem CtxOk.isi (C : CtxOk L D S k X W) {a : Expr} {f : Env → RM PV} {p p2 pos : Pos} (t : Ty) (hg : glB S.sc "isinstance" = true) (hg2 : glB S.sc (tyN t) = true) (ha : QE X W a f) (hs : notStar a = true) : QE X W (.Call (.Name "isinstance" p) [a, .Name (tyN t) p2] [] pos) (fun e => f e >>= isiW (tyS t)) := by
  have m := C.bt (tyN t) (by cases t <;> decide +kernel)
  have m1 := C.bt "isinstance" (by decide +kernel)
  cases t <;> exact qe_isi (C.gl hg) m1 (C.gl hg2) m (by kernel_rfl) (gl3 hg2) (gl1 hg2) ha hs
theorem isTup_ok {tg : Expr} (h : isTup tg = true) : ∃ es k p, tg = .Tuple es k p := by
  cases tg <;> first | exact ⟨_, _, _, rfl⟩ | cases h
theorem pt_ifExp {c a b : Expr} {pos : Pos} {tc ta tb : TT} (hc : PT X c tc) (ha : PT X a ta) (hb : PT X b tb) : PT X (.IfExp c a b pos) (fun σ H Q => tc σ H fun d H1 => if d = true then ta σ H1 Q else tb σ H1 Q) := by
  refine ⟨fun pins s σ H Q I h => ?_⟩
  show wpAny (model X.prog X.w) X.A (do if ← isTrue c X.env (eval c X.env) then isTrue a X.env (eval a X.env) else isTrue b X.env (eval b X.env)) _ _ _
  refine wpAny_bind (thn (hc.run pins s σ H _ I h) fun d s1 ⟨H1, I1, q1⟩ => ?_)
  cases d with
  | true => exact ha.run pins s1 σ H1 Q I1 q1
  | false => exact hb.run pins s1 σ H1 Q I1 q1
theorem qe_ite {c a b : Expr} {pos : Pos} {h f g : Env → RM PV} (hc : QE X W c h) (ha : QE X W a f) (hb : QE X W b g) : QE X W (.IfExp c a b pos) (fIf h f g) := by
  refine qe_ifExp hc ha hb (PT.imp (pt_ifExp hc.pt ha.pt hb.pt) fun σ H Q ⟨G, ρ, M, e, s, r, q⟩ => ⟨G, ρ, M, e, s, r, ?_⟩)
  have q' : outR X.K RB W G ρ σ ((h e >>= asB >>= fun k => (if k then f e else g e) >>= asB) M) Q := by
    unfold fIf at q
    simp only [bind_eq] at q ⊢
    cases w : h e M with
    | ok z M3 =>
      rw [w] at q
      dsimp only at q ⊢
      cases w2 : asB z M3 with
      | ok k M4 => rw [w2] at q; exact q
      | exc c xs M3 => rw [w2] at q; exact q
      | bad => rw [w2] at q; exact q
    | exc c xs M3 => rw [w] at q; exact q
    | bad => rw [w] at q; exact q
  refine outR_asT q' fun k G1 ρ1 M1 H1 x1 s1 q1 => ?_
  cases k with
  | true => exact ⟨G1, ρ1, M1, e, s1, r.ext x1, q1⟩
  | false => exact ⟨G1, ρ1, M1, e, s1, r.ext x1, q1⟩

theorem noBo {e : Expr} {f : Env → RM PV} (h : QE X W e f) (hb : isBo e = false) : QEb X W e f := ⟨h, fun z => by rw [hb] at z; cases z⟩
theorem list_ne {α : Type} {l : List α} (h : (!l.isEmpty) = true) : ∃ a r, l = a :: r := by
  cases l with
  | nil => cases h
  | cons a r => exact ⟨a, r, rfl⟩
theorem CtxOk.cll (C : CtxOk L D S k X W) {i : Nat} {x : Str} {n : Bool} {es : List Expr} {fa : Env → RM (List PV)} {p pos : Pos} (hi : L.cal[i]? = some (.glob x n)) (hg : glB S.sc x = true) (hn : calF n S = true) (hs : es.all notStar = true) (h0 : es = [] → fa = fNil) (ha : QA X W es fa) : QE X W (.Call (.Name x p) es [] pos) (fun e => fa e >>= D.fn i) := by
  obtain ⟨f, ar, hm, F⟩ := C.cal i _ hi
  cases es with
  | cons e es => exact qe_call F (C.rm0 hn) (C.gl hg) hm (C.pass hn) ha hs (gl1 hg)
  | nil =>
    have e0 := h0 rfl
    subst e0
    by_cases har : ar = 0
    · subst har
      exact qe_call0 (pos := pos) (p := p) F (C.rm0 hn) (C.gl hg) hm (C.pass hn) (gl1 hg)
    · refine QE.of ⟨fun pins s σ H Q I ⟨G, ρ, M, e, _, _, q⟩ => ?_⟩
      have hb : D.fn i [] M = .bad := Classical.byContradiction fun z => har (F.ar [] M z).symm
      have q' : outR X.K (Rep X.K) W G ρ σ (D.fn i [] M) Q := q
      rw [hb] at q'
      exact q'.elim
theorem CtxOk.mtd (C : CtxOk L D S k X W) {i : Nat} {c m : Str} {n : Bool} {o : Expr} {es : List Expr} {f : Env → RM PV} {fa : Env → RM (List PV)} {ap pos : Pos} (hi : L.cal[i]? = some (.meth c m n)) (hn : calF n S = true) (ho : QE X W o f) (hns : notSuper o = true) (hs : es.all notStar = true) (hl : es.length < 30) (hline : (ap.endLine == pos.line) = true) (h0 : es = [] → fa = fNil) (ha : QA X W es fa) :
    QE X W (.Call (.Attribute o m ap) es [] pos) (fun e => f e >>= fun v => methW (· == D.mcl i) (D.mnm i) (D.fn i) v (fa e)) := by
  obtain ⟨fa0, ar, cl, hm, F, e1, e2⟩ := C.cal i _ hi
  rw [e1, e2]
  cases es with
  | cons e es => exact qe_meth cl hm F (C.rm0 hn) (C.pass hn) ho ha hns hs hl hline
  | nil =>
    have e0 := h0 rfl
    subst e0
    exact qe_meth0 cl hm F (C.rm0 hn) (C.pass hn) ho hns hline
theorem nilA {l : Tm .a} (h : chk L l S [] = true) : ev D l = fNil := by
  cases l with
  | nil => rfl
  | cons x l => cases h
  | star x l => cases h
theorem kind_ok {sc scope : Scope} {own : List (Str × Nat)} {N : List Str} (h : blkC N sc scope own = true) : scope.kind = .function := (blkOk_by h).kind
theorem CtxOk.swn (C : CtxOk L D S k X W) {tg e : Expr} (h : swNone S.sc tg e = true) : swappedStores [tg] e X.env = pure none := by
  unfold swNone at h
  split at h
  · have h := of_decide_eq_true h
    refine swp_ok ?_
    rw [← C.sc] at h
    have hk : X.env.blockKind = .function := by
      have : X.env.scope.kind = .function := by rw [C.sc]; exact C.kind
      unfold Env.blockKind; rw [this]; rfl
    unfold swpS at h
    unfold swp
    have hk2 : (X.env.blockKind != .function) = false := by rw [hk]; rfl
    rw [hk2, Bool.or_false]
    exact h
  · cases h
  · rename_i h1 h2
    refine noSwap ?_
    cases tg <;> first | rfl | (cases e <;> first | rfl | exact (h1 _ _ _ _ _ _ rfl rfl).elim | exact (h2 _ _ _ _ _ rfl rfl).elim)
theorem CtxOk.sws (C : CtxOk L D S k X W) {ts vs : List Expr} {k1 k2 : Nat} {p1 p2 : Pos} {r : List Str} (h : swpS S.sc ts vs = some (some r)) : swappedStores [.Tuple ts k1 p1] (.Tuple vs k2 p2) X.env = pure (some r) := by
  refine swp_ok ?_
  rw [← C.sc] at h
  have hk : X.env.blockKind = .function := by
    have : X.env.scope.kind = .function := by rw [C.sc]; exact C.kind
    unfold Env.blockKind; rw [this]; rfl
  unfold swpS at h
  unfold swp
  have hk2 : (X.env.blockKind != .function) = false := by rw [hk]; rfl
  rw [hk2, Bool.or_false]
  exact h
theorem CtxOk.swl (C : CtxOk L D S k X W) {t : Str} {p q : Pos} {el : Expr} {gs : List Comprehension} {s : Scope} {l : Nat} : swapsWith (.ListComp el gs s q) (some (.Name t p)) l X.env = pure (swB S.sc (.Name t p) (.ListComp el gs s q)) := by
  have hk : X.env.blockKind = .function := by
    have : X.env.scope.kind = .function := by rw [C.sc]; exact C.kind
    unfold Env.blockKind; rw [this]; rfl
  have e : swB S.sc (.Name t p) (.ListComp el gs s q) = (X.env.blockKind == .function && X.env.kindOf t == some .local && p.line == q.line && !(s.names.any fun (n, k) => n == t && (k == .local || k == .cell))) := by
    rw [hk]
    show (S.sc.names.lookup t == some .local && p.line == q.line && !(s.names.any fun (n, k) => n == t && (k == .local || k == .cell))) = _
    rw [← C.sc]
    rfl
  rw [e]
  rfl
theorem CtxOk.swc (C : CtxOk L D S k X W) {tg e : Expr} {l : Nat} (h1 : lcFree e = true) (h2 : swB S.sc tg e = false) : swapsWithSole [tg] e l X.env = pure false := by
  by_cases hn : noComp e = true
  · exact sole_eq hn
  · cases e with
    | ListComp el gs s q =>
      cases tg with
      | Name t p =>
        show swapsWith (.ListComp el gs s q) (some (.Name t p)) l X.env = pure false
        rw [C.swl, h2]
      | _ => rfl
    | SetComp _ _ _ _ => cases h1
    | DictComp _ _ _ _ _ => cases h1
    | _ => exact (hn rfl).elim
end
end R
set_option maxHeartbeats 4000000
/-! R20: what is checked, is so: the induction. -/
namespace R
open PySem PySem.Spec L2
open PyProof.Rows hiding St
theorem ifL {X : Cx} {W : WX} {s : Expr} {m : Bool} {f g : Env → RM PV} (h1 : QE X W s f) (h2 : QE X W s g) : QE X W s (if m then f else g) := by
  cases m
  · exact h2
  · exact h1
def isNm : Expr → Bool
  | .Name _ _ => true | _ => false
theorem nm_ok {t : Expr} (h : isNm t = true) : ∃ x p, t = .Name x p := by cases t <;> first | exact ⟨_, _, rfl⟩ | cases h
theorem names_le : ∀ ts : List Expr, (namesOf ts).length ≤ ts.length
  | [] => Nat.le_refl _
  | t :: ts => by
    have := names_le ts
    by_cases h : isNm t = true
    · obtain ⟨x, p, e⟩ := nm_ok h
      subst e
      simp only [namesOf, List.length_cons]; omega
    · have e : namesOf (t :: ts) = namesOf ts := by cases t <;> first | rfl | exact (h rfl).elim
      rw [e, List.length_cons]; omega
theorem names_all : ∀ {ts : List Expr}, (namesOf ts).length = ts.length → ts.all isNm = true
  | [], _ => rfl
  | t :: ts, hl => by
    have := names_le ts
    by_cases h : isNm t = true
    · obtain ⟨x, p, e⟩ := nm_ok h
      subst e
      simp only [namesOf, List.length_cons, Nat.add_right_cancel_iff] at hl
      rw [List.all_cons, h, names_all hl]; rfl
    · have e : namesOf (t :: ts) = namesOf ts := by cases t <;> first | rfl | exact (h rfl).elim
      rw [e, List.length_cons] at hl; omega
theorem CtxOk.par {L : Lc} {D : Wd} {S : Sc} {k : Nat} {X : Cx} {W : WX} (C : CtxOk L D S k X W) {ix : List Nat} {ts vs : List Expr} {k1 k2 : Nat} {p1 p2 p3 : Pos} {fa : Env → RM (List PV)} (h1 : S.cm = true) (h2 : swpS S.sc ts vs = some (some (namesOf ts))) (h3 : ixOk L.N ix (namesOf ts) = true) (h4 : ts.length = ix.length) (h5 : vs.length = ix.length) (h10 : (ix.length == 2 || ix.length == 3) = true)
    (h6 : (namesOf ts).all (fun x => decide (S.sc.names.lookup x = some .local)) = true) (a : QA X W vs fa) : QS X W (.Assign [.Tuple ts k1 p1] (.Tuple vs k2 p2) p3) (sPar ix fa) := by
  have hw := C.sws (k1 := k1) (k2 := k2) (p1 := p1) (p2 := p2) h2
  obtain ⟨h8, h9⟩ := andB h3
  have h8 := of_decide_eq_true h8
  have h9 := of_decide_eq_true h9
  rw [← C.N] at h8
  rw [← C.sc] at h6
  have nl : (namesOf ts).length = ts.length := by
    have := congrArg List.length h8
    simp only [List.length_map] at this
    omega
  have al := names_all nl
  match ix, ts, vs, h4, h5, h10 with
  | [i, j], [t1, t2], [v1, v2], _, _, _ =>
    simp only [List.all_cons, List.all_nil, Bool.and_true, Bool.and_eq_true] at al
    obtain ⟨x, q1, e1⟩ := nm_ok al.1
    obtain ⟨y, q2, e2⟩ := nm_ok al.2
    subst e1 e2
    simp only [namesOf, List.map_cons, List.map_nil, List.cons.injEq, and_true, List.all_cons, List.all_nil, Bool.and_true, Bool.and_eq_true, decide_eq_true_iff, List.nodup_cons, List.mem_cons, List.not_mem_nil, or_false, not_false_eq_true, List.nodup_nil] at h8 h9 h6 hw
    exact qs_par2 (C.calm h1) C.nd h8.1 h8.2 h9 h6.1 h6.2 a hw
  | [i, j, l3], [t1, t2, t3], [v1, v2, v3], _, _, _ =>
    simp only [List.all_cons, List.all_nil, Bool.and_true, Bool.and_eq_true] at al
    obtain ⟨x, q1, e1⟩ := nm_ok al.1
    obtain ⟨y, q2, e2⟩ := nm_ok al.2.1
    obtain ⟨z, q3, e3⟩ := nm_ok al.2.2
    subst e1 e2 e3
    simp only [namesOf, List.map_cons, List.map_nil, List.cons.injEq, and_true, List.all_cons, List.all_nil, Bool.and_true, Bool.and_eq_true, decide_eq_true_iff, List.nodup_cons, List.mem_cons, List.not_mem_nil, or_false, not_false_eq_true, List.nodup_nil, not_or] at h8 h9 h6 hw
    exact qs_par3 (C.calm h1) C.nd h8.1 h8.2.1 h8.2.2 h9.1.1 h9.1.2 h9.2 h6.1 h6.2.1 h6.2.2 a hw
  | [], _, _, _, _, h => cases h
  | [_], _, _, _, _, h => cases h
  | _ :: _ :: _ :: _ :: _, _, _, _, _, h => simp at h
theorem sound (L : Lc) (D : Wd) (k : Nat) {kd : Kd} (t : Tm kd) : ∀ (S : Sc) (s : Syn kd) (X : Cx) (W : WX), chk L t S s = true → CtxOk L D S k X W → Snd D kd t s X W := by
  induction t with
  | var i =>
    intro S s X W h C
    simp only [chk] at h
    split at h
    · obtain ⟨h1, h2⟩ := andB h
      obtain ⟨h2, h3⟩ := andB h2
      exact noBo (qe_var (by rw [C.N]; exact of_decide_eq_true h1) (C.vis h2) (okN_1 h3) (okN_2 h3)) rfl
    · cases h
  | int z =>
    intro S s X W h C
    simp only [chk] at h
    split at h
    · have := of_decide_eq_true h
      subst this
      exact noBo qe_int rfl
    · cases h
  | bl z =>
    intro S s X W h C
    simp only [chk] at h
    split at h
    · have := of_decide_eq_true h
      subst this
      exact noBo qe_bl rfl
    · cases h
  | str z =>
    intro S s X W h C
    simp only [chk] at h
    split at h
    · have := of_decide_eq_true h
      subst this
      exact noBo qe_str rfl
    · cases h
  | non =>
    intro S s X W h C
    simp only [chk] at h
    split at h
    · exact noBo qe_non rfl
    · cases h
  | gv i =>
    intro S s X W h C
    simp only [chk] at h
    split at h
    · obtain ⟨h1, h2⟩ := andB h
      exact noBo (qe_gv (C.gl h2) (C.gv i _ (of_decide_eq_true h1)) (gl1 h2)) rfl
    · cases h
  | bin op x y ihx ihy =>
    intro S s X W h C
    simp only [chk] at h
    split at h
    · obtain ⟨h1, h2⟩ := andB h
      obtain ⟨h2, h3⟩ := andB h2
      have := of_decide_eq_true h1
      subst this
      exact noBo (qe_bin (bop_ok op) (ihx S _ X W h2 C).qe (ihy S _ X W h3 C).qe) rfl
    · cases h
  | cmp op x y ihx ihy =>
    intro S s X W h C
    simp only [chk] at h
    split at h
    · obtain ⟨h1, h2⟩ := andB h
      obtain ⟨h2, h3⟩ := andB h2
      obtain ⟨h3, h4⟩ := andB h3
      have := of_decide_eq_true h1
      subst this
      exact noBo (qe_cmp (cop_ok C.un op) (ihx S _ X W h3 C).qe (ihy S _ X W h4 C).qe (by simpa using h2)) rfl
    · cases h
  | chain op op' x y z ihx ihy ihz =>
    intro S s X W h C
    simp only [chk] at h
    split at h
    · obtain ⟨h1, h⟩ := andB h
      obtain ⟨h2, h⟩ := andB h
      obtain ⟨h3, h⟩ := andB h
      obtain ⟨h4, h⟩ := andB h
      obtain ⟨h5, h6⟩ := andB h
      have e1 := of_decide_eq_true h1
      have e2 := of_decide_eq_true h2
      subst e1 e2
      exact noBo (qe_chain (cop_ok C.un op) (cop_ok C.un op') (ihx S _ X W h4 C).qe (ihy S _ X W h5 C).qe (ihz S _ X W h6 C).qe (by simpa using h3)) rfl
    · cases h
  | and1 x ihx =>
    intro S s X W h C
    simp only [chk] at h
    split at h
    · obtain ⟨a, b⟩ := qe_and1 (ihx S _ X W h C).qe
      exact ⟨a, fun _ => b⟩
    · cases h
  | and_ x y ihx ihy =>
    intro S s X W h C
    simp only [chk] at h
    split at h
    · obtain ⟨h1, h2⟩ := andB h
      have y2 := ihy S _ X W h2 C
      obtain ⟨a, b⟩ := qe_and (ihx S _ X W h1 C).qe y2.qe (y2.pw rfl)
      exact ⟨a, fun _ => b⟩
    · cases h
  | or1 x ihx =>
    intro S s X W h C
    simp only [chk] at h
    split at h
    · obtain ⟨a, b⟩ := qe_or1 (ihx S _ X W h C).qe
      exact ⟨a, fun _ => b⟩
    · cases h
  | or_ x y ihx ihy =>
    intro S s X W h C
    simp only [chk] at h
    split at h
    · obtain ⟨h1, h2⟩ := andB h
      have y2 := ihy S _ X W h2 C
      obtain ⟨a, b⟩ := qe_or (ihx S _ X W h1 C).qe y2.qe (y2.pw rfl)
      exact ⟨a, fun _ => b⟩
    · cases h
  | not_ x ihx =>
    intro S s X W h C
    simp only [chk] at h
    split at h
    · exact noBo (qe_not (ihx S _ X W h C).qe) rfl
    · cases h
  | neg x ihx =>
    intro S s X W h C
    simp only [chk] at h
    split at h
    · exact noBo (qe_neg (ihx S _ X W h C).qe) rfl
    · cases h
  | ite c x y ihc ihx ihy =>
    intro S s X W h C
    simp only [chk] at h
    split at h
    · obtain ⟨h1, h2⟩ := andB h
      obtain ⟨h2, h3⟩ := andB h2
      exact noBo (qe_ite (ihc S _ X W h1 C).qe (ihx S _ X W h2 C).qe (ihy S _ X W h3 C).qe) rfl
    · cases h
  | tup l ihl =>
    intro S s X W h C
    simp only [chk] at h
    split at h
    · exact noBo (qe_tup (ihl S _ X W h C)) rfl
    · cases h
  | lst m l ihl =>
    intro S s X W h C
    simp only [chk] at h
    split at h
    · have a := ihl S _ X W h C
      exact noBo (ifL (qe_lstM a) (qe_lst a)) rfl
    · cases h
  | idx x y ihx ihy =>
    intro S s X W h C
    simp only [chk] at h
    split at h
    · obtain ⟨h1, h2⟩ := andB h
      obtain ⟨h2, h3⟩ := andB h2
      exact noBo (qe_idx (ihx S _ X W h2 C).qe (ihy S _ X W h3 C).qe h1) rfl
    · cases h
  | rev x ihx =>
    intro S s X W h C
    simp only [chk] at h
    split at h
    · obtain ⟨h1, h2⟩ := andB h
      have := of_decide_eq_true h1
      subst this
      exact noBo (qe_back (ihx S _ X W h2 C).qe) rfl
    · cases h
  | dE =>
    intro S s X W h C
    simp only [chk] at h
    split at h
    · exact noBo qe_d0 rfl
    · cases h
  | d1 k =>
    intro S s X W h C
    simp only [chk] at h
    split at h
    · have := of_decide_eq_true h
      subst this
      exact noBo qe_d1 rfl
    · cases h
  | lstR op x c l o y z ihx ihl iho =>
    intro S s X W h C
    simp only [chk] at h
    split at h
    · rename_i a p c' j cp bp r lp
      obtain ⟨h1, ha⟩ := andB h
      obtain ⟨h2, hb⟩ := andB ha
      obtain ⟨h3, hc⟩ := andB hb
      obtain ⟨h4, hd⟩ := andB hc
      obtain ⟨h5, he⟩ := andB hd
      obtain ⟨h6, hf⟩ := andB he
      clear h ha hb hc hd he
      have e1 := of_decide_eq_true h1
      have e2 := of_decide_eq_true h2
      subst e1 e2
      split at hf
      · rename_i o' m ap y' j0 c0 z' j1 c1 rp hr
        obtain ⟨q1, ga⟩ := andB hf
        obtain ⟨q2, gb⟩ := andB ga
        obtain ⟨q3, gc⟩ := andB gb
        obtain ⟨q4, gd⟩ := andB gc
        obtain ⟨q5, q6⟩ := andB gd
        clear hf ga gb gc gd
        have f1 := of_decide_eq_true q1
        have f2 := of_decide_eq_true q2
        have f3 := of_decide_eq_true q3
        subst f1 f2 f3
        have hne : r ≠ [] := fun e => by subst e; cases hr
        have er : r = r.dropLast ++ [.Call (.Attribute o' "replace" ap) [.Constant (.str y') j0 c0, .Constant (.str z') j1 c1] [] rp] := by
          have e3 := List.dropLast_concat_getLast hne
          rw [List.getLast?_eq_some_getLast hne] at hr
          injection hr with hr
          rw [hr] at e3
          exact e3.symm
        rw [er]
        exact noBo (qe_lstR (bop_ok op) (ihx S _ X W h5 C).qe (ihl S _ X W h6 C) h4 (iho S _ X W q6 C).qe q4 (by simpa using h3) q5) rfl
      · cases hf
    · cases h
  | slc x l u ihx ihl ihu =>
    intro S s X W h C
    simp only [chk] at h
    split at h
    · obtain ⟨h1, h2⟩ := andB h
      obtain ⟨h2, h3⟩ := andB h2
      exact noBo (qe_slice (ihx S _ X W h1 C).qe (ihl S _ X W h2 C) (ihu S _ X W h3 C)) rfl
    · cases h
  | call i l ihl =>
    intro S s X W h C
    simp only [chk] at h
    split at h
    · split at h
      · rename_i hi
        obtain ⟨h1, h⟩ := andB h
        obtain ⟨h2, h⟩ := andB h
        obtain ⟨h3, h⟩ := andB h
        obtain ⟨h4, h5⟩ := andB h
        have := of_decide_eq_true h1
        subst this
        exact noBo (C.cll hi h2 h3 h4 (fun e => by subst e; exact nilA h5) (ihl S _ X W h5 C)) rfl
      · rename_i y fz n hi
        obtain ⟨h1, h⟩ := andB h
        obtain ⟨h2, h⟩ := andB h
        obtain ⟨h3, h⟩ := andB h
        obtain ⟨h4, h⟩ := andB h
        obtain ⟨h5, h6⟩ := andB h
        have := of_decide_eq_true h1
        subst this
        obtain ⟨a, r, e⟩ := list_ne h5
        subst e
        obtain ⟨f, ar, φ', mk, hm, F, e⟩ := C.cal i _ hi
        have a := ihl S _ X W h6 C
        refine noBo ?_ rfl
        show QE X W _ (fun e => ev D l e >>= D.fn i)
        rw [e]
        cases fz with
        | true => exact qe_newF mk F (C.rm h3) (C.gl h2) hm (C.pass h3) a h4 (gl1 h2)
        | false => exact qe_new mk F (C.rm h3) (C.gl h2) hm (C.pass h3) a h4 (gl1 h2)
      · cases h
    · split at h
      · rename_i hi
        obtain ⟨h1, h⟩ := andB h
        obtain ⟨h2, h⟩ := andB h
        obtain ⟨h3, h⟩ := andB h
        obtain ⟨h4, h⟩ := andB h
        obtain ⟨h5, h⟩ := andB h
        obtain ⟨h6, h⟩ := andB h
        obtain ⟨h7, h⟩ := andB h
        obtain ⟨h8, h9⟩ := andB h
        have := of_decide_eq_true h1
        subst this
        have := of_decide_eq_true h2
        subst this
        obtain ⟨a, r, e⟩ := list_ne h6
        subst e
        obtain ⟨rc, f, ar, sm, hm, F⟩ := C.cal i _ hi
        exact noBo (qe_static sm F (C.rm0 h4) (C.gl h3) hm (C.pass h4) (ihl S _ X W h9 C) (gl1 h3) h5 (of_decide_eq_true h7) h8) rfl
      · cases h
    · cases h
  | meth i x l ihx ihl =>
    intro S s X W h C
    simp only [chk] at h
    split at h
    · split at h
      · rename_i hi
        obtain ⟨h1, h⟩ := andB h
        obtain ⟨h2, h⟩ := andB h
        obtain ⟨h3, h⟩ := andB h
        obtain ⟨h4, h⟩ := andB h
        obtain ⟨h5, h⟩ := andB h
        obtain ⟨h6, h⟩ := andB h
        obtain ⟨h7, h8⟩ := andB h
        have := of_decide_eq_true h1
        subst this
        exact noBo (C.mtd hi h2 (ihx S _ X W h7 C).qe h3 h4 (of_decide_eq_true h5) h6 (fun e => by subst e; exact nilA h8) (ihl S _ X W h8 C)) rfl
      · cases h
    · cases h
  | prop i x ihx =>
    intro S s X W h C
    simp only [chk] at h
    split at h
    · split at h
      · rename_i hi
        obtain ⟨h1, h⟩ := andB h
        obtain ⟨h2, h⟩ := andB h
        obtain ⟨h3, h4⟩ := andB h
        have := of_decide_eq_true h1
        subst this
        obtain ⟨p, g, ar, cl, hp, F, e⟩ := C.cal i _ hi
        refine noBo ?_ rfl
        show QE X W _ (fun e => ev D x e >>= fun v => fieldsOf v >>= fun t => if t.1 == D.mcl i then quietR (D.fn i [v]) else RM.bad)
        rw [e]
        exact qe_prop cl hp F passB ((C.room h2).mono (by omega)) (ihx S _ X W h4 C).qe h3
      · cases h
    · cases h
  | bi b l ihl =>
    intro S s X W h C
    simp only [chk] at h
    split at h
    · obtain ⟨h1, h⟩ := andB h
      obtain ⟨h2, h⟩ := andB h
      obtain ⟨h3, h⟩ := andB h
      obtain ⟨h4, h⟩ := andB h
      obtain ⟨h5, h6⟩ := andB h
      have := of_decide_eq_true h1
      subst this
      obtain ⟨a, r, e⟩ := list_ne h4
      subst e
      exact noBo (C.bi b h5 h2 (ihl S _ X W h6 C) h3) rfl
    · cases h
  | isi x t ihx =>
    intro S s X W h C
    simp only [chk] at h
    split at h
    · obtain ⟨h1, h⟩ := andB h
      obtain ⟨h2, h⟩ := andB h
      obtain ⟨h3, h⟩ := andB h
      obtain ⟨h4, h⟩ := andB h
      obtain ⟨h5, h6⟩ := andB h
      have := of_decide_eq_true h1
      subst this
      have := of_decide_eq_true h3
      subst this
      exact noBo (C.isi t h2 h4 (ihx S _ X W h6 C).qe h5) rfl
    · cases h
  | fld c f x ihx =>
    intro S s X W h C
    simp only [chk] at h
    split at h
    · obtain ⟨h1, h⟩ := andB h
      obtain ⟨h2, h⟩ := andB h
      obtain ⟨h3, h4⟩ := andB h
      have := of_decide_eq_true h1
      subst this
      refine noBo (qe_fld (fun c' hc => ?_) (ihx S _ X W h4 C).qe h3) rfl
      have : c' = c := by simpa using hc
      subst this
      exact C.fl _ _ (of_decide_eq_true h2)
    · cases h
  | bm b x l ihx ihl =>
    intro S s X W h C
    simp only [chk] at h
    split at h
    · obtain ⟨h1, h⟩ := andB h
      obtain ⟨h2, h⟩ := andB h
      obtain ⟨h3, h⟩ := andB h
      obtain ⟨h4, h⟩ := andB h
      obtain ⟨h5, h⟩ := andB h
      obtain ⟨h6, h⟩ := andB h
      obtain ⟨h7, h8⟩ := andB h
      have := of_decide_eq_true h1
      subst this
      obtain ⟨a, r, e⟩ := list_ne h4
      subst e
      exact noBo (C.bm b (ihx S _ X W h7 C).qe (ihl S _ X W h8 C) h2 h3 (of_decide_eq_true h5) h6) rfl
    · cases h
  | lc m own g it t x ihg ihi iht ihx =>
    intro S s X W h C
    simp only [chk] at h
    split at h
    · rename_i e tg iter ifs scope p
      obtain ⟨h1, h⟩ := andB h
      obtain ⟨h2, h⟩ := andB h
      obtain ⟨h3, h⟩ := andB h
      obtain ⟨h4, h⟩ := andB h
      obtain ⟨h5, h⟩ := andB h
      obtain ⟨h6, h⟩ := andB h
      obtain ⟨h7, h⟩ := andB h
      obtain ⟨h8, h9⟩ := andB h
      have bk : BlkOk X.N X.env.scope scope own := by rw [C.N, C.sc]; exact blkOk_by h2
      have qi := ihi S _ X W h6 C tg (fun z => by rw [z] at h5; simpa using h5)
      have B := fun s H Ca cl fp => C.blk h1 (kind_ok h2) s H Ca cl fp
      exact noBo (ifL (qe_lcM (C.calm h1) C.nd qi bk (of_decide_eq_true h3) (fun s H Ca cl fp => ihg _ _ _ _ h7 (B s H Ca cl fp)) (fun s H Ca cl fp => iht _ _ _ _ h8 (B s H Ca cl fp)) (fun s H Ca cl fp => (ihx _ _ _ _ h9 (B s H Ca cl fp)).qe) h4)
        (qe_lc (C.calm h1) C.nd qi bk (of_decide_eq_true h3) (fun s H Ca cl fp => ihg _ _ _ _ h7 (B s H Ca cl fp)) (fun s H Ca cl fp => iht _ _ _ _ h8 (B s H Ca cl fp)) (fun s H Ca cl fp => (ihx _ _ _ _ h9 (B s H Ca cl fp)).qe) h4)) rfl
    · cases h
  | dget i x y ihx ihy =>
    intro S s X W h C
    simp only [chk] at h
    split at h
    · obtain ⟨h1, h⟩ := andB h
      obtain ⟨h2, h⟩ := andB h
      obtain ⟨h3, h⟩ := andB h
      obtain ⟨h4, h⟩ := andB h
      obtain ⟨h5, h⟩ := andB h
      obtain ⟨h6, h⟩ := andB h
      obtain ⟨h7, h8⟩ := andB h
      have := of_decide_eq_true h2
      subst this
      exact noBo (qe_dgetC (C.gl h3) (C.dc i _ (of_decide_eq_true h1)) (gl1 h3) (ihx S _ X W h7 C).qe (ihy S _ X W h8 C).qe h4 h5 h6) rfl
    · cases h
  | lrange x ihx =>
    intro S s X W h C
    simp only [chk] at h
    split at h
    · obtain ⟨h1, h⟩ := andB h
      obtain ⟨h2, h⟩ := andB h
      obtain ⟨h3, h⟩ := andB h
      obtain ⟨h4, h⟩ := andB h
      obtain ⟨h5, h⟩ := andB h
      obtain ⟨h6, h7⟩ := andB h
      have := of_decide_eq_true h2
      subst this
      have := of_decide_eq_true h3
      subst this
      exact noBo (qe_lrange (C.gl h4) (C.bt _ (by decide +kernel)) (C.gl h5) (C.bt _ (by decide +kernel)) (C.calm h1) (ihx S _ X W h7 C).qe h6) rfl
    · cases h
  | trange x ihx =>
    intro S s X W h C
    simp only [chk] at h
    split at h
    · obtain ⟨h1, h⟩ := andB h
      obtain ⟨h2, h⟩ := andB h
      obtain ⟨h3, h⟩ := andB h
      obtain ⟨h4, h⟩ := andB h
      obtain ⟨h5, h⟩ := andB h
      obtain ⟨h6, h7⟩ := andB h
      have := of_decide_eq_true h2
      subst this
      have := of_decide_eq_true h3
      subst this
      exact noBo (qe_trange (C.gl h4) (C.bt _ (by decide +kernel)) (C.gl h5) (C.bt _ (by decide +kernel)) (C.calm h1) (ihx S _ X W h7 C).qe h6) rfl
    · cases h
  | dzip l ihl =>
    intro S s X W h C
    simp only [chk] at h
    split at h
    · obtain ⟨h1, h⟩ := andB h
      obtain ⟨h2, h⟩ := andB h
      obtain ⟨h3, h⟩ := andB h
      obtain ⟨h4, h⟩ := andB h
      obtain ⟨h5, h⟩ := andB h
      obtain ⟨h6, h⟩ := andB h
      obtain ⟨h7, h8⟩ := andB h
      have := of_decide_eq_true h2
      subst this
      have := of_decide_eq_true h3
      subst this
      exact noBo (qe_dzip (C.gl h4) (C.bt _ (by decide +kernel)) (C.gl h5) (C.bt _ (by decide +kernel)) (C.calm h1) (ihl S _ X W h8 C) h6 h7) rfl
    · cases h
  | dgetv x y z ihx ihy ihz =>
    intro S s X W h C
    simp only [chk] at h
    split at h
    · obtain ⟨h1, h⟩ := andB h
      obtain ⟨h2, h⟩ := andB h
      obtain ⟨h3, h⟩ := andB h
      obtain ⟨h4, h⟩ := andB h
      obtain ⟨h5, h⟩ := andB h
      obtain ⟨h6, h⟩ := andB h
      obtain ⟨h7, h8⟩ := andB h
      have := of_decide_eq_true h1
      subst this
      exact noBo (qe_dgetv (by have := C.un; omega) (ihx S _ X W h6 C).qe (ihy S _ X W h7 C).qe (ihz S _ X W h8 C).qe h2 h3 h4 h5) rfl
    · cases h
  | dvals x ihx =>
    intro S s X W h C
    simp only [chk] at h
    split at h
    · obtain ⟨h1, h⟩ := andB h
      obtain ⟨h2, h⟩ := andB h
      obtain ⟨h3, h⟩ := andB h
      obtain ⟨h4, h⟩ := andB h
      obtain ⟨h5, h⟩ := andB h
      obtain ⟨h6, h7⟩ := andB h
      have := of_decide_eq_true h2
      subst this
      have := of_decide_eq_true h3
      subst this
      exact noBo (qe_dvals (C.gl h4) (C.bt _ (by decide +kernel)) (C.calm h1) (ihx S _ X W h7 C).qe h5 h6) rfl
    · cases h
  | kw2 i x y ihx ihy =>
    intro S s X W h C
    simp only [chk] at h
    split at h
    · split at h
      · rename_i hi
        obtain ⟨h1, h⟩ := andB h
        obtain ⟨h2, h⟩ := andB h
        obtain ⟨h3, h⟩ := andB h
        obtain ⟨h4, h⟩ := andB h
        obtain ⟨h5, h⟩ := andB h
        obtain ⟨h6, h7⟩ := andB h
        have := of_decide_eq_true h1
        subst this
        have := of_decide_eq_true h2
        subst this
        have := of_decide_eq_true h3
        subst this
        obtain ⟨f, hm, F⟩ := C.cal i _ hi
        exact noBo (qe_kw2 F (C.rm0 h5) (C.gl h4) hm (C.pass h5) (ihx S _ X W h6 C).qe (ihy S _ X W h7 C).qe (gl1 h4)) rfl
      · cases h
    · cases h
  | nil =>
    intro S s X W h C
    simp only [chk] at h
    split at h
    · exact qa_nil
    · cases h
  | cons x l ihx ihl =>
    intro S s X W h C
    simp only [chk] at h
    split at h
    · obtain ⟨h1, h⟩ := andB h
      obtain ⟨h2, h3⟩ := andB h
      exact qa_cons (ihx S _ X W h2 C).qe (ihl S _ X W h3 C) h1
    · cases h
  | star x l ihx ihl =>
    intro S s X W h C
    simp only [chk] at h
    split at h
    · obtain ⟨h1, h2⟩ := andB h
      exact qa_star (ihx S _ X W h1 C).qe (ihl S _ X W h2 C)
    · cases h
  | onone =>
    intro S s X W h C
    simp only [chk] at h
    split at h
    · exact qo_none
    · cases h
  | osome x ihx =>
    intro S s X W h C
    simp only [chk] at h
    split at h
    · exact qo_some (ihx S _ X W h C).qe
    · cases h
  | seq x ihx =>
    intro S s X W h C tg _
    exact qi_seq (ihx S s X W h C).qe
  | range1 x ihx =>
    intro S s X W h C tg _
    simp only [chk] at h
    split at h
    · obtain ⟨h1, h⟩ := andB h
      obtain ⟨h2, h⟩ := andB h
      obtain ⟨h3, h4⟩ := andB h
      have := of_decide_eq_true h1
      subst this
      exact qi_range1 (C.gl h2) (C.bt _ (by decide +kernel)) (qa_cons (ihx S _ X W h4 C).qe qa_nil h3) h3
    · cases h
  | range2 x y ihx ihy =>
    intro S s X W h C tg _
    simp only [chk] at h
    split at h
    · obtain ⟨h1, h⟩ := andB h
      obtain ⟨h2, h⟩ := andB h
      obtain ⟨h3, h⟩ := andB h
      obtain ⟨h4, h⟩ := andB h
      obtain ⟨h5, h6⟩ := andB h
      have := of_decide_eq_true h1
      subst this
      exact qi_range2 (C.gl h2) (C.bt _ (by decide +kernel)) (qa_cons (ihx S _ X W h5 C).qe (qa_cons (ihy S _ X W h6 C).qe qa_nil h4) h3) h3 h4
    · cases h
  | enum x ihx =>
    intro S s X W h C tg ht
    simp only [chk] at h
    split at h
    · obtain ⟨h1, h⟩ := andB h
      obtain ⟨h2, h⟩ := andB h
      obtain ⟨h3, h4⟩ := andB h
      have := of_decide_eq_true h1
      subst this
      obtain ⟨es, k, p, e⟩ := isTup_ok (ht rfl)
      subst e
      exact qi_enum (C.gl h2) (C.bt _ (by decide +kernel)) (qa_cons (ihx S _ X W h4 C).qe qa_nil h3) h3
    · cases h
  | zip x y ihx ihy =>
    intro S s X W h C tg ht
    simp only [chk] at h
    split at h
    · obtain ⟨h1, h⟩ := andB h
      obtain ⟨h2, h⟩ := andB h
      obtain ⟨h3, h⟩ := andB h
      obtain ⟨h4, h⟩ := andB h
      obtain ⟨h5, h6⟩ := andB h
      have := of_decide_eq_true h1
      subst this
      obtain ⟨es, k, p, e⟩ := isTup_ok (ht rfl)
      subst e
      exact qi_zip (C.gl h2) (C.bt _ (by decide +kernel)) (qa_cons (ihx S _ X W h5 C).qe (qa_cons (ihy S _ X W h6 C).qe qa_nil h4) h3) h3 h4
    · cases h
  | tt =>
    intro S s X W h C
    simp only [chk] at h
    split at h
    · exact qt_none
    · cases h
  | tst x ihx =>
    intro S s X W h C
    simp only [chk] at h
    split at h
    · exact qt_one (ihx S _ X W h C).qe
    · cases h
  | gnm i =>
    intro S s X W h C
    simp only [chk] at h
    split at h
    · obtain ⟨h1, h⟩ := andB h
      obtain ⟨h2, h3⟩ := andB h
      refine qg_name C.nd (by rw [C.N]; exact of_decide_eq_true h1) (C.loc h2) ?_
      rw [C.fn, C.sc]
      rcases Bool.or_eq_true_iff.mp h3 with h | h
      · exact .inl h
      · exact .inr (of_decide_eq_true h)
    · cases h
  | gtup n l ihl =>
    intro S s X W h C
    simp only [chk] at h
    split at h
    · obtain ⟨h1, h⟩ := andB h
      obtain ⟨h2, h⟩ := andB h
      obtain ⟨h3, h4⟩ := andB h
      have := of_decide_eq_true h2
      subst this
      exact qg_tup (C.calm h1) (ihl S _ X W h4 C) h3
    · cases h
  | gsub o i iho ihi =>
    intro S s X W h C
    simp only [chk] at h
    split at h
    · obtain ⟨h1, h⟩ := andB h
      obtain ⟨h2, h3⟩ := andB h
      exact qg_sub (iho S _ X W h2 C).qe (ihi S _ X W h3 C).qe h1
    · cases h
  | gnil =>
    intro S s X W h C
    simp only [chk] at h
    split at h
    · exact qgs_nil
    · cases h
  | gcons x l ihx ihl =>
    intro S s X W h C
    simp only [chk] at h
    split at h
    · obtain ⟨h1, h⟩ := andB h
      obtain ⟨h2, h3⟩ := andB h
      exact qgs_cons (ihx S _ X W h2 C) (ihl S _ X W h3 C) h1
    · cases h
  | ret x ihx =>
    intro S s X W h C
    simp only [chk] at h
    split at h
    · exact qs_ret (ihx S _ X W h C).qe
    · cases h
  | retN =>
    intro S s X W h C
    simp only [chk] at h
    split at h
    · exact qs_retN
    · cases h
  | ex x ihx =>
    intro S s X W h C
    simp only [chk] at h
    split at h
    · obtain ⟨h1, h2⟩ := andB h
      exact qs_expr (ihx S _ X W h2 C).qe h1
    · cases h
  | doc =>
    intro S s X W h C
    simp only [chk] at h
    split at h
    · exact qs_doc
    · cases h
  | pass =>
    intro S s X W h C
    simp only [chk] at h
    split at h
    · exact qs_pass
    · cases h
  | brk =>
    intro S s X W h C
    simp only [chk] at h
    split at h
    · exact qs_break
    · cases h
  | cnt =>
    intro S s X W h C
    simp only [chk] at h
    split at h
    · exact qs_cont
    · cases h
  | ifs c x y ihc ihx ihy =>
    intro S s X W h C
    simp only [chk] at h
    split at h
    · obtain ⟨h1, h⟩ := andB h
      obtain ⟨h2, h3⟩ := andB h
      exact qs_if (ihc S _ X W h1 C).qe (ihx S _ X W h2 C) (ihy S _ X W h3 C)
    · cases h
  | asg g x ihg ihx =>
    intro S s X W h C
    simp only [chk] at h
    split at h
    · obtain ⟨h1, h⟩ := andB h
      obtain ⟨h2, h⟩ := andB h
      obtain ⟨h3, h⟩ := andB h
      obtain ⟨h4, h⟩ := andB h
      obtain ⟨h5, h6⟩ := andB h
      exact qs_asg (ihx S _ X W h6 C).qe (ihg S _ X W h5 C) (C.swc h2 (by simpa using h3)) (C.swn h4) h1
    · cases h
  | setlc i m own g it t x ihg ihi iht ihx =>
    intro S s X W h C
    simp only [chk] at h
    split at h
    · rename_i y py e tg iter ifs scope p sp
      obtain ⟨h01, h⟩ := andB h
      obtain ⟨h02, h⟩ := andB h
      obtain ⟨h1, h⟩ := andB h
      obtain ⟨h2, h⟩ := andB h
      obtain ⟨h3, h⟩ := andB h
      obtain ⟨h4, h⟩ := andB h
      obtain ⟨h5, h⟩ := andB h
      obtain ⟨h6, h⟩ := andB h
      obtain ⟨h7, h⟩ := andB h
      obtain ⟨h8, h9⟩ := andB h
      have bk : BlkOk X.N X.env.scope scope own := by rw [C.N, C.sc]; exact blkOk_by h2
      have qi := ihi S _ X W h6 C tg (fun z => by rw [z] at h5; simpa using h5)
      have B := fun s H Ca cl fp => C.blk h1 (kind_ok h2) s H Ca cl fp
      have hyl : X.env.scope.names.lookup y = some .local := by
        have z := (andB (andB h01).1).1
        rw [C.sc]
        simpa using z
      exact qs_setLc (C.calm h1) C.nd (by rw [C.N]; exact of_decide_eq_true h02) hyl (by rw [C.swl, h01]) qi bk (of_decide_eq_true h3) (fun s H Ca cl fp => ihg _ _ _ _ h7 (B s H Ca cl fp)) (fun s H Ca cl fp => iht _ _ _ _ h8 (B s H Ca cl fp)) (fun s H Ca cl fp => (ihx _ _ _ _ h9 (B s H Ca cl fp)).qe) h4 m
    · cases h
  | par ix l ihl =>
    intro S s X W h C
    simp only [chk] at h
    split at h
    · rename_i ts k1 p1 vs k2 p2 p3
      obtain ⟨h1, h⟩ := andB h
      obtain ⟨h2, h⟩ := andB h
      obtain ⟨h3, h⟩ := andB h
      obtain ⟨h4, h⟩ := andB h
      obtain ⟨h5, h⟩ := andB h
      obtain ⟨h10, h⟩ := andB h
      obtain ⟨h6, h7⟩ := andB h
      exact C.par h1 (of_decide_eq_true h2) h3 (of_decide_eq_true h4) (of_decide_eq_true h5) h10 h6 (ihl S _ X W h7 C)
    · cases h
  | sto c f o x iho ihx =>
    intro S s X W h C
    simp only [chk] at h
    split at h
    · obtain ⟨h1, h⟩ := andB h
      obtain ⟨h2, h⟩ := andB h
      obtain ⟨h3, h⟩ := andB h
      obtain ⟨h4, h5⟩ := andB h
      have := of_decide_eq_true h1
      subst this
      refine qs_sto (fun c' hc => ?_) (iho S _ X W h4 C).qe (ihx S _ X W h5 C).qe (noComp_sw h3)
      have : c' = c := by simpa using hc
      subst this
      exact C.fl _ _ (of_decide_eq_true h2)
    · cases h
  | for_ g it b ihg ihi ihb =>
    intro S s X W h C
    simp only [chk] at h
    split at h
    · rename_i tg iter body p
      obtain ⟨h1, h⟩ := andB h
      obtain ⟨h2, h⟩ := andB h
      obtain ⟨h3, h⟩ := andB h
      obtain ⟨h4, h⟩ := andB h
      obtain ⟨h5, h⟩ := andB h
      obtain ⟨h6, h7⟩ := andB h
      exact qs_for (C.st h2).1 (C.calm h1) (ihi S _ X W h5 C tg (fun z => by rw [z] at h4; simpa using h4)) (ihg S _ X W h6 C) (ihb S _ X W h7 C) h3
    · cases h
  | whl c b ihc ihb =>
    intro S s X W h C
    simp only [chk] at h
    split at h
    · obtain ⟨h1, h⟩ := andB h
      obtain ⟨h2, h3⟩ := andB h
      exact qs_while (C.st h1).1 (ihc S _ X W h2 C).qe (ihb S _ X W h3 C)
    · cases h
  | raise c f x ihx =>
    intro S s X W h C
    simp only [chk] at h
    split at h
    · obtain ⟨h1, h⟩ := andB h
      obtain ⟨h2, h⟩ := andB h
      obtain ⟨h3, h⟩ := andB h
      obtain ⟨h4, h⟩ := andB h
      obtain ⟨h5, h6⟩ := andB h
      have := of_decide_eq_true h1
      subst this
      exact qs_raise (C.calm h3) (C.xs _ _ (of_decide_eq_true h2)) ((C.room h3).mono (by omega)).rm (C.tkN h3) (C.gl h4) (gl1 h4) (ihx S _ X W h6 C).qe h5
    · cases h
  | try_ b h ihb ihh =>
    intro S s X W h' C
    simp only [chk] at h'
    split at h'
    · obtain ⟨h1, h'⟩ := andB h'
      obtain ⟨h2, h'⟩ := andB h'
      obtain ⟨h3, h4⟩ := andB h'
      exact qs_try C.mt (C.st h2).2.1 (C.st h2).2.2 (fun W' pn xe tk po => ihb _ _ _ _ h3 (C.tr W' pn xe tk po h2)) (qh_of fun a pn => ihh _ _ _ _ h4 (C.suite a pn))
    · cases h'
  | tryr t1 t2 c f b x ihb ihx =>
    intro S s X W h C
    simp only [chk] at h
    split at h
    · obtain ⟨q1, h⟩ := andB h
      obtain ⟨q2, h⟩ := andB h
      obtain ⟨q3, h⟩ := andB h
      obtain ⟨q4, h⟩ := andB h
      obtain ⟨q5, h⟩ := andB h
      obtain ⟨q6, h⟩ := andB h
      obtain ⟨q7, h⟩ := andB h
      obtain ⟨q8, h⟩ := andB h
      obtain ⟨q9, h⟩ := andB h
      obtain ⟨q10, h⟩ := andB h
      obtain ⟨q11, h⟩ := andB h
      obtain ⟨q12, h⟩ := andB h
      obtain ⟨q13, h⟩ := andB h
      obtain ⟨q14, h⟩ := andB h
      obtain ⟨q15, q16⟩ := andB h
      have e1 := of_decide_eq_true q1
      have e2 := of_decide_eq_true q2
      have e3 := of_decide_eq_true q3
      subst e1 e2 e3
      obtain ⟨u1, hu1, f1⟩ := List.mem_map.mp (of_decide_eq_true q5)
      have m1 := (C.xs u1.1 u1.2 hu1).mg_
      rw [f1] at m1
      obtain ⟨u2, hu2, f2⟩ := List.mem_map.mp (of_decide_eq_true q6)
      have m2 := (C.xs u2.1 u2.2 hu2).mg_
      rw [f2] at m2
      have q10' : S.md = false := by simpa using q10
      refine qs_tryR C.mt (C.st q8).2.1 (C.st q8).2.2 ⟨C.gl q11, gl1 q11, .inl m1⟩ ⟨C.gl q12, gl1 q12, .inl m2⟩ (C.hp q9) (C.tkL q7 q10') (fun W' pn xe tk po => ihb _ _ _ _ q15 (C.trN W' pn xe tk po q8)) fun a pn tkS hot => ?_
      exact qs_raiseHot hot (C.xs _ _ (of_decide_eq_true q4)) (L2H.roomH_mark ((C.room q7).mono (by omega)).rm _) tkS (C.gl q13) (gl1 q13) (ihx _ _ _ _ q16 (C.suiteX a pn)).qe q14
    · cases h
  | tryx b ihb =>
    intro S s X W h C
    simp only [chk] at h
    split at h
    · exact qs_tryx (ihb _ _ _ _ h C.nox)
    · cases h
  | bnil =>
    intro S s X W h C
    simp only [chk] at h
    split at h
    · exact qss_nil
    · cases h
  | bone x ihx =>
    intro S s X W h C
    simp only [chk] at h
    split at h
    · exact qss_one (ihx S _ X W h C)
    · cases h
  | bcons x b ihx ihb =>
    intro S s X W h C
    simp only [chk] at h
    split at h
    · obtain ⟨h1, h2⟩ := andB h
      exact qss_cons (ihx S _ X W h1 C) (ihb S _ X W h2 C)
    · cases h
  | hnil =>
    intro S s X W h C
    simp only [chk] at h
    split at h
    · exact .nil
    · cases h
  | hcons c b h ihb ihh =>
    intro S s X W h' C
    simp only [chk] at h'
    split at h'
    · obtain ⟨h1, h'⟩ := andB h'
      obtain ⟨h2, h'⟩ := andB h'
      obtain ⟨h5, h'⟩ := andB h'
      obtain ⟨h3, h4⟩ := andB h'
      have := of_decide_eq_true h1
      subst this
      obtain ⟨q, hq, e⟩ := List.mem_map.mp (of_decide_eq_true h5)
      have hm := (C.xs q.1 q.2 hq).mg_
      rw [e] at hm
      exact .cons (C.gl h2) (gl1 h2) hm (ihb _ _ _ _ h3 C) (ihh _ _ _ _ h4 C)
    · cases h'
end R
set_option maxHeartbeats 4000000
/-! R21: a def of the text keeps what its term reads as. -/
namespace R
open PySem PySem.Spec L2
open PyProof.Rows hiding St
theorem look_zip {α : Type} : ∀ {ps : List Str} {us : List α}, us.length = ps.length → ∀ n ∈ ps, ((ps.zip us).lookup n).isSome = true
  | [], us, _, n, h => by cases h
  | p :: ps, [], hl, n, h => by simp at hl
  | p :: ps, u :: us, hl, n, h => by
    rw [List.zip_cons_cons, List.lookup_cons]
    cases e : n == p with
    | true => rfl
    | false =>
      rcases List.mem_cons.mp h with rfl | h
      · simp at e
      · exact look_zip (by simpa using hl) n h
theorem filt_zip {α : Type} {ps : List Str} {us : List α} (hl : us.length = ps.length) : (ps.filter fun n => ((ps.zip us).lookup n).isNone) = [] := by
  rw [List.filter_eq_nil_iff]
  intro n hn
  have := look_zip hl n hn
  simpa using this
theorem fmap_zip {α : Type} : ∀ {ps : List Str} {us : List α}, us.length = ps.length → ps.Nodup → (ps.filterMap fun n => ((ps.zip us).lookup n).map fun v => (n, v)) = ps.zip us
  | [], us, _, _ => by simp
  | p :: ps, [], hl, _ => by simp at hl
  | p :: ps, u :: us, hl, hn => by
    obtain ⟨h1, h2⟩ := List.nodup_cons.mp hn
    rw [List.zip_cons_cons, List.filterMap_cons]
    have e1 : ((p, u) :: ps.zip us).lookup p = some u := by simp
    rw [e1]
    show (p, u) :: _ = _
    congr 1
    rw [← fmap_zip (ps := ps) (us := us) (by simpa using hl) h2]
    rw [fmap_zip (ps := ps) (us := us) (by simpa using hl) h2]
    refine Eq.trans ?_ (fmap_zip (ps := ps) (us := us) (by simpa using hl) h2)
    have key : ∀ l : List Str, p ∉ l → (l.filterMap fun n => (((p, u) :: ps.zip us).lookup n).map fun v => (n, v)) = l.filterMap fun n => ((ps.zip us).lookup n).map fun v => (n, v) := by
      intro l
      induction l with
      | nil => intro _; rfl
      | cons n l ih =>
        intro hp
        have hne : (n == p) = false := by
          cases e : n == p with
          | false => rfl
          | true => exact (hp (by rw [beq_iff_eq.mp e]; exact List.mem_cons_self)).elim
        rw [List.filterMap_cons, List.filterMap_cons, ih (fun z => hp (List.mem_cons_of_mem _ z)), List.lookup_cons, hne]
    exact key ps h1
/-- plain parameters of these names -/
def plainP (p : Arguments) (ps : List Str) : Bool := match p with
  | ⟨[], as, none, [], [], none, []⟩ => decide (as.map (·.arg) = ps)
  | _ => false
theorem binds_plain {x qual : Str} {params : Arguments} {body : List Stmt} {scope : Scope} {kV doc pm : Value} {an : Option Addr} {cdv ct : Value} {ps : List Str} {us : List Value} (hp : plainP params ps = true) (hn : ps.Nodup) (hl : us.length = ps.length) :
    bindArgs (PySem.W.fnOf x qual params body scope .none kV doc pm an cdv ct) ⟨us, []⟩ = pure (ps.zip us) := by
  unfold plainP at hp
  split at hp
  · rename_i as
    have := of_decide_eq_true hp
    subst this
    have hf := filt_zip hl
    have hm := fmap_zip hl hn
    simp only [bindArgs, PySem.W.fnOf, List.map_nil, List.nil_append, List.append_nil, Nat.sub_zero, List.forIn_nil, pure_bind, show seqItems? Value.none = pure none from rfl, Option.getD_none]
    generalize List.map (fun x : Arg => x.arg) as = N at *
    have e0 : ¬ (us.length > N.length) := by omega
    simp [e0, hf, hm, hl]
  · cases hp

/-! ### a def's function -/
def startE (nl : Nat) (xs : List PV) : Env := xs.map some ++ List.replicate (nl - xs.length) none
def finish : SRes → Res PV
  | .rt x M => .ok x M
  | .nx _ M => .ok .non M
  | .ex c xs _ M => .exc c xs M
  | _ => .bad
/-- n parameters, nl slots -/
noncomputable def mkF (n nl : Nat) (b : Tm .b) (D : Wd) : List PV → RM PV := fun xs M => if xs.length = n then trim M (finish (ev (k := .b) D b (startE nl xs) M)) else .bad
theorem start_rep {K : PySem.W.Frag} {G : Hp} {ρ : List Addr} {N : List Str} {xs : List PV} {vs : List V} (r : Reps K G ρ xs vs) : RepE K G ρ (startE N.length xs) (L2.start N vs) := by
  have hl := r.length
  refine ⟨by simp [startE, L2.start, hl], fun i x q => ?_⟩
  unfold startE at q
  by_cases hi : i < xs.length
  · rw [List.getElem?_append_left (by simpa using hi)] at q
    rw [List.getElem?_map] at q
    cases e : xs[i]? with
    | none => rw [e] at q; cases q
    | some y =>
      rw [e] at q
      cases q
      obtain ⟨v, h1, h2⟩ := r.get e
      refine ⟨v, ?_, h2⟩
      unfold L2.start
      rw [List.getElem?_append_left (by rw [List.length_map, ← hl]; exact hi), List.getElem?_map, h1]
      rfl
  · rw [List.getElem?_append_right (by simpa using hi)] at q
    have := List.getElem?_eq_some_iff.mp q
    obtain ⟨h1, h2⟩ := this
    rw [List.getElem_replicate] at h2
    cases h2
theorem fin_ok {K : PySem.W.Frag} {E : XK} {Q : VK} {G : Hp} {ρ : List Addr} {σ : St} {r : SRes} (h : outR K (Rep K) (fun cls d _ H => E cls d H) G ρ σ (finish r) Q) : outS K (fun cls d _ H => E cls d H) { nx := fun _ H' => Q .non H', rt := Q } G ρ r := by
  cases r with
  | nx e M => exact fun G' ρ' H' σ' x s _ => h G' ρ' H' .non x s (rep_non.mpr rfl)
  | rt v M => exact h
  | ex c xs e M => exact fun G' ρ' H' σ' cls d x s _ rx => h G' ρ' H' cls d x s rx
  | bk _ _ => exact h.elim
  | ct _ _ => exact h.elim
  | bad => exact h.elim
/-- what stands around a def, at the level k -/
structure Fcts (P : Program) (w : World) (K : PySem.W.Frag) (mg : Str → Option Value) (base : Heap) (L : Lc) (D : Wd) (k : Nat) : Prop where
  cal : ∀ i c, L.cal[i]? = some c → CalI P w K mg base k (D.fn i) (D.mcl i) (D.mnm i) c
  gv : ∀ i x, L.gv[i]? = some x → GloC0 K mg x (D.gv i)
  dc : ∀ i x, L.dc[i]? = some x → DicC0 K w mg x (D.dc i)
  fl : ∀ c f, (c, f) ∈ L.fl → Cls K (He.ga K c) ∧ NoAttr K (He.ga K c) f
  xs : ∀ c f, (c, f) ∈ L.xs → ExC0 P w K mg base c f
  mt : ∀ c h b, D.mt c h = some b → PySem.W.exmOne K (.ref (He.ga K c)) (.ref (He.ga K h)) = some b
  bt : ∀ x ∈ bltNames, mg x = none
/-- the scope of a def with these slots and parameters -/
def scB (N ps : List Str) (sc : Scope) : Bool := (match sc.kind with | .function => true | _ => false) && (!sc.isCoroutine && (!sc.isGenerator && (decide N.Nodup && (decide (N.take ps.length = ps) && (ps.all (fun x => locB sc x) && sc.names.all (fun y => decide (y.2 ≠ .free)))))))
theorem scB_ok {N ps : List Str} {sc : Scope} (h : scB N ps sc = true) : FnScope N ps sc := by
  obtain ⟨h1, h⟩ := andB h
  obtain ⟨h2, h⟩ := andB h
  obtain ⟨h3, h⟩ := andB h
  obtain ⟨h4, h⟩ := andB h
  obtain ⟨h5, h⟩ := andB h
  obtain ⟨h6, h7⟩ := andB h
  refine ⟨?_, by simpa using h2, by simpa using h3, of_decide_eq_true h4, of_decide_eq_true h5, fun x hx => ?_, fun y hy => ?_⟩
  · split at h1
    · assumption
    · cases h1
  · have := List.all_eq_true.mp h6 x hx
    unfold locB at this
    split at this
    · exact .inl ‹_›
    · exact .inr ‹_›
    · cases this
  · exact of_decide_eq_true (List.all_eq_true.mp h7 y hy)
/-- THE RULE for a def: its text is checked against the term b -/
theorem fn_okR {P : Program} {w : World} {K : PySem.W.Frag} {mg : Str → Option Value} {base : Heap} {L : Lc} {D : Wd} {k : Nat} {x qual : Str} {params : Arguments} {body : List Stmt} {scope : Scope} {f : Addr} {fd : FuncData} {ps : List Str} {b : Tm .b} (n : Bool) (Fd : FunD K x qual params body scope [] [] f fd) (F : Fcts P w K mg base L D k)
    (hs : scB L.N ps scope = true) (hc : chk L b ⟨scope, fun _ => true, true, true, n, true⟩ body = true) : FnOkG P w K mg base (cxB n P w) (k + 3) f fd ps (spOf K ps.length (mkF ps.length L.N.length b D)) := by
  have S := scB_ok hs
  refine fnG_of (k := k + 2) Fd S (fun vs H Q E ⟨G, ρ, M, xs, h, _⟩ => h) fun cdv A outer s H vs Q E hr hsp => ?_
  have C : CtxOk L D ⟨scope, fun _ => true, true, true, n, true⟩ k (cxOf (cxB n P w) P w K mg base L.N qual scope f cdv A outer s H E) (fun cls d _ H => E cls d H) := by
    refine ⟨rfl, rfl, rfl, S.nd, S.kind, ?_, fun _ => rfl, fun _ => hr, fun _ => ?_, fun _ h => ?_, fun _ => ⟨L2.passes_of rfl, rfl, rfl⟩, F.cal, F.gv, F.dc, F.fl, F.xs, F.mt, F.bt, fun _ => L2H.passesAt_of rfl⟩
    · have := hr.rm.un
      show (A.deeper (envOfC qual scope s.heap.objs.size f cdv)).units + 65 < cLine
      omega
    · cases n with
      | true => exact L2N.takes_of rfl rfl rfl rfl
      | false => exact takesN_of (L2.takes_of rfl rfl rfl rfl)
    · cases n with
      | true => cases h
      | false => exact L2.takes_of rfl rfl rfl rfl
  refine ⟨_, (sound L D k b _ body _ _ hc C).pss, ?_⟩
  obtain ⟨G, ρ, M, xs, hl, S0, r, q⟩ := hsp
  refine ⟨G, ρ, M, startE L.N.length xs, S0, start_rep r, fin_ok (σ := []) ?_⟩
  unfold mkF at q
  rw [r.length, if_pos hl] at q
  exact trim_ok S0 q
theorem fn_ok {P : Program} {w : World} {K : PySem.W.Frag} {mg : Str → Option Value} {base : Heap} {L : Lc} {D : Wd} {k : Nat} {x qual : Str} {params : Arguments} {body : List Stmt} {scope : Scope} {f : Addr} {fd : FuncData} {ps : List Str} {b : Tm .b} (n : Bool) (Fd : FunD K x qual params body scope [] [] f fd) (F : Fcts P w K mg base L D k)
    (hs : scB L.N ps scope = true) (hp : plainP params ps = true) (hc : chk L b ⟨scope, fun _ => true, true, true, n, true⟩ body = true) : FnC0 P w K mg base (cxB n P w) (k + 3) f ps.length (mkF ps.length L.N.length b D) := by
  have S := scB_ok hs
  have hnd : ps.Nodup := by rw [← S.pre]; exact S.nd.sublist (List.take_sublist _ _)
  exact ⟨⟨fd, ps, rfl, fn_okR n Fd F hs hc, Fd.bindsN fun kV doc pm an cdv ct us hl => binds_plain hp hnd hl⟩, Fd.kp, fun xs M h => Classical.byContradiction fun z => h (if_neg z)⟩
theorem fn_kw {P : Program} {w : World} {K : PySem.W.Frag} {mg : Str → Option Value} {base : Heap} {L : Lc} {D : Wd} {k : Nat} {x qual : Str} {params : Arguments} {body : List Stmt} {scope : Scope} {f : Addr} {fd : FuncData} {k1 k2 : Str} {b : Tm .b} (n : Bool) (Fd : FunD K x qual params body scope [] [] f fd) (F : Fcts P w K mg base L D k)
    (hs : scB L.N [k2, k1] scope = true) (hp : plainP params [k2, k1] = true) (hc : chk L b ⟨scope, fun _ => true, true, true, n, true⟩ body = true) : FnKw P w K mg base (cxB n P w) (k + 3) f k1 k2 (mkF 2 L.N.length b D) := by
  have S := scB_ok hs
  have hnd : [k2, k1].Nodup := by rw [← S.pre]; exact S.nd.sublist (List.take_sublist _ _)
  refine ⟨⟨fd, fn_okR n Fd F hs hc, fun s u1 u2 _ => ?_⟩, Fd.kp, fun xs M h => Classical.byContradiction fun z => h (if_neg z)⟩
  obtain ⟨oc, od, dV, kV, doc, pm, an, cdv, ct, osl, rfl, lk, hcd, hD, hK⟩ := Fd.ex
  have hd : dV = .none := by
    rcases hD with ⟨_, e⟩ | ⟨e, _⟩
    · exact e
    · exact absurd rfl e
  subst hd
  unfold plainP at hp
  split at hp
  · rename_i as
    have e := of_decide_eq_true hp
    match as, e with
    | [a2, a1], e =>
      simp only [List.map_cons, List.map_nil, List.cons.injEq, and_true] at e
      obtain ⟨e2, e1⟩ := e
      subst e2 e1
      refine BindsTo.of_eq (binds_kw2 ?_ rfl)
      intro z
      simp [z] at hnd
  · cases hp
theorem FnC0.mono {P : Program} {w : World} {K : PySem.W.Frag} {mg : Str → Option Value} {base : Heap} {CX : CXT} {j k : Nat} {f : Addr} {n : Nat} {φ : List PV → RM PV} (F : FnC0 P w K mg base CX j f n φ) (h : j ≤ k) : FnC0 P w K mg base CX k f n φ :=
  ⟨let ⟨fd, ps, a, b, c⟩ := F.ok; ⟨fd, ps, a, b.mono h, c⟩, F.kp, F.ar⟩
theorem CalI.mono {P : Program} {w : World} {K : PySem.W.Frag} {mg : Str → Option Value} {base : Heap} {j k : Nat} {φ : List PV → RM PV} {a b : Str} : ∀ {c : CK}, CalI P w K mg base j φ a b c → j ≤ k → CalI P w K mg base k φ a b c
  | .glob x n, ⟨f, ar, h, F⟩, l => ⟨f, ar, h, F.mono l⟩
  | .stat c x n, ⟨rc, f, ar, s, h, F⟩, l => ⟨rc, f, ar, s, h, F.mono l⟩
  | .new c fz n, ⟨f, ar, φ', h1, h2, F, e⟩, l => ⟨f, ar, φ', h1, h2, F.mono l, e⟩
  | .meth c x n, ⟨f, ar, h1, h2, F, e⟩, l => ⟨f, ar, h1, h2, F.mono l, e⟩
  | .prop c x n, ⟨p, g, ar, h1, h2, F, e⟩, l => ⟨p, g, ar, h1, h2, F.mono l, e⟩
  | .kw2 x k1 k2 n, ⟨f, h, F⟩, l => ⟨f, h, F.mono l⟩
end R
set_option maxHeartbeats 4000000
/-! R22: what is read off the heap behind the top. -/
namespace R
open PySem PySem.Spec L2
open PyProof.Rows hiding St
/-! ### defs -/
def fnB (K : PySem.W.Frag) (a : Addr) (t : List Stmt → Scope → Arguments → Bool) : Bool := PySem.W.keepIn K (.ref a) && (match K.lookup a with
  | some ⟨_, _, .func fd, _⟩ => PySem.W.codeIn K fd.code fd.qualname && (He.dflB K fd.defaults [] && (decide (fd.globals = mainGlobals) && (fd.closure.isEmpty && (decide (fd.builtins = builtinsNs) && (match fd.body with
    | .stmts sts => t sts fd.scope fd.params
    | _ => false)))))
  | _ => false)
theorem fnB_ok {K : PySem.W.Frag} {a : Addr} {t : List Stmt → Scope → Arguments → Bool} (h : fnB K a t = true) : ∃ x qual params sts scope fd, FunD K x qual params sts scope [] [] a fd ∧ t sts scope params = true := by
  obtain ⟨kp, h⟩ := andB h
  cases q : K.lookup a with
  | none => rw [q] at h; cases h
  | some o =>
    obtain ⟨oc, od, dt, osl⟩ := o
    rw [q] at h
    cases dt with
    | func fd =>
      obtain ⟨n1, n2, n3, n4, n5, n6, n7, n8, n9, n10, n11, n12, n13, n14, n15⟩ := fd
      dsimp only at h
      obtain ⟨h1, h⟩ := andB h
      obtain ⟨h2, h⟩ := andB h
      obtain ⟨h3, h⟩ := andB h
      obtain ⟨h4, h⟩ := andB h
      obtain ⟨h5, h6⟩ := andB h
      cases n4 with
      | stmts sts =>
        have e3 := of_decide_eq_true h3
        have e4 := List.isEmpty_iff.mp h4
        have e5 := of_decide_eq_true h5
        subst e3 e4 e5
        exact ⟨n1, n2, n3, sts, n5, _, ⟨⟨oc, od, n8, n9, n10, n11, n12, n13, n14, osl, rfl, q, h1, He.dflB_ok h2, .inl rfl⟩, kp⟩, h6⟩
      | expr _ => cases h6
    | _ => cases h
/-- a def and its term -/
structure FnE where
  ad : PySem.W.Frag → Addr
  ps : List Str
  L : Lc
  b : Tm .b
  n : Bool
def FnE.ok (K : PySem.W.Frag) (e : FnE) : Bool := fnB K (e.ad K) fun sts sc pr => scB e.L.N e.ps sc && (plainP pr e.ps && chk (k := .b) e.L e.b ⟨sc, fun _ => true, true, true, e.n, true⟩ sts)
theorem FnE.fn {P : Program} {w : World} {K : PySem.W.Frag} {mg : Str → Option Value} {base : Heap} {D : Wd} {k : Nat} {e : FnE} (h : e.ok K = true) (F : Fcts P w K mg base e.L D k) : FnC0 P w K mg base (cxB e.n P w) (k + 3) (e.ad K) e.ps.length (mkF e.ps.length e.L.N.length e.b D) := by
  obtain ⟨x, qual, params, sts, scope, fd, Fd, h⟩ := fnB_ok h
  obtain ⟨h1, h⟩ := andB h
  obtain ⟨h2, h3⟩ := andB h
  exact fn_ok e.n Fd F h1 h2 h3
theorem FnE.kw {P : Program} {w : World} {K : PySem.W.Frag} {mg : Str → Option Value} {base : Heap} {D : Wd} {k : Nat} {e : FnE} {k1 k2 : Str} (h : e.ok K = true) (hp : e.ps = [k2, k1]) (F : Fcts P w K mg base e.L D k) : FnKw P w K mg base (cxB e.n P w) (k + 3) (e.ad K) k1 k2 (mkF 2 e.L.N.length e.b D) := by
  obtain ⟨x, qual, params, sts, scope, fd, Fd, h⟩ := fnB_ok h
  obtain ⟨h1, h⟩ := andB h
  obtain ⟨h2, h3⟩ := andB h
  rw [hp] at h1 h2
  exact fn_kw e.n Fd F h1 h2 h3
/-! ### exceptions -/
def oexB (K : PySem.W.Frag) (C : Addr) : Bool := (match K.lookup C with
  | some ⟨.type t, _, .cls cd, sl⟩ => decide (t = "type") && (cd.hasDict && (!cd.hasDel && ((match cd.mro with
    | .ref C' :: bm => decide (C' = C) && PySem.HandSPX.refsVE bm
    | _ => false) && (match sl.toList with
    | [_, _, _, _, some (.builtin n), _] => decide (n = "ValueError.__new__")
    | _ => false))))
  | _ => false) && (He.eqO (PySem.W.findIn K (.ref C) "__setattr__") (some (some (.builtin "object.__setattr__"))) && (decide (PySem.W.subIn K (.ref C) (.type "BaseException") = some true) && (decide (PySem.W.typeIn K (.ref C) = some (.type "type")) && PySem.W.keepIn K (.ref C))))
theorem oexB_ok {K : PySem.W.Frag} {C : Addr} (h : oexB K C = true) : OexC K C := by
  obtain ⟨h1, h⟩ := andB h
  obtain ⟨h2, h⟩ := andB h
  obtain ⟨h3, h⟩ := andB h
  obtain ⟨h4, h5⟩ := andB h
  refine ⟨?_, He.eqO_ok h2, of_decide_eq_true h3, of_decide_eq_true h4, h5⟩
  cases q : K.lookup C with
  | none => rw [q] at h1; cases h1
  | some o =>
    obtain ⟨oc, od, dt, ⟨osl⟩⟩ := o
    rw [q] at h1
    cases oc with
    | type t =>
      cases dt with
      | cls cd =>
        obtain ⟨c1, c2, c3, c4, c5, c6, c7, c8, c9, c10, c11⟩ := cd
        dsimp only at h1
        obtain ⟨a1, h1⟩ := andB h1
        obtain ⟨a2, h1⟩ := andB h1
        obtain ⟨a3, h1⟩ := andB h1
        obtain ⟨a4, a5⟩ := andB h1
        have e1 := of_decide_eq_true a1
        subst e1
        have e2 : c6 = true := a2
        have e3 : c11 = false := by simpa using a3
        subst e2 e3
        split at a4
        · rename_i C' bm
          obtain ⟨b1, b2⟩ := andB a4
          have e4 := of_decide_eq_true b1
          subst e4
          split at a5
          · have e5 := of_decide_eq_true a5
            subst e5
            exact ⟨c1, c5, c4, c2, _, c7, c8, c9, c10, od, _, _, _, _, _, rfl, b2⟩
          · cases a5
        · cases a4
      | _ => cases h1
    | _ => cases dt <;> cases h1
def initT (fl : Str) (sts : List Stmt) (sc : Scope) (pr : Arguments) : Bool := match sts with
  | [.Assign [.Attribute (.Name s _) f _] (.Name g _) _] => decide (f = fl) && (plainP pr [s, g] && (scB [s, g] [s, g] sc && (okN s && okN g)))
  | _ => false
def exB (c fl : Str) (K : PySem.W.Frag) : Bool := oexB K (He.ga K c) && (He.eqO (PySem.W.nsIn K mainGlobals c) (some (some (.ref (He.ga K c)))) && (He.eqO (PySem.W.findIn K (.ref (He.ga K c)) "__init__") (some (some (.ref (He.ma K (He.ga K c) "__init__")))) &&
  (decide (PySem.W.typeIn K (.ref (He.ma K (He.ga K c) "__init__")) = some (.type "function")) && (He.eqO (PySem.W.findIn K (.ref (He.ga K c)) fl) (some none) && fnB K (He.ma K (He.ga K c) "__init__") (initT fl)))))
section
variable {P : Program} {w : World} {K : PySem.W.Frag} {h : Heap} {mg : Str → Option Value} {base : Heap}
theorem exB_ok (X : K.In h) (G : h.Ns mainGlobals mg) {c fl : Str} (hb : exB c fl K = true) : ExC0 P w K mg base c fl := by
  obtain ⟨h1, hb⟩ := andB hb
  obtain ⟨h2, hb⟩ := andB hb
  obtain ⟨h3, hb⟩ := andB hb
  obtain ⟨h4, hb⟩ := andB hb
  obtain ⟨h5, h6⟩ := andB hb
  have T := oexB_ok h1
  obtain ⟨x, qual, params, sts, scope, fd, Fd, h7⟩ := fnB_ok h6
  refine ⟨T, PySem.W.mg_of X G (He.eqO_ok h2), ?_, ?_⟩
  all_goals unfold initT at h7
  all_goals split at h7
  · rename_i s p1 f p2 g p3 p4
    obtain ⟨i1, h7⟩ := andB h7
    obtain ⟨i2, h7⟩ := andB h7
    obtain ⟨i3, h7⟩ := andB h7
    obtain ⟨i4, i5⟩ := andB h7
    have e := of_decide_eq_true i1
    subst e
    have S := scB_ok i3
    exact ⟨_, fd, [s, g], He.eqO_ok h3, of_decide_eq_true h4, exc_init Fd S rfl T (He.eqO_ok h5) (okN_1 i4) (okN_2 i4) (okN_1 i5) (okN_2 i5), Fd.bindsN fun kV doc pm an cdv ct us hl => binds_plain i2 S.nd hl⟩
  · cases h7
  · rename_i s p1 f p2 g p3 p4
    obtain ⟨i1, h7⟩ := andB h7
    obtain ⟨i2, h7⟩ := andB h7
    obtain ⟨i3, h7⟩ := andB h7
    obtain ⟨i4, i5⟩ := andB h7
    have e := of_decide_eq_true i1
    subst e
    have S := scB_ok i3
    exact ⟨_, fd, [s, g], He.eqO_ok h3, of_decide_eq_true h4, exc_initH Fd S rfl T (He.eqO_ok h5) (okN_1 i4) (okN_2 i4) (okN_1 i5) (okN_2 i5), Fd.bindsN fun kV doc pm an cdv ct us hl => binds_plain i2 S.nd hl⟩
  · cases h7
/-! ### classes -/
def statB (c m : Str) (K : PySem.W.Frag) : Bool := PySem.W.readsIn K (He.ga K c) (.type "type") && (He.eqO (PySem.W.specialIn K (.ref (He.ga K c)) "__getattribute__") (some (some (.builtin "type.__getattribute__"))) && (decide (PySem.W.typeIn K (.ref (He.ga K c)) = some (.type "type")) &&
  (He5.wrapB K (He.ga K c) "staticmethod" "staticmethod.__get__" m && PySem.W.handedIn (.ref (He5.wf K (He.ga K c) "staticmethod" m)))))
theorem statB_ok {c m : Str} (hb : statB c m K = true) : SMet K (He.ga K c) m (He.ma K (He.ga K c) m) (He5.wf K (He.ga K c) "staticmethod" m) := by
  obtain ⟨h1, hb⟩ := andB hb
  obtain ⟨h2, hb⟩ := andB hb
  obtain ⟨h3, hb⟩ := andB hb
  obtain ⟨h4, h5⟩ := andB hb
  obtain ⟨h6, h7⟩ := He5.wrapB_ok h4
  exact ⟨h1, He.eqO_ok h2, of_decide_eq_true h3, h6, h7, h5⟩
/-- a property's getter -/
def pg (K : PySem.W.Frag) (C : Addr) (f : Str) : Addr := match PySem.W.recIn K (He.ma K C f) "property" with
  | some (.ref g :: _) => g
  | _ => 0
def propB (c f : Str) (K : PySem.W.Frag) : Bool := He.eqO (PySem.W.findIn K (.ref (He.ga K c)) f) (some (some (.ref (He.ma K (He.ga K c) f)))) && (He.eqO (PySem.W.specialIn K (.ref (He.ma K (He.ga K c) f)) "__get__") (some (some (.builtin "property.__get__"))) &&
  (decide (PySem.W.takesIn K (.ref (He.ma K (He.ga K c) f)) = some true) && (match PySem.W.recIn K (He.ma K (He.ga K c) f) "property" with
    | some (.ref _ :: _) => true
    | _ => false)))
theorem propB_ok {c f : Str} (hb : propB c f K = true) : PropOf K (He.ga K c) f (He.ma K (He.ga K c) f) (pg K (He.ga K c) f) := by
  obtain ⟨h1, hb⟩ := andB hb
  obtain ⟨h2, hb⟩ := andB hb
  obtain ⟨h3, h4⟩ := andB hb
  refine ⟨He.eqO_ok h1, He.eqO_ok h2, of_decide_eq_true h3, ?_⟩
  unfold pg
  split at h4
  · rename_i g r e
    exact ⟨r, by rw [e]⟩
  · cases h4
/-! ### constants -/
theorem glo_int (X : K.In h) (G : h.Ns mainGlobals mg) {x : Str} {i : Int} (hb : (He.Fa.int x i).ok K = true) : GloC0 K mg x (.int i) := by
  obtain ⟨t, e⟩ := He.int_ok X G hb
  exact ⟨_, .int i, e, ⟨t, rfl⟩, fun _ _ => rep_int.mpr rfl⟩
theorem glo_str (X : K.In h) (G : h.Ns mainGlobals mg) {x z : Str} (hb : (He.Fa.str x z).ok K = true) : GloC0 K mg x (.str z) := by
  obtain ⟨t, e⟩ := He.str_ok X G hb
  exact ⟨_, .str z, e, ⟨t, rfl⟩, fun _ _ => rep_str.mpr rfl⟩
def tupI (x : Str) (is : List Int) (K : PySem.W.Frag) : Bool := (He.Fa.glo x).ok K && He.tupB K x (is.map He.Dv.int)
theorem glo_tup (X : K.In h) (G : h.Ns mainGlobals mg) {x : Str} {is : List Int} (hb : tupI x is K = true) : GloC0 K mg x (.tup (is.map PV.int)) := by
  obtain ⟨h1, h2⟩ := andB hb
  refine ⟨_, .ref (He.ga K x), He.glo_ok X G h1, rfl, fun Gh ρ => rep_tup.mpr ⟨_, _, rfl, He.tupB_ok h2 Gh, ?_⟩⟩
  rw [List.map_map]
  exact reps_ints is
/-! ### a dict of ints by texts -/
def dicV (x : Str) (tb : List (Str × Int)) (K : PySem.W.Frag) : Bool := (He.Fa.glo x).ok K && He.valsB K (He.ga K x) (tb.map fun q => (q.1, He.Dv.int q.2))
theorem keys_none {P : Params} {s : Str} : ∀ {l : List DictEntry} {ks : List Str}, l.map He.keyOf = He.keysIn P ks → s ∉ ks → l.find? (fun e => Value.isStrOf s e.key) = none
  | [], ks, _, _ => rfl
  | e :: l, [], h, _ => by cases h
  | e :: l, k :: ks, h, hs => by
    injection (show He.keyOf e :: l.map He.keyOf = some (k, PyData.keyHash P k) :: He.keysIn P ks from h) with h1 h2
    rw [List.find?_cons]
    have hk : Value.isStrOf s e.key = false := by
      unfold He.keyOf at h1
      split at h1
      · rename_i x t q
        obtain ⟨h3, _⟩ := Prod.mk.inj (Option.some.inj h1)
        rw [q, h3]
        cases c : Value.isStrOf s (.str k t) with
        | false => rfl
        | true =>
          obtain ⟨t', e'⟩ := Value.isStrOf_shape (x := s) (v := .str k t) c
          injection e' with e1 _
          exact (hs (by rw [e1]; exact List.mem_cons_self)).elim
      · cases h1
    rw [hk]
    exact keys_none h2 fun z => hs (List.mem_cons_of_mem _ z)
theorem dic_ok (X : K.In h) (G : h.Ns mainGlobals mg) {x : Str} {tb : List (Str × Int)} (hb : dicV x tb K = true) (hd : He.dicW K (He.ga K x) = some (He.keysIn w.params (tb.map (·.1)))) : DicC0 K w mg x tb := by
  obtain ⟨h1, h2⟩ := andB hb
  obtain ⟨es, n, D⟩ := He.dicW_ok hd
  refine ⟨He.ga K x, es, n, He.glo_ok X G h1, D, fun s => ?_⟩
  have hk : es.toList.map He.keyOf = He.keysIn w.params (tb.map (·.1)) := by
    unfold He.dicW at hd
    rw [D.at_] at hd
    dsimp only at hd
    split at hd
    · exact Option.some.inj hd
    · cases hd
  cases e : tb.lookup s with
  | some i =>
    have hm : (s, i) ∈ tb := by
      clear h2 hd hk hb
      induction tb with
      | nil => cases e
      | cons q tb ih =>
        rw [List.lookup_cons] at e
        cases c : s == q.1 with
        | true =>
          rw [c] at e
          cases e
          have := beq_iff_eq.mp c
          subst this
          exact List.mem_cons_self
        | false =>
          rw [c] at e
          exact List.mem_cons_of_mem _ (ih e)
    obtain ⟨u, hu, ru⟩ := He.valsB_ok h2 (q := (s, He.Dv.int i)) (List.mem_map.mpr ⟨(s, i), hm, rfl⟩)
    obtain ⟨t, rfl⟩ : ∃ t, u = Value.int i t := ru
    exact ⟨t, PySem.W.find_K D.at_ hu⟩
  | none =>
    show findBy Value.isStrOf es s = none
    have hs : s ∉ tb.map (·.1) := by
      clear h2 hd hk hb
      induction tb with
      | nil => simp
      | cons q tb ih =>
        rw [List.lookup_cons] at e
        cases c : s == q.1 with
        | true => rw [c] at e; cases e
        | false =>
          rw [c] at e
          rw [List.map_cons, List.mem_cons, not_or]
          exact ⟨fun z => by rw [z] at c; simp at c, ih e⟩
    unfold findBy
    obtain ⟨l⟩ := es
    rw [List.find?_toArray, keys_none hk hs]
    rfl
end
/-! ### the Hook -/
abbrev AlR : Type := Bool × List (Option (List (Option (Str × Int))))
def obsR (fa : List (PySem.W.Frag → Bool)) (fn : List FnE) (ds : List Str) (K : PySem.W.Frag) : AlR := ((fa.all fun f => f K) && fn.all fun e => e.ok K, ds.map fun x => He.dicW K (He.ga K x))
def valR (ds : List (Str × List Str)) (w : World) : AlR := (true, ds.map fun q => some (He.keysIn w.params q.2))
def obsRG (n : Nat) (fa : List (PySem.W.Frag → Bool)) (fn : List FnE) (ds : List (Str × List Str)) (g : Addr → Option Obj) : AlR := obsR fa fn (ds.map (·.1)) (He.frG g (He5.asA g n))
def hookR (n : Nat) (fa : List (PySem.W.Frag → Bool)) (fn : List FnE) (ds : List (Str × List Str)) : PySem.W.Hook where
  α := AlR
  obs := fun s => obsRG n fa fn ds s.heap.get?
  val := fun w => valR ds w
  says := fun w h => ∃ K : PySem.W.Frag, K.In h ∧ obsR fa fn (ds.map (·.1)) K = valR ds w
  of := fun _ _ e => ⟨_, He.frG_in, e⟩
  keeps := fun _ _ _ ⟨K, hK, c⟩ k => ⟨K, PySem.W.Frag.In.keeps hK k, c⟩
theorem obsRG_eq {n : Nat} {fa : List (PySem.W.Frag → Bool)} {fn : List FnE} {ds : List (Str × List Str)} {g : Addr → Option Obj} {s : Shared} (h : ∀ a, g a = s.heap.get? a) : obsRG n fa fn ds g = (hookR n fa fn ds).obs s := by
  have e : g = s.heap.get? := funext h
  rw [e] <;> rfl
section
variable {fa : List (PySem.W.Frag → Bool)} {fn : List FnE} {ds : List (Str × List Str)} {w : World} {K : PySem.W.Frag}
theorem says_fa (c : obsR fa fn (ds.map (·.1)) K = valR ds w) (i : Nat) {f : PySem.W.Frag → Bool} (h : fa[i]? = some f := by rfl) : f K = true := by
  have c1 := (andB (show ((fa.all fun f => f K) && fn.all fun e => e.ok K) = true from congrArg (fun z : AlR => z.1) c)).1
  exact List.all_eq_true.mp c1 f (List.mem_of_getElem? h)
theorem says_fn (c : obsR fa fn (ds.map (·.1)) K = valR ds w) (i : Nat) {e : FnE} (h : fn[i]? = some e := by rfl) : e.ok K = true := by
  have c1 := (andB (show ((fa.all fun f => f K) && fn.all fun e => e.ok K) = true from congrArg (fun z : AlR => z.1) c)).2
  exact List.all_eq_true.mp c1 e (List.mem_of_getElem? h)
theorem says_ds (c : obsR fa fn (ds.map (·.1)) K = valR ds w) (i : Nat) {q : Str × List Str} (h : ds[i]? = some q := by rfl) : He.dicW K (He.ga K q.1) = some (He.keysIn w.params q.2) := by
  have e : (ds.map (·.1)).map (fun x => He.dicW K (He.ga K x)) = ds.map fun q => some (He.keysIn w.params q.2) := congrArg (fun z : AlR => z.2) c
  have e2 : ((ds.map (·.1)).map (fun x => He.dicW K (He.ga K x)))[i]? = (ds.map fun q => some (He.keysIn w.params q.2))[i]? := by rw [e]
  rw [List.getElem?_map, List.getElem?_map, List.getElem?_map, h] at e2
  exact Option.some.inj e2
end
end R
set_option maxHeartbeats 4000000
/-! R23: the law's end. -/
namespace R
open PySem PySem.Spec L2
open PyProof.Rows hiding St
/-- a callee's list, by terms: the functions in the callees' order -/
def mclOf : Option CK → Str
  | some (.meth c _ _) => c
  | some (.prop c _ _) => c
  | _ => ⟨#[]⟩
def mnmOf : Option CK → Str
  | some (.meth _ m _) => m
  | _ => ⟨#[]⟩
def wdOf (cal : List CK) (fns : List (List PV → RM PV)) (gvs : List PV) (dcs : List (List (Str × Int))) (mt : List ((Str × Str) × Bool)) : Wd where
  fn := fun i => (fns[i]?).getD fun _ => RM.bad
  gv := fun i => (gvs[i]?).getD .non
  dc := fun i => (dcs[i]?).getD []
  mt := fun c h => mt.lookup (c, h)
  mcl := fun i => mclOf cal[i]?
  mnm := fun i => mnmOf cal[i]?
inductive Cals (P : Program) (w : World) (K : PySem.W.Frag) (mg : Str → Option Value) (base : Heap) (k : Nat) : List CK → List (List PV → RM PV) → Prop
  | nil : Cals P w K mg base k [] []
  | cons {c : CK} {φ : List PV → RM PV} {cs : List CK} {φs : List (List PV → RM PV)} (h : CalI P w K mg base k φ (mclOf (some c)) (mnmOf (some c)) c) (r : Cals P w K mg base k cs φs) : Cals P w K mg base k (c :: cs) (φ :: φs)
inductive Gvs (K : PySem.W.Frag) (mg : Str → Option Value) : List Str → List PV → Prop
  | nil : Gvs K mg [] []
  | cons {x : Str} {v : PV} {xs : List Str} {vs : List PV} (h : GloC0 K mg x v) (r : Gvs K mg xs vs) : Gvs K mg (x :: xs) (v :: vs)
inductive Dcs (K : PySem.W.Frag) (w : World) (mg : Str → Option Value) : List Str → List (List (Str × Int)) → Prop
  | nil : Dcs K w mg [] []
  | cons {x : Str} {v : List (Str × Int)} {xs : List Str} {vs : List (List (Str × Int))} (h : DicC0 K w mg x v) (r : Dcs K w mg xs vs) : Dcs K w mg (x :: xs) (v :: vs)
section
variable {P : Program} {w : World} {K : PySem.W.Frag} {mg : Str → Option Value} {base : Heap} {k : Nat}
theorem Cals.at_ {cs : List CK} {φs : List (List PV → RM PV)} (h : Cals P w K mg base k cs φs) : ∀ (i : Nat) (c : CK), cs[i]? = some c → CalI P w K mg base k ((φs[i]?).getD fun _ => RM.bad) (mclOf cs[i]?) (mnmOf cs[i]?) c := by
  induction h with
  | nil => intro i c h; simp at h
  | cons h r ih =>
    intro i c e
    cases i with
    | zero => simp only [List.getElem?_cons_zero, Option.some.injEq] at e; subst e; exact h
    | succ i => simpa using ih i c (by simpa using e)
theorem Gvs.at_ {xs : List Str} {vs : List PV} (h : Gvs K mg xs vs) : ∀ (i : Nat) (x : Str), xs[i]? = some x → GloC0 K mg x ((vs[i]?).getD .non) := by
  induction h with
  | nil => intro i c h; simp at h
  | cons h r ih =>
    intro i c e
    cases i with
    | zero => simp only [List.getElem?_cons_zero, Option.some.injEq] at e; subst e; exact h
    | succ i => simpa using ih i c (by simpa using e)
theorem Dcs.at_ {xs : List Str} {vs : List (List (Str × Int))} (h : Dcs K w mg xs vs) : ∀ (i : Nat) (x : Str), xs[i]? = some x → DicC0 K w mg x ((vs[i]?).getD []) := by
  induction h with
  | nil => intro i c h; simp at h
  | cons h r ih =>
    intro i c e
    cases i with
    | zero => simp only [List.getElem?_cons_zero, Option.some.injEq] at e; subst e; exact h
    | succ i => simpa using ih i c (by simpa using e)
theorem fcts {L : Lc} {fns : List (List PV → RM PV)} {gvs : List PV} {dcs : List (List (Str × Int))} {mt : List ((Str × Str) × Bool)} (h1 : Cals P w K mg base k L.cal fns) (h2 : Gvs K mg L.gv gvs) (h3 : Dcs K w mg L.dc dcs) (h4 : ∀ q ∈ L.fl, Cls K (He.ga K q.1) ∧ NoAttr K (He.ga K q.1) q.2) (h5 : ∀ q ∈ L.xs, ExC0 P w K mg base q.1 q.2)
    (h6 : ∀ q ∈ mt, PySem.W.exmOne K (.ref (He.ga K q.1.1)) (.ref (He.ga K q.1.2)) = some q.2) (h7 : ∀ x ∈ bltNames, mg x = none) : Fcts P w K mg base L (wdOf L.cal fns gvs dcs mt) k where
  cal := h1.at_
  gv := h2.at_
  dc := h3.at_
  fl := fun c f h => h4 (c, f) h
  xs := fun c f h => h5 (c, f) h
  mt := fun c h b e => by
    have hm : ((c, h), b) ∈ mt := by
      have e' : mt.lookup (c, h) = some b := e
      clear h6 e
      induction mt with
      | nil => cases e'
      | cons q mt ih =>
        rw [List.lookup_cons] at e'
        cases z : (c, h) == q.1 with
        | true =>
          rw [z] at e'
          cases e'
          have := beq_iff_eq.mp z
          rw [this]
          exact List.mem_cons_self
        | false =>
          rw [z] at e'
          exact List.mem_cons_of_mem _ (ih e')
    exact h6 _ hm
  bt := h7
end
def bltF : List (PySem.W.Frag → Bool) := bltNames.map fun x => (He.Fa.free x).ok
theorem walk_R {l : PySem.W.OpenLaw} {q : Program} {loose : List Str} {XP : (Str → Option Value) → Heap → Prop} {d : DefRec} {nn : Nat} {fa : List (PySem.W.Frag → Bool)} {fn : List FnE} {ds : List (Str × List Str)} (e : FnE) (i : Nat) (k : Nat) (D : Wd) {x : Str}
    (hn : l.most = some 63) (hdf : d.params.defaults = []) (hr : RoomG (k + 3) callerA) (he : fn[i]? = some e) (hps : e.ps = [x]) (hnm : e.n = true) (had : ∀ K, e.ad K = He.ga K d.name)
    (hgl : ∀ (w : World) (K : PySem.W.Frag), obsR fa fn (ds.map (·.1)) K = valR ds w → (He.Fa.glo d.name).ok K = true)
    (HF : ∀ (w : World) (mg : Str → Option Value) (h : Heap) (K : PySem.W.Frag), K.In h → h.Ns mainGlobals mg → obsR fa fn (ds.map (·.1)) K = valR ds w → ∀ base : Heap, K.In base → base.Ns mainGlobals mg → Fcts l.prog w K mg base e.L D k)
    (hlaw : ∀ ns : List Int, ns.length ≤ 63 → (∀ z ∈ ns, Builtin.Int.intBits z ≤ 1048576) → ∃ M, mkF 1 e.L.N.length e.b D [.lst (ns.map PV.int)] [] = .ok (.bl true) M) :
    PySem.W.WalkO q loose XP (hookR nn fa fn ds).says l.row.toRowW d [] (fun f vs => PySem.call f vs) := by
  refine Att.attach_callB hn hdf fun w s₀ s₁ mg mb fa0 o pm cd doc a vs ns G Y ho hd hcd hmg hobj hints hlen hbits hg => ?_
  obtain ⟨K, KX, c⟩ := Y
  have e0 := hmg.symm.trans (He.glo_ok KX G.T.g (hgl w K c))
  have e1 : fa0 = e.ad K := by rw [had]; injection e0 with e0; injection e0
  subst e1
  have hk := says_fn c i he
  obtain ⟨y, qual, params, sts, scope, fd, Fd, hh⟩ := fnB_ok hk
  obtain ⟨h1, hh⟩ := andB hh
  obtain ⟨h2, h3⟩ := andB hh
  have hb : ∀ (s : Shared) (u : Value), BindsTo s fd ⟨[u], []⟩ [(x, u)] := fun s u => by
    have S := scB_ok h1
    have hnd : e.ps.Nodup := by rw [← S.pre]; exact S.nd.sublist (List.take_sublist _ _)
    have b := FunD.bindsA (ps := e.ps) Fd (fun kV doc pm an cdv ct us hl => binds_plain h2 hnd hl) s [u] (by rw [hps]; rfl)
    rw [hps] at b
    exact b
  have hF : ∀ base : Heap, K.In base → base.Ns mainGlobals mg → FnOkG l.prog w K mg base (L2N.CX l.prog w) (k + 3) (e.ad K) fd [x] (spOf K 1 (mkF 1 e.L.N.length e.b D)) := fun base hb1 hb2 => by
    have z := fn_okR (P := l.prog) (w := w) e.n Fd (HF w mg _ K KX G.T.g c base hb1 hb2) h1 h3
    rw [hps, hnm] at z
    exact z
  refine law_callG KX G.T.g G.T.b G.T.builtins G.T.nolimit hg hobj hints (Nat.le_trans hlen (by rw [sizeLine_eq]; decide)) hr hF hb (fun H hO hS => ?_) fun H e2 s' => ?_
  · obtain ⟨M, hM⟩ := hlaw ns hlen hbits
    refine ⟨H, [], [], [.lst (ns.map PV.int)], rfl, ⟨fun _ _ h => h, rfl, List.nodup_nil, fun n a o h => by simp at h⟩, Reps.cons (rep_lst.mpr ⟨a, _, rfl, hS, reps_ints ns⟩) Reps.nil, ?_⟩
    rw [hM]
    exact fun G' ρ' H' v _ _ r => rep_bl.mp r
  · exact fun ⟨_, _, _, _, _, _, _, _, _, _, _, _, z⟩ => z.elim
end R
set_option maxHeartbeats 0
namespace R
open PySem PySem.Spec L2
open PyProof.Rows hiding St
def b__law_dip : Tm .b := (.bcons (.asg (.gsub (.var 0) (.int 2)) (.bin .add (.idx (.var 0) (.int 2)) (.int 1)))
  (.bcons (.asg (.gnm 2) (.bin .mod (.bi .int (.cons (.bin .add (.idx (.var 0) (.int 1)) (.bin .mul (.int 770551) (.idx (.var 0) (.int 2)))) .nil)) (.int 2147483587)))
  (.bcons (.asg (.gsub (.var 0) (.int 1)) (.bin .mod (.bi .int (.cons (.bin .add (.bin .add (.bin .mul (.var 2) (.var 2)) (.bin .mul (.int 2753159) (.var 2))) (.int 519371)) .nil)) (.int 2147483587)))
  (.bcons (.ifs (.cmp .eq (.idx (.var 0) (.int 0)) (.int 0)) (.bone (.ret (.bin .mod (.bi .int (.cons (.bin .fdiv (.idx (.var 0) (.int 1)) (.int 103)) .nil)) (.var 1)))) .bnil)
  (.bcons (.asg (.gtup 2 (.gcons (.gnm 3) (.gcons (.gnm 4) .gnil))) (.bi .divmod (.cons (.idx (.var 0) (.int 0)) (.cons (.var 1) .nil))))
  (.bcons (.asg (.gsub (.var 0) (.int 0)) (.var 3))
  (.bone (.ret (.var 4)))))))))
def L__law_dip : Lc := ⟨[("_law_jar" : Str), ("_law_many" : Str), ("_law_mixed" : Str), ("_law_stock" : Str), ("_law_digit" : Str)], [], [], [], [], []⟩
noncomputable def D__law_dip : Wd := wdOf L__law_dip.cal [] [] [] []
noncomputable def F__law_dip : List PV → RM PV := mkF 2 5 b__law_dip D__law_dip
def b__law_rights : Tm .b := (.bcons (.asg (.gnm 1) (.bin .add (.bin .add (.bin .add (.bi .str (.cons (.var 0) .nil)) (.str (" " : Str))) (.bi .str (.cons (.var 0) .nil))) (.str (": 0,1 1" : Str))))
  (.bcons (.asg (.gtup 2 (.gcons (.gnm 3) (.gcons (.gnm 4) .gnil))) (.tup (.cons (.tup (.cons (.tup (.cons (.int 1) (.cons (.int 1) .nil))) (.cons (.tup (.cons (.int 0) (.cons (.int 1) .nil))) .nil))) (.cons (.tup (.cons (.tup (.cons (.int 1) (.cons (.int 2) .nil))) (.cons (.tup (.cons (.int 1) (.cons (.int 2) .nil))) .nil))) .nil))))
  (.bcons (.asg (.gnm 2) (.lst true (.cons (.tup (.cons (.tup (.cons (.str ("sure" : Str)) (.cons (.var 1) (.cons (.tup (.cons (.int 1) (.cons (.int 2) .nil))) .nil)))) (.cons (.tup (.cons (.tup (.cons (.int 1) (.cons (.int 1) .nil))) (.cons (.tup (.cons (.int 0) (.cons (.int 1) .nil))) .nil))) .nil))) (.cons (.tup (.cons (.tup (.cons (.str ("no more" : Str)) (.cons (.var 1) (.cons (.tup (.cons (.int 3) (.cons (.int 4) .nil))) .nil)))) (.cons (.tup (.cons (.var 3) (.cons (.var 4) .nil))) .nil))) .nil))))
  (.bcons (.ex (.bm .append (.var 2) (.cons (.tup (.cons (.tup (.cons (.str ("least" : Str)) (.cons (.var 1) (.cons (.int 0) (.cons (.tup (.cons (.int 0) .nil)) (.cons (.tup (.cons (.int 1) (.cons (.int 2) .nil))) .nil)))))) (.cons (.tup (.cons (.var 3) (.cons (.var 3) .nil))) .nil))) .nil)))
  (.bcons (.ex (.bm .append (.var 2) (.cons (.tup (.cons (.tup (.cons (.str ("most" : Str)) (.cons (.var 1) (.cons (.int 0) (.cons (.tup (.cons (.int 0) .nil)) (.cons (.tup (.cons (.int 1) (.cons (.int 1) .nil))) .nil)))))) (.cons (.tup (.cons (.var 3) (.cons (.tup (.cons (.tup (.cons (.int 0) (.cons (.int 1) .nil))) (.cons (.tup (.cons (.int 1) (.cons (.int 1) .nil))) .nil))) .nil))) .nil))) .nil)))
  (.bcons (.ex (.bm .append (.var 2) (.cons (.tup (.cons (.tup (.cons (.str ("given" : Str)) (.cons (.var 1) (.cons (.tup (.cons (.tup (.cons (.int 3) (.cons (.int 4) .nil))) (.cons (.tup (.cons (.int 1) (.cons (.int 4) .nil))) .nil))) .nil)))) (.cons (.tup (.cons (.var 3) (.cons (.var 4) .nil))) .nil))) .nil)))
  (.bone (.ret (.bin .add (.var 2) (.lst false (.cons (.tup (.cons (.tup (.cons (.str ("not given" : Str)) (.cons (.var 1) (.cons (.tup (.cons (.tup (.cons (.int 1) (.cons (.int 4) .nil))) (.cons (.tup (.cons (.int 3) (.cons (.int 4) .nil))) .nil))) .nil)))) (.cons (.tup (.cons (.int 0) .nil)) .nil))) .nil)))))))))))
def L__law_rights : Lc := ⟨[("_law_n" : Str), ("_law_line" : Str), ("_law_found" : Str), ("_law_lone" : Str), ("_law_both" : Str)], [], [], [], [], []⟩
noncomputable def D__law_rights : Wd := wdOf L__law_rights.cal [] [] [] []
noncomputable def F__law_rights : List PV → RM PV := mkF 1 5 b__law_rights D__law_rights
def b_number_in : Tm .b := (.bcons (.ifs (.or_ (.cmp .eq (.var 0) (.str ("" : Str))) (.or1 (.not_ (.bi .all (.cons (.lc false [(("sign" : Str), 1)] (.gnm 1) (.seq (.var 0)) .tt (.cmp .in_ (.var 1) (.gv 0))) .nil))))) (.bone (.ret .non)) .bnil)
  (.bone (.ret (.ite (.and_ (.cmp .eq (.idx (.var 0) (.int 0)) (.str ("0" : Str))) (.and1 (.cmp .ne (.var 0) (.str ("0" : Str))))) .non (.bi .int (.cons (.var 0) .nil))))))
def L_number_in : Lc := ⟨[("text" : Str), ("sign" : Str)], [], [("DIGITS" : Str)], [], [], []⟩
noncomputable def D_number_in : Wd := wdOf L_number_in.cal [] [(.str ("0123456789" : Str))] [] []
noncomputable def F_number_in : List PV → RM PV := mkF 1 2 b_number_in D_number_in
def b_cases_in : Tm .b := (.bone (.ret (.bi .tuple (.cons (.lc false [(("part" : Str), 1)] (.gnm 1) (.seq (.bm .split (.var 0) (.cons (.str ("," : Str)) .nil))) .tt (.call 0 (.cons (.var 1) .nil))) .nil))))
def L_cases_in : Lc := ⟨[("word" : Str), ("part" : Str)], [.glob ("number_in" : Str) true], [], [], [], []⟩
noncomputable def D_cases_in : Wd := wdOf L_cases_in.cal [F_number_in] [] [] []
noncomputable def F_cases_in : List PV → RM PV := mkF 1 2 b_cases_in D_cases_in
def b_is_integer : Tm .b := (.bone (.ret (.and_ (.isi (.var 0) .int) (.and1 (.not_ (.isi (.var 0) .bool))))))
def L_is_integer : Lc := ⟨[("value" : Str)], [], [], [], [], []⟩
noncomputable def D_is_integer : Wd := wdOf L_is_integer.cal [] [] [] []
noncomputable def F_is_integer : List PV → RM PV := mkF 1 1 b_is_integer D_is_integer
def b_is_between : Tm .b := (.bone (.ret (.and_ (.call 0 (.cons (.var 0) .nil)) (.and1 (.chain .le .le (.var 1) (.var 0) (.var 2))))))
def L_is_between : Lc := ⟨[("value" : Str), ("low" : Str), ("high" : Str)], [.glob ("is_integer" : Str) true], [], [], [], []⟩
noncomputable def D_is_between : Wd := wdOf L_is_between.cal [F_is_integer] [] [] []
noncomputable def F_is_between : List PV → RM PV := mkF 3 3 b_is_between D_is_between
def b_check_weights : Tm .b := (.bcons (.ifs (.or_ (.not_ (.isi (.var 0) .tuple)) (.or1 (.cmp .lt (.bi .len (.cons (.var 0) .nil)) (.gv 0)))) (.bone (.raise ("InvalidWeights" : Str) ("index" : Str) .non)) .bnil)
  (.bone (.for_ (.gtup 2 (.gcons (.gnm 1) (.gcons (.gnm 2) .gnil))) (.enum (.var 0)) (.bone (.ifs (.or_ (.cmp .eq (.var 1) (.gv 1)) (.or1 (.not_ (.call 0 (.cons (.var 2) (.cons (.int 1) (.cons (.gv 2) .nil))))))) (.bone (.raise ("InvalidWeights" : Str) ("index" : Str) (.var 1))) .bnil)))))
def L_check_weights : Lc := ⟨[("values" : Str), ("index" : Str), ("value" : Str)], [.glob ("is_between" : Str) true], [("LEAST_CASES" : Str), ("MOST_CASES" : Str), ("MOST_WEIGHT" : Str)], [], [], [(("InvalidWeights" : Str), ("index" : Str))]⟩
noncomputable def D_check_weights : Wd := wdOf L_check_weights.cal [F_is_between] [(.int 2), (.int 8), (.int 1000000)] [] []
noncomputable def F_check_weights : List PV → RM PV := mkF 1 3 b_check_weights D_check_weights
def b_is_ascending : Tm .b := (.bone (.ret (.bi .all (.cons (.lc false [(("index" : Str), 1)] (.gnm 1) (.range2 (.int 1) (.bi .len (.cons (.var 0) .nil))) .tt (.cmp .lt (.idx (.var 0) (.bin .sub (.var 1) (.int 1))) (.idx (.var 0) (.var 1)))) .nil))))
def L_is_ascending : Lc := ⟨[("values" : Str), ("index" : Str)], [], [], [], [], []⟩
noncomputable def D_is_ascending : Wd := wdOf L_is_ascending.cal [] [] [] []
noncomputable def F_is_ascending : List PV → RM PV := mkF 1 2 b_is_ascending D_is_ascending
def b_is_lot : Tm .b := (.bcons (.ifs (.or_ (.not_ (.isi (.var 0) .tuple)) (.or1 (.not_ (.bi .all (.cons (.lc false [(("case" : Str), 2)] (.gnm 2) (.seq (.var 0)) .tt (.call 0 (.cons (.var 2) (.cons (.int 0) (.cons (.bin .sub (.var 1) (.int 1)) .nil))))) .nil))))) (.bone (.ret (.bl false))) .bnil)
  (.bone (.ret (.call 1 (.cons (.var 0) .nil)))))
def L_is_lot : Lc := ⟨[("value" : Str), ("many" : Str), ("case" : Str)], [.glob ("is_between" : Str) true, .glob ("is_ascending" : Str) true], [], [], [], []⟩
noncomputable def D_is_lot : Wd := wdOf L_is_lot.cal [F_is_between, F_is_ascending] [] [] []
noncomputable def F_is_lot : List PV → RM PV := mkF 2 3 b_is_lot D_is_lot
def b_check_sayings : Tm .b := (.bcons (.ifs (.or_ (.not_ (.isi (.var 0) .tuple)) (.or1 (.cmp .eq (.var 0) (.tup .nil)))) (.bone (.raise ("InvalidSayings" : Str) ("index" : Str) .non)) .bnil)
  (.bcons (.for_ (.gtup 2 (.gcons (.gnm 2) (.gcons (.gnm 3) .gnil))) (.enum (.var 0)) (.bone (.ifs (.or_ (.cmp .eq (.var 2) (.gv 0)) (.or_ (.not_ (.call 0 (.cons (.var 3) (.cons (.var 1) .nil)))) (.or1 (.cmp .eq (.var 3) (.tup .nil))))) (.bone (.raise ("InvalidSayings" : Str) ("index" : Str) (.var 2))) .bnil)))
  (.bone (.ifs (.not_ (.bi .all (.cons (.lc false [(("case" : Str), 4)] (.gnm 4) (.range1 (.var 1)) .tt (.bi .any (.cons (.lc false [(("value" : Str), 3)] (.gnm 3) (.seq (.var 0)) .tt (.cmp .in_ (.var 4) (.var 3))) .nil))) .nil))) (.bone (.raise ("InvalidSayings" : Str) ("index" : Str) .non)) .bnil))))
def L_check_sayings : Lc := ⟨[("values" : Str), ("many" : Str), ("index" : Str), ("value" : Str), ("case" : Str)], [.glob ("is_lot" : Str) true], [("MOST_SAYINGS" : Str)], [], [], [(("InvalidSayings" : Str), ("index" : Str))]⟩
noncomputable def D_check_sayings : Wd := wdOf L_check_sayings.cal [F_is_lot] [(.int 16)] [] []
noncomputable def F_check_sayings : List PV → RM PV := mkF 2 5 b_check_sayings D_check_sayings
def b_Teller___init__ : Tm .b := (.bcons (.ex (.call 0 (.cons (.var 1) .nil)))
  (.bcons (.ex (.call 1 (.cons (.var 2) (.cons (.bi .len (.cons (.var 1) .nil)) .nil))))
  (.bone (.sto ("Teller" : Str) ("held" : Str) (.var 0) (.tup (.cons (.var 1) (.cons (.var 2) .nil)))))))
def L_Teller___init__ : Lc := ⟨[("self" : Str), ("weights" : Str), ("sayings" : Str)], [.glob ("check_weights" : Str) true, .glob ("check_sayings" : Str) true], [], [], [(("Teller" : Str), ("held" : Str))], []⟩
noncomputable def D_Teller___init__ : Wd := wdOf L_Teller___init__.cal [F_check_weights, F_check_sayings] [] [] []
noncomputable def F_Teller___init__ : List PV → RM PV := mkF 3 3 b_Teller___init__ D_Teller___init__
def b_Teller_read : Tm .b := (.bcons (.asg (.gnm 1) (.ite (.isi (.var 0) .str) (.bm .split (.var 0) (.cons (.str (": " : Str)) .nil)) (.lst false .nil)))
  (.bcons (.ifs (.cmp .ne (.bi .len (.cons (.var 1) .nil)) (.int 2)) (.bone (.raise ("InvalidText" : Str) ("given" : Str) (.var 0))) .bnil)
  (.bcons (.asg (.gnm 2) (.bi .tuple (.cons (.lc false [(("word" : Str), 5)] (.gnm 5) (.seq (.bm .split (.idx (.var 1) (.int 0)) (.cons (.str (" " : Str)) .nil))) .tt (.call 0 (.cons (.var 5) .nil))) .nil)))
  (.bcons (.asg (.gnm 3) (.bi .tuple (.cons (.lc false [(("word" : Str), 5)] (.gnm 5) (.seq (.bm .split (.idx (.var 1) (.int 1)) (.cons (.str (" " : Str)) .nil))) .tt (.call 1 (.cons (.var 5) .nil))) .nil)))
  (.bcons (.tryr ("InvalidWeights" : Str) ("InvalidSayings" : Str) ("InvalidText" : Str) ("given" : Str) (.bone (.asg (.gnm 4) (.call 2 (.cons (.var 2) (.cons (.var 3) .nil))))) (.var 0))
  (.bone (.ret (.var 4))))))))
def L_Teller_read : Lc := ⟨[("text" : Str), ("halves" : Str), ("weights" : Str), ("sayings" : Str), ("teller" : Str), ("word" : Str)], [.glob ("number_in" : Str) true, .glob ("cases_in" : Str) true, .new ("Teller" : Str) true true], [], [], [], [(("InvalidText" : Str), ("given" : Str)), (("InvalidWeights" : Str), ("index" : Str)), (("InvalidSayings" : Str), ("index" : Str))]⟩
noncomputable def D_Teller_read : Wd := wdOf L_Teller_read.cal [F_number_in, F_cases_in, (newF ("Teller" : Str) F_Teller___init__)] [] [] [((("InvalidWeights" : Str), ("InvalidWeights" : Str)), true), ((("InvalidWeights" : Str), ("InvalidSayings" : Str)), false), ((("InvalidSayings" : Str), ("InvalidWeights" : Str)), false), ((("InvalidSayings" : Str), ("InvalidSayings" : Str)), true)]
noncomputable def F_Teller_read : List PV → RM PV := mkF 1 6 b_Teller_read D_Teller_read
def b_teller_in : Tm .b := (.bcons (.try_ (.bone (.asg (.gnm 1) (.call 0 (.cons (.var 0) .nil)))) (.hcons ("InvalidText" : Str) (.bone (.ret .non)) .hnil))
  (.bone (.ret (.var 1))))
def L_teller_in : Lc := ⟨[("text" : Str), ("teller" : Str)], [.stat ("Teller" : Str) ("read" : Str) false], [], [], [], [(("InvalidText" : Str), ("given" : Str))]⟩
noncomputable def D_teller_in : Wd := wdOf L_teller_in.cal [F_Teller_read] [] [] [((("InvalidText" : Str), ("InvalidText" : Str)), true)]
noncomputable def F_teller_in : List PV → RM PV := mkF 1 2 b_teller_in D_teller_in
def b_common_divisor : Tm .b := (.bcons (.whl (.cmp .ne (.var 1) (.int 0)) (.bone (.par [0, 1] (.cons (.var 1) (.cons (.bin .mod (.var 0) (.var 1)) .nil)))))
  (.bone (.ret (.var 0))))
def L_common_divisor : Lc := ⟨[("one" : Str), ("other" : Str)], [], [], [], [], []⟩
noncomputable def D_common_divisor : Wd := wdOf L_common_divisor.cal [] [] [] []
noncomputable def F_common_divisor : List PV → RM PV := mkF 2 2 b_common_divisor D_common_divisor
def b_is_fraction : Tm .b := (.bcons (.ifs (.or_ (.not_ (.isi (.var 0) .tuple)) (.or_ (.cmp .ne (.bi .len (.cons (.var 0) .nil)) (.int 2)) (.or_ (.not_ (.call 0 (.cons (.idx (.var 0) (.int 0)) .nil))) (.or1 (.not_ (.call 0 (.cons (.idx (.var 0) (.int 1)) .nil))))))) (.bone (.ret (.bl false))) .bnil)
  (.bone (.ret (.and_ (.chain .le .le (.int 0) (.idx (.var 0) (.int 0)) (.idx (.var 0) (.int 1))) (.and_ (.cmp .gt (.idx (.var 0) (.int 1)) (.int 0)) (.and1 (.cmp .eq (.call 1 (.cons (.idx (.var 0) (.int 0)) (.cons (.idx (.var 0) (.int 1)) .nil))) (.int 1))))))))
def L_is_fraction : Lc := ⟨[("value" : Str)], [.glob ("is_integer" : Str) true, .glob ("common_divisor" : Str) true], [], [], [], []⟩
noncomputable def D_is_fraction : Wd := wdOf L_is_fraction.cal [F_is_integer, F_common_divisor] [] [] []
noncomputable def F_is_fraction : List PV → RM PV := mkF 1 1 b_is_fraction D_is_fraction
def b_are_fractions : Tm .b := (.bone (.ret (.and_ (.isi (.var 0) .tuple) (.and_ (.cmp .eq (.bi .len (.cons (.var 0) .nil)) (.var 1)) (.and1 (.bi .all (.cons (.lc false [(("part" : Str), 2)] (.gnm 2) (.seq (.var 0)) .tt (.call 0 (.cons (.var 2) .nil))) .nil)))))))
def L_are_fractions : Lc := ⟨[("value" : Str), ("many" : Str), ("part" : Str)], [.glob ("is_fraction" : Str) true], [], [], [], []⟩
noncomputable def D_are_fractions : Wd := wdOf L_are_fractions.cal [F_is_fraction] [] [] []
noncomputable def F_are_fractions : List PV → RM PV := mkF 2 3 b_are_fractions D_are_fractions
def b_Teller_weights : Tm .b := (.bone (.ret (.idx (.fld ("Teller" : Str) ("held" : Str) (.var 0)) (.int 0))))
def L_Teller_weights : Lc := ⟨[("self" : Str)], [], [], [], [(("Teller" : Str), ("held" : Str))], []⟩
noncomputable def D_Teller_weights : Wd := wdOf L_Teller_weights.cal [] [] [] []
noncomputable def F_Teller_weights : List PV → RM PV := mkF 1 1 b_Teller_weights D_Teller_weights
def b_Teller_sayings : Tm .b := (.bone (.ret (.idx (.fld ("Teller" : Str) ("held" : Str) (.var 0)) (.int 1))))
def L_Teller_sayings : Lc := ⟨[("self" : Str)], [], [], [], [(("Teller" : Str), ("held" : Str))], []⟩
noncomputable def D_Teller_sayings : Wd := wdOf L_Teller_sayings.cal [] [] [] []
noncomputable def F_Teller_sayings : List PV → RM PV := mkF 1 1 b_Teller_sayings D_Teller_sayings
def b_is_less : Tm .b := (.bone (.ret (.cmp .lt (.bin .mul (.idx (.var 0) (.int 0)) (.idx (.var 1) (.int 1))) (.bin .mul (.idx (.var 1) (.int 0)) (.idx (.var 0) (.int 1))))))
def L_is_less : Lc := ⟨[("one" : Str), ("other" : Str)], [], [], [], [], []⟩
noncomputable def D_is_less : Wd := wdOf L_is_less.cal [] [] [] []
noncomputable def F_is_less : List PV → RM PV := mkF 2 2 b_is_less D_is_less
def b_fraction : Tm .b := (.bcons (.asg (.gnm 2) (.call 0 (.cons (.bi .abs (.cons (.var 0) .nil)) (.cons (.bi .abs (.cons (.var 1) .nil)) .nil))))
  (.bcons (.asg (.gnm 2) (.ite (.cmp .gt (.var 1) (.int 0)) (.var 2) (.neg (.var 2))))
  (.bone (.ret (.tup (.cons (.bin .fdiv (.var 0) (.var 2)) (.cons (.bin .fdiv (.var 1) (.var 2)) .nil)))))))
def L_fraction : Lc := ⟨[("top" : Str), ("bottom" : Str), ("common" : Str)], [.glob ("common_divisor" : Str) true], [], [], [], []⟩
noncomputable def D_fraction : Wd := wdOf L_fraction.cal [F_common_divisor] [] [] []
noncomputable def F_fraction : List PV → RM PV := mkF 2 3 b_fraction D_fraction
def b_plus : Tm .b := (.bone (.ret (.call 0 (.cons (.bin .add (.bin .mul (.idx (.var 0) (.int 0)) (.idx (.var 1) (.int 1))) (.bin .mul (.idx (.var 1) (.int 0)) (.idx (.var 0) (.int 1)))) (.cons (.bin .mul (.idx (.var 0) (.int 1)) (.idx (.var 1) (.int 1))) .nil)))))
def L_plus : Lc := ⟨[("one" : Str), ("other" : Str)], [.glob ("fraction" : Str) true], [], [], [], []⟩
noncomputable def D_plus : Wd := wdOf L_plus.cal [F_fraction] [] [] []
noncomputable def F_plus : List PV → RM PV := mkF 2 2 b_plus D_plus
def b_total : Tm .b := (.bcons (.asg (.gnm 1) (.tup (.cons (.int 0) (.cons (.int 1) .nil))))
  (.bcons (.for_ (.gnm 2) (.seq (.var 0)) (.bone (.asg (.gnm 1) (.call 0 (.cons (.var 1) (.cons (.var 2) .nil))))))
  (.bone (.ret (.var 1)))))
def L_total : Lc := ⟨[("values" : Str), ("found" : Str), ("value" : Str)], [.glob ("plus" : Str) true], [], [], [], []⟩
noncomputable def D_total : Wd := wdOf L_total.cal [F_plus] [] [] []
noncomputable def F_total : List PV → RM PV := mkF 1 3 b_total D_total
def b_times : Tm .b := (.bone (.ret (.call 0 (.cons (.bin .mul (.idx (.var 0) (.int 0)) (.idx (.var 1) (.int 0))) (.cons (.bin .mul (.idx (.var 0) (.int 1)) (.idx (.var 1) (.int 1))) .nil)))))
def L_times : Lc := ⟨[("one" : Str), ("other" : Str)], [.glob ("fraction" : Str) true], [], [], [], []⟩
noncomputable def D_times : Wd := wdOf L_times.cal [F_fraction] [] [] []
noncomputable def F_times : List PV → RM PV := mkF 2 2 b_times D_times
def b_shows_sure : Tm .b := (.bcons (.ifs (.or_ (.not_ (.call 0 (.cons (.var 1) .nil))) (.or1 (.not_ (.call 1 (.cons (.var 2) (.cons (.bi .len (.cons (.prop 2 (.var 0)) .nil)) .nil)))))) (.bone (.ret (.bl false))) .bnil)
  (.bcons (.ifs (.bi .any (.cons (.lc false [(("cases" : Str), 4)] (.gnm 4) (.seq (.prop 3 (.var 0))) .tt (.call 4 (.cons (.gv 0) (.cons (.call 5 (.cons (.lc false [(("case" : Str), 7)] (.gnm 7) (.seq (.var 4)) .tt (.idx (.var 2) (.var 7))) .nil)) .nil)))) .nil)) (.bone (.ret (.bl false))) .bnil)
  (.bcons (.asg (.gnm 3) (.call 5 (.cons (.lc false [(("weight" : Str), 5), (("number" : Str), 6)] (.gtup 2 (.gcons (.gnm 5) (.gcons (.gnm 6) .gnil))) (.zip (.prop 2 (.var 0)) (.var 2)) .tt (.call 6 (.cons (.tup (.cons (.var 5) (.cons (.int 1) .nil))) (.cons (.var 6) .nil)))) .nil)))
  (.bone (.ret (.not_ (.call 4 (.cons (.call 7 (.cons (.idx (.var 3) (.int 0)) (.cons (.bin .mul (.idx (.var 3) (.int 1)) (.bi .sum (.cons (.prop 2 (.var 0)) .nil))) .nil))) (.cons (.var 1) .nil)))))))))
def L_shows_sure : Lc := ⟨[("teller" : Str), ("bound" : Str), ("numbers" : Str), ("found" : Str), ("cases" : Str), ("weight" : Str), ("number" : Str), ("case" : Str)], [.glob ("is_fraction" : Str) true, .glob ("are_fractions" : Str) true, .prop ("Teller" : Str) ("weights" : Str) true, .prop ("Teller" : Str) ("sayings" : Str) true, .glob ("is_less" : Str) true, .glob ("total" : Str) true, .glob ("times" : Str) true, .glob ("fraction" : Str) true], [("WHOLE" : Str)], [], [], []⟩
noncomputable def D_shows_sure : Wd := wdOf L_shows_sure.cal [F_is_fraction, F_are_fractions, F_Teller_weights, F_Teller_sayings, F_is_less, F_total, F_times, F_fraction] [(.tup [(.int 1), (.int 1)])] [] []
noncomputable def F_shows_sure : List PV → RM PV := mkF 3 8 b_shows_sure D_shows_sure
def b_is_habit_in : Tm .b := (.bcons (.ifs (.or_ (.not_ (.isi (.var 2) .tuple)) (.or1 (.cmp .ne (.bi .len (.cons (.var 2) .nil)) (.bi .len (.cons (.prop 0 (.var 0)) .nil))))) (.bone (.ret (.bl false))) .bnil)
  (.bcons (.ifs (.or_ (.not_ (.bi .all (.cons (.lc false [(("part" : Str), 5)] (.gnm 5) (.seq (.var 2)) .tt (.call 1 (.cons (.var 5) .nil))) .nil))) (.or1 (.cmp .ne (.call 2 (.cons (.var 2) .nil)) (.gv 0)))) (.bone (.ret (.bl false))) .bnil)
  (.bone (.ret (.bi .all (.cons (.lc false [(("index" : Str), 3), (("cases" : Str), 4)] (.gtup 2 (.gcons (.gnm 3) (.gcons (.gnm 4) .gnil))) (.enum (.prop 0 (.var 0))) .tt (.or_ (.cmp .eq (.idx (.var 2) (.var 3)) (.gv 1)) (.or1 (.cmp .in_ (.var 1) (.var 4))))) .nil))))))
def L_is_habit_in : Lc := ⟨[("teller" : Str), ("case" : Str), ("value" : Str), ("index" : Str), ("cases" : Str), ("part" : Str)], [.prop ("Teller" : Str) ("sayings" : Str) true, .glob ("is_fraction" : Str) true, .glob ("total" : Str) true], [("WHOLE" : Str), ("NONE" : Str)], [], [], []⟩
noncomputable def D_is_habit_in : Wd := wdOf L_is_habit_in.cal [F_Teller_sayings, F_is_fraction, F_total] [(.tup [(.int 1), (.int 1)]), (.tup [(.int 0), (.int 1)])] [] []
noncomputable def F_is_habit_in : List PV → RM PV := mkF 3 6 b_is_habit_in D_is_habit_in
def b_is_habit : Tm .b := (.bcons (.ifs (.or_ (.not_ (.isi (.var 1) .tuple)) (.or1 (.cmp .ne (.bi .len (.cons (.var 1) .nil)) (.bi .len (.cons (.prop 0 (.var 0)) .nil))))) (.bone (.ret (.bl false))) .bnil)
  (.bone (.ret (.bi .all (.cons (.lc false [(("case" : Str), 2), (("row" : Str), 3)] (.gtup 2 (.gcons (.gnm 2) (.gcons (.gnm 3) .gnil))) (.enum (.var 1)) .tt (.call 1 (.cons (.var 0) (.cons (.var 2) (.cons (.var 3) .nil))))) .nil)))))
def L_is_habit : Lc := ⟨[("teller" : Str), ("value" : Str), ("case" : Str), ("row" : Str)], [.prop ("Teller" : Str) ("weights" : Str) true, .glob ("is_habit_in" : Str) true], [], [], [], []⟩
noncomputable def D_is_habit : Wd := wdOf L_is_habit.cal [F_Teller_weights, F_is_habit_in] [] [] []
noncomputable def F_is_habit : List PV → RM PV := mkF 2 4 b_is_habit D_is_habit
def b_greater : Tm .b := (.bone (.ret (.ite (.call 0 (.cons (.var 0) (.cons (.var 1) .nil))) (.var 1) (.var 0))))
def L_greater : Lc := ⟨[("one" : Str), ("other" : Str)], [.glob ("is_less" : Str) true], [], [], [], []⟩
noncomputable def D_greater : Wd := wdOf L_greater.cal [F_is_less] [] [] []
noncomputable def F_greater : List PV → RM PV := mkF 2 2 b_greater D_greater
def b_share_of : Tm .b := (.bone (.ret (.call 0 (.cons (.idx (.var 1) (.int 0)) (.cons (.bin .mul (.idx (.var 1) (.int 1)) (.bi .sum (.cons (.prop 1 (.var 0)) .nil))) .nil)))))
def L_share_of : Lc := ⟨[("teller" : Str), ("value" : Str)], [.glob ("fraction" : Str) true, .prop ("Teller" : Str) ("weights" : Str) true], [], [], [], []⟩
noncomputable def D_share_of : Wd := wdOf L_share_of.cal [F_fraction, F_Teller_weights] [] [] []
noncomputable def F_share_of : List PV → RM PV := mkF 2 2 b_share_of D_share_of
def b_against : Tm .b := (.bcons (.asg (.gnm 2) (.lst true .nil))
  (.bcons (.for_ (.gnm 3) (.range1 (.bi .len (.cons (.prop 0 (.var 0)) .nil))) (.bcons (.asg (.gnm 4) (.gv 0))
  (.bcons (.for_ (.gtup 2 (.gcons (.gnm 5) (.gcons (.gnm 6) .gnil))) (.enum (.prop 1 (.var 0))) (.bone (.asg (.gnm 4) (.call 2 (.cons (.var 4) (.cons (.call 3 (.cons (.tup (.cons (.var 6) (.cons (.int 1) .nil))) (.cons (.idx (.idx (.var 1) (.var 5)) (.var 3)) .nil))) .nil))))))
  (.bone (.ex (.bm .append (.var 2) (.cons (.var 4) .nil)))))))
  (.bone (.ret (.call 4 (.cons (.var 0) (.cons (.call 5 (.cons (.var 2) .nil)) .nil)))))))
def L_against : Lc := ⟨[("teller" : Str), ("habit" : Str), ("found" : Str), ("saying" : Str), ("best" : Str), ("case" : Str), ("weight" : Str)], [.prop ("Teller" : Str) ("sayings" : Str) true, .prop ("Teller" : Str) ("weights" : Str) true, .glob ("greater" : Str) true, .glob ("times" : Str) true, .glob ("share_of" : Str) true, .glob ("total" : Str) true], [("NONE" : Str)], [], [], []⟩
noncomputable def D_against : Wd := wdOf L_against.cal [F_Teller_sayings, F_Teller_weights, F_greater, F_times, F_share_of, F_total] [(.tup [(.int 0), (.int 1)])] [] []
noncomputable def F_against : List PV → RM PV := mkF 2 7 b_against D_against
def b_shows_no_more : Tm .b := (.bone (.ret (.and_ (.call 0 (.cons (.var 1) .nil)) (.and_ (.call 1 (.cons (.var 0) (.cons (.var 2) .nil))) (.and1 (.not_ (.call 2 (.cons (.var 1) (.cons (.call 3 (.cons (.var 0) (.cons (.var 2) .nil))) .nil)))))))))
def L_shows_no_more : Lc := ⟨[("teller" : Str), ("bound" : Str), ("habit" : Str)], [.glob ("is_fraction" : Str) true, .glob ("is_habit" : Str) true, .glob ("is_less" : Str) true, .glob ("against" : Str) true], [], [], [], []⟩
noncomputable def D_shows_no_more : Wd := wdOf L_shows_no_more.cal [F_is_fraction, F_is_habit, F_is_less, F_against] [] [] []
noncomputable def F_shows_no_more : List PV → RM PV := mkF 3 3 b_shows_no_more D_shows_no_more
def b_is_asked : Tm .b := (.bcons (.ifs (.or_ (.not_ (.call 0 (.cons (.var 1) (.cons (.int 0) (.cons (.bin .sub (.bi .len (.cons (.prop 1 (.var 0)) .nil)) (.int 1)) .nil))))) (.or1 (.not_ (.call 2 (.cons (.var 2) (.cons (.bi .len (.cons (.prop 3 (.var 0)) .nil)) .nil)))))) (.bone (.ret (.bl false))) .bnil)
  (.bone (.ret (.call 4 (.cons (.var 3) .nil)))))
def L_is_asked : Lc := ⟨[("teller" : Str), ("saying" : Str), ("lot" : Str), ("bound" : Str)], [.glob ("is_between" : Str) true, .prop ("Teller" : Str) ("sayings" : Str) true, .glob ("is_lot" : Str) true, .prop ("Teller" : Str) ("weights" : Str) true, .glob ("is_fraction" : Str) true], [], [], [], []⟩
noncomputable def D_is_asked : Wd := wdOf L_is_asked.cal [F_is_between, F_Teller_sayings, F_is_lot, F_Teller_weights, F_is_fraction] [] [] []
noncomputable def F_is_asked : List PV → RM PV := mkF 4 4 b_is_asked D_is_asked
def b_heard_weight : Tm .b := (.bone (.ret (.call 0 (.cons (.lc false [(("case" : Str), 4)] (.gnm 4) (.seq (.var 3)) .tt (.call 1 (.cons (.tup (.cons (.idx (.prop 2 (.var 0)) (.var 4)) (.cons (.int 1) .nil))) (.cons (.idx (.idx (.var 1) (.var 4)) (.var 2)) .nil)))) .nil))))
def L_heard_weight : Lc := ⟨[("teller" : Str), ("habit" : Str), ("saying" : Str), ("cases" : Str), ("case" : Str)], [.glob ("total" : Str) true, .glob ("times" : Str) true, .prop ("Teller" : Str) ("weights" : Str) true], [], [], [], []⟩
noncomputable def D_heard_weight : Wd := wdOf L_heard_weight.cal [F_total, F_times, F_Teller_weights] [] [] []
noncomputable def F_heard_weight : List PV → RM PV := mkF 4 5 b_heard_weight D_heard_weight
def b_Teller_said_in : Tm .b := (.bone (.ret (.bi .tuple (.cons (.lc false [(("index" : Str), 2), (("cases" : Str), 3)] (.gtup 2 (.gcons (.gnm 2) (.gcons (.gnm 3) .gnil))) (.enum (.idx (.fld ("Teller" : Str) ("held" : Str) (.var 0)) (.int 1))) (.tst (.cmp .in_ (.var 1) (.var 3))) (.var 2)) .nil))))
def L_Teller_said_in : Lc := ⟨[("self" : Str), ("case" : Str), ("index" : Str), ("cases" : Str)], [], [], [], [(("Teller" : Str), ("held" : Str))], []⟩
noncomputable def D_Teller_said_in : Wd := wdOf L_Teller_said_in.cal [] [] [] []
noncomputable def F_Teller_said_in : List PV → RM PV := mkF 2 4 b_Teller_said_in D_Teller_said_in
def b_Teller_bound_in : Tm .b := (.bone (.ret (.bi .tuple (.cons (.lc false [(("case" : Str), 2)] (.gnm 2) (.seq (.idx (.idx (.fld ("Teller" : Str) ("held" : Str) (.var 0)) (.int 1)) (.var 1))) (.tst (.cmp .eq (.meth 0 (.var 0) (.cons (.var 2) .nil)) (.tup (.cons (.var 1) .nil)))) (.var 2)) .nil))))
def L_Teller_bound_in : Lc := ⟨[("self" : Str), ("saying" : Str), ("case" : Str)], [.meth ("Teller" : Str) ("said_in" : Str) true], [], [], [(("Teller" : Str), ("held" : Str))], []⟩
noncomputable def D_Teller_bound_in : Wd := wdOf L_Teller_bound_in.cal [F_Teller_said_in] [] [] []
noncomputable def F_Teller_bound_in : List PV → RM PV := mkF 2 3 b_Teller_bound_in D_Teller_bound_in
def b_weight_of : Tm .b := (.bone (.ret (.bi .sum (.cons (.lc false [(("case" : Str), 2)] (.gnm 2) (.seq (.var 1)) .tt (.idx (.prop 0 (.var 0)) (.var 2))) .nil))))
def L_weight_of : Lc := ⟨[("teller" : Str), ("cases" : Str), ("case" : Str)], [.prop ("Teller" : Str) ("weights" : Str) true], [], [], [], []⟩
noncomputable def D_weight_of : Wd := wdOf L_weight_of.cal [F_Teller_weights] [] [] []
noncomputable def F_weight_of : List PV → RM PV := mkF 2 3 b_weight_of D_weight_of
def b_parted : Tm .b := (.bcons (.asg (.gtup 2 (.gcons (.gnm 7) (.gcons (.gnm 8) .gnil))) (.tup (.cons (.idx (.prop 0 (.var 0)) (.var 1)) (.cons (.meth 1 (.var 0) (.cons (.var 1) .nil)) .nil))))
  (.bcons (.setlc 3 false [(("case" : Str), 9)] (.gnm 9) (.seq (.var 7)) (.tst (.cmp .in_ (.var 9) (.var 2))) (.var 9))
  (.bcons (.setlc 4 false [(("case" : Str), 9)] (.gnm 9) (.seq (.var 7)) (.tst (.cmp .nin (.var 9) (.var 2))) (.var 9))
  (.bcons (.asg (.gnm 5) (.call 2 (.cons (.var 0) (.cons (.lc false [(("case" : Str), 9)] (.gnm 9) (.seq (.var 3)) (.tst (.cmp .in_ (.var 9) (.var 8))) (.var 9)) .nil))))
  (.bcons (.asg (.gnm 6) (.call 2 (.cons (.var 0) (.cons (.lc false [(("case" : Str), 9)] (.gnm 9) (.seq (.var 4)) (.tst (.cmp .in_ (.var 9) (.var 8))) (.var 9)) .nil))))
  (.bone (.ret (.tup (.cons (.var 5) (.cons (.call 2 (.cons (.var 0) (.cons (.var 3) .nil))) (.cons (.var 6) (.cons (.call 2 (.cons (.var 0) (.cons (.var 4) .nil))) .nil))))))))))))
def L_parted : Lc := ⟨[("teller" : Str), ("saying" : Str), ("lot" : Str), ("inside" : Str), ("outside" : Str), ("sure_inside" : Str), ("sure_outside" : Str), ("cases" : Str), ("bound" : Str), ("case" : Str)], [.prop ("Teller" : Str) ("sayings" : Str) true, .meth ("Teller" : Str) ("bound_in" : Str) true, .glob ("weight_of" : Str) true], [], [], [], []⟩
noncomputable def D_parted : Wd := wdOf L_parted.cal [F_Teller_sayings, F_Teller_bound_in, F_weight_of] [] [] []
noncomputable def F_parted : List PV → RM PV := mkF 3 10 b_parted D_parted
def b_least_for : Tm .b := (.bcons (.asg (.gtup 4 (.gcons (.gnm 3) (.gcons (.gnm 4) (.gcons (.gnm 5) (.gcons (.gnm 6) .gnil))))) (.call 0 (.cons (.var 0) (.cons (.var 1) (.cons (.var 2) .nil)))))
  (.bone (.ret (.ite (.cmp .gt (.var 6) (.int 0)) (.call 1 (.cons (.var 3) (.cons (.bin .add (.var 3) (.var 6)) .nil))) (.tup (.cons (.int 1) (.cons (.int 1) .nil)))))))
def L_least_for : Lc := ⟨[("teller" : Str), ("saying" : Str), ("lot" : Str), ("sure_inside" : Str), ("inside" : Str), ("sure_outside" : Str), ("outside" : Str)], [.glob ("parted" : Str) true, .glob ("fraction" : Str) true], [], [], [], []⟩
noncomputable def D_least_for : Wd := wdOf L_least_for.cal [F_parted, F_fraction] [] [] []
noncomputable def F_least_for : List PV → RM PV := mkF 3 7 b_least_for D_least_for
def b_greatest_for : Tm .b := (.bcons (.asg (.gtup 4 (.gcons (.gnm 3) (.gcons (.gnm 4) (.gcons (.gnm 5) (.gcons (.gnm 6) .gnil))))) (.call 0 (.cons (.var 0) (.cons (.var 1) (.cons (.var 2) .nil)))))
  (.bone (.ret (.ite (.cmp .gt (.var 4) (.int 0)) (.call 1 (.cons (.var 4) (.cons (.bin .add (.var 4) (.var 5)) .nil))) (.tup (.cons (.int 0) (.cons (.int 1) .nil)))))))
def L_greatest_for : Lc := ⟨[("teller" : Str), ("saying" : Str), ("lot" : Str), ("sure_inside" : Str), ("inside" : Str), ("sure_outside" : Str), ("outside" : Str)], [.glob ("parted" : Str) true, .glob ("fraction" : Str) true], [], [], [], []⟩
noncomputable def D_greatest_for : Wd := wdOf L_greatest_for.cal [F_parted, F_fraction] [] [] []
noncomputable def F_greatest_for : List PV → RM PV := mkF 3 7 b_greatest_for D_greatest_for
def b_shows_end : Tm .b := (.bcons (.asg (.gtup 4 (.gcons (.gnm 5) (.gcons (.gnm 6) (.gcons (.gnm 7) (.gcons (.gnm 8) .gnil))))) (.tup (.cons (.idx (.var 1) (.int 0)) (.cons (.idx (.var 1) (.int 2)) (.cons (.idx (.var 1) (.int 3)) (.cons (.idx (.var 1) (.int 4)) .nil))))))
  (.bcons (.ifs (.or_ (.not_ (.call 0 (.cons (.var 0) (.cons (.var 6) (.cons (.var 7) (.cons (.var 8) .nil)))))) (.or1 (.not_ (.call 1 (.cons (.var 0) (.cons (.var 2) .nil)))))) (.bone (.ret (.bl false))) .bnil)
  (.bcons (.asg (.gnm 3) (.call 2 (.cons (.var 0) (.cons (.var 2) (.cons (.var 6) (.cons (.idx (.prop 3 (.var 0)) (.var 6)) .nil))))))
  (.bcons (.asg (.gnm 4) (.call 2 (.cons (.var 0) (.cons (.var 2) (.cons (.var 6) (.cons (.var 7) .nil))))))
  (.bcons (.ifs (.or_ (.cmp .eq (.idx (.var 3) (.int 0)) (.int 0)) (.or1 (.cmp .ne (.call 4 (.cons (.bin .mul (.idx (.var 4) (.int 0)) (.idx (.var 3) (.int 1))) (.cons (.bin .mul (.idx (.var 4) (.int 1)) (.idx (.var 3) (.int 0))) .nil))) (.var 8)))) (.bone (.ret (.bl false))) .bnil)
  (.bone (.ret (.cmp .eq (.var 8) (.ite (.cmp .eq (.var 5) (.str ("least" : Str))) (.call 5 (.cons (.var 0) (.cons (.var 6) (.cons (.var 7) .nil)))) (.call 6 (.cons (.var 0) (.cons (.var 6) (.cons (.var 7) .nil)))))))))))))
def L_shows_end : Lc := ⟨[("teller" : Str), ("claim" : Str), ("habit" : Str), ("whole" : Str), ("part" : Str), ("word" : Str), ("saying" : Str), ("lot" : Str), ("bound" : Str)], [.glob ("is_asked" : Str) true, .glob ("is_habit" : Str) true, .glob ("heard_weight" : Str) true, .prop ("Teller" : Str) ("sayings" : Str) true, .glob ("fraction" : Str) true, .glob ("least_for" : Str) true, .glob ("greatest_for" : Str) true], [], [], [], []⟩
noncomputable def D_shows_end : Wd := wdOf L_shows_end.cal [F_is_asked, F_is_habit, F_heard_weight, F_Teller_sayings, F_fraction, F_least_for, F_greatest_for] [] [] []
noncomputable def F_shows_end : List PV → RM PV := mkF 3 9 b_shows_end D_shows_end
def b_are_shares : Tm .b := (.bone (.ret (.and_ (.call 0 (.cons (.var 1) (.cons (.bi .len (.cons (.prop 1 (.var 0)) .nil)) .nil))) (.and1 (.cmp .eq (.call 2 (.cons (.var 1) .nil)) (.gv 0))))))
def L_are_shares : Lc := ⟨[("teller" : Str), ("value" : Str)], [.glob ("are_fractions" : Str) true, .prop ("Teller" : Str) ("sayings" : Str) true, .glob ("total" : Str) true], [("WHOLE" : Str)], [], [], []⟩
noncomputable def D_are_shares : Wd := wdOf L_are_shares.cal [F_are_fractions, F_Teller_sayings, F_total] [(.tup [(.int 1), (.int 1)])] [] []
noncomputable def F_are_shares : List PV → RM PV := mkF 2 2 b_are_shares D_are_shares
def b_gives : Tm .b := (.bcons (.par [3, 4] (.cons (.lrange (.bi .len (.cons (.prop 0 (.var 0)) .nil))) (.cons (.bi .sum (.cons (.prop 0 (.var 0)) .nil)) .nil)))
  (.bcons (.for_ (.gtup 2 (.gcons (.gnm 5) (.gcons (.gnm 6) .gnil))) (.enum (.var 2)) (.bcons (.asg (.gnm 7) (.call 1 (.cons (.var 0) (.cons (.var 1) (.cons (.var 5) (.cons (.var 3) .nil))))))
  (.bone (.ifs (.cmp .ne (.call 2 (.cons (.idx (.var 7) (.int 0)) (.cons (.bin .mul (.idx (.var 7) (.int 1)) (.var 4)) .nil))) (.var 6)) (.bone (.ret (.bl false))) .bnil))))
  (.bone (.ret (.bl true)))))
def L_gives : Lc := ⟨[("teller" : Str), ("habit" : Str), ("shares" : Str), ("cases" : Str), ("weights" : Str), ("saying" : Str), ("share" : Str), ("found" : Str)], [.prop ("Teller" : Str) ("weights" : Str) true, .glob ("heard_weight" : Str) true, .glob ("fraction" : Str) true], [], [], [], []⟩
noncomputable def D_gives : Wd := wdOf L_gives.cal [F_Teller_weights, F_heard_weight, F_fraction] [] [] []
noncomputable def F_gives : List PV → RM PV := mkF 3 8 b_gives D_gives
def b_bars : Tm .b := (.bcons (.setlc 3 false [(("index" : Str), 4), (("cases" : Str), 5)] (.gtup 2 (.gcons (.gnm 4) (.gcons (.gnm 5) .gnil))) (.enum (.prop 0 (.var 0))) (.tst (.bi .any (.cons (.lc false [(("case" : Str), 6)] (.gnm 6) (.seq (.var 5)) .tt (.cmp .in_ (.var 6) (.var 1))) .nil))) (.idx (.var 2) (.var 4)))
  (.bone (.ret (.call 1 (.cons (.call 2 (.cons (.var 3) .nil)) (.cons (.call 3 (.cons (.call 4 (.cons (.var 0) (.cons (.var 1) .nil))) (.cons (.bi .sum (.cons (.prop 5 (.var 0)) .nil)) .nil))) .nil))))))
def L_bars : Lc := ⟨[("teller" : Str), ("lot" : Str), ("shares" : Str), ("some" : Str), ("index" : Str), ("cases" : Str), ("case" : Str)], [.prop ("Teller" : Str) ("sayings" : Str) true, .glob ("is_less" : Str) true, .glob ("total" : Str) true, .glob ("fraction" : Str) true, .glob ("weight_of" : Str) true, .prop ("Teller" : Str) ("weights" : Str) true], [], [], [], []⟩
noncomputable def D_bars : Wd := wdOf L_bars.cal [F_Teller_sayings, F_is_less, F_total, F_fraction, F_weight_of, F_Teller_weights] [] [] []
noncomputable def F_bars : List PV → RM PV := mkF 3 7 b_bars D_bars
def b_shows_shares : Tm .b := (.bcons (.ifs (.not_ (.call 0 (.cons (.var 0) (.cons (.idx (.var 1) (.int 2)) .nil)))) (.bone (.ret (.bl false))) .bnil)
  (.bcons (.ifs (.cmp .eq (.idx (.var 1) (.int 0)) (.str ("given" : Str))) (.bone (.ret (.and_ (.call 1 (.cons (.var 0) (.cons (.var 2) .nil))) (.and1 (.call 2 (.cons (.var 0) (.cons (.var 2) (.cons (.idx (.var 1) (.int 2)) .nil)))))))) .bnil)
  (.bone (.ret (.and_ (.call 3 (.cons (.var 2) (.cons (.bi .len (.cons (.prop 4 (.var 0)) .nil)) .nil))) (.and1 (.call 5 (.cons (.var 0) (.cons (.var 2) (.cons (.idx (.var 1) (.int 2)) .nil))))))))))
def L_shows_shares : Lc := ⟨[("teller" : Str), ("claim" : Str), ("certificate" : Str)], [.glob ("are_shares" : Str) true, .glob ("is_habit" : Str) true, .glob ("gives" : Str) true, .glob ("is_lot" : Str) true, .prop ("Teller" : Str) ("weights" : Str) true, .glob ("bars" : Str) true], [], [], [], []⟩
noncomputable def D_shows_shares : Wd := wdOf L_shows_shares.cal [F_are_shares, F_is_habit, F_gives, F_is_lot, F_Teller_weights, F_bars] [] [] []
noncomputable def F_shows_shares : List PV → RM PV := mkF 3 3 b_shows_shares D_shows_shares
def b_accepts : Tm .b := (.bcons (.ifs (.or_ (.not_ (.isi (.var 0) .tuple)) (.or_ (.cmp .eq (.var 0) (.tup .nil)) (.or1 (.not_ (.isi (.idx (.var 0) (.int 0)) .str))))) (.bone (.ret (.bl false))) .bnil)
  (.bcons (.ifs (.cmp .ne (.dget 0 (.idx (.var 0) (.int 0)) (.int 0)) (.bi .len (.cons (.var 0) .nil))) (.bone (.ret (.bl false))) .bnil)
  (.bcons (.asg (.gnm 2) (.call 0 (.cons (.idx (.var 0) (.int 1)) .nil)))
  (.bcons (.ifs (.cmp .is_ (.var 2) .non) (.bone (.ret (.bl false))) .bnil)
  (.bcons (.ifs (.cmp .eq (.idx (.var 0) (.int 0)) (.str ("sure" : Str))) (.bone (.ret (.call 1 (.cons (.var 2) (.cons (.idx (.var 0) (.int 2)) (.cons (.var 1) .nil)))))) .bnil)
  (.bcons (.ifs (.cmp .eq (.idx (.var 0) (.int 0)) (.str ("no more" : Str))) (.bone (.ret (.call 2 (.cons (.var 2) (.cons (.idx (.var 0) (.int 2)) (.cons (.var 1) .nil)))))) .bnil)
  (.bcons (.ifs (.cmp .eq (.bi .len (.cons (.var 0) .nil)) (.int 5)) (.bone (.ret (.call 3 (.cons (.var 2) (.cons (.var 0) (.cons (.var 1) .nil)))))) .bnil)
  (.bone (.ret (.call 4 (.cons (.var 2) (.cons (.var 0) (.cons (.var 1) .nil)))))))))))))
def L_accepts : Lc := ⟨[("claim" : Str), ("certificate" : Str), ("teller" : Str)], [.glob ("teller_in" : Str) true, .glob ("shows_sure" : Str) true, .glob ("shows_no_more" : Str) true, .glob ("shows_end" : Str) true, .glob ("shows_shares" : Str) true], [], [("SIZES" : Str)], [], []⟩
noncomputable def D_accepts : Wd := wdOf L_accepts.cal [F_teller_in, F_shows_sure, F_shows_no_more, F_shows_end, F_shows_shares] [] [[(("sure" : Str), 3), (("no more" : Str), 3), (("least" : Str), 5), (("most" : Str), 5), (("given" : Str), 3), (("not given" : Str), 3)]] []
noncomputable def F_accepts : List PV → RM PV := mkF 2 3 b_accepts D_accepts
def b__law_odds : Tm .b := (.bcons (.asg (.gnm 0) (.lst false (.cons .non (.cons (.bl true) (.cons (.bl false) (.cons (.str ("sur" : Str)) (.cons (.str ("1  1: 0,1 1" : Str)) (.cons (.str ("\n" : Str)) (.cons .dE (.cons (.lst false (.cons (.str ("sure" : Str)) .nil)) (.cons (.tup (.cons .non .nil)) (.cons (.tup (.cons (.tup .nil) .nil)) (.cons (.tup (.cons (.lst false .nil) .nil)) (.cons (.d1 3) (.cons (.neg (.int 1)) (.cons (.int 7) (.cons (.str ("sure" : Str)) .nil)))))))))))))))))
  (.bcons (.asg (.gnm 0) (.bin .add (.var 0) (.lst false (.cons (.tup (.cons (.str ("sure" : Str)) .nil)) (.cons (.tup (.cons .dE .nil)) (.cons (.tup (.cons (.tup (.cons (.str ("sure" : Str)) .nil)) .nil)) (.cons (.str ("1 1: 0" : Str)) (.cons (.tup (.cons (.int 2) (.cons (.int 4) .nil))) (.cons (.tup (.cons (.tup (.cons (.int 2) (.cons (.int 4) .nil))) .nil)) (.cons (.tup (.cons (.int 7) .nil)) (.cons (.tup (.cons (.int 1) (.cons (.int 0) .nil))) (.cons (.tup (.cons (.tup (.cons (.int 1) (.cons (.int 1) .nil))) .nil)) (.cons (.tup (.cons (.tup (.cons (.int 0) (.cons (.int 1) .nil))) (.cons (.int 0) .nil))) .nil)))))))))))))
  (.bone (.ret (.bin .add (.var 0) (.lst false (.cons (.tup (.cons (.tup (.cons (.int 1) (.cons (.int 3) .nil))) (.cons (.tup (.cons (.int 1) (.cons (.int 3) .nil))) .nil))) (.cons (.tup (.cons (.int 1) (.cons (.int 0) (.cons (.int 1) .nil)))) (.cons (.tup (.cons (.int 9) .nil)) (.cons (.tup (.cons (.tup (.cons (.int 3) (.cons (.int 2) .nil))) (.cons (.tup (.cons (.int 0) (.cons (.int 1) .nil))) .nil))) (.cons (.str ("x" : Str)) (.cons (.tup (.cons (.int 0) (.cons (.int 0) .nil))) .nil))))))))))))
def L__law_odds : Lc := ⟨[("_law_some" : Str)], [], [], [], [], []⟩
noncomputable def D__law_odds : Wd := wdOf L__law_odds.cal [] [] [] []
noncomputable def F__law_odds : List PV → RM PV := mkF 0 1 b__law_odds D__law_odds
def b__law_bent : Tm .b := (.bcons (.asg (.gnm 2) (.lst true (.cons (.bi .list (.cons (.var 0) .nil)) (.cons (.slc (.var 0) .onone (.osome (.neg (.int 1)))) (.cons (.bin .add (.var 0) (.slc (.var 0) (.osome (.neg (.int 1))) .onone)) (.cons (.bin .add (.var 0) (.tup (.cons (.tup .nil) .nil))) (.cons (.slc (.var 0) (.osome (.int 1)) .onone) (.cons (.tup (.cons (.var 0) .nil)) (.cons (.rev (.var 0)) .nil)))))))))
  (.bcons (.for_ (.gnm 3) (.seq (.lst false (.cons (.str ("sure" : Str)) (.cons (.str ("no more" : Str)) (.cons (.str ("least" : Str)) (.cons (.str ("most" : Str)) (.cons (.str ("given" : Str)) (.cons (.str ("not given" : Str)) (.cons (.str ("Sure" : Str)) (.cons (.str ("" : Str)) (.cons .non (.cons (.int 5) .nil)))))))))))) (.bone (.ifs (.and_ (.cmp .nin (.lst false (.cons (.var 3) (.cons (.idx (.var 0) (.int 0)) .nil))) (.lst false (.cons (.lst false (.cons (.str ("sure" : Str)) (.cons (.str ("no more" : Str)) .nil))) (.cons (.lst false (.cons (.str ("no more" : Str)) (.cons (.str ("sure" : Str)) .nil))) .nil)))) (.and1 (.cmp .ne (.var 3) (.idx (.var 0) (.int 0))))) (.bone (.ex (.bm .append (.var 2) (.cons (.bin .add (.tup (.cons (.var 3) .nil)) (.slc (.var 0) (.osome (.int 1)) .onone)) .nil)))) .bnil)))
  (.bcons (.asg (.gnm 4) (.idx (.var 0) (.int 1)))
  (.bcons (.asg (.gnm 5) (.lstR .add (.var 4) (" " : Str) (.cons (.bin .add (.str (" " : Str)) (.var 4)) (.cons (.tup (.cons (.var 4) .nil)) (.cons (.bin .add (.var 4) (.str ("\n" : Str))) (.cons (.rev (.var 4)) (.cons (.bin .add (.var 4) (.str ("," : Str))) .nil))))) (.var 4) (":" : Str) ("" : Str)))
  (.bcons (.for_ (.gnm 6) (.seq (.bin .add (.var 5) (.lst false (.cons (.bin .add (.str ("0 " : Str)) (.var 4)) .nil)))) (.bone (.ex (.bm .append (.var 2) (.cons (.bin .add (.tup (.cons (.idx (.var 0) (.int 0)) (.cons (.var 6) .nil))) (.slc (.var 0) (.osome (.int 2)) .onone)) .nil)))))
  (.bone (.ret (.bin .add (.var 2) (.lc false [(("_law_odd" : Str), 7)] (.gnm 7) (.seq (.call 0 .nil)) .tt (.bin .add (.bin .add (.slc (.var 0) .onone (.osome (.var 1))) (.tup (.cons (.var 7) .nil))) (.slc (.var 0) (.osome (.bin .add (.var 1) (.int 1))) .onone)))))))))))
def L__law_bent : Lc := ⟨[("_law_said" : Str), ("_law_spot" : Str), ("_law_found" : Str), ("_law_title" : Str), ("_law_line" : Str), ("_law_some" : Str), ("_law_bad" : Str), ("_law_odd" : Str)], [.glob ("_law_odds" : Str) true], [], [], [], []⟩
noncomputable def D__law_bent : Wd := wdOf L__law_bent.cal [F__law_odds] [] [] []
noncomputable def F__law_bent : List PV → RM PV := mkF 2 8 b__law_bent D__law_bent
def b__law_right : Tm .b := (.bcons (.asg (.gnm 1) (.bin .add (.int 1) (.call 0 (.cons (.var 0) (.cons (.idx (.lst false (.cons (.int 9) (.cons (.bin .pow (.int 10) (.int 6)) .nil))) (.call 0 (.cons (.var 0) (.cons (.int 2) .nil)))) .nil)))))
  (.bcons (.for_ (.gtup 2 (.gcons (.gnm 2) (.gcons (.gnm 3) .gnil))) (.seq (.call 1 (.cons (.var 1) .nil))) (.bcons (.ifs (.or_ (.cmp .nis (.call 2 (.cons (.var 2) (.cons (.var 3) .nil))) (.bl true)) (.or1 (.cmp .nis (.kw2 3 (.var 3) (.var 2)) (.bl true)))) (.bone (.ret (.bl false))) .bnil)
  (.bcons (.for_ (.gnm 4) (.seq (.call 4 (.cons (.var 2) (.cons (.bin .add (.int 1) (.call 0 (.cons (.var 0) (.cons (.bin .sub (.bi .len (.cons (.var 2) .nil)) (.int 1)) .nil)))) .nil)))) (.bone (.ifs (.cmp .nis (.call 2 (.cons (.var 4) (.cons (.var 3) .nil))) (.bl false)) (.bone (.ret (.bl false))) .bnil)))
  (.bcons (.asg (.gnm 5) (.lst false (.cons (.bi .list (.cons (.var 3) .nil)) (.cons (.bin .add (.var 3) (.tup (.cons .non .nil))) (.cons (.tup (.cons (.var 3) (.cons .non .nil))) (.cons (.lst false (.cons (.var 3) .nil)) (.cons (.bin .add (.slc (.var 3) .onone (.osome (.neg (.int 1)))) (.tup (.cons (.tup (.cons .non .nil)) .nil))) (.cons (.slc (.var 3) (.osome (.int 1)) .onone) .nil))))))))
  (.bone (.for_ (.gnm 6) (.seq (.bin .add (.call 5 .nil) (.var 5))) (.bone (.ifs (.or_ (.cmp .nis (.call 2 (.cons (.var 2) (.cons (.var 6) .nil))) (.bl false)) (.or1 (.cmp .nis (.call 2 (.cons (.var 6) (.cons (.var 3) .nil))) (.bl false)))) (.bone (.ret (.bl false))) .bnil))))))))
  (.bone (.ret (.bl true)))))
def L__law_right : Lc := ⟨[("_law_jar" : Str), ("_law_n" : Str), ("_law_said" : Str), ("_law_paper" : Str), ("_law_wrong" : Str), ("_law_some" : Str), ("_law_odd" : Str)], [.glob ("_law_dip" : Str) true, .glob ("_law_rights" : Str) true, .glob ("accepts" : Str) true, .kw2 ("accepts" : Str) ("certificate" : Str) ("claim" : Str) true, .glob ("_law_bent" : Str) true, .glob ("_law_odds" : Str) true], [], [], [], []⟩
noncomputable def D__law_right : Wd := wdOf L__law_right.cal [F__law_dip, F__law_rights, F_accepts, F_accepts, F__law_bent, F__law_odds] [] [] []
noncomputable def F__law_right : List PV → RM PV := mkF 1 7 b__law_right D__law_right
def b__law_well : Tm .b := (.bone (.ret (.lst true (.cons (.ite (.or_ (.cmp .lt (.var 0) (.int 0)) (.or1 (.cmp .ge (.var 0) (.bin .pow (.int 10) (.int 18))))) (.bi .abs (.cons (.var 0) .nil)) (.int 0)) (.cons (.bin .mod (.bi .int (.cons (.var 0) .nil)) (.int 2147483587)) (.cons (.int 0) .nil))))))
def L__law_well : Lc := ⟨[("_law_cell_here" : Str)], [], [], [], [], []⟩
noncomputable def D__law_well : Wd := wdOf L__law_well.cal [] [] [] []
noncomputable def F__law_well : List PV → RM PV := mkF 1 1 b__law_well D__law_well
def b__law_cell : Tm .b := (.bcons (.ifs (.cmp .lt (.var 1) (.bi .len (.cons (.var 0) .nil))) (.bone (.ret (.idx (.var 0) (.var 1)))) .bnil)
  (.bcons (.asg (.gnm 2) (.bin .add (.int 480587) (.bin .mul (.int 60209) (.var 1))))
  (.bcons (.for_ (.gnm 3) (.seq (.slc (.var 0) .onone (.osome (.int 5)))) (.bone (.asg (.gnm 2) (.bin .mod (.bi .int (.cons (.bin .add (.bin .add (.bin .mul (.var 2) (.int 63029)) (.bin .mul (.var 3) (.int 1009))) (.var 1)) .nil)) (.int 2147483563)))))
  (.bone (.ret (.var 2))))))
def L__law_cell : Lc := ⟨[("_law_cells" : Str), ("_law_k" : Str), ("_law_made" : Str), ("_law_own" : Str)], [], [], [], [], []⟩
noncomputable def D__law_cell : Wd := wdOf L__law_cell.cal [] [] [] []
noncomputable def F__law_cell : List PV → RM PV := mkF 2 4 b__law_cell D__law_cell
def b_law : Tm .b := (.bone (.ret (.cmp .eq (.lc false [(("_law_k" : Str), 1)] (.gnm 1) (.range1 (.bi .max (.cons (.int 2) (.cons (.bi .min (.cons (.bi .len (.cons (.var 0) .nil)) (.cons (.int 4) .nil))) .nil)))) (.tst (.not_ (.call 0 (.cons (.call 1 (.cons (.call 2 (.cons (.var 0) (.cons (.var 1) .nil))) .nil)) .nil)))) (.var 1)) (.lst false .nil))))
def L_law : Lc := ⟨[("_law_cells" : Str), ("_law_k" : Str)], [.glob ("_law_right" : Str) true, .glob ("_law_well" : Str) true, .glob ("_law_cell" : Str) true], [], [], [], []⟩
noncomputable def D_law : Wd := wdOf L_law.cal [F__law_right, F__law_well, F__law_cell] [] [] []
noncomputable def F_law : List PV → RM PV := mkF 1 2 b_law D_law
def E__law_dip : FnE := ⟨fun K => He.ga K ("_law_dip" : Str), [("_law_jar" : Str), ("_law_many" : Str)], L__law_dip, b__law_dip, true⟩
def E__law_rights : FnE := ⟨fun K => He.ga K ("_law_rights" : Str), [("_law_n" : Str)], L__law_rights, b__law_rights, true⟩
def E_number_in : FnE := ⟨fun K => He.ga K ("number_in" : Str), [("text" : Str)], L_number_in, b_number_in, true⟩
def E_cases_in : FnE := ⟨fun K => He.ga K ("cases_in" : Str), [("word" : Str)], L_cases_in, b_cases_in, true⟩
def E_is_integer : FnE := ⟨fun K => He.ga K ("is_integer" : Str), [("value" : Str)], L_is_integer, b_is_integer, true⟩
def E_is_between : FnE := ⟨fun K => He.ga K ("is_between" : Str), [("value" : Str), ("low" : Str), ("high" : Str)], L_is_between, b_is_between, true⟩
def E_check_weights : FnE := ⟨fun K => He.ga K ("check_weights" : Str), [("values" : Str)], L_check_weights, b_check_weights, true⟩
def E_is_ascending : FnE := ⟨fun K => He.ga K ("is_ascending" : Str), [("values" : Str)], L_is_ascending, b_is_ascending, true⟩
def E_is_lot : FnE := ⟨fun K => He.ga K ("is_lot" : Str), [("value" : Str), ("many" : Str)], L_is_lot, b_is_lot, true⟩
def E_check_sayings : FnE := ⟨fun K => He.ga K ("check_sayings" : Str), [("values" : Str), ("many" : Str)], L_check_sayings, b_check_sayings, true⟩
def E_Teller___init__ : FnE := ⟨fun K => He.ma K (He.ga K ("Teller" : Str)) ("__init__" : Str), [("self" : Str), ("weights" : Str), ("sayings" : Str)], L_Teller___init__, b_Teller___init__, true⟩
def E_Teller_read : FnE := ⟨fun K => He5.wf K (He.ga K ("Teller" : Str)) "staticmethod" ("read" : Str), [("text" : Str)], L_Teller_read, b_Teller_read, false⟩
def E_teller_in : FnE := ⟨fun K => He.ga K ("teller_in" : Str), [("text" : Str)], L_teller_in, b_teller_in, true⟩
def E_common_divisor : FnE := ⟨fun K => He.ga K ("common_divisor" : Str), [("one" : Str), ("other" : Str)], L_common_divisor, b_common_divisor, true⟩
def E_is_fraction : FnE := ⟨fun K => He.ga K ("is_fraction" : Str), [("value" : Str)], L_is_fraction, b_is_fraction, true⟩
def E_are_fractions : FnE := ⟨fun K => He.ga K ("are_fractions" : Str), [("value" : Str), ("many" : Str)], L_are_fractions, b_are_fractions, true⟩
def E_Teller_weights : FnE := ⟨fun K => pg K (He.ga K ("Teller" : Str)) ("weights" : Str), [("self" : Str)], L_Teller_weights, b_Teller_weights, true⟩
def E_Teller_sayings : FnE := ⟨fun K => pg K (He.ga K ("Teller" : Str)) ("sayings" : Str), [("self" : Str)], L_Teller_sayings, b_Teller_sayings, true⟩
def E_is_less : FnE := ⟨fun K => He.ga K ("is_less" : Str), [("one" : Str), ("other" : Str)], L_is_less, b_is_less, true⟩
def E_fraction : FnE := ⟨fun K => He.ga K ("fraction" : Str), [("top" : Str), ("bottom" : Str)], L_fraction, b_fraction, true⟩
def E_plus : FnE := ⟨fun K => He.ga K ("plus" : Str), [("one" : Str), ("other" : Str)], L_plus, b_plus, true⟩
def E_total : FnE := ⟨fun K => He.ga K ("total" : Str), [("values" : Str)], L_total, b_total, true⟩
def E_times : FnE := ⟨fun K => He.ga K ("times" : Str), [("one" : Str), ("other" : Str)], L_times, b_times, true⟩
def E_shows_sure : FnE := ⟨fun K => He.ga K ("shows_sure" : Str), [("teller" : Str), ("bound" : Str), ("numbers" : Str)], L_shows_sure, b_shows_sure, true⟩
def E_is_habit_in : FnE := ⟨fun K => He.ga K ("is_habit_in" : Str), [("teller" : Str), ("case" : Str), ("value" : Str)], L_is_habit_in, b_is_habit_in, true⟩
def E_is_habit : FnE := ⟨fun K => He.ga K ("is_habit" : Str), [("teller" : Str), ("value" : Str)], L_is_habit, b_is_habit, true⟩
def E_greater : FnE := ⟨fun K => He.ga K ("greater" : Str), [("one" : Str), ("other" : Str)], L_greater, b_greater, true⟩
def E_share_of : FnE := ⟨fun K => He.ga K ("share_of" : Str), [("teller" : Str), ("value" : Str)], L_share_of, b_share_of, true⟩
def E_against : FnE := ⟨fun K => He.ga K ("against" : Str), [("teller" : Str), ("habit" : Str)], L_against, b_against, true⟩
def E_shows_no_more : FnE := ⟨fun K => He.ga K ("shows_no_more" : Str), [("teller" : Str), ("bound" : Str), ("habit" : Str)], L_shows_no_more, b_shows_no_more, true⟩
def E_is_asked : FnE := ⟨fun K => He.ga K ("is_asked" : Str), [("teller" : Str), ("saying" : Str), ("lot" : Str), ("bound" : Str)], L_is_asked, b_is_asked, true⟩
def E_heard_weight : FnE := ⟨fun K => He.ga K ("heard_weight" : Str), [("teller" : Str), ("habit" : Str), ("saying" : Str), ("cases" : Str)], L_heard_weight, b_heard_weight, true⟩
def E_Teller_said_in : FnE := ⟨fun K => He.ma K (He.ga K ("Teller" : Str)) ("said_in" : Str), [("self" : Str), ("case" : Str)], L_Teller_said_in, b_Teller_said_in, true⟩
def E_Teller_bound_in : FnE := ⟨fun K => He.ma K (He.ga K ("Teller" : Str)) ("bound_in" : Str), [("self" : Str), ("saying" : Str)], L_Teller_bound_in, b_Teller_bound_in, true⟩
def E_weight_of : FnE := ⟨fun K => He.ga K ("weight_of" : Str), [("teller" : Str), ("cases" : Str)], L_weight_of, b_weight_of, true⟩
def E_parted : FnE := ⟨fun K => He.ga K ("parted" : Str), [("teller" : Str), ("saying" : Str), ("lot" : Str)], L_parted, b_parted, true⟩
def E_least_for : FnE := ⟨fun K => He.ga K ("least_for" : Str), [("teller" : Str), ("saying" : Str), ("lot" : Str)], L_least_for, b_least_for, true⟩
def E_greatest_for : FnE := ⟨fun K => He.ga K ("greatest_for" : Str), [("teller" : Str), ("saying" : Str), ("lot" : Str)], L_greatest_for, b_greatest_for, true⟩
def E_shows_end : FnE := ⟨fun K => He.ga K ("shows_end" : Str), [("teller" : Str), ("claim" : Str), ("habit" : Str)], L_shows_end, b_shows_end, true⟩
def E_are_shares : FnE := ⟨fun K => He.ga K ("are_shares" : Str), [("teller" : Str), ("value" : Str)], L_are_shares, b_are_shares, true⟩
def E_gives : FnE := ⟨fun K => He.ga K ("gives" : Str), [("teller" : Str), ("habit" : Str), ("shares" : Str)], L_gives, b_gives, true⟩
def E_bars : FnE := ⟨fun K => He.ga K ("bars" : Str), [("teller" : Str), ("lot" : Str), ("shares" : Str)], L_bars, b_bars, true⟩
def E_shows_shares : FnE := ⟨fun K => He.ga K ("shows_shares" : Str), [("teller" : Str), ("claim" : Str), ("certificate" : Str)], L_shows_shares, b_shows_shares, true⟩
def E_accepts : FnE := ⟨fun K => He.ga K ("accepts" : Str), [("claim" : Str), ("certificate" : Str)], L_accepts, b_accepts, true⟩
def E__law_odds : FnE := ⟨fun K => He.ga K ("_law_odds" : Str), [], L__law_odds, b__law_odds, true⟩
def E__law_bent : FnE := ⟨fun K => He.ga K ("_law_bent" : Str), [("_law_said" : Str), ("_law_spot" : Str)], L__law_bent, b__law_bent, true⟩
def E__law_right : FnE := ⟨fun K => He.ga K ("_law_right" : Str), [("_law_jar" : Str)], L__law_right, b__law_right, true⟩
def E__law_well : FnE := ⟨fun K => He.ga K ("_law_well" : Str), [("_law_cell_here" : Str)], L__law_well, b__law_well, true⟩
def E__law_cell : FnE := ⟨fun K => He.ga K ("_law_cell" : Str), [("_law_cells" : Str), ("_law_k" : Str)], L__law_cell, b__law_cell, true⟩
def E_law : FnE := ⟨fun K => He.ga K ("law" : Str), [("_law_cells" : Str)], L_law, b_law, true⟩
def fn : List FnE := [E__law_dip, E__law_rights, E_number_in, E_cases_in, E_is_integer, E_is_between, E_check_weights, E_is_ascending, E_is_lot, E_check_sayings, E_Teller___init__, E_Teller_read, E_teller_in, E_common_divisor, E_is_fraction, E_are_fractions, E_Teller_weights, E_Teller_sayings, E_is_less, E_fraction, E_plus, E_total, E_times, E_shows_sure, E_is_habit_in, E_is_habit, E_greater, E_share_of, E_against, E_shows_no_more, E_is_asked, E_heard_weight, E_Teller_said_in, E_Teller_bound_in, E_weight_of, E_parted, E_least_for, E_greatest_for, E_shows_end, E_are_shares, E_gives, E_bars, E_shows_shares, E_accepts, E__law_odds, E__law_bent, E__law_right, E__law_well, E__law_cell, E_law]
end R
set_option maxHeartbeats 0
namespace R
open PySem PySem.Spec L2
open PyProof.Rows hiding St
def fa : List (PySem.W.Frag → Bool) := (([(He.Fa.str ("DIGITS" : Str) ("0123456789" : Str)).ok, (He.Fa.glo ("number_in" : Str)).ok, (He.Fa.glo ("is_integer" : Str)).ok, (He.Fa.glo ("is_between" : Str)).ok, (He.Fa.int ("LEAST_CASES" : Str) 2).ok, (He.Fa.int ("MOST_CASES" : Str) 8).ok, (He.Fa.int ("MOST_WEIGHT" : Str) 1000000).ok, (exB ("InvalidWeights" : Str) ("index" : Str)), (He.Fa.glo ("is_ascending" : Str)).ok, (He.Fa.glo ("is_lot" : Str)).ok, (He.Fa.int ("MOST_SAYINGS" : Str) 16).ok, (exB ("InvalidSayings" : Str) ("index" : Str)), (He.Fa.glo ("check_weights" : Str)).ok, (He.Fa.glo ("check_sayings" : Str)).ok, (He.Fa.cls ("Teller" : Str)).ok, (He.Fa.noat ("Teller" : Str) ("held" : Str)).ok, (He.Fa.glo ("cases_in" : Str)).ok, (He.Fa.mkr ("Teller" : Str)).ok, (He.Fa.glo ("Teller" : Str)).ok, (exB ("InvalidText" : Str) ("given" : Str)), (He.Fa.exm ("InvalidWeights" : Str) ("InvalidWeights" : Str) true).ok, (He.Fa.exm ("InvalidWeights" : Str) ("InvalidSayings" : Str) false).ok, (He.Fa.exm ("InvalidSayings" : Str) ("InvalidWeights" : Str) false).ok, (He.Fa.exm ("InvalidSayings" : Str) ("InvalidSayings" : Str) true).ok, (statB ("Teller" : Str) ("read" : Str)), (He.Fa.exm ("InvalidText" : Str) ("InvalidText" : Str) true).ok, (He.Fa.glo ("common_divisor" : Str)).ok, (He.Fa.glo ("is_fraction" : Str)).ok, (He.Fa.glo ("fraction" : Str)).ok, (He.Fa.glo ("plus" : Str)).ok] : List (PySem.W.Frag → Bool)) ++ ([(He.Fa.glo ("are_fractions" : Str)).ok, (propB ("Teller" : Str) ("weights" : Str)), (propB ("Teller" : Str) ("sayings" : Str)), (He.Fa.glo ("is_less" : Str)).ok, (He.Fa.glo ("total" : Str)).ok, (He.Fa.glo ("times" : Str)).ok, (tupI ("WHOLE" : Str) [1, 1]), (tupI ("NONE" : Str) [0, 1]), (He.Fa.glo ("is_habit_in" : Str)).ok, (He.Fa.glo ("greater" : Str)).ok, (He.Fa.glo ("share_of" : Str)).ok, (He.Fa.glo ("is_habit" : Str)).ok, (He.Fa.glo ("against" : Str)).ok, (He.Fa.meth ("Teller" : Str) ("said_in" : Str)).ok, (He.Fa.meth ("Teller" : Str) ("bound_in" : Str)).ok, (He.Fa.glo ("weight_of" : Str)).ok, (He.Fa.glo ("parted" : Str)).ok, (He.Fa.glo ("is_asked" : Str)).ok, (He.Fa.glo ("heard_weight" : Str)).ok, (He.Fa.glo ("least_for" : Str)).ok, (He.Fa.glo ("greatest_for" : Str)).ok, (He.Fa.glo ("are_shares" : Str)).ok, (He.Fa.glo ("gives" : Str)).ok, (He.Fa.glo ("bars" : Str)).ok, (He.Fa.glo ("teller_in" : Str)).ok, (He.Fa.glo ("shows_sure" : Str)).ok, (He.Fa.glo ("shows_no_more" : Str)).ok, (He.Fa.glo ("shows_end" : Str)).ok, (He.Fa.glo ("shows_shares" : Str)).ok, (dicV ("SIZES" : Str) [(("sure" : Str), 3), (("no more" : Str), 3), (("least" : Str), 5), (("most" : Str), 5), (("given" : Str), 3), (("not given" : Str), 3)])] : List (PySem.W.Frag → Bool)) ++ ([(He.Fa.glo ("_law_odds" : Str)).ok, (He.Fa.glo ("_law_dip" : Str)).ok, (He.Fa.glo ("_law_rights" : Str)).ok, (He.Fa.glo ("accepts" : Str)).ok, (He.Fa.glo ("_law_bent" : Str)).ok, (He.Fa.glo ("_law_right" : Str)).ok, (He.Fa.glo ("_law_well" : Str)).ok, (He.Fa.glo ("_law_cell" : Str)).ok, (He.Fa.glo ("law" : Str)).ok] : List (PySem.W.Frag → Bool))) ++ bltF
def dds : List (Str × List Str) := [(("SIZES" : Str), [("sure" : Str), ("no more" : Str), ("least" : Str), ("most" : Str), ("given" : Str), ("not given" : Str)])]
abbrev Rw : PySem.W.OpenRow := PySem.W.OpenLaw.row PySem.Challenge.rw_tellerhabits_k70_claims_that_are_none
abbrev hk : PySem.W.Hook := hookR 7 fa fn dds
def loose : List PySem.Str := (["_wall", "DIGITS", "is_integer", "is_between", "number_in", "common_divisor", "fraction", "is_fraction", "plus", "times", "is_less", "greater", "total", "is_ascending", "WrongValue", "InvalidText", "InvalidSaying", "InvalidCase", "InvalidWeights", "InvalidSayings", "MOST_CASES", "MOST_WEIGHT", "MOST_SAYINGS", "LEAST_CASES", "check_weights", "is_lot", "check_sayings", "cases_in", "Teller", "check_case"] : List PySem.Str) ++ (["check_saying", "weight_of", "parted", "least_for", "greatest_for", "NONE", "WHOLE", "share_of", "is_habit_in", "against", "SIZES", "teller_in", "are_fractions", "is_habit", "heard_weight", "shows_sure", "shows_no_more", "is_asked", "shows_end", "are_shares", "gives", "bars", "shows_shares", "accepts", "_law_cell", "_law_well", "_law_dip", "_law_rights", "_law_odds", "_law_bent"] : List PySem.Str) ++ (["_law_right"] : List PySem.Str)
def ob (s : PySem.W.SharedT) : AlR := obsRG 7 fa fn dds (HandSHeadRun.getT s)
end R
set_option maxHeartbeats 0
namespace R
open PySem PySem.Spec L2
open PyProof.Rows hiding St
theorem run0f (w : World) : HandSHeadRun.RunEq Rw (PySem.W.view Rw.prog [68]) hk ob 6000 loose (w.withFollow "special-get-raises" false) := by
  intro os
  kernel_rfl
theorem run0t (w : World) : HandSHeadRun.RunEq Rw (PySem.W.view Rw.prog [68]) hk ob 6000 loose (w.withFollow "special-get-raises" true) := by
  intro os
  kernel_rfl
theorem run0 (b : Bool) (w : World) : HandSHeadRun.RunEq Rw (PySem.W.view Rw.prog [68]) hk ob 6000 loose (w.withFollow "special-get-raises" b) := by
  cases b
  · exact run0f w
  · exact run0t w
theorem run (w : World) : HandSHeadRun.RunEq Rw (PySem.W.view Rw.prog [68]) hk ob 6000 loose w := PySem.W.byRow2 "special-get-raises" (P := fun w => HandSHeadRun.RunEq Rw (PySem.W.view Rw.prog [68]) hk ob 6000 loose w) (run0 false) (run0 true) w
end R
set_option maxHeartbeats 0
namespace R
open PySem PySem.Spec L2
open PyProof.Rows hiding St
section
variable {P : Program} {w : World} {K : PySem.W.Frag} {h : Heap} {mg : Str → Option Value} {base : Heap}
abbrev Says (K : PySem.W.Frag) (w : World) : Prop := obsR fa fn (dds.map (·.1)) K = valR dds w
theorem blt_ok (X : K.In h) (G : h.Ns mainGlobals mg) (c : Says K w) : ∀ x ∈ bltNames, mg x = none := fun x hx => by
  have c1 := (andB (show ((fa.all fun f => f K) && fn.all fun e => e.ok K) = true from congrArg (fun z : AlR => z.1) c)).1
  exact He.free_ok X G (List.all_eq_true.mp c1 _ (List.mem_append_right _ (List.mem_map.mpr ⟨x, hx, rfl⟩)))
theorem Fc__law_dip (X : K.In h) (G : h.Ns mainGlobals mg) (c : Says K w) : Fcts P w K mg base L__law_dip D__law_dip 0 := fcts (L := L__law_dip) .nil .nil .nil (fun _ h => by cases h) (fun _ h => by cases h) (fun _ h => by cases h) (blt_ok X G c)
theorem Fn__law_dip (X : K.In h) (G : h.Ns mainGlobals mg) (c : Says K w) : FnC0 P w K mg base (cxB true P w) 3 (E__law_dip.ad K) 2 F__law_dip := FnE.fn (says_fn c 0) (Fc__law_dip X G c)
theorem Fc__law_rights (X : K.In h) (G : h.Ns mainGlobals mg) (c : Says K w) : Fcts P w K mg base L__law_rights D__law_rights 0 := fcts (L := L__law_rights) .nil .nil .nil (fun _ h => by cases h) (fun _ h => by cases h) (fun _ h => by cases h) (blt_ok X G c)
theorem Fn__law_rights (X : K.In h) (G : h.Ns mainGlobals mg) (c : Says K w) : FnC0 P w K mg base (cxB true P w) 3 (E__law_rights.ad K) 1 F__law_rights := FnE.fn (says_fn c 1) (Fc__law_rights X G c)
theorem Fc_number_in (X : K.In h) (G : h.Ns mainGlobals mg) (c : Says K w) : Fcts P w K mg base L_number_in D_number_in 0 := fcts (L := L_number_in) .nil (.cons (glo_str X G (says_fa c 0)) .nil) .nil (fun _ h => by cases h) (fun _ h => by cases h) (fun _ h => by cases h) (blt_ok X G c)
theorem Fn_number_in (X : K.In h) (G : h.Ns mainGlobals mg) (c : Says K w) : FnC0 P w K mg base (cxB true P w) 3 (E_number_in.ad K) 1 F_number_in := FnE.fn (says_fn c 2) (Fc_number_in X G c)
theorem Fc_cases_in (X : K.In h) (G : h.Ns mainGlobals mg) (c : Says K w) : Fcts P w K mg base L_cases_in D_cases_in 3 := fcts (L := L_cases_in) (.cons ⟨_, _, (He.glo_ok X G (says_fa c 1)), ((Fn_number_in X G c).mono (by decide))⟩ .nil) .nil .nil (fun _ h => by cases h) (fun _ h => by cases h) (fun _ h => by cases h) (blt_ok X G c)
theorem Fn_cases_in (X : K.In h) (G : h.Ns mainGlobals mg) (c : Says K w) : FnC0 P w K mg base (cxB true P w) 6 (E_cases_in.ad K) 1 F_cases_in := FnE.fn (says_fn c 3) (Fc_cases_in X G c)
theorem Fc_is_integer (X : K.In h) (G : h.Ns mainGlobals mg) (c : Says K w) : Fcts P w K mg base L_is_integer D_is_integer 0 := fcts (L := L_is_integer) .nil .nil .nil (fun _ h => by cases h) (fun _ h => by cases h) (fun _ h => by cases h) (blt_ok X G c)
theorem Fn_is_integer (X : K.In h) (G : h.Ns mainGlobals mg) (c : Says K w) : FnC0 P w K mg base (cxB true P w) 3 (E_is_integer.ad K) 1 F_is_integer := FnE.fn (says_fn c 4) (Fc_is_integer X G c)
theorem Fc_is_between (X : K.In h) (G : h.Ns mainGlobals mg) (c : Says K w) : Fcts P w K mg base L_is_between D_is_between 3 := fcts (L := L_is_between) (.cons ⟨_, _, (He.glo_ok X G (says_fa c 2)), ((Fn_is_integer X G c).mono (by decide))⟩ .nil) .nil .nil (fun _ h => by cases h) (fun _ h => by cases h) (fun _ h => by cases h) (blt_ok X G c)
theorem Fn_is_between (X : K.In h) (G : h.Ns mainGlobals mg) (c : Says K w) : FnC0 P w K mg base (cxB true P w) 6 (E_is_between.ad K) 3 F_is_between := FnE.fn (says_fn c 5) (Fc_is_between X G c)
theorem Fc_check_weights (X : K.In h) (G : h.Ns mainGlobals mg) (c : Says K w) : Fcts P w K mg base L_check_weights D_check_weights 6 := fcts (L := L_check_weights) (.cons ⟨_, _, (He.glo_ok X G (says_fa c 3)), ((Fn_is_between X G c).mono (by decide))⟩ .nil) (.cons (glo_int X G (says_fa c 4)) (.cons (glo_int X G (says_fa c 5)) (.cons (glo_int X G (says_fa c 6)) .nil))) .nil (fun _ h => by cases h) (List.forall_mem_cons.mpr ⟨exB_ok X G (says_fa c 7), (fun _ h => by cases h)⟩) (fun _ h => by cases h) (blt_ok X G c)
theorem Fn_check_weights (X : K.In h) (G : h.Ns mainGlobals mg) (c : Says K w) : FnC0 P w K mg base (cxB true P w) 9 (E_check_weights.ad K) 1 F_check_weights := FnE.fn (says_fn c 6) (Fc_check_weights X G c)
theorem Fc_is_ascending (X : K.In h) (G : h.Ns mainGlobals mg) (c : Says K w) : Fcts P w K mg base L_is_ascending D_is_ascending 0 := fcts (L := L_is_ascending) .nil .nil .nil (fun _ h => by cases h) (fun _ h => by cases h) (fun _ h => by cases h) (blt_ok X G c)
theorem Fn_is_ascending (X : K.In h) (G : h.Ns mainGlobals mg) (c : Says K w) : FnC0 P w K mg base (cxB true P w) 3 (E_is_ascending.ad K) 1 F_is_ascending := FnE.fn (says_fn c 7) (Fc_is_ascending X G c)
theorem Fc_is_lot (X : K.In h) (G : h.Ns mainGlobals mg) (c : Says K w) : Fcts P w K mg base L_is_lot D_is_lot 6 := fcts (L := L_is_lot) (.cons ⟨_, _, (He.glo_ok X G (says_fa c 3)), ((Fn_is_between X G c).mono (by decide))⟩ (.cons ⟨_, _, (He.glo_ok X G (says_fa c 8)), ((Fn_is_ascending X G c).mono (by decide))⟩ .nil)) .nil .nil (fun _ h => by cases h) (fun _ h => by cases h) (fun _ h => by cases h) (blt_ok X G c)
theorem Fn_is_lot (X : K.In h) (G : h.Ns mainGlobals mg) (c : Says K w) : FnC0 P w K mg base (cxB true P w) 9 (E_is_lot.ad K) 2 F_is_lot := FnE.fn (says_fn c 8) (Fc_is_lot X G c)
theorem Fc_check_sayings (X : K.In h) (G : h.Ns mainGlobals mg) (c : Says K w) : Fcts P w K mg base L_check_sayings D_check_sayings 9 := fcts (L := L_check_sayings) (.cons ⟨_, _, (He.glo_ok X G (says_fa c 9)), ((Fn_is_lot X G c).mono (by decide))⟩ .nil) (.cons (glo_int X G (says_fa c 10)) .nil) .nil (fun _ h => by cases h) (List.forall_mem_cons.mpr ⟨exB_ok X G (says_fa c 11), (fun _ h => by cases h)⟩) (fun _ h => by cases h) (blt_ok X G c)
theorem Fn_check_sayings (X : K.In h) (G : h.Ns mainGlobals mg) (c : Says K w) : FnC0 P w K mg base (cxB true P w) 12 (E_check_sayings.ad K) 2 F_check_sayings := FnE.fn (says_fn c 9) (Fc_check_sayings X G c)
theorem Fc_Teller___init__ (X : K.In h) (G : h.Ns mainGlobals mg) (c : Says K w) : Fcts P w K mg base L_Teller___init__ D_Teller___init__ 12 := fcts (L := L_Teller___init__) (.cons ⟨_, _, (He.glo_ok X G (says_fa c 12)), ((Fn_check_weights X G c).mono (by decide))⟩ (.cons ⟨_, _, (He.glo_ok X G (says_fa c 13)), ((Fn_check_sayings X G c).mono (by decide))⟩ .nil)) .nil .nil (List.forall_mem_cons.mpr ⟨⟨(He.cls_ok (says_fa c 14)), He.noat_ok (says_fa c 15)⟩, (fun _ h => by cases h)⟩) (fun _ h => by cases h) (fun _ h => by cases h) (blt_ok X G c)
theorem Fn_Teller___init__ (X : K.In h) (G : h.Ns mainGlobals mg) (c : Says K w) : FnC0 P w K mg base (cxB true P w) 15 (E_Teller___init__.ad K) 3 F_Teller___init__ := FnE.fn (says_fn c 10) (Fc_Teller___init__ X G c)
theorem Fc_Teller_read (X : K.In h) (G : h.Ns mainGlobals mg) (c : Says K w) : Fcts P w K mg base L_Teller_read D_Teller_read 15 := fcts (L := L_Teller_read) (.cons ⟨_, _, (He.glo_ok X G (says_fa c 1)), ((Fn_number_in X G c).mono (by decide))⟩ (.cons ⟨_, _, (He.glo_ok X G (says_fa c 16)), ((Fn_cases_in X G c).mono (by decide))⟩ (.cons ⟨_, _, _, He.mkr_ok (says_fa c 17), (He.glo_ok X G (says_fa c 18)), ((Fn_Teller___init__ X G c).mono (by decide)), rfl⟩ .nil))) .nil .nil (fun _ h => by cases h) (List.forall_mem_cons.mpr ⟨exB_ok X G (says_fa c 19), (List.forall_mem_cons.mpr ⟨exB_ok X G (says_fa c 7), (List.forall_mem_cons.mpr ⟨exB_ok X G (says_fa c 11), (fun _ h => by cases h)⟩)⟩)⟩) (List.forall_mem_cons.mpr ⟨He.exm_ok (says_fa c 20), (List.forall_mem_cons.mpr ⟨He.exm_ok (says_fa c 21), (List.forall_mem_cons.mpr ⟨He.exm_ok (says_fa c 22), (List.forall_mem_cons.mpr ⟨He.exm_ok (says_fa c 23), (fun _ h => by cases h)⟩)⟩)⟩)⟩) (blt_ok X G c)
theorem Fn_Teller_read (X : K.In h) (G : h.Ns mainGlobals mg) (c : Says K w) : FnC0 P w K mg base (cxB false P w) 18 (E_Teller_read.ad K) 1 F_Teller_read := FnE.fn (says_fn c 11) (Fc_Teller_read X G c)
theorem Fc_teller_in (X : K.In h) (G : h.Ns mainGlobals mg) (c : Says K w) : Fcts P w K mg base L_teller_in D_teller_in 18 := fcts (L := L_teller_in) (.cons ⟨_, _, _, statB_ok (says_fa c 24), (He.glo_ok X G (says_fa c 18)), ((Fn_Teller_read X G c).mono (by decide))⟩ .nil) .nil .nil (fun _ h => by cases h) (List.forall_mem_cons.mpr ⟨exB_ok X G (says_fa c 19), (fun _ h => by cases h)⟩) (List.forall_mem_cons.mpr ⟨He.exm_ok (says_fa c 25), (fun _ h => by cases h)⟩) (blt_ok X G c)
theorem Fn_teller_in (X : K.In h) (G : h.Ns mainGlobals mg) (c : Says K w) : FnC0 P w K mg base (cxB true P w) 21 (E_teller_in.ad K) 1 F_teller_in := FnE.fn (says_fn c 12) (Fc_teller_in X G c)
theorem Fc_common_divisor (X : K.In h) (G : h.Ns mainGlobals mg) (c : Says K w) : Fcts P w K mg base L_common_divisor D_common_divisor 0 := fcts (L := L_common_divisor) .nil .nil .nil (fun _ h => by cases h) (fun _ h => by cases h) (fun _ h => by cases h) (blt_ok X G c)
theorem Fn_common_divisor (X : K.In h) (G : h.Ns mainGlobals mg) (c : Says K w) : FnC0 P w K mg base (cxB true P w) 3 (E_common_divisor.ad K) 2 F_common_divisor := FnE.fn (says_fn c 13) (Fc_common_divisor X G c)
theorem Fc_is_fraction (X : K.In h) (G : h.Ns mainGlobals mg) (c : Says K w) : Fcts P w K mg base L_is_fraction D_is_fraction 3 := fcts (L := L_is_fraction) (.cons ⟨_, _, (He.glo_ok X G (says_fa c 2)), ((Fn_is_integer X G c).mono (by decide))⟩ (.cons ⟨_, _, (He.glo_ok X G (says_fa c 26)), ((Fn_common_divisor X G c).mono (by decide))⟩ .nil)) .nil .nil (fun _ h => by cases h) (fun _ h => by cases h) (fun _ h => by cases h) (blt_ok X G c)
theorem Fn_is_fraction (X : K.In h) (G : h.Ns mainGlobals mg) (c : Says K w) : FnC0 P w K mg base (cxB true P w) 6 (E_is_fraction.ad K) 1 F_is_fraction := FnE.fn (says_fn c 14) (Fc_is_fraction X G c)
theorem Fc_are_fractions (X : K.In h) (G : h.Ns mainGlobals mg) (c : Says K w) : Fcts P w K mg base L_are_fractions D_are_fractions 6 := fcts (L := L_are_fractions) (.cons ⟨_, _, (He.glo_ok X G (says_fa c 27)), ((Fn_is_fraction X G c).mono (by decide))⟩ .nil) .nil .nil (fun _ h => by cases h) (fun _ h => by cases h) (fun _ h => by cases h) (blt_ok X G c)
theorem Fn_are_fractions (X : K.In h) (G : h.Ns mainGlobals mg) (c : Says K w) : FnC0 P w K mg base (cxB true P w) 9 (E_are_fractions.ad K) 2 F_are_fractions := FnE.fn (says_fn c 15) (Fc_are_fractions X G c)
theorem Fc_Teller_weights (X : K.In h) (G : h.Ns mainGlobals mg) (c : Says K w) : Fcts P w K mg base L_Teller_weights D_Teller_weights 0 := fcts (L := L_Teller_weights) .nil .nil .nil (List.forall_mem_cons.mpr ⟨⟨(He.cls_ok (says_fa c 14)), He.noat_ok (says_fa c 15)⟩, (fun _ h => by cases h)⟩) (fun _ h => by cases h) (fun _ h => by cases h) (blt_ok X G c)
theorem Fn_Teller_weights (X : K.In h) (G : h.Ns mainGlobals mg) (c : Says K w) : FnC0 P w K mg base (cxB true P w) 3 (E_Teller_weights.ad K) 1 F_Teller_weights := FnE.fn (says_fn c 16) (Fc_Teller_weights X G c)
theorem Fc_Teller_sayings (X : K.In h) (G : h.Ns mainGlobals mg) (c : Says K w) : Fcts P w K mg base L_Teller_sayings D_Teller_sayings 0 := fcts (L := L_Teller_sayings) .nil .nil .nil (List.forall_mem_cons.mpr ⟨⟨(He.cls_ok (says_fa c 14)), He.noat_ok (says_fa c 15)⟩, (fun _ h => by cases h)⟩) (fun _ h => by cases h) (fun _ h => by cases h) (blt_ok X G c)
theorem Fn_Teller_sayings (X : K.In h) (G : h.Ns mainGlobals mg) (c : Says K w) : FnC0 P w K mg base (cxB true P w) 3 (E_Teller_sayings.ad K) 1 F_Teller_sayings := FnE.fn (says_fn c 17) (Fc_Teller_sayings X G c)
theorem Fc_is_less (X : K.In h) (G : h.Ns mainGlobals mg) (c : Says K w) : Fcts P w K mg base L_is_less D_is_less 0 := fcts (L := L_is_less) .nil .nil .nil (fun _ h => by cases h) (fun _ h => by cases h) (fun _ h => by cases h) (blt_ok X G c)
theorem Fn_is_less (X : K.In h) (G : h.Ns mainGlobals mg) (c : Says K w) : FnC0 P w K mg base (cxB true P w) 3 (E_is_less.ad K) 2 F_is_less := FnE.fn (says_fn c 18) (Fc_is_less X G c)
theorem Fc_fraction (X : K.In h) (G : h.Ns mainGlobals mg) (c : Says K w) : Fcts P w K mg base L_fraction D_fraction 3 := fcts (L := L_fraction) (.cons ⟨_, _, (He.glo_ok X G (says_fa c 26)), ((Fn_common_divisor X G c).mono (by decide))⟩ .nil) .nil .nil (fun _ h => by cases h) (fun _ h => by cases h) (fun _ h => by cases h) (blt_ok X G c)
theorem Fn_fraction (X : K.In h) (G : h.Ns mainGlobals mg) (c : Says K w) : FnC0 P w K mg base (cxB true P w) 6 (E_fraction.ad K) 2 F_fraction := FnE.fn (says_fn c 19) (Fc_fraction X G c)
theorem Fc_plus (X : K.In h) (G : h.Ns mainGlobals mg) (c : Says K w) : Fcts P w K mg base L_plus D_plus 6 := fcts (L := L_plus) (.cons ⟨_, _, (He.glo_ok X G (says_fa c 28)), ((Fn_fraction X G c).mono (by decide))⟩ .nil) .nil .nil (fun _ h => by cases h) (fun _ h => by cases h) (fun _ h => by cases h) (blt_ok X G c)
theorem Fn_plus (X : K.In h) (G : h.Ns mainGlobals mg) (c : Says K w) : FnC0 P w K mg base (cxB true P w) 9 (E_plus.ad K) 2 F_plus := FnE.fn (says_fn c 20) (Fc_plus X G c)
theorem Fc_total (X : K.In h) (G : h.Ns mainGlobals mg) (c : Says K w) : Fcts P w K mg base L_total D_total 9 := fcts (L := L_total) (.cons ⟨_, _, (He.glo_ok X G (says_fa c 29)), ((Fn_plus X G c).mono (by decide))⟩ .nil) .nil .nil (fun _ h => by cases h) (fun _ h => by cases h) (fun _ h => by cases h) (blt_ok X G c)
theorem Fn_total (X : K.In h) (G : h.Ns mainGlobals mg) (c : Says K w) : FnC0 P w K mg base (cxB true P w) 12 (E_total.ad K) 1 F_total := FnE.fn (says_fn c 21) (Fc_total X G c)
theorem Fc_times (X : K.In h) (G : h.Ns mainGlobals mg) (c : Says K w) : Fcts P w K mg base L_times D_times 6 := fcts (L := L_times) (.cons ⟨_, _, (He.glo_ok X G (says_fa c 28)), ((Fn_fraction X G c).mono (by decide))⟩ .nil) .nil .nil (fun _ h => by cases h) (fun _ h => by cases h) (fun _ h => by cases h) (blt_ok X G c)
theorem Fn_times (X : K.In h) (G : h.Ns mainGlobals mg) (c : Says K w) : FnC0 P w K mg base (cxB true P w) 9 (E_times.ad K) 2 F_times := FnE.fn (says_fn c 22) (Fc_times X G c)
theorem Fc_shows_sure (X : K.In h) (G : h.Ns mainGlobals mg) (c : Says K w) : Fcts P w K mg base L_shows_sure D_shows_sure 12 := fcts (L := L_shows_sure) (.cons ⟨_, _, (He.glo_ok X G (says_fa c 27)), ((Fn_is_fraction X G c).mono (by decide))⟩ (.cons ⟨_, _, (He.glo_ok X G (says_fa c 30)), ((Fn_are_fractions X G c).mono (by decide))⟩ (.cons ⟨_, _, _, (He.cls_ok (says_fa c 14)), propB_ok (says_fa c 31), ((Fn_Teller_weights X G c).mono (by decide)), rfl⟩ (.cons ⟨_, _, _, (He.cls_ok (says_fa c 14)), propB_ok (says_fa c 32), ((Fn_Teller_sayings X G c).mono (by decide)), rfl⟩ (.cons ⟨_, _, (He.glo_ok X G (says_fa c 33)), ((Fn_is_less X G c).mono (by decide))⟩ (.cons ⟨_, _, (He.glo_ok X G (says_fa c 34)), ((Fn_total X G c).mono (by decide))⟩ (.cons ⟨_, _, (He.glo_ok X G (says_fa c 35)), ((Fn_times X G c).mono (by decide))⟩ (.cons ⟨_, _, (He.glo_ok X G (says_fa c 28)), ((Fn_fraction X G c).mono (by decide))⟩ .nil)))))))) (.cons (glo_tup X G (says_fa c 36)) .nil) .nil (fun _ h => by cases h) (fun _ h => by cases h) (fun _ h => by cases h) (blt_ok X G c)
theorem Fn_shows_sure (X : K.In h) (G : h.Ns mainGlobals mg) (c : Says K w) : FnC0 P w K mg base (cxB true P w) 15 (E_shows_sure.ad K) 3 F_shows_sure := FnE.fn (says_fn c 23) (Fc_shows_sure X G c)
theorem Fc_is_habit_in (X : K.In h) (G : h.Ns mainGlobals mg) (c : Says K w) : Fcts P w K mg base L_is_habit_in D_is_habit_in 12 := fcts (L := L_is_habit_in) (.cons ⟨_, _, _, (He.cls_ok (says_fa c 14)), propB_ok (says_fa c 32), ((Fn_Teller_sayings X G c).mono (by decide)), rfl⟩ (.cons ⟨_, _, (He.glo_ok X G (says_fa c 27)), ((Fn_is_fraction X G c).mono (by decide))⟩ (.cons ⟨_, _, (He.glo_ok X G (says_fa c 34)), ((Fn_total X G c).mono (by decide))⟩ .nil))) (.cons (glo_tup X G (says_fa c 36)) (.cons (glo_tup X G (says_fa c 37)) .nil)) .nil (fun _ h => by cases h) (fun _ h => by cases h) (fun _ h => by cases h) (blt_ok X G c)
theorem Fn_is_habit_in (X : K.In h) (G : h.Ns mainGlobals mg) (c : Says K w) : FnC0 P w K mg base (cxB true P w) 15 (E_is_habit_in.ad K) 3 F_is_habit_in := FnE.fn (says_fn c 24) (Fc_is_habit_in X G c)
theorem Fc_is_habit (X : K.In h) (G : h.Ns mainGlobals mg) (c : Says K w) : Fcts P w K mg base L_is_habit D_is_habit 15 := fcts (L := L_is_habit) (.cons ⟨_, _, _, (He.cls_ok (says_fa c 14)), propB_ok (says_fa c 31), ((Fn_Teller_weights X G c).mono (by decide)), rfl⟩ (.cons ⟨_, _, (He.glo_ok X G (says_fa c 38)), ((Fn_is_habit_in X G c).mono (by decide))⟩ .nil)) .nil .nil (fun _ h => by cases h) (fun _ h => by cases h) (fun _ h => by cases h) (blt_ok X G c)
theorem Fn_is_habit (X : K.In h) (G : h.Ns mainGlobals mg) (c : Says K w) : FnC0 P w K mg base (cxB true P w) 18 (E_is_habit.ad K) 2 F_is_habit := FnE.fn (says_fn c 25) (Fc_is_habit X G c)
theorem Fc_greater (X : K.In h) (G : h.Ns mainGlobals mg) (c : Says K w) : Fcts P w K mg base L_greater D_greater 3 := fcts (L := L_greater) (.cons ⟨_, _, (He.glo_ok X G (says_fa c 33)), ((Fn_is_less X G c).mono (by decide))⟩ .nil) .nil .nil (fun _ h => by cases h) (fun _ h => by cases h) (fun _ h => by cases h) (blt_ok X G c)
theorem Fn_greater (X : K.In h) (G : h.Ns mainGlobals mg) (c : Says K w) : FnC0 P w K mg base (cxB true P w) 6 (E_greater.ad K) 2 F_greater := FnE.fn (says_fn c 26) (Fc_greater X G c)
theorem Fc_share_of (X : K.In h) (G : h.Ns mainGlobals mg) (c : Says K w) : Fcts P w K mg base L_share_of D_share_of 6 := fcts (L := L_share_of) (.cons ⟨_, _, (He.glo_ok X G (says_fa c 28)), ((Fn_fraction X G c).mono (by decide))⟩ (.cons ⟨_, _, _, (He.cls_ok (says_fa c 14)), propB_ok (says_fa c 31), ((Fn_Teller_weights X G c).mono (by decide)), rfl⟩ .nil)) .nil .nil (fun _ h => by cases h) (fun _ h => by cases h) (fun _ h => by cases h) (blt_ok X G c)
theorem Fn_share_of (X : K.In h) (G : h.Ns mainGlobals mg) (c : Says K w) : FnC0 P w K mg base (cxB true P w) 9 (E_share_of.ad K) 2 F_share_of := FnE.fn (says_fn c 27) (Fc_share_of X G c)
theorem Fc_against (X : K.In h) (G : h.Ns mainGlobals mg) (c : Says K w) : Fcts P w K mg base L_against D_against 12 := fcts (L := L_against) (.cons ⟨_, _, _, (He.cls_ok (says_fa c 14)), propB_ok (says_fa c 32), ((Fn_Teller_sayings X G c).mono (by decide)), rfl⟩ (.cons ⟨_, _, _, (He.cls_ok (says_fa c 14)), propB_ok (says_fa c 31), ((Fn_Teller_weights X G c).mono (by decide)), rfl⟩ (.cons ⟨_, _, (He.glo_ok X G (says_fa c 39)), ((Fn_greater X G c).mono (by decide))⟩ (.cons ⟨_, _, (He.glo_ok X G (says_fa c 35)), ((Fn_times X G c).mono (by decide))⟩ (.cons ⟨_, _, (He.glo_ok X G (says_fa c 40)), ((Fn_share_of X G c).mono (by decide))⟩ (.cons ⟨_, _, (He.glo_ok X G (says_fa c 34)), ((Fn_total X G c).mono (by decide))⟩ .nil)))))) (.cons (glo_tup X G (says_fa c 37)) .nil) .nil (fun _ h => by cases h) (fun _ h => by cases h) (fun _ h => by cases h) (blt_ok X G c)
theorem Fn_against (X : K.In h) (G : h.Ns mainGlobals mg) (c : Says K w) : FnC0 P w K mg base (cxB true P w) 15 (E_against.ad K) 2 F_against := FnE.fn (says_fn c 28) (Fc_against X G c)
theorem Fc_shows_no_more (X : K.In h) (G : h.Ns mainGlobals mg) (c : Says K w) : Fcts P w K mg base L_shows_no_more D_shows_no_more 18 := fcts (L := L_shows_no_more) (.cons ⟨_, _, (He.glo_ok X G (says_fa c 27)), ((Fn_is_fraction X G c).mono (by decide))⟩ (.cons ⟨_, _, (He.glo_ok X G (says_fa c 41)), ((Fn_is_habit X G c).mono (by decide))⟩ (.cons ⟨_, _, (He.glo_ok X G (says_fa c 33)), ((Fn_is_less X G c).mono (by decide))⟩ (.cons ⟨_, _, (He.glo_ok X G (says_fa c 42)), ((Fn_against X G c).mono (by decide))⟩ .nil)))) .nil .nil (fun _ h => by cases h) (fun _ h => by cases h) (fun _ h => by cases h) (blt_ok X G c)
theorem Fn_shows_no_more (X : K.In h) (G : h.Ns mainGlobals mg) (c : Says K w) : FnC0 P w K mg base (cxB true P w) 21 (E_shows_no_more.ad K) 3 F_shows_no_more := FnE.fn (says_fn c 29) (Fc_shows_no_more X G c)
theorem Fc_is_asked (X : K.In h) (G : h.Ns mainGlobals mg) (c : Says K w) : Fcts P w K mg base L_is_asked D_is_asked 9 := fcts (L := L_is_asked) (.cons ⟨_, _, (He.glo_ok X G (says_fa c 3)), ((Fn_is_between X G c).mono (by decide))⟩ (.cons ⟨_, _, _, (He.cls_ok (says_fa c 14)), propB_ok (says_fa c 32), ((Fn_Teller_sayings X G c).mono (by decide)), rfl⟩ (.cons ⟨_, _, (He.glo_ok X G (says_fa c 9)), ((Fn_is_lot X G c).mono (by decide))⟩ (.cons ⟨_, _, _, (He.cls_ok (says_fa c 14)), propB_ok (says_fa c 31), ((Fn_Teller_weights X G c).mono (by decide)), rfl⟩ (.cons ⟨_, _, (He.glo_ok X G (says_fa c 27)), ((Fn_is_fraction X G c).mono (by decide))⟩ .nil))))) .nil .nil (fun _ h => by cases h) (fun _ h => by cases h) (fun _ h => by cases h) (blt_ok X G c)
theorem Fn_is_asked (X : K.In h) (G : h.Ns mainGlobals mg) (c : Says K w) : FnC0 P w K mg base (cxB true P w) 12 (E_is_asked.ad K) 4 F_is_asked := FnE.fn (says_fn c 30) (Fc_is_asked X G c)
theorem Fc_heard_weight (X : K.In h) (G : h.Ns mainGlobals mg) (c : Says K w) : Fcts P w K mg base L_heard_weight D_heard_weight 12 := fcts (L := L_heard_weight) (.cons ⟨_, _, (He.glo_ok X G (says_fa c 34)), ((Fn_total X G c).mono (by decide))⟩ (.cons ⟨_, _, (He.glo_ok X G (says_fa c 35)), ((Fn_times X G c).mono (by decide))⟩ (.cons ⟨_, _, _, (He.cls_ok (says_fa c 14)), propB_ok (says_fa c 31), ((Fn_Teller_weights X G c).mono (by decide)), rfl⟩ .nil))) .nil .nil (fun _ h => by cases h) (fun _ h => by cases h) (fun _ h => by cases h) (blt_ok X G c)
theorem Fn_heard_weight (X : K.In h) (G : h.Ns mainGlobals mg) (c : Says K w) : FnC0 P w K mg base (cxB true P w) 15 (E_heard_weight.ad K) 4 F_heard_weight := FnE.fn (says_fn c 31) (Fc_heard_weight X G c)
theorem Fc_Teller_said_in (X : K.In h) (G : h.Ns mainGlobals mg) (c : Says K w) : Fcts P w K mg base L_Teller_said_in D_Teller_said_in 0 := fcts (L := L_Teller_said_in) .nil .nil .nil (List.forall_mem_cons.mpr ⟨⟨(He.cls_ok (says_fa c 14)), He.noat_ok (says_fa c 15)⟩, (fun _ h => by cases h)⟩) (fun _ h => by cases h) (fun _ h => by cases h) (blt_ok X G c)
theorem Fn_Teller_said_in (X : K.In h) (G : h.Ns mainGlobals mg) (c : Says K w) : FnC0 P w K mg base (cxB true P w) 3 (E_Teller_said_in.ad K) 2 F_Teller_said_in := FnE.fn (says_fn c 32) (Fc_Teller_said_in X G c)
theorem Fc_Teller_bound_in (X : K.In h) (G : h.Ns mainGlobals mg) (c : Says K w) : Fcts P w K mg base L_Teller_bound_in D_Teller_bound_in 3 := fcts (L := L_Teller_bound_in) (.cons ⟨_, _, (He.cls_ok (says_fa c 14)), He.meth_ok (says_fa c 43), ((Fn_Teller_said_in X G c).mono (by decide)), rfl, rfl⟩ .nil) .nil .nil (List.forall_mem_cons.mpr ⟨⟨(He.cls_ok (says_fa c 14)), He.noat_ok (says_fa c 15)⟩, (fun _ h => by cases h)⟩) (fun _ h => by cases h) (fun _ h => by cases h) (blt_ok X G c)
theorem Fn_Teller_bound_in (X : K.In h) (G : h.Ns mainGlobals mg) (c : Says K w) : FnC0 P w K mg base (cxB true P w) 6 (E_Teller_bound_in.ad K) 2 F_Teller_bound_in := FnE.fn (says_fn c 33) (Fc_Teller_bound_in X G c)
theorem Fc_weight_of (X : K.In h) (G : h.Ns mainGlobals mg) (c : Says K w) : Fcts P w K mg base L_weight_of D_weight_of 3 := fcts (L := L_weight_of) (.cons ⟨_, _, _, (He.cls_ok (says_fa c 14)), propB_ok (says_fa c 31), ((Fn_Teller_weights X G c).mono (by decide)), rfl⟩ .nil) .nil .nil (fun _ h => by cases h) (fun _ h => by cases h) (fun _ h => by cases h) (blt_ok X G c)
theorem Fn_weight_of (X : K.In h) (G : h.Ns mainGlobals mg) (c : Says K w) : FnC0 P w K mg base (cxB true P w) 6 (E_weight_of.ad K) 2 F_weight_of := FnE.fn (says_fn c 34) (Fc_weight_of X G c)
theorem Fc_parted (X : K.In h) (G : h.Ns mainGlobals mg) (c : Says K w) : Fcts P w K mg base L_parted D_parted 6 := fcts (L := L_parted) (.cons ⟨_, _, _, (He.cls_ok (says_fa c 14)), propB_ok (says_fa c 32), ((Fn_Teller_sayings X G c).mono (by decide)), rfl⟩ (.cons ⟨_, _, (He.cls_ok (says_fa c 14)), He.meth_ok (says_fa c 44), ((Fn_Teller_bound_in X G c).mono (by decide)), rfl, rfl⟩ (.cons ⟨_, _, (He.glo_ok X G (says_fa c 45)), ((Fn_weight_of X G c).mono (by decide))⟩ .nil))) .nil .nil (fun _ h => by cases h) (fun _ h => by cases h) (fun _ h => by cases h) (blt_ok X G c)
theorem Fn_parted (X : K.In h) (G : h.Ns mainGlobals mg) (c : Says K w) : FnC0 P w K mg base (cxB true P w) 9 (E_parted.ad K) 3 F_parted := FnE.fn (says_fn c 35) (Fc_parted X G c)
theorem Fc_least_for (X : K.In h) (G : h.Ns mainGlobals mg) (c : Says K w) : Fcts P w K mg base L_least_for D_least_for 9 := fcts (L := L_least_for) (.cons ⟨_, _, (He.glo_ok X G (says_fa c 46)), ((Fn_parted X G c).mono (by decide))⟩ (.cons ⟨_, _, (He.glo_ok X G (says_fa c 28)), ((Fn_fraction X G c).mono (by decide))⟩ .nil)) .nil .nil (fun _ h => by cases h) (fun _ h => by cases h) (fun _ h => by cases h) (blt_ok X G c)
theorem Fn_least_for (X : K.In h) (G : h.Ns mainGlobals mg) (c : Says K w) : FnC0 P w K mg base (cxB true P w) 12 (E_least_for.ad K) 3 F_least_for := FnE.fn (says_fn c 36) (Fc_least_for X G c)
theorem Fc_greatest_for (X : K.In h) (G : h.Ns mainGlobals mg) (c : Says K w) : Fcts P w K mg base L_greatest_for D_greatest_for 9 := fcts (L := L_greatest_for) (.cons ⟨_, _, (He.glo_ok X G (says_fa c 46)), ((Fn_parted X G c).mono (by decide))⟩ (.cons ⟨_, _, (He.glo_ok X G (says_fa c 28)), ((Fn_fraction X G c).mono (by decide))⟩ .nil)) .nil .nil (fun _ h => by cases h) (fun _ h => by cases h) (fun _ h => by cases h) (blt_ok X G c)
theorem Fn_greatest_for (X : K.In h) (G : h.Ns mainGlobals mg) (c : Says K w) : FnC0 P w K mg base (cxB true P w) 12 (E_greatest_for.ad K) 3 F_greatest_for := FnE.fn (says_fn c 37) (Fc_greatest_for X G c)
theorem Fc_shows_end (X : K.In h) (G : h.Ns mainGlobals mg) (c : Says K w) : Fcts P w K mg base L_shows_end D_shows_end 18 := fcts (L := L_shows_end) (.cons ⟨_, _, (He.glo_ok X G (says_fa c 47)), ((Fn_is_asked X G c).mono (by decide))⟩ (.cons ⟨_, _, (He.glo_ok X G (says_fa c 41)), ((Fn_is_habit X G c).mono (by decide))⟩ (.cons ⟨_, _, (He.glo_ok X G (says_fa c 48)), ((Fn_heard_weight X G c).mono (by decide))⟩ (.cons ⟨_, _, _, (He.cls_ok (says_fa c 14)), propB_ok (says_fa c 32), ((Fn_Teller_sayings X G c).mono (by decide)), rfl⟩ (.cons ⟨_, _, (He.glo_ok X G (says_fa c 28)), ((Fn_fraction X G c).mono (by decide))⟩ (.cons ⟨_, _, (He.glo_ok X G (says_fa c 49)), ((Fn_least_for X G c).mono (by decide))⟩ (.cons ⟨_, _, (He.glo_ok X G (says_fa c 50)), ((Fn_greatest_for X G c).mono (by decide))⟩ .nil))))))) .nil .nil (fun _ h => by cases h) (fun _ h => by cases h) (fun _ h => by cases h) (blt_ok X G c)
theorem Fn_shows_end (X : K.In h) (G : h.Ns mainGlobals mg) (c : Says K w) : FnC0 P w K mg base (cxB true P w) 21 (E_shows_end.ad K) 3 F_shows_end := FnE.fn (says_fn c 38) (Fc_shows_end X G c)
theorem Fc_are_shares (X : K.In h) (G : h.Ns mainGlobals mg) (c : Says K w) : Fcts P w K mg base L_are_shares D_are_shares 12 := fcts (L := L_are_shares) (.cons ⟨_, _, (He.glo_ok X G (says_fa c 30)), ((Fn_are_fractions X G c).mono (by decide))⟩ (.cons ⟨_, _, _, (He.cls_ok (says_fa c 14)), propB_ok (says_fa c 32), ((Fn_Teller_sayings X G c).mono (by decide)), rfl⟩ (.cons ⟨_, _, (He.glo_ok X G (says_fa c 34)), ((Fn_total X G c).mono (by decide))⟩ .nil))) (.cons (glo_tup X G (says_fa c 36)) .nil) .nil (fun _ h => by cases h) (fun _ h => by cases h) (fun _ h => by cases h) (blt_ok X G c)
theorem Fn_are_shares (X : K.In h) (G : h.Ns mainGlobals mg) (c : Says K w) : FnC0 P w K mg base (cxB true P w) 15 (E_are_shares.ad K) 2 F_are_shares := FnE.fn (says_fn c 39) (Fc_are_shares X G c)
theorem Fc_gives (X : K.In h) (G : h.Ns mainGlobals mg) (c : Says K w) : Fcts P w K mg base L_gives D_gives 15 := fcts (L := L_gives) (.cons ⟨_, _, _, (He.cls_ok (says_fa c 14)), propB_ok (says_fa c 31), ((Fn_Teller_weights X G c).mono (by decide)), rfl⟩ (.cons ⟨_, _, (He.glo_ok X G (says_fa c 48)), ((Fn_heard_weight X G c).mono (by decide))⟩ (.cons ⟨_, _, (He.glo_ok X G (says_fa c 28)), ((Fn_fraction X G c).mono (by decide))⟩ .nil))) .nil .nil (fun _ h => by cases h) (fun _ h => by cases h) (fun _ h => by cases h) (blt_ok X G c)
theorem Fn_gives (X : K.In h) (G : h.Ns mainGlobals mg) (c : Says K w) : FnC0 P w K mg base (cxB true P w) 18 (E_gives.ad K) 3 F_gives := FnE.fn (says_fn c 40) (Fc_gives X G c)
theorem Fc_bars (X : K.In h) (G : h.Ns mainGlobals mg) (c : Says K w) : Fcts P w K mg base L_bars D_bars 12 := fcts (L := L_bars) (.cons ⟨_, _, _, (He.cls_ok (says_fa c 14)), propB_ok (says_fa c 32), ((Fn_Teller_sayings X G c).mono (by decide)), rfl⟩ (.cons ⟨_, _, (He.glo_ok X G (says_fa c 33)), ((Fn_is_less X G c).mono (by decide))⟩ (.cons ⟨_, _, (He.glo_ok X G (says_fa c 34)), ((Fn_total X G c).mono (by decide))⟩ (.cons ⟨_, _, (He.glo_ok X G (says_fa c 28)), ((Fn_fraction X G c).mono (by decide))⟩ (.cons ⟨_, _, (He.glo_ok X G (says_fa c 45)), ((Fn_weight_of X G c).mono (by decide))⟩ (.cons ⟨_, _, _, (He.cls_ok (says_fa c 14)), propB_ok (says_fa c 31), ((Fn_Teller_weights X G c).mono (by decide)), rfl⟩ .nil)))))) .nil .nil (fun _ h => by cases h) (fun _ h => by cases h) (fun _ h => by cases h) (blt_ok X G c)
theorem Fn_bars (X : K.In h) (G : h.Ns mainGlobals mg) (c : Says K w) : FnC0 P w K mg base (cxB true P w) 15 (E_bars.ad K) 3 F_bars := FnE.fn (says_fn c 41) (Fc_bars X G c)
theorem Fc_shows_shares (X : K.In h) (G : h.Ns mainGlobals mg) (c : Says K w) : Fcts P w K mg base L_shows_shares D_shows_shares 18 := fcts (L := L_shows_shares) (.cons ⟨_, _, (He.glo_ok X G (says_fa c 51)), ((Fn_are_shares X G c).mono (by decide))⟩ (.cons ⟨_, _, (He.glo_ok X G (says_fa c 41)), ((Fn_is_habit X G c).mono (by decide))⟩ (.cons ⟨_, _, (He.glo_ok X G (says_fa c 52)), ((Fn_gives X G c).mono (by decide))⟩ (.cons ⟨_, _, (He.glo_ok X G (says_fa c 9)), ((Fn_is_lot X G c).mono (by decide))⟩ (.cons ⟨_, _, _, (He.cls_ok (says_fa c 14)), propB_ok (says_fa c 31), ((Fn_Teller_weights X G c).mono (by decide)), rfl⟩ (.cons ⟨_, _, (He.glo_ok X G (says_fa c 53)), ((Fn_bars X G c).mono (by decide))⟩ .nil)))))) .nil .nil (fun _ h => by cases h) (fun _ h => by cases h) (fun _ h => by cases h) (blt_ok X G c)
theorem Fn_shows_shares (X : K.In h) (G : h.Ns mainGlobals mg) (c : Says K w) : FnC0 P w K mg base (cxB true P w) 21 (E_shows_shares.ad K) 3 F_shows_shares := FnE.fn (says_fn c 42) (Fc_shows_shares X G c)
theorem Fc_accepts (X : K.In h) (G : h.Ns mainGlobals mg) (c : Says K w) : Fcts P w K mg base L_accepts D_accepts 21 := fcts (L := L_accepts) (.cons ⟨_, _, (He.glo_ok X G (says_fa c 54)), ((Fn_teller_in X G c).mono (by decide))⟩ (.cons ⟨_, _, (He.glo_ok X G (says_fa c 55)), ((Fn_shows_sure X G c).mono (by decide))⟩ (.cons ⟨_, _, (He.glo_ok X G (says_fa c 56)), ((Fn_shows_no_more X G c).mono (by decide))⟩ (.cons ⟨_, _, (He.glo_ok X G (says_fa c 57)), ((Fn_shows_end X G c).mono (by decide))⟩ (.cons ⟨_, _, (He.glo_ok X G (says_fa c 58)), ((Fn_shows_shares X G c).mono (by decide))⟩ .nil))))) .nil (.cons (dic_ok X G (says_fa c 59) (says_ds c 0)) .nil) (fun _ h => by cases h) (fun _ h => by cases h) (fun _ h => by cases h) (blt_ok X G c)
theorem Fn_accepts (X : K.In h) (G : h.Ns mainGlobals mg) (c : Says K w) : FnC0 P w K mg base (cxB true P w) 24 (E_accepts.ad K) 2 F_accepts := FnE.fn (says_fn c 43) (Fc_accepts X G c)
theorem Kw_accepts (X : K.In h) (G : h.Ns mainGlobals mg) (c : Says K w) : FnKw P w K mg base (cxB true P w) 24 (E_accepts.ad K) ("certificate" : Str) ("claim" : Str) F_accepts := FnE.kw (says_fn c 43) rfl (Fc_accepts X G c)
theorem Fc__law_odds (X : K.In h) (G : h.Ns mainGlobals mg) (c : Says K w) : Fcts P w K mg base L__law_odds D__law_odds 0 := fcts (L := L__law_odds) .nil .nil .nil (fun _ h => by cases h) (fun _ h => by cases h) (fun _ h => by cases h) (blt_ok X G c)
theorem Fn__law_odds (X : K.In h) (G : h.Ns mainGlobals mg) (c : Says K w) : FnC0 P w K mg base (cxB true P w) 3 (E__law_odds.ad K) 0 F__law_odds := FnE.fn (says_fn c 44) (Fc__law_odds X G c)
theorem Fc__law_bent (X : K.In h) (G : h.Ns mainGlobals mg) (c : Says K w) : Fcts P w K mg base L__law_bent D__law_bent 3 := fcts (L := L__law_bent) (.cons ⟨_, _, (He.glo_ok X G (says_fa c 60)), ((Fn__law_odds X G c).mono (by decide))⟩ .nil) .nil .nil (fun _ h => by cases h) (fun _ h => by cases h) (fun _ h => by cases h) (blt_ok X G c)
theorem Fn__law_bent (X : K.In h) (G : h.Ns mainGlobals mg) (c : Says K w) : FnC0 P w K mg base (cxB true P w) 6 (E__law_bent.ad K) 2 F__law_bent := FnE.fn (says_fn c 45) (Fc__law_bent X G c)
theorem Fc__law_right (X : K.In h) (G : h.Ns mainGlobals mg) (c : Says K w) : Fcts P w K mg base L__law_right D__law_right 24 := fcts (L := L__law_right) (.cons ⟨_, _, (He.glo_ok X G (says_fa c 61)), ((Fn__law_dip X G c).mono (by decide))⟩ (.cons ⟨_, _, (He.glo_ok X G (says_fa c 62)), ((Fn__law_rights X G c).mono (by decide))⟩ (.cons ⟨_, _, (He.glo_ok X G (says_fa c 63)), ((Fn_accepts X G c).mono (by decide))⟩ (.cons ⟨_, (He.glo_ok X G (says_fa c 63)), ((Kw_accepts X G c).mono (by decide))⟩ (.cons ⟨_, _, (He.glo_ok X G (says_fa c 64)), ((Fn__law_bent X G c).mono (by decide))⟩ (.cons ⟨_, _, (He.glo_ok X G (says_fa c 60)), ((Fn__law_odds X G c).mono (by decide))⟩ .nil)))))) .nil .nil (fun _ h => by cases h) (fun _ h => by cases h) (fun _ h => by cases h) (blt_ok X G c)
theorem Fn__law_right (X : K.In h) (G : h.Ns mainGlobals mg) (c : Says K w) : FnC0 P w K mg base (cxB true P w) 27 (E__law_right.ad K) 1 F__law_right := FnE.fn (says_fn c 46) (Fc__law_right X G c)
theorem Fc__law_well (X : K.In h) (G : h.Ns mainGlobals mg) (c : Says K w) : Fcts P w K mg base L__law_well D__law_well 0 := fcts (L := L__law_well) .nil .nil .nil (fun _ h => by cases h) (fun _ h => by cases h) (fun _ h => by cases h) (blt_ok X G c)
theorem Fn__law_well (X : K.In h) (G : h.Ns mainGlobals mg) (c : Says K w) : FnC0 P w K mg base (cxB true P w) 3 (E__law_well.ad K) 1 F__law_well := FnE.fn (says_fn c 47) (Fc__law_well X G c)
theorem Fc__law_cell (X : K.In h) (G : h.Ns mainGlobals mg) (c : Says K w) : Fcts P w K mg base L__law_cell D__law_cell 0 := fcts (L := L__law_cell) .nil .nil .nil (fun _ h => by cases h) (fun _ h => by cases h) (fun _ h => by cases h) (blt_ok X G c)
theorem Fn__law_cell (X : K.In h) (G : h.Ns mainGlobals mg) (c : Says K w) : FnC0 P w K mg base (cxB true P w) 3 (E__law_cell.ad K) 2 F__law_cell := FnE.fn (says_fn c 48) (Fc__law_cell X G c)
theorem Fc_law (X : K.In h) (G : h.Ns mainGlobals mg) (c : Says K w) : Fcts P w K mg base L_law D_law 27 := fcts (L := L_law) (.cons ⟨_, _, (He.glo_ok X G (says_fa c 65)), ((Fn__law_right X G c).mono (by decide))⟩ (.cons ⟨_, _, (He.glo_ok X G (says_fa c 66)), ((Fn__law_well X G c).mono (by decide))⟩ (.cons ⟨_, _, (He.glo_ok X G (says_fa c 67)), ((Fn__law_cell X G c).mono (by decide))⟩ .nil))) .nil .nil (fun _ h => by cases h) (fun _ h => by cases h) (fun _ h => by cases h) (blt_ok X G c)
end
end R
set_option maxHeartbeats 400000
namespace R
open PySem PySem.Spec L2
open PyProof.Rows hiding St
/-! P1: plain reasoning about readings. -/
theorem keeps_refl (M : Mem) : Keeps M M := ⟨Nat.le_refl _, fun i o _ h => .inl h⟩
theorem trim_p {M : Mem} {x : PV} (h : noRef M.length x = true) : trim M (.ok x M) = .ok x M := by rw [trim_y ⟨h, keeps_refl M⟩, List.take_length]
theorem mk_pure {n nl : Nat} {b : Tm .b} {D : Wd} {xs : List PV} {M : Mem} {x : PV} (hl : xs.length = n) (h : ev (k := .b) D b (startE nl xs) M = .rt x M) (hr : noRef M.length x = true) : mkF n nl b D xs M = .ok x M := by
  unfold mkF; rw [if_pos hl, h]; exact trim_p hr
theorem whl_t {c : Env → RM PV} {body : SM} {e e2 : Env} {M M1 M2 : Mem} {r : SRes} (h1 : (c e >>= asB) M = .ok true M1) (h2 : body e M1 = .nx e2 M2) (h3 : ∃ n, whN c body n e2 M2 = r) (hr : r ≠ .bad) : ∃ n, whN c body n e M = r := by
  obtain ⟨n, h3⟩ := h3
  exact ⟨n + 1, by rw [whN, h1]; simp only [if_true]; rw [h2]; exact h3⟩
theorem whl_f {c : Env → RM PV} {body : SM} {e : Env} {M M1 : Mem} (h1 : (c e >>= asB) M = .ok false M1) : ∃ n, whN c body n e M = .nx e M1 := ⟨1, by rw [whN, h1]; rfl⟩
theorem whl_ok {c : Env → RM PV} {body : SM} {e : Env} {M : Mem} {r : SRes} (h : ∃ n, whN c body n e M = r) (hr : r ≠ .bad) : sWhile c body e M = r := by
  obtain ⟨n, h⟩ := h
  rw [sWhile_eq (n := n) (by rw [h]; exact hr), h]
theorem eqB_int (i j : Int) : eqB (.int i) (.int j) = some (decide (i = j)) := by
  simp [eqB, dataOf, SeqAt.shaped, PyData.eqv, PyData.canLay0, PyData.depth]
  rfl
theorem log2_lt {n k : Nat} (h : n < 2 ^ k) (hk : 0 < k) : n.log2 < k := by
  by_cases h0 : n = 0
  · subst h0; simpa using hk
  · exact (Nat.log2_lt h0).mpr h
theorem F_common_divisor_ok (M : Mem) : ∀ (b a : Nat), a < 2 ^ 4000 → b < 2 ^ 4000 → F_common_divisor [.int a, .int b] M = .ok (.int (Nat.gcd a b)) M := by
  intro b a ha hb
  refine mk_pure rfl ?_ rfl
  have loop : ∀ (b a : Nat), a < 2 ^ 4000 → b < 2 ^ 4000 → ∃ n, whN (ev D_common_divisor (.cmp .ne (.var 1) (.int 0))) (ev (k := .b) D_common_divisor (.bone (.par [0, 1] (.cons (.var 1) (.cons (.bin .mod (.var 0) (.var 1)) .nil))))) n [some (.int a), some (.int b)] M = .nx [some (.int (Nat.gcd a b)), some (.int 0)] M := by
    intro b
    induction b using Nat.strongRecOn with
    | _ b ih =>
      intro a ha hb
      by_cases h0 : b = 0
      · subst h0
        rw [Nat.gcd_zero_right]
        exact whl_f (by simp [ev, f2, fVar, copV, neX, eqB_int, asB, bind_eq, pure_eq])
      · refine whl_t (e2 := [some (.int b), some (.int (a % b : Nat))]) (M1 := M) (M2 := M) ?_ ?_ (r := .nx [some (.int (Nat.gcd a b)), some (.int 0)] M) ?_ (by simp)
        · simp [ev, f2, fVar, copV, neX, eqB_int, asB, bind_eq, pure_eq, h0]
        · have hd : divOk (b : Int) = true := by
            have := log2_lt (n := b) (k := 4000) hb (by omega)
            simp [divOk, h0]; omega
          simp [ev, sPar, sE, f2, fVar, bopV, modV, bind_eq, pure_eq, fCons, fNil, hd, Int.fmod_eq_emod_of_nonneg]
        · have := ih (a % b) (Nat.mod_lt _ (by omega)) b hb (Nat.lt_of_le_of_lt (Nat.mod_le _ _) ha)
          rw [Nat.gcd_comm b, ← Nat.gcd_rec, Nat.gcd_comm] at this
          exact this
  have h := whl_ok (loop b a ha hb) (by simp)
  show sSeq (sWhile _ _) _ _ _ = _
  unfold sSeq
  show (match sWhile _ _ [some (.int a), some (.int b)] M with | .nx e' M' => _ | r => r) = _
  rw [h]
  simp [ev, sRet, sE, fVar, pure_eq]
/-! ### fractions -/
def frV (q : Rat) : PV := .tup [.int q.num, .int (q.den : Int)]
theorem cd_abs (t b : Int) (M : Mem) (ht : t.natAbs < 2 ^ 4000) (hb : b.natAbs < 2 ^ 4000) : F_common_divisor [.int t.natAbs, .int b.natAbs] M = .ok (.int (Int.gcd t b)) M := F_common_divisor_ok M _ _ ht hb
theorem absW_eq (i : Int) : absW [.int i] = pure (.int (i.natAbs : Int)) := by
  have : (if i < 0 then -i else i) = (i.natAbs : Int) := by split <;> omega
  exact congrArg (fun z => (pure (PV.int z) : RM PV)) this
theorem lineOk_of {xs : List PV} (h : xs.length ≤ 1000) : lineOk xs = true := decide_eq_true (Nat.le_trans h (by rw [sizeLine_eq]; decide))
theorem lineOk2 {a b : PV} : lineOk [a, b] = true := lineOk_of (by simp)
theorem divOk_of {n : Nat} (h : n < 2 ^ 8999) (h0 : n ≠ 0) : divOk (n : Int) = true := by
  have := log2_lt h (by omega)
  simp [divOk, h0]; omega
theorem frV_div (t b : Int) (h : 0 < b) : PV.tup [.int (t.fdiv (Int.gcd t b)), .int (b.fdiv (Int.gcd t b))] = frV (Rat.divInt t b) := by
  unfold frV
  have h1 : (Rat.divInt t b).num = t.fdiv (Int.gcd t b) := by
    rw [Rat.num_divInt, Int.sign_eq_one_of_pos h, Int.one_mul, Int.gcd_comm, Int.fdiv_eq_ediv_of_nonneg _ (Int.natCast_nonneg _)]
  have h2 : ((Rat.divInt t b).den : Int) = b.fdiv (Int.gcd t b) := by
    rw [Rat.den_divInt, if_neg (by omega), Int.fdiv_eq_ediv_of_nonneg _ (Int.natCast_nonneg _), Int.gcd_comm t b]
    have : (b.natAbs : Int) = b := Int.natAbs_of_nonneg (by omega)
    rw [Int.natCast_ediv, this]
  rw [h1, h2]
theorem gcd_lt {t b : Int} {k : Nat} (h : b.natAbs < k) (h0 : b ≠ 0) : Int.gcd t b < k := Nat.lt_of_le_of_lt (Nat.gcd_le_right _ (by omega)) h
theorem gcd_ne {t b : Int} (h0 : b ≠ 0) : Int.gcd t b ≠ 0 := fun h => h0 (Int.gcd_eq_zero_iff.mp h).2
theorem F_fraction_ok (t b : Int) (M : Mem) (ht : t.natAbs < 2 ^ 4000) (hb : b.natAbs < 2 ^ 4000) (hp : 0 < b) : F_fraction [.int t, .int b] M = .ok (frV (Rat.divInt t b)) M := by
  refine mk_pure rfl ?_ rfl
  have hc := cd_abs t b M ht hb
  have hd : divOk ((Int.gcd t b : Nat) : Int) = true := divOk_of (Nat.lt_of_lt_of_le (gcd_lt hb (by omega)) (Nat.pow_le_pow_right (by omega) (by omega))) (gcd_ne (by omega))
  simp [ev, sSeq, sAsg, sRet, sE, startE, f2, fVar, fCons, fNil, fTup, fIf, gNm, bind_eq, pure_eq, biV, absW_eq, D_fraction, wdOf, L_fraction, hc, copV, cmpW, asB, bopV, fdivV, negW, b_fraction, hp, hd, lineOk2, frV_div]
/-! ### single steps -/
theorem asB_bl (b : Bool) : asB (.bl b) = pure b := rfl
theorem optR_some {α : Type} (x : α) : optR (some x) = pure x := rfl
theorem lineOk1 {a : PV} : lineOk [a] = true := lineOk_of (by simp)
theorem lineOk0 : lineOk ([] : List PV) = true := lineOk_of (by simp)
theorem lineOk3 {a b c : PV} : lineOk [a, b, c] = true := lineOk_of (by simp)
theorem lineOk4 {a b c d : PV} : lineOk [a, b, c, d] = true := lineOk_of (by simp)
theorem idx_frV0 (q : Rat) : idxW (frV q) (.int 0) = pure (.int q.num) := rfl
theorem idx_frV1 (q : Rat) : idxW (frV q) (.int 1) = pure (.int (q.den : Int)) := rfl
theorem mulV_int {i j : Int} (h : mulOk i j = true) : mulV (.int i) (.int j) = pure (.int (i * j)) := if_pos h
theorem addW_int (i j : Int) : addW (.int i) (.int j) = pure (.int (i + j)) := rfl
theorem subV_int (i j : Int) : subV (.int i) (.int j) = pure (.int (i - j)) := rfl
theorem fdivV_int {i j : Int} (h : divOk j = true) : fdivV (.int i) (.int j) = pure (.int (i.fdiv j)) := if_pos h
theorem modV_int {i j : Int} (h : divOk j = true) : modV (.int i) (.int j) = pure (.int (i.fmod j)) := if_pos h
theorem cmpW_int (p : Int → Int → Bool) (i j : Int) : cmpW p (.int i) (.int j) = pure (.bl (p i j)) := rfl
theorem negW_int (i : Int) : negW (.int i) = pure (.int (-i)) := rfl
theorem eqX_int (i j : Int) : eqX (.int i) (.int j) = pure (.bl (decide (i = j))) := by unfold eqX; rw [eqB_int]
theorem neX_int (i j : Int) : neX (.int i) (.int j) = pure (.bl (!decide (i = j))) := by unfold neX; rw [eqB_int]
/-- small fractions -/
structure Sz (k : Nat) (q : Rat) : Prop where
  n : q.num.natAbs < 2 ^ k
  d : q.den < 2 ^ k
theorem Sz.mono {k l : Nat} {q : Rat} (h : Sz k q) (hl : k ≤ l) : Sz l q := ⟨Nat.lt_of_lt_of_le h.n (Nat.pow_le_pow_right (by omega) hl), Nat.lt_of_lt_of_le h.d (Nat.pow_le_pow_right (by omega) hl)⟩
theorem Sz.div {k : Nat} {t b : Int} (ht : t.natAbs < 2 ^ k) (hb : b.natAbs < 2 ^ k) (hp : 0 < b) : Sz k (Rat.divInt t b) := by
  constructor
  · rw [Rat.num_divInt, Int.sign_eq_one_of_pos hp, Int.one_mul, Int.natAbs_ediv_of_dvd (Int.gcd_dvd_right _ _)]
    exact Nat.lt_of_le_of_lt (Nat.div_le_self _ _) ht
  · rw [Rat.den_divInt, if_neg (by omega)]
    exact Nat.lt_of_le_of_lt (Nat.div_le_self _ _) hb
theorem mulOk_of {i j : Int} {k l : Nat} (hi : i.natAbs < 2 ^ k) (hj : j.natAbs < 2 ^ l) (h : k + l < 99999990) : mulOk i j = true := by
  have h1 := log2_lt (k := k + 1) (Nat.lt_of_lt_of_le hi (Nat.pow_le_pow_right (by omega) (by omega))) (by omega)
  have h2 := log2_lt (k := l + 1) (Nat.lt_of_lt_of_le hj (Nat.pow_le_pow_right (by omega) (by omega))) (by omega)
  exact decide_eq_true (by omega)
theorem mul_lt {i j : Int} {k l : Nat} (hi : i.natAbs < 2 ^ k) (hj : j.natAbs < 2 ^ l) : (i * j).natAbs < 2 ^ (k + l) := by
  rw [Int.natAbs_mul, Nat.pow_add]
  exact Nat.mul_lt_mul_of_lt_of_lt hi hj
theorem add_lt {i j : Int} {k : Nat} (hi : i.natAbs < 2 ^ k) (hj : j.natAbs < 2 ^ k) : (i + j).natAbs < 2 ^ (k + 1) := by
  have := Int.natAbs_add_le i j
  rw [Nat.pow_succ]; omega
theorem F_plus_ok {p q : Rat} {k l : Nat} (M : Mem) (hp : Sz k p) (hq : Sz l q) (h : k + l < 3900) : F_plus [frV p, frV q] M = .ok (frV (p + q)) M ∧ Sz (k + l + 1) (p + q) := by
  have e : p + q = Rat.divInt (p.num * q.den + q.num * p.den) ((p.den : Int) * q.den) := by
    have := Rat.divInt_add_divInt p.num q.num (d₁ := p.den) (d₂ := q.den) (by have := p.den_nz; omega) (by have := q.den_nz; omega)
    rwa [Rat.num_divInt_den, Rat.num_divInt_den] at this
  have d1 : ((p.den : Int)).natAbs < 2 ^ k := by simpa using hp.d
  have d2 : ((q.den : Int)).natAbs < 2 ^ l := by simpa using hq.d
  have m1 := mul_lt hp.n d2
  have m2 := mul_lt hq.n d1
  have m3 := mul_lt d1 d2
  rw [Nat.add_comm l k] at m2
  have hpos : (0 : Int) < (p.den : Int) * q.den := Int.mul_pos (by have := p.den_pos; omega) (by have := q.den_pos; omega)
  have a1 := add_lt m1 m2
  have m3' : ((p.den : Int) * q.den).natAbs < 2 ^ (k + l + 1) := Nat.lt_of_lt_of_le m3 (Nat.pow_le_pow_right (by omega) (by omega))
  refine ⟨?_, by rw [e]; exact Sz.div a1 m3' hpos⟩
  have hf := F_fraction_ok (p.num * q.den + q.num * p.den) ((p.den : Int) * q.den) M (Nat.lt_of_lt_of_le a1 (Nat.pow_le_pow_right (by omega) (by omega))) (Nat.lt_of_lt_of_le m3' (Nat.pow_le_pow_right (by omega) (by omega))) hpos
  rw [← e] at hf
  refine mk_pure rfl ?_ rfl
  have o1 := mulOk_of hp.n d2 (by omega)
  have o2 := mulOk_of hq.n d1 (by omega)
  have o3 := mulOk_of d1 d2 (by omega)
  simp [ev, sSeq, sAsg, sRet, sRetN, sE, sIf, sNil, sExpr, startE, f2, fVar, fCons, fNil, fTup, fIf, fAnd, fOr, fNot, fChain, gNm, bind_eq, pure_eq, bad_eq, biV, bopV, copV, wdOf, asB_bl, lineOk0, lineOk1, lineOk2, lineOk3, lineOk4, optR_some, D_plus, L_plus, b_plus, idx_frV0, idx_frV1, mulV_int, addW_int, o1, o2, o3, hf]
theorem F_times_ok {p q : Rat} {k l : Nat} (M : Mem) (hp : Sz k p) (hq : Sz l q) (h : k + l < 3900) : F_times [frV p, frV q] M = .ok (frV (p * q)) M ∧ Sz (k + l) (p * q) := by
  have e : p * q = Rat.divInt (p.num * q.num) ((p.den : Int) * q.den) := by
    have := Rat.divInt_mul_divInt p.num q.num (d₁ := p.den) (d₂ := q.den)
    rwa [Rat.num_divInt_den, Rat.num_divInt_den] at this
  have d1 : ((p.den : Int)).natAbs < 2 ^ k := by simpa using hp.d
  have d2 : ((q.den : Int)).natAbs < 2 ^ l := by simpa using hq.d
  have m1 := mul_lt hp.n hq.n
  have m3 := mul_lt d1 d2
  have hpos : (0 : Int) < (p.den : Int) * q.den := Int.mul_pos (by have := p.den_pos; omega) (by have := q.den_pos; omega)
  refine ⟨?_, by rw [e]; exact Sz.div m1 m3 hpos⟩
  have hf := F_fraction_ok (p.num * q.num) ((p.den : Int) * q.den) M (Nat.lt_of_lt_of_le m1 (Nat.pow_le_pow_right (by omega) (by omega))) (Nat.lt_of_lt_of_le m3 (Nat.pow_le_pow_right (by omega) (by omega))) hpos
  rw [← e] at hf
  refine mk_pure rfl ?_ rfl
  have o1 := mulOk_of hp.n hq.n (by omega)
  have o3 := mulOk_of d1 d2 (by omega)
  simp [ev, sSeq, sAsg, sRet, sRetN, sE, sIf, sNil, sExpr, startE, f2, fVar, fCons, fNil, fTup, fIf, fAnd, fOr, fNot, fChain, gNm, bind_eq, pure_eq, bad_eq, biV, bopV, copV, wdOf, asB_bl, lineOk0, lineOk1, lineOk2, lineOk3, lineOk4, optR_some, D_times, L_times, b_times, idx_frV0, idx_frV1, mulV_int, addW_int, o1, o3, hf]
theorem F_is_less_ok {p q : Rat} {k l : Nat} (M : Mem) (hp : Sz k p) (hq : Sz l q) (h : k + l < 3900) : F_is_less [frV p, frV q] M = .ok (.bl (decide (p < q))) M := by
  have d1 : ((p.den : Int)).natAbs < 2 ^ k := by simpa using hp.d
  have d2 : ((q.den : Int)).natAbs < 2 ^ l := by simpa using hq.d
  have o1 := mulOk_of hp.n d2 (by omega)
  have o2 := mulOk_of hq.n d1 (by omega)
  refine mk_pure rfl ?_ rfl
  simp [ev, sSeq, sAsg, sRet, sRetN, sE, sIf, sNil, sExpr, startE, f2, fVar, fCons, fNil, fTup, fIf, fAnd, fOr, fNot, fChain, gNm, bind_eq, pure_eq, bad_eq, biV, bopV, copV, wdOf, asB_bl, lineOk0, lineOk1, lineOk2, lineOk3, lineOk4, optR_some, D_is_less, L_is_less, b_is_less, idx_frV0, idx_frV1, mulV_int, cmpW_int, o1, o2, Rat.lt_iff]
end R
set_option maxHeartbeats 400000
namespace R
open PySem PySem.Spec L2
open PyProof.Rows hiding St
/-! P2: loops and comprehensions, plain. -/
mutual
theorem noRef_mono {n m : Nat} (h : n ≤ m) : ∀ x : PV, noRef n x = true → noRef m x = true
  | .ref k, e => by simp only [noRef, decide_eq_true_eq] at e ⊢; omega
  | .tup xs, e => by simp only [noRef] at e ⊢; exact noRefs_mono h xs e
  | .lst xs, e => by simp only [noRef] at e ⊢; exact noRefs_mono h xs e
  | .dct _ xs, e => by simp only [noRef] at e ⊢; exact noRefs_mono h xs e
  | .ins _ _ xs, e => by simp only [noRef] at e ⊢; exact noRefs_mono h xs e
  | .exn _ _, e => by simp [noRef] at e
  | .non, _ => by simp [noRef]
  | .bl _, _ => by simp [noRef]
  | .int _, _ => by simp [noRef]
  | .str _, _ => by simp [noRef]
theorem noRefs_mono {n m : Nat} (h : n ≤ m) : ∀ xs : List PV, noRefs n xs = true → noRefs m xs = true
  | [], _ => by simp [noRefs]
  | x :: xs, e => by
    simp only [noRefs, Bool.and_eq_true] at e ⊢
    exact ⟨noRef_mono h x e.1, noRefs_mono h xs e.2⟩
end
/-- no memory in it -/
abbrev Da (x : PV) : Prop := noRef 0 x = true
theorem Da.at_ {x : PV} {n : Nat} (h : Da x) : noRef n x = true := noRef_mono (Nat.zero_le _) x h
theorem das {xs : List PV} {n : Nat} (h : ∀ x ∈ xs, Da x) : noRefs n xs = true := by
  induction xs with
  | nil => simp [noRefs]
  | cons x xs ih =>
    simp only [noRefs, Bool.and_eq_true]
    exact ⟨(h x (by simp)).at_, ih fun y hy => h y (by simp [hy])⟩
theorem da_tup {xs : List PV} (h : ∀ x ∈ xs, Da x) : Da (.tup xs) := by simp only [Da, noRef]; exact das h
theorem da_lst {xs : List PV} (h : ∀ x ∈ xs, Da x) : Da (.lst xs) := by simp only [Da, noRef]; exact das h
theorem da_frV (q : Rat) : Da (frV q) := rfl
/-- a comprehension by an invariant -/
theorem lc_inv {w : Wk} {g : PV → Env → RM Env} {t : Env → RM Bool} {f : Env → RM PV} {n : Nat} {e0 : Env} {xs : List PV} (P : Nat → List PV → Mem → Prop)
    (step : ∀ (i : Nat) (x : PV) (acc : List PV) (M : Mem), xs[i]? = some x → P i acc M → w.holds M ∧ ∃ e1 M1 b M2, g x e0 M = .ok e1 M1 ∧ t e1 M1 = .ok b M2 ∧ (b = false → P (i + 1) acc M2) ∧
      (b = true → ∃ y M3, f e1 M2 = .ok y M3 ∧ M3[n]? = some (.lst acc) ∧ acc.length < sizeLine ∧ P (i + 1) (acc ++ [y]) (M3.set n (.lst (acc ++ [y])))))
    (hend : ∀ acc M, P xs.length acc M → w.holds M) : ∀ (ys : List PV) (i : Nat) (acc : List PV) (M : Mem), xs.drop i = ys → i ≤ xs.length → P i acc M → ∃ acc' M', lcL w g t f n e0 ys M = .ok () M' ∧ P xs.length acc' M' := by
  intro ys
  induction ys with
  | nil =>
    intro i acc M hy hi hp
    have : i = xs.length := by
      have := congrArg List.length hy
      simp at this; omega
    subst this
    exact ⟨acc, M, by unfold lcL; rw [if_pos (hend _ _ hp)], hp⟩
  | cons y ys ih =>
    intro i acc M hy hi hp
    have hlt : i < xs.length := by
      have := congrArg List.length hy
      simp at this; omega
    have hx : xs[i]? = some y := by
      have := congrArg (fun l => l[0]?) hy
      simpa using this
    have hd : xs.drop (i + 1) = ys := by
      have := congrArg List.tail hy
      simpa using this
    obtain ⟨hw, e1, M1, b, M2, h1, h2, h3, h4⟩ := step i y acc M hx hp
    unfold lcL
    rw [if_pos hw, h1]
    dsimp only
    rw [h2]
    dsimp only
    cases b with
    | false => exact ih (i + 1) acc M2 hd hlt (h3 rfl)
    | true =>
      obtain ⟨z, M3, h5, h6, h7, h8⟩ := h4 rfl
      rw [if_pos rfl, h5]
      dsimp only
      rw [h6]
      dsimp only
      rw [if_pos h7]
      exact ih (i + 1) _ _ hd hlt h8
/-- a pure comprehension over the items that `as` stands for: φ tells each item's value, or that it is left out -/
theorem fLc_pure {α : Type} {as : List α} {enc : α → PV} {fi : Env → RM Wk} {vs : List Nat} {g : PV → Env → RM Env} {t : Env → RM Bool} {f : Env → RM PV} {e : Env} {M : Mem} {w : Wk} (φ : α → Option PV) (hi : fi e M = .ok w M) (hxs : w.xs = as.map enc) (hw : ∀ M', (∀ i, i < M.length → M'[i]? = M[i]?) → w.holds M')
    (hl : as.length ≤ sizeLine) (h : ∀ a ∈ as, ∀ M' : Mem, (∀ i, i < M.length → M'[i]? = M[i]?) → ∃ e1, g (enc a) (wipeE e vs) M' = .ok e1 M' ∧ t e1 M' = .ok (φ a).isSome M' ∧ ∀ y, φ a = some y → f e1 M' = .ok y M' ∧ noRef M.length y = true) :
    fLc fi vs g t f e M = .ok (.lst (as.filterMap φ)) M := by
  have L := lc_inv (w := w) (g := g) (t := t) (f := f) (n := M.length) (e0 := wipeE e vs) (xs := as.map enc) (fun i acc M' => acc = (as.take i).filterMap φ ∧ M' = M ++ [.lst acc] ∧ noRefs M.length acc = true ∧ acc.length ≤ i)
    (fun i x acc M' hx ⟨ha, hM, hr, hlen⟩ => by
      have ag : ∀ i, i < M.length → M'[i]? = M[i]? := fun j hj => by rw [hM, List.getElem?_append_left hj]
      obtain ⟨a, hxa, rfl⟩ : ∃ a, as[i]? = some a ∧ enc a = x := by simpa using hx
      clear hx
      have hx := hxa
      have hlt := (List.getElem?_eq_some_iff.mp hx).1
      obtain ⟨e1, h1, h2, h3⟩ := h a (List.mem_of_getElem? hx) M' ag
      have tk : as.take (i + 1) = as.take i ++ [a] := by rw [List.take_add_one, hx]; rfl
      refine ⟨hw M' ag, e1, M', (φ a).isSome, M', h1, h2, fun hb => ?_, fun hb => ?_⟩
      · have : φ a = none := by simpa using hb
        exact ⟨by rw [tk, List.filterMap_append]; simp [this, ha], hM, hr, by omega⟩
      · obtain ⟨y, hy⟩ := Option.isSome_iff_exists.mp hb
        obtain ⟨h4, h5⟩ := h3 y hy
        refine ⟨y, M', h4, by rw [hM]; simp, by omega, by rw [tk, List.filterMap_append]; simp [hy, ha], ?_, ?_, by simp; omega⟩
        · rw [hM]; simp
        · have : ∀ l : List PV, noRefs M.length l = true → noRefs M.length (l ++ [y]) = true := by
            intro l
            induction l with
            | nil => intro _; simp [noRefs, h5]
            | cons z l ih => intro hz; simp only [List.cons_append, noRefs, Bool.and_eq_true] at hz ⊢; exact ⟨hz.1, ih hz.2⟩
          exact this acc hr)
    (fun acc M' ⟨_, hM, _, _⟩ => hw M' fun j hj => by rw [hM, List.getElem?_append_left hj]) (as.map enc) 0 [] (M ++ [.lst []]) rfl (Nat.zero_le _) ⟨rfl, rfl, by simp [noRefs], by simp⟩
  obtain ⟨acc', M', e1, ha, hM, hr, _⟩ := L
  unfold fLc
  rw [bind_eq, hi]
  dsimp only
  rw [hxs, e1]
  dsimp only
  rw [hM]
  have hk : Keeps M (M ++ [.lst acc']) := ⟨by simp, fun i o hi ho => .inl (by rwa [List.getElem?_append_left hi] at ho)⟩
  rw [List.getElem?_append_right (Nat.le_refl _), Nat.sub_self]
  dsimp only [List.getElem?_cons_zero]
  rw [if_pos ⟨hr, hk⟩, List.take_left' rfl, ha, List.length_map, List.take_length]
/-- a loop by an invariant; Q: what it may end with at once -/
theorem for_inv {w : Wk} {g : PV → Env → RM Env} {body : SM} {xs : List PV} (P : Nat → Env → Mem → Prop) (Q : SRes → Prop)
    (step : ∀ (i : Nat) (x : PV) (e : Env) (M : Mem), xs[i]? = some x → P i e M → w.holds M ∧ ∃ e1 M1, g x e M = .ok e1 M1 ∧ ((∃ e2 M2, (body e1 M1 = .nx e2 M2 ∨ body e1 M1 = .ct e2 M2) ∧ P (i + 1) e2 M2) ∨ (∃ x2 M2, body e1 M1 = .rt x2 M2 ∧ Q (.rt x2 M2)) ∨ (∃ c ys e2 M2, body e1 M1 = .ex c ys e2 M2 ∧ Q (.ex c ys e2 M2))))
    (hend : ∀ e M, P xs.length e M → w.holds M) : ∀ (ys : List PV) (i : Nat) (e : Env) (M : Mem), xs.drop i = ys → i ≤ xs.length → P i e M → (∃ e' M', forL w g body ys e M = .nx e' M' ∧ P xs.length e' M') ∨ Q (forL w g body ys e M) := by
  intro ys
  induction ys with
  | nil =>
    intro i e M hy hi hp
    have : i = xs.length := by
      have := congrArg List.length hy
      simp at this; omega
    subst this
    exact .inl ⟨e, M, by unfold forL; rw [if_pos (hend _ _ hp)], hp⟩
  | cons y ys ih =>
    intro i e M hy hi hp
    have hlt : i < xs.length := by
      have := congrArg List.length hy
      simp at this; omega
    have hx : xs[i]? = some y := by
      have := congrArg (fun l => l[0]?) hy
      simpa using this
    have hd : xs.drop (i + 1) = ys := by
      have := congrArg List.tail hy
      simpa using this
    obtain ⟨hw, e1, M1, h1, h2⟩ := step i y e M hx hp
    unfold forL
    rw [if_pos hw, h1]
    dsimp only
    rcases h2 with ⟨e2, M2, h3 | h3, hp2⟩ | ⟨x2, M2, h3, hq⟩ | ⟨c, zs, e2, M2, h3, hq⟩
    · rw [h3]; exact ih (i + 1) e2 M2 hd hlt hp2
    · rw [h3]; exact ih (i + 1) e2 M2 hd hlt hp2
    · rw [h3]; exact .inr hq
    · rw [h3]; exact .inr hq
/-- a loop that goes through -/
theorem for_thru {w : Wk} {g : PV → Env → RM Env} {body : SM} {e : Env} {M : Mem} (P : Nat → Env → Mem → Prop)
    (step : ∀ (i : Nat) (x : PV) (e : Env) (M : Mem), w.xs[i]? = some x → P i e M → w.holds M ∧ ∃ e1 M1 e2 M2, g x e M = .ok e1 M1 ∧ body e1 M1 = .nx e2 M2 ∧ P (i + 1) e2 M2)
    (hend : ∀ e M, P w.xs.length e M → w.holds M) (h0 : P 0 e M) : ∃ e' M', forL w g body w.xs e M = .nx e' M' ∧ P w.xs.length e' M' := by
  rcases for_inv (w := w) (g := g) (body := body) (xs := w.xs) P (fun _ => False) (fun i x e M hx hp => by
    obtain ⟨a, e1, M1, e2, M2, h1, h2, h3⟩ := step i x e M hx hp
    exact ⟨a, e1, M1, h1, .inl ⟨e2, M2, .inl h2, h3⟩⟩) hend w.xs 0 e M rfl (Nat.zero_le _) h0 with h | h
  · exact h
  · exact h.elim
end R
set_option maxHeartbeats 400000
namespace R
open PySem PySem.Spec L2
open PyProof.Rows hiding St
/-! P3: the package's defs, plain. -/
def rsum (qs : List Rat) : Rat := qs.foldl (· + ·) 0
theorem fr0 : PV.tup [.int 0, .int 1] = frV 0 := rfl
theorem fr1 : PV.tup [.int 1, .int 1] = frV 1 := rfl
theorem Sz.zero : Sz 1 0 := ⟨by decide, by decide⟩
theorem Sz.one : Sz 1 1 := ⟨by decide, by decide⟩
theorem take_succ {α : Type} {l : List α} {i : Nat} {x : α} (h : l[i]? = some x) : l.take (i + 1) = l.take i ++ [x] := by rw [List.take_add_one, h]; rfl
theorem rsum_snoc (qs : List Rat) (q : Rat) : rsum (qs ++ [q]) = rsum qs + q := by simp [rsum]
theorem F_total_ok {v : PV} {qs : List Rat} {k : Nat} (M : Mem) (hv : wkOf v = pure ⟨qs.map frV, []⟩) (hs : ∀ q ∈ qs, Sz k q) (h : (k + 1) * (qs.length + 1) < 3800) : F_total [v] M = .ok (frV (rsum qs)) M ∧ Sz ((k + 1) * qs.length + 1) (rsum qs) := by
  have key : ∀ i, i ≤ qs.length → Sz ((k + 1) * i + 1) (rsum (qs.take i)) := by
    intro i
    induction i with
    | zero => intro _; simpa [rsum] using Sz.zero
    | succ i ih =>
      intro hi
      have hx : qs[i]? = some qs[i] := List.getElem?_eq_getElem (by omega)
      rw [take_succ hx, rsum_snoc]
      have hm : (k + 1) * i + (k + 1) ≤ (k + 1) * (qs.length + 1) := by rw [← Nat.mul_succ]; exact Nat.mul_le_mul_left _ (by omega)
      refine ((F_plus_ok [] (ih (by omega)) (hs _ (List.getElem_mem _)) (by omega)).2).mono ?_
      rw [Nat.mul_succ]; omega
  refine ⟨mk_pure rfl ?_ rfl, by have := key qs.length (Nat.le_refl _); rwa [List.take_length] at this⟩
  have loop := for_thru (w := ⟨qs.map frV, []⟩) (g := gNm 2) (body := ev (k := .b) D_total (.bone (.asg (.gnm 1) (.call 0 (.cons (.var 1) (.cons (.var 2) .nil)))))) (e := [some v, some (frV 0), none]) (M := M)
    (fun i e M' => M' = M ∧ ∃ z, e = [some v, some (frV (rsum (qs.take i))), z])
    (fun i x e M' hx ⟨hM, z, he⟩ => by
      subst hM he
      obtain ⟨q, hq, rfl⟩ : ∃ q, qs[i]? = some q ∧ frV q = x := by simpa using hx
      have hi := (List.getElem?_eq_some_iff.mp hq).1
      have hm : (k + 1) * i + (k + 1) ≤ (k + 1) * (qs.length + 1) := by rw [← Nat.mul_succ]; exact Nat.mul_le_mul_left _ (by omega)
      have hp := (F_plus_ok M' (key i (by omega)) (hs q (List.mem_of_getElem? hq)) (by omega)).1
      refine ⟨Wk.holds0, _, M', _, M', rfl, ?_, rfl, some (frV q), by rw [take_succ hq, rsum_snoc]⟩
      simp [ev, sSeq, sAsg, sRet, sRetN, sE, sIf, sNil, sExpr, startE, f2, fVar, fCons, fNil, fTup, fIf, fAnd, fOr, fNot, fChain, gNm, bind_eq, pure_eq, bad_eq, biV, bopV, copV, wdOf, asB_bl, lineOk0, lineOk1, lineOk2, lineOk3, lineOk4, optR_some, sAsg, D_total, L_total, hp])
    (fun e M' _ => Wk.holds0) ⟨rfl, none, rfl⟩
  obtain ⟨e', M', h1, rfl, z, he⟩ := loop
  simp only [List.length_map, List.take_length] at he
  subst he
  simp [ev, sSeq, sAsg, sRet, sRetN, sE, sIf, sNil, sExpr, startE, f2, fVar, fCons, fNil, fTup, fIf, fAnd, fOr, fNot, fChain, gNm, bind_eq, pure_eq, bad_eq, biV, bopV, copV, wdOf, asB_bl, lineOk0, lineOk1, lineOk2, lineOk3, lineOk4, optR_some, sAsg, sFor, D_total, L_total, b_total, fr0, hv]
  simp [ev, sSeq, sAsg, sRet, sRetN, sE, sIf, sNil, sExpr, startE, f2, fVar, fCons, fNil, fTup, fIf, fAnd, fOr, fNot, fChain, gNm, bind_eq, pure_eq, bad_eq, biV, bopV, copV, wdOf, asB_bl, lineOk0, lineOk1, lineOk2, lineOk3, lineOk4, optR_some, sAsg, D_total, L_total] at h1
  rw [h1]
  rfl
theorem isiW_of {T t : String} {x : PV} {r : Bool} (h1 : tyOf x = pure t) (h2 : kitB t T = some r) : isiW T x = pure (.bl r) := by unfold isiW; rw [h1]; show optR (kitB t T) >>= _ = _; rw [h2]; rfl
theorem isi_int_non : isiW "int" PV.non = pure (.bl false) := isiW_of (t := "NoneType") rfl (by kernel_rfl)
theorem isi_int_bl (b : Bool) : isiW "int" (PV.bl b) = pure (.bl true) := isiW_of (t := "bool") rfl (by kernel_rfl)
theorem isi_int_int (i : Int) : isiW "int" (PV.int i) = pure (.bl true) := isiW_of (t := "int") rfl (by kernel_rfl)
theorem isi_int_str (s : Str) : isiW "int" (PV.str s) = pure (.bl false) := isiW_of (t := "str") rfl (by kernel_rfl)
theorem isi_int_tup (xs : List PV) : isiW "int" (PV.tup xs) = pure (.bl false) := isiW_of (t := "tuple") rfl (by kernel_rfl)
theorem isi_int_dct (ks : List Key) (xs : List PV) : isiW "int" (PV.dct ks xs) = pure (.bl false) := isiW_of (t := "dict") rfl (by kernel_rfl)
theorem isi_int_lst (xs : List PV) : isiW "int" (PV.lst xs) = pure (.bl false) := isiW_of (t := "list") rfl (by kernel_rfl)
theorem isi_bool_non : isiW "bool" PV.non = pure (.bl false) := isiW_of (t := "NoneType") rfl (by kernel_rfl)
theorem isi_bool_bl (b : Bool) : isiW "bool" (PV.bl b) = pure (.bl true) := isiW_of (t := "bool") rfl (by kernel_rfl)
theorem isi_bool_int (i : Int) : isiW "bool" (PV.int i) = pure (.bl false) := isiW_of (t := "int") rfl (by kernel_rfl)
theorem isi_bool_str (s : Str) : isiW "bool" (PV.str s) = pure (.bl false) := isiW_of (t := "str") rfl (by kernel_rfl)
theorem isi_bool_tup (xs : List PV) : isiW "bool" (PV.tup xs) = pure (.bl false) := isiW_of (t := "tuple") rfl (by kernel_rfl)
theorem isi_bool_dct (ks : List Key) (xs : List PV) : isiW "bool" (PV.dct ks xs) = pure (.bl false) := isiW_of (t := "dict") rfl (by kernel_rfl)
theorem isi_bool_lst (xs : List PV) : isiW "bool" (PV.lst xs) = pure (.bl false) := isiW_of (t := "list") rfl (by kernel_rfl)
theorem isi_str_non : isiW "str" PV.non = pure (.bl false) := isiW_of (t := "NoneType") rfl (by kernel_rfl)
theorem isi_str_bl (b : Bool) : isiW "str" (PV.bl b) = pure (.bl false) := isiW_of (t := "bool") rfl (by kernel_rfl)
theorem isi_str_int (i : Int) : isiW "str" (PV.int i) = pure (.bl false) := isiW_of (t := "int") rfl (by kernel_rfl)
theorem isi_str_str (s : Str) : isiW "str" (PV.str s) = pure (.bl true) := isiW_of (t := "str") rfl (by kernel_rfl)
theorem isi_str_tup (xs : List PV) : isiW "str" (PV.tup xs) = pure (.bl false) := isiW_of (t := "tuple") rfl (by kernel_rfl)
theorem isi_str_dct (ks : List Key) (xs : List PV) : isiW "str" (PV.dct ks xs) = pure (.bl false) := isiW_of (t := "dict") rfl (by kernel_rfl)
theorem isi_str_lst (xs : List PV) : isiW "str" (PV.lst xs) = pure (.bl false) := isiW_of (t := "list") rfl (by kernel_rfl)
theorem isi_tuple_non : isiW "tuple" PV.non = pure (.bl false) := isiW_of (t := "NoneType") rfl (by kernel_rfl)
theorem isi_tuple_bl (b : Bool) : isiW "tuple" (PV.bl b) = pure (.bl false) := isiW_of (t := "bool") rfl (by kernel_rfl)
theorem isi_tuple_int (i : Int) : isiW "tuple" (PV.int i) = pure (.bl false) := isiW_of (t := "int") rfl (by kernel_rfl)
theorem isi_tuple_str (s : Str) : isiW "tuple" (PV.str s) = pure (.bl false) := isiW_of (t := "str") rfl (by kernel_rfl)
theorem isi_tuple_tup (xs : List PV) : isiW "tuple" (PV.tup xs) = pure (.bl true) := isiW_of (t := "tuple") rfl (by kernel_rfl)
theorem isi_tuple_dct (ks : List Key) (xs : List PV) : isiW "tuple" (PV.dct ks xs) = pure (.bl false) := isiW_of (t := "dict") rfl (by kernel_rfl)
theorem isi_tuple_lst (xs : List PV) : isiW "tuple" (PV.lst xs) = pure (.bl false) := isiW_of (t := "list") rfl (by kernel_rfl)
theorem is_integer_int (i : Int) (M : Mem) : F_is_integer [.int i] M = .ok (.bl true) M := by
  refine mk_pure rfl ?_ rfl
  simp [ev, sSeq, sAsg, sRet, sRetN, sE, sIf, sNil, sExpr, startE, f2, fVar, fCons, fNil, fTup, fIf, fAnd, fOr, fNot, fChain, gNm, bind_eq, pure_eq, bad_eq, biV, bopV, copV, wdOf, asB_bl, lineOk0, lineOk1, lineOk2, lineOk3, lineOk4, optR_some, tyS, isi_int_non, isi_int_bl, isi_int_int, isi_int_str, isi_int_tup, isi_int_lst, isi_bool_non, isi_bool_bl, isi_bool_int, isi_bool_str, isi_bool_tup, isi_bool_lst, isi_str_non, isi_str_bl, isi_str_int, isi_str_str, isi_str_tup, isi_str_lst, isi_tuple_non, isi_tuple_bl, isi_tuple_int, isi_tuple_str, isi_tuple_tup, isi_tuple_lst, isi_int_dct, isi_bool_dct, isi_str_dct, isi_tuple_dct, D_is_integer, L_is_integer, b_is_integer]
theorem is_between_int (i a b : Int) (M : Mem) : F_is_between [.int i, .int a, .int b] M = .ok (.bl (decide (a ≤ i) && decide (i ≤ b))) M := by
  refine mk_pure rfl ?_ rfl
  have := is_integer_int i M
  by_cases h : a ≤ i <;> simp [ev, sSeq, sAsg, sRet, sRetN, sE, sIf, sNil, sExpr, startE, f2, fVar, fCons, fNil, fTup, fIf, fAnd, fOr, fNot, fChain, gNm, bind_eq, pure_eq, bad_eq, biV, bopV, copV, wdOf, asB_bl, lineOk0, lineOk1, lineOk2, lineOk3, lineOk4, optR_some, D_is_between, L_is_between, b_is_between, this, cmpW_int, h]
end R
set_option maxHeartbeats 400000
namespace R
open PySem PySem.Spec L2
open PyProof.Rows hiding St
/-! P4: the package's defs, plain. -/
theorem lc_map {α : Type} {as : List α} {enc : α → PV} {fi : Env → RM Wk} {vs : List Nat} {i : Nat} {f : Env → RM PV} {e : Env} {M : Mem} (φ : α → PV) (hi : fi e M = .ok ⟨as.map enc, []⟩ M) (hl : as.length ≤ sizeLine) (h : ∀ a ∈ as, ∀ M', f ((wipeE e vs).set i (some (enc a))) M' = .ok (φ a) M' ∧ Da (φ a)) :
    fLc fi vs (gNm i) tNone f e M = .ok (.lst (as.map φ)) M := by
  rw [fLc_pure (g := gNm i) (t := tNone) (f := f) (vs := vs) (w := ⟨as.map enc, []⟩) (fun x => some (φ x)) hi rfl (fun _ _ => Wk.holds0) hl fun x hx M' _ => ⟨_, rfl, rfl, fun y hy => by cases hy; exact ⟨(h x hx M').1, (h x hx M').2.at_⟩⟩]
  simp
theorem lc_fil {α : Type} {as : List α} {enc : α → PV} {fi : Env → RM Wk} {vs : List Nat} {i : Nat} {t : Env → RM Bool} {f : Env → RM PV} {e : Env} {M : Mem} (p : α → Bool) (φ : α → PV) (hi : fi e M = .ok ⟨as.map enc, []⟩ M) (hl : as.length ≤ sizeLine) (ht : ∀ a ∈ as, ∀ M', t ((wipeE e vs).set i (some (enc a))) M' = .ok (p a) M') (h : ∀ a ∈ as, p a = true → ∀ M', f ((wipeE e vs).set i (some (enc a))) M' = .ok (φ a) M' ∧ Da (φ a)) :
    fLc fi vs (gNm i) t f e M = .ok (.lst ((as.filter p).map φ)) M := by
  rw [fLc_pure (g := gNm i) (t := t) (f := f) (vs := vs) (w := ⟨as.map enc, []⟩) (fun x => if p x then some (φ x) else none) hi rfl (fun _ _ => Wk.holds0) hl fun x hx M' _ => ⟨_, rfl, by rw [ht x hx M']; cases p x <;> rfl, fun y hy => by
    by_cases hp : p x = true
    · rw [if_pos hp] at hy; cases hy; exact ⟨(h x hx hp M').1, (h x hx hp M').2.at_⟩
    · rw [if_neg hp] at hy; cases hy⟩]
  congr 2
  clear hi hl ht h
  induction as with
  | nil => rfl
  | cons x xs ih => by_cases hp : p x = true <;> simp [hp, ih]
theorem boolsOf_map (bs : List Bool) : boolsOf (bs.map PV.bl) = some bs := by
  induction bs with
  | nil => rfl
  | cons b bs ih => simp [boolsOf, ih]
theorem intsOf_map (bs : List Int) : intsOf (bs.map PV.int) = some bs := by
  induction bs with
  | nil => rfl
  | cons b bs ih => simp [intsOf, ih]
theorem allW_map {α : Type} (p : α → Bool) (xs : List α) : allW [.lst (xs.map fun x => .bl (p x))] = pure (.bl (xs.all p)) := by
  have e : (xs.map fun x => PV.bl (p x)) = (xs.map p).map PV.bl := by simp
  unfold allW
  rw [e]
  show (optR (boolsOf _) >>= fun bs => _ : RM PV) = _
  rw [boolsOf_map]
  funext M
  show Res.ok (PV.bl ((xs.map p).all id)) M = Res.ok _ M
  rw [List.all_map]
  rfl
theorem anyW_map {α : Type} (p : α → Bool) (xs : List α) : anyW [.lst (xs.map fun x => .bl (p x))] = pure (.bl (xs.any p)) := by
  have e : (xs.map fun x => PV.bl (p x)) = (xs.map p).map PV.bl := by simp
  unfold anyW
  rw [e]
  show (optR (boolsOf _) >>= fun bs => _ : RM PV) = _
  rw [boolsOf_map]
  funext M
  show Res.ok (PV.bl ((xs.map p).any id)) M = Res.ok _ M
  rw [List.any_map]
  rfl
theorem sumW_map (xs : List Int) : sumW [.lst (xs.map PV.int)] = pure (.int xs.sum) := by
  unfold sumW
  show (optR (intsOf _) >>= fun bs => _ : RM PV) = _
  rw [intsOf_map]
  rfl
theorem lenW_tup (xs : List PV) : lenW [.tup xs] = pure (.int xs.length) := rfl
theorem lenW_lst (xs : List PV) : lenW [.lst xs] = pure (.int xs.length) := rfl
theorem wkOf_tup (xs : List PV) : wkOf (.tup xs) = pure ⟨xs, []⟩ := rfl
theorem wkOf_lst (xs : List PV) : wkOf (.lst xs) = pure ⟨xs, []⟩ := rfl
theorem frac_ok {q : Rat} {k : Nat} (M : Mem) (hq : Sz k q) (hk : k < 3900) (h0 : 0 ≤ q.num) : F_common_divisor [.int q.num, .int (q.den : Int)] M = .ok (.int 1) M := by
  have h := cd_abs q.num q.den M (Nat.lt_of_lt_of_le hq.n (Nat.pow_le_pow_right (by omega) (by omega))) (by simpa using Nat.lt_of_lt_of_le hq.d (Nat.pow_le_pow_right (by omega) (by omega : k ≤ 4000)))
  have e1 : ((q.num.natAbs : Nat) : Int) = q.num := Int.natAbs_of_nonneg h0
  have e2 : Int.gcd q.num q.den = 1 := q.reduced
  rw [e1, e2] at h
  exact h
/-- a part: not below nought, not above one -/
def okF (q : Rat) : Bool := decide (0 ≤ q.num) && decide (q.num ≤ (q.den : Int))
theorem F_is_fraction_ok {q : Rat} {k : Nat} (M : Mem) (hq : Sz k q) (hk : k < 3900) : F_is_fraction [frV q] M = .ok (.bl (okF q)) M := by
  refine mk_pure rfl ?_ rfl
  have h1 := is_integer_int q.num M
  have h2 := is_integer_int q.den M
  have h3 : (0 : Int) < q.den := by have := q.den_pos; omega
  have i1 : isiW "tuple" (frV q) = pure (.bl true) := isi_tuple_tup _
  have i2 : lenW [frV q] = pure (.int 2) := rfl
  unfold okF
  by_cases h4 : 0 ≤ q.num
  · have h5 := frac_ok M hq hk h4
    by_cases h6 : q.num ≤ q.den <;> simp [ev, sSeq, sAsg, sRet, sRetN, sE, sIf, sNil, sExpr, startE, f2, fVar, fCons, fNil, fTup, fIf, fAnd, fOr, fNot, fChain, gNm, bind_eq, pure_eq, bad_eq, biV, bopV, copV, wdOf, asB_bl, lineOk0, lineOk1, lineOk2, lineOk3, lineOk4, optR_some, tyS, isi_int_non, isi_int_bl, isi_int_int, isi_int_str, isi_int_tup, isi_int_lst, isi_bool_non, isi_bool_bl, isi_bool_int, isi_bool_str, isi_bool_tup, isi_bool_lst, isi_str_non, isi_str_bl, isi_str_int, isi_str_str, isi_str_tup, isi_str_lst, isi_tuple_non, isi_tuple_bl, isi_tuple_int, isi_tuple_str, isi_tuple_tup, isi_tuple_lst, isi_int_dct, isi_bool_dct, isi_str_dct, isi_tuple_dct, i1, i2, D_is_fraction, L_is_fraction, b_is_fraction, idx_frV0, idx_frV1, h1, h2, h4, h5, h6, cmpW_int, eqX_int, neX_int, h3, q.den_pos]
  · simp [ev, sSeq, sAsg, sRet, sRetN, sE, sIf, sNil, sExpr, startE, f2, fVar, fCons, fNil, fTup, fIf, fAnd, fOr, fNot, fChain, gNm, bind_eq, pure_eq, bad_eq, biV, bopV, copV, wdOf, asB_bl, lineOk0, lineOk1, lineOk2, lineOk3, lineOk4, optR_some, tyS, isi_int_non, isi_int_bl, isi_int_int, isi_int_str, isi_int_tup, isi_int_lst, isi_bool_non, isi_bool_bl, isi_bool_int, isi_bool_str, isi_bool_tup, isi_bool_lst, isi_str_non, isi_str_bl, isi_str_int, isi_str_str, isi_str_tup, isi_str_lst, isi_tuple_non, isi_tuple_bl, isi_tuple_int, isi_tuple_str, isi_tuple_tup, isi_tuple_lst, isi_int_dct, isi_bool_dct, isi_str_dct, isi_tuple_dct, i1, i2, D_is_fraction, L_is_fraction, b_is_fraction, idx_frV0, idx_frV1, h1, h2, h4, cmpW_int, eqX_int, neX_int, h3, q.den_pos]
theorem F_are_fractions_ok {qs : List Rat} {k : Nat} (many : Int) (M : Mem) (hq : ∀ q ∈ qs, Sz k q) (hk : k < 3900) (hl : qs.length ≤ 1000) : F_are_fractions [.tup (qs.map frV), .int many] M = .ok (.bl (decide ((qs.length : Int) = many) && qs.all okF)) M := by
  refine mk_pure rfl ?_ rfl
  have hc := lc_map (as := qs) (enc := frV) (fi := fun e => ev D_are_fractions (.var 0) e >>= wkOf) (vs := [2]) (i := 2) (f := ev D_are_fractions (.call 0 (.cons (.var 2) .nil))) (e := [some (.tup (qs.map frV)), some (.int many), none]) (M := M)
    (fun q => .bl (okF q)) rfl (Nat.le_trans hl (by rw [sizeLine_eq]; decide)) (fun q hq1 M' => by
      have := F_is_fraction_ok M' (hq q hq1) hk
      refine ⟨?_, rfl⟩
      simp [ev, sSeq, sAsg, sRet, sRetN, sE, sIf, sNil, sExpr, startE, f2, fVar, fCons, fNil, fTup, fIf, fAnd, fOr, fNot, fChain, gNm, bind_eq, pure_eq, bad_eq, biV, bopV, copV, wdOf, asB_bl, lineOk0, lineOk1, lineOk2, lineOk3, lineOk4, optR_some, wipeE, D_are_fractions, L_are_fractions, this])
  by_cases h : (qs.length : Int) = many
  · simp [ev, sSeq, sAsg, sRet, sRetN, sE, sIf, sNil, sExpr, startE, f2, fVar, fCons, fNil, fTup, fIf, fAnd, fOr, fNot, fChain, gNm, bind_eq, pure_eq, bad_eq, biV, bopV, copV, wdOf, asB_bl, lineOk0, lineOk1, lineOk2, lineOk3, lineOk4, optR_some] at hc
    simp [ev, sSeq, sAsg, sRet, sRetN, sE, sIf, sNil, sExpr, startE, f2, fVar, fCons, fNil, fTup, fIf, fAnd, fOr, fNot, fChain, gNm, bind_eq, pure_eq, bad_eq, biV, bopV, copV, wdOf, asB_bl, lineOk0, lineOk1, lineOk2, lineOk3, lineOk4, optR_some, tyS, isi_int_non, isi_int_bl, isi_int_int, isi_int_str, isi_int_tup, isi_int_lst, isi_bool_non, isi_bool_bl, isi_bool_int, isi_bool_str, isi_bool_tup, isi_bool_lst, isi_str_non, isi_str_bl, isi_str_int, isi_str_str, isi_str_tup, isi_str_lst, isi_tuple_non, isi_tuple_bl, isi_tuple_int, isi_tuple_str, isi_tuple_tup, isi_tuple_lst, isi_int_dct, isi_bool_dct, isi_str_dct, isi_tuple_dct, b_are_fractions, lenW_tup, eqX_int, h, hc, allW_map]
  · simp [ev, sSeq, sAsg, sRet, sRetN, sE, sIf, sNil, sExpr, startE, f2, fVar, fCons, fNil, fTup, fIf, fAnd, fOr, fNot, fChain, gNm, bind_eq, pure_eq, bad_eq, biV, bopV, copV, wdOf, asB_bl, lineOk0, lineOk1, lineOk2, lineOk3, lineOk4, optR_some, tyS, isi_int_non, isi_int_bl, isi_int_int, isi_int_str, isi_int_tup, isi_int_lst, isi_bool_non, isi_bool_bl, isi_bool_int, isi_bool_str, isi_bool_tup, isi_bool_lst, isi_str_non, isi_str_bl, isi_str_int, isi_str_str, isi_str_tup, isi_str_lst, isi_tuple_non, isi_tuple_bl, isi_tuple_int, isi_tuple_str, isi_tuple_tup, isi_tuple_lst, isi_int_dct, isi_bool_dct, isi_str_dct, isi_tuple_dct, b_are_fractions, lenW_tup, eqX_int, h]
end R
set_option maxHeartbeats 400000
namespace R
open PySem PySem.Spec L2
open PyProof.Rows hiding St
/-! P5: the teller, plain. -/
def at0 (l : List Int) (i : Int) : Int := l.getD i.toNat 0
def itup (l : List Int) : PV := .tup (l.map PV.int)
def tel (lo : List Int) (wo : List (List Int)) : PV := .ins "Teller" ["held"] [.tup [itup lo, .tup (wo.map itup)]]
theorem da_itup (l : List Int) : Da (itup l) := da_tup (by intro x hx; obtain ⟨i, _, rfl⟩ := List.mem_map.mp hx; rfl)
theorem da_wo (wo : List (List Int)) : Da (.tup (wo.map itup)) := da_tup (by intro x hx; obtain ⟨g, _, rfl⟩ := List.mem_map.mp hx; exact da_itup g)
theorem idx_tup {xs : List PV} {i : Int} {x : PV} (h0 : 0 ≤ i) (h : xs[i.toNat]? = some x) : idxW (.tup xs) (.int i) = pure x := by
  have hl : i < xs.length := by have := (List.getElem?_eq_some_iff.mp h).1; omega
  show optR (atI xs i) = _
  unfold atI ixN
  rw [if_pos h0, if_pos hl]
  show optR (xs[i.toNat]?) = _
  rw [h]; rfl
theorem idx_itup {l : List Int} {i : Int} (h0 : 0 ≤ i) (h : i < l.length) : idxW (itup l) (.int i) = pure (.int (at0 l i)) := by
  refine idx_tup h0 ?_
  have : i.toNat < l.length := by omega
  simp [at0, List.getElem?_eq_getElem this]
theorem idx_wo {l : List (List Int)} {i : Int} (h0 : 0 ≤ i) (h : i < l.length) : idxW (.tup (l.map itup)) (.int i) = pure (itup (l.getD i.toNat [])) := by
  refine idx_tup h0 ?_
  have : i.toNat < l.length := by omega
  simp [List.getElem?_eq_getElem this]
theorem F_weights_ok (lo : List Int) (wo : List (List Int)) (M : Mem) : F_Teller_weights [tel lo wo] M = .ok (itup lo) M := by
  refine mk_pure rfl ?_ (da_itup lo).at_
  have e : fldW (· == ("Teller" : Str)) "held" (tel lo wo) = pure (.tup [itup lo, .tup (wo.map itup)]) := rfl
  have e2 : idxW (.tup [itup lo, .tup (wo.map itup)]) (.int 0) = pure (itup lo) := rfl
  simp [ev, sSeq, sAsg, sRet, sRetN, sE, sIf, sNil, sExpr, startE, f2, fVar, fCons, fNil, fTup, fIf, fAnd, fOr, fNot, fChain, gNm, bind_eq, pure_eq, bad_eq, biV, bopV, copV, wdOf, asB_bl, lineOk0, lineOk1, lineOk2, lineOk3, lineOk4, optR_some, b_Teller_weights, e, e2]
theorem F_sayings_ok (lo : List Int) (wo : List (List Int)) (M : Mem) : F_Teller_sayings [tel lo wo] M = .ok (.tup (wo.map itup)) M := by
  refine mk_pure rfl ?_ (da_wo wo).at_
  have e : fldW (· == ("Teller" : Str)) "held" (tel lo wo) = pure (.tup [itup lo, .tup (wo.map itup)]) := rfl
  have e2 : idxW (.tup [itup lo, .tup (wo.map itup)]) (.int 1) = pure (.tup (wo.map itup)) := rfl
  simp [ev, sSeq, sAsg, sRet, sRetN, sE, sIf, sNil, sExpr, startE, f2, fVar, fCons, fNil, fTup, fIf, fAnd, fOr, fNot, fChain, gNm, bind_eq, pure_eq, bad_eq, biV, bopV, copV, wdOf, asB_bl, lineOk0, lineOk1, lineOk2, lineOk3, lineOk4, optR_some, b_Teller_sayings, e, e2]
/-- a property of a teller -/
theorem prop_tel {lo : List Int} {wo : List (List Int)} {φ : List PV → RM PV} {M : Mem} {v : PV} (h : φ [tel lo wo] M = .ok v M) : (fieldsOf (tel lo wo) >>= fun t => if t.1 == ("Teller" : Str) then quietR (φ [tel lo wo]) else RM.bad) M = .ok v M := by
  show quietR (φ [tel lo wo]) M = _
  unfold quietR
  rw [h]
def wsum (lo cs : List Int) : Int := (cs.map fun c => at0 lo c).sum
theorem F_weight_of_ok {lo : List Int} {wo : List (List Int)} {v : PV} {cs : List Int} (M : Mem) (hv : wkOf v = pure ⟨cs.map PV.int, []⟩) (hc : ∀ c ∈ cs, 0 ≤ c ∧ c < lo.length) (hl : cs.length ≤ 1000) : F_weight_of [tel lo wo, v] M = .ok (.int (wsum lo cs)) M := by
  refine mk_pure rfl ?_ rfl
  have hc := lc_map (as := cs) (enc := PV.int) (fi := fun e => ev D_weight_of (.var 1) e >>= wkOf) (vs := [2]) (i := 2) (f := ev D_weight_of (.idx (.prop 0 (.var 0)) (.var 2))) (e := [some (tel lo wo), some v, none]) (M := M)
    (fun c => .int (at0 lo c)) (by show (wkOf v) M = _; rw [hv]; rfl) (Nat.le_trans hl (by rw [sizeLine_eq]; decide)) (fun c h M' => by
      have h1 := prop_tel (F_weights_ok lo wo M')
      have h2 := idx_itup (hc c h).1 (hc c h).2
      refine ⟨?_, rfl⟩
      simp [bind_eq] at h1
      simp [ev, sSeq, sAsg, sRet, sRetN, sE, sIf, sNil, sExpr, startE, f2, fVar, fCons, fNil, fTup, fIf, fAnd, fOr, fNot, fChain, gNm, bind_eq, pure_eq, bad_eq, biV, bopV, copV, wdOf, asB_bl, lineOk0, lineOk1, lineOk2, lineOk3, lineOk4, optR_some, wipeE, D_weight_of, L_weight_of, mclOf, h1, h2])
  have e : sumW [.lst (cs.map fun c => PV.int (at0 lo c))] = pure (.int (wsum lo cs)) := by
    have z := sumW_map (cs.map fun c => at0 lo c)
    rw [List.map_map] at z
    exact z
  simp [ev, sSeq, sAsg, sRet, sRetN, sE, sIf, sNil, sExpr, startE, f2, fVar, fCons, fNil, fTup, fIf, fAnd, fOr, fNot, fChain, gNm, bind_eq, pure_eq, bad_eq, biV, bopV, copV, wdOf, asB_bl, lineOk0, lineOk1, lineOk2, lineOk3, lineOk4, optR_some] at hc
  simp [ev, sSeq, sAsg, sRet, sRetN, sE, sIf, sNil, sExpr, startE, f2, fVar, fCons, fNil, fTup, fIf, fAnd, fOr, fNot, fChain, gNm, bind_eq, pure_eq, bad_eq, biV, bopV, copV, wdOf, asB_bl, lineOk0, lineOk1, lineOk2, lineOk3, lineOk4, optR_some, b_weight_of, hc, e]
end R
set_option maxHeartbeats 400000
namespace R
open PySem PySem.Spec L2
open PyProof.Rows hiding St
/-! P6: equality of data, plain. -/
/-- x stands for the data d, of depth at most n -/
structure Dt (n : Nat) (x : PV) (d : PyData) : Prop where
  eq : dataOf x = some d
  c : d.canLay0 = true
  p : d.depth ≤ n
theorem Dt.mono {n m : Nat} {x : PV} {d : PyData} (h : Dt n x d) (l : n ≤ m) : Dt m x d := ⟨h.eq, h.c, Nat.le_trans h.p l⟩
theorem eqB_dt {n m : Nat} {x y : PV} {d e : PyData} (h : Dt n x d) (h' : Dt m y e) (hn : n ≤ 64) (hm : m ≤ 64) : eqB x y = some (PyData.eqv d e) := by
  have a := h.p; have b := h'.p
  unfold eqB SeqAt.shaped
  rw [h.eq, h'.eq]
  simp [h.c, h'.c, show d.depth ≤ 64 by omega, show e.depth ≤ 64 by omega]
theorem eqX_dt {n m : Nat} {x y : PV} {d e : PyData} (h : Dt n x d) (h' : Dt m y e) (hn : n ≤ 64) (hm : m ≤ 64) : eqX x y = pure (.bl (PyData.eqv d e)) := by unfold eqX; rw [eqB_dt h h' hn hm]
theorem neX_dt {n m : Nat} {x y : PV} {d e : PyData} (h : Dt n x d) (h' : Dt m y e) (hn : n ≤ 64) (hm : m ≤ 64) : neX x y = pure (.bl (!PyData.eqv d e)) := by unfold neX; rw [eqB_dt h h' hn hm]
theorem dt_int (i : Int) : Dt 1 (.int i) (.int i) := ⟨rfl, rfl, by simp [PyData.depth]⟩
theorem dt_non : Dt 1 .non .none := ⟨rfl, rfl, by simp [PyData.depth]⟩
theorem dt_bl (b : Bool) : Dt 1 (.bl b) (.bool b) := ⟨rfl, rfl, by simp [PyData.depth]⟩
theorem dts {α : Type} {n : Nat} (f : α → PV) (g : α → PyData) (as : List α) (h : ∀ a ∈ as, Dt n (f a) (g a)) : datasOf (as.map f) = some (as.map g) ∧ PyData.canLayAll0 (as.map g) = true ∧ PyData.depthAll (as.map g) ≤ n := by
  induction as with
  | nil => exact ⟨rfl, rfl, by simp [PyData.depthAll]⟩
  | cons a as ih =>
    obtain ⟨h1, h2, h3⟩ := ih fun b hb => h b (by simp [hb])
    have h0 := h a (by simp)
    have hp := h0.p
    refine ⟨?_, ?_, ?_⟩
    · simp [datasOf, h0.eq, h1]
    · simp [PyData.canLayAll0, h0.c, h2]
    · simp only [List.map_cons, PyData.depthAll]; omega
theorem dt_tup {α : Type} {n : Nat} (f : α → PV) (g : α → PyData) (as : List α) (h : ∀ a ∈ as, Dt n (f a) (g a)) : Dt (n + 1) (.tup (as.map f)) (.tuple (as.map g)) := by
  obtain ⟨h1, h2, h3⟩ := dts f g as h
  exact ⟨by simp [dataOf, h1], by simp [PyData.canLay0, h2], by simp only [PyData.depth]; omega⟩
theorem dt_lst {α : Type} {n : Nat} (f : α → PV) (g : α → PyData) (as : List α) (h : ∀ a ∈ as, Dt n (f a) (g a)) : Dt (n + 1) (.lst (as.map f)) (.list (as.map g)) := by
  obtain ⟨h1, h2, h3⟩ := dts f g as h
  exact ⟨by simp [dataOf, h1], by simp [PyData.canLay0, h2], by simp only [PyData.depth]; omega⟩
theorem eqv_all {α : Type} (g : α → PyData) (e : α → α → Bool) (h : ∀ a b, PyData.eqv (g a) (g b) = e a b) (hd : ∀ a b, e a b = true ↔ a = b) : ∀ as bs : List α, PyData.eqvAll (as.map g) (bs.map g) = true ↔ as = bs
  | [], [] => by simp [PyData.eqvAll]
  | [], b :: bs => by simp [PyData.eqvAll]
  | a :: as, [] => by simp [PyData.eqvAll]
  | a :: as, b :: bs => by
    simp only [List.map_cons, PyData.eqvAll, Bool.and_eq_true, h, hd, List.cons.injEq, eqv_all g e h hd as bs]
def iD (l : List Int) : PyData := .tuple (l.map PyData.int)
theorem dt_itup (l : List Int) : Dt 2 (itup l) (iD l) := dt_tup PV.int PyData.int l fun a _ => dt_int a
theorem iD_eq (l m : List Int) : PyData.eqv (iD l) (iD m) = true ↔ l = m := by
  show PyData.eqvAll _ _ = true ↔ _
  exact eqv_all PyData.int (fun a b => a == b) (fun a b => by simp [PyData.eqv]) (fun a b => by simp) l m
theorem eqX_itup (l m : List Int) : eqX (itup l) (itup m) = pure (PV.bl (decide (l = m))) := by
  rw [eqX_dt (dt_itup l) (dt_itup m) (by omega) (by omega)]
  congr 2
  by_cases h : l = m
  · simp [h, (iD_eq m m).mpr rfl]
  · have : PyData.eqv (iD l) (iD m) = false := by
      cases q : PyData.eqv (iD l) (iD m) with
      | false => rfl
      | true => exact (h ((iD_eq l m).mp q)).elim
    simp [h, this]
theorem inSeq_ints (c : Int) (l : List Int) : inQ (.int c) (l.map PV.int) = pure (decide (c ∈ l)) := by
  unfold inQ
  have h1 : (l.map PV.int).all flatP = true := by simp [flatP]
  have h2 : ((l.map PV.int).any fun y => eqP y (.int c)) = decide (c ∈ l) := by
    induction l with
    | nil => rfl
    | cons a l ih => 
      have ih := ih (by simp [flatP])
      rw [List.map_cons, List.any_cons, ih]
      show (a == c || decide (c ∈ l)) = _
      by_cases h : a = c
      · simp [h]
      · have h3 : ¬ c = a := fun e => h e.symm
        simp [h, h3]
  rw [h1, h2]
  rfl
theorem inX_itup (c : Int) (l : List Int) : inX (.int c) (itup l) = pure (PV.bl (decide (c ∈ l))) := by
  show (inQ (.int c) (l.map PV.int) >>= fun b => pure (PV.bl (id b))) = _
  rw [inSeq_ints]; rfl
theorem ninX_itup (c : Int) (l : List Int) : ninX (.int c) (itup l) = pure (PV.bl (decide (c ∉ l))) := by
  show (inQ (.int c) (l.map PV.int) >>= fun b => pure (PV.bl (not b))) = _
  rw [inSeq_ints]
  show (pure (PV.bl (not (decide (c ∈ l)))) : RM PV) = _
  simp
theorem eqX_of {x y : PV} {b : Bool} (h : eqB x y = some b) : eqX x y = pure (.bl b) := by unfold eqX; rw [h]
theorem neX_of {x y : PV} {b : Bool} (h : eqB x y = some b) : neX x y = pure (.bl (!b)) := by unfold neX; rw [h]
end R
set_option maxHeartbeats 400000
namespace R
open PySem PySem.Spec L2
open PyProof.Rows hiding St
/-! P7: what a teller says, plain. -/
theorem lc_gen {α : Type} {as : List α} {enc : α → PV} {fi : Env → RM Wk} {vs : List Nat} {g : PV → Env → RM Env} {t : Env → RM Bool} {f : Env → RM PV} {e : Env} {M : Mem} (en : α → Env) (p : α → Bool) (φ : α → PV) (hi : fi e M = .ok ⟨as.map enc, []⟩ M) (hl : as.length ≤ sizeLine)
    (hg : ∀ a ∈ as, ∀ M', g (enc a) (wipeE e vs) M' = .ok (en a) M') (ht : ∀ a ∈ as, ∀ M', t (en a) M' = .ok (p a) M') (h : ∀ a ∈ as, p a = true → ∀ M', f (en a) M' = .ok (φ a) M' ∧ Da (φ a)) :
    fLc fi vs g t f e M = .ok (.lst ((as.filter p).map φ)) M := by
  rw [fLc_pure (g := g) (t := t) (f := f) (vs := vs) (w := ⟨as.map enc, []⟩) (fun x => if p x then some (φ x) else none) hi rfl (fun _ _ => Wk.holds0) hl fun x hx M' _ => ⟨_, hg x hx M', by rw [ht x hx M']; cases p x <;> rfl, fun y hy => by
    by_cases hp : p x = true
    · rw [if_pos hp] at hy; cases hy; exact ⟨(h x hx hp M').1, (h x hx hp M').2.at_⟩
    · rw [if_neg hp] at hy; cases hy⟩]
  congr 2
  clear hi hl ht h hg
  induction as with
  | nil => rfl
  | cons x xs ih => by_cases hp : p x = true <;> simp [hp, ih]
/-- numbered items -/
def nums {α : Type} (l : List α) : List (Nat × α) := (List.range l.length).zip l
theorem numbered_map {α : Type} (f : α → PV) (l : List α) : numbered (l.map f) = (nums l).map fun q => .tup [.int (q.1 : Nat), f q.2] := by
  unfold numbered nums
  rw [List.length_map, List.zipWith_map_right, List.map_zip_eq_zipWith]
  rfl
theorem seqW_tup (xs : List PV) : seqW (.tup xs) = pure xs := rfl
theorem tupleW_lst (xs : List PV) : tupleW [.lst xs] = pure (.tup xs) := rfl
theorem enumW_tup (xs : List PV) : enumW [.tup xs] = pure ⟨numbered xs, []⟩ := rfl
/-- the numbers of the words with c -/
def said (wo : List (List Int)) (c : Int) : List Int := ((nums wo).filter fun q => decide (c ∈ q.2)).map fun q => (q.1 : Int)
theorem nums_len {α : Type} (l : List α) : (nums l).length = l.length := by simp [nums]
theorem F_said_in_ok (lo : List Int) (wo : List (List Int)) (c : Int) (M : Mem) (hl : wo.length ≤ 1000) : F_Teller_said_in [tel lo wo, .int c] M = .ok (itup (said wo c)) M := by
  refine mk_pure rfl ?_ (da_itup _).at_
  have e : fldW (· == ("Teller" : Str)) "held" (tel lo wo) = pure (.tup [itup lo, .tup (wo.map itup)]) := rfl
  have e2 : idxW (.tup [itup lo, .tup (wo.map itup)]) (.int 1) = pure (.tup (wo.map itup)) := rfl
  have hc := lc_gen (as := nums wo) (enc := fun q => .tup [.int (q.1 : Nat), itup q.2]) (fi := ev D_Teller_said_in (.enum (.idx (.fld ("Teller" : Str) ("held" : Str) (.var 0)) (.int 1)))) (vs := [2, 3]) (g := gSq 2 (gsCons (gNm 2) (gsCons (gNm 3) gsNil))) (t := ev D_Teller_said_in (.tst (.cmp .in_ (.var 1) (.var 3)))) (f := fVar 2)
    (e := [some (tel lo wo), some (.int c), none, none]) (M := M) (fun q => [some (tel lo wo), some (.int c), some (.int (q.1 : Nat)), some (itup q.2)]) (fun q => decide (c ∈ q.2)) (fun q => .int (q.1 : Nat))
    (by simp [ev, sSeq, sAsg, sRet, sRetN, sE, sIf, sNil, sExpr, startE, f2, fVar, fCons, fNil, fTup, fIf, fAnd, fOr, fNot, fChain, gNm, bind_eq, pure_eq, bad_eq, biV, bopV, copV, wdOf, asB_bl, lineOk0, lineOk1, lineOk2, lineOk3, lineOk4, optR_some, e, e2, enumW_tup, numbered_map]) (by rw [nums_len]; exact Nat.le_trans hl (by rw [sizeLine_eq]; decide))
    (fun q _ M' => by simp [ev, sSeq, sAsg, sRet, sRetN, sE, sIf, sNil, sExpr, startE, f2, fVar, fCons, fNil, fTup, fIf, fAnd, fOr, fNot, fChain, gNm, bind_eq, pure_eq, bad_eq, biV, bopV, copV, wdOf, asB_bl, lineOk0, lineOk1, lineOk2, lineOk3, lineOk4, optR_some, gSq, gsCons, gsNil, seqW_tup, wipeE])
    (fun q _ M' => by simp [ev, sSeq, sAsg, sRet, sRetN, sE, sIf, sNil, sExpr, startE, f2, fVar, fCons, fNil, fTup, fIf, fAnd, fOr, fNot, fChain, gNm, bind_eq, pure_eq, bad_eq, biV, bopV, copV, wdOf, asB_bl, lineOk0, lineOk1, lineOk2, lineOk3, lineOk4, optR_some, inX_itup])
    (fun q _ _ M' => ⟨by simp [ev, sSeq, sAsg, sRet, sRetN, sE, sIf, sNil, sExpr, startE, f2, fVar, fCons, fNil, fTup, fIf, fAnd, fOr, fNot, fChain, gNm, bind_eq, pure_eq, bad_eq, biV, bopV, copV, wdOf, asB_bl, lineOk0, lineOk1, lineOk2, lineOk3, lineOk4, optR_some], rfl⟩)
  have e3 : itup (said wo c) = .tup (((nums wo).filter fun q => decide (c ∈ q.2)).map fun q => .int (q.1 : Nat)) := by simp [itup, said, Function.comp_def]
  rw [e3]
  simp [ev, sSeq, sAsg, sRet, sRetN, sE, sIf, sNil, sExpr, startE, f2, fVar, fCons, fNil, fTup, fIf, fAnd, fOr, fNot, fChain, gNm, bind_eq, pure_eq, bad_eq, biV, bopV, copV, wdOf, asB_bl, lineOk0, lineOk1, lineOk2, lineOk3, lineOk4, optR_some] at hc
  simp [ev, sSeq, sAsg, sRet, sRetN, sE, sIf, sNil, sExpr, startE, f2, fVar, fCons, fNil, fTup, fIf, fAnd, fOr, fNot, fChain, gNm, bind_eq, pure_eq, bad_eq, biV, bopV, copV, wdOf, asB_bl, lineOk0, lineOk1, lineOk2, lineOk3, lineOk4, optR_some, b_Teller_said_in, hc, tupleW_lst]
/-- the cases that k alone holds -/
def tied (wo : List (List Int)) (k : Int) : List Int := (wo.getD k.toNat []).filter fun c => decide (said wo c = [k])
theorem F_bound_in_ok (lo : List Int) (wo : List (List Int)) (k : Int) (M : Mem) (hl : wo.length ≤ 1000) (h0 : 0 ≤ k) (h1 : k < wo.length) (hg : (wo.getD k.toNat []).length ≤ 1000) : F_Teller_bound_in [tel lo wo, .int k] M = .ok (itup (tied wo k)) M := by
  refine mk_pure rfl ?_ (da_itup _).at_
  have e : fldW (· == ("Teller" : Str)) "held" (tel lo wo) = pure (.tup [itup lo, .tup (wo.map itup)]) := rfl
  have e2 : idxW (.tup [itup lo, .tup (wo.map itup)]) (.int 1) = pure (.tup (wo.map itup)) := rfl
  have e3 := idx_wo (l := wo) h0 h1
  have e4 : PV.tup [.int k] = itup [k] := rfl
  have hc := lc_gen (as := wo.getD k.toNat []) (enc := PV.int) (fi := ev D_Teller_bound_in (.seq (.idx (.idx (.fld ("Teller" : Str) ("held" : Str) (.var 0)) (.int 1)) (.var 1)))) (vs := [2]) (g := gNm 2) (t := ev D_Teller_bound_in (.tst (.cmp .eq (.meth 0 (.var 0) (.cons (.var 2) .nil)) (.tup (.cons (.var 1) .nil))))) (f := fVar 2)
    (e := [some (tel lo wo), some (.int k), none]) (M := M) (fun c => [some (tel lo wo), some (.int k), some (.int c)]) (fun c => decide (said wo c = [k])) PV.int
    (by simp only [ev, sSeq, sAsg, sRet, sRetN, sE, sIf, sNil, sExpr, startE, f2, fVar, fCons, fNil, fTup, fIf, fAnd, fOr, fNot, fChain, gNm, bind_eq, pure_eq, bad_eq, biV, bopV, copV, wdOf, asB_bl, lineOk0, lineOk1, lineOk2, lineOk3, lineOk4, optR_some, e, e2, e3, List.getElem?_cons_zero, List.getElem?_cons_succ]; rfl) (Nat.le_trans hg (by rw [sizeLine_eq]; decide))
    (fun q _ M' => by simp [ev, sSeq, sAsg, sRet, sRetN, sE, sIf, sNil, sExpr, startE, f2, fVar, fCons, fNil, fTup, fIf, fAnd, fOr, fNot, fChain, gNm, bind_eq, pure_eq, bad_eq, biV, bopV, copV, wdOf, asB_bl, lineOk0, lineOk1, lineOk2, lineOk3, lineOk4, optR_some, wipeE])
    (fun q _ M' => by
      have h2 := F_said_in_ok lo wo q M' hl
      have h3 : methW (· == ("Teller" : Str)) "said_in" F_Teller_said_in (tel lo wo) (do let x ← (pure (PV.int q) : RM PV); let xs ← (pure [] : RM (List PV)); pure (x :: xs)) M' = .ok (itup (said wo q)) M' := by
        show (pure [.int q] >>= fun ys => F_Teller_said_in (tel lo wo :: ys) : RM PV) M' = _
        exact h2
      simp [ev, sSeq, sAsg, sRet, sRetN, sE, sIf, sNil, sExpr, startE, f2, fVar, fCons, fNil, fTup, fIf, fAnd, fOr, fNot, fChain, gNm, bind_eq, pure_eq, bad_eq, biV, bopV, copV, wdOf, asB_bl, lineOk0, lineOk1, lineOk2, lineOk3, lineOk4, optR_some, D_Teller_bound_in, L_Teller_bound_in, mclOf, mnmOf, e4]
      rw [h3]
      simp [eqX_itup, ev, sSeq, sAsg, sRet, sRetN, sE, sIf, sNil, sExpr, startE, f2, fVar, fCons, fNil, fTup, fIf, fAnd, fOr, fNot, fChain, gNm, bind_eq, pure_eq, bad_eq, biV, bopV, copV, wdOf, asB_bl, lineOk0, lineOk1, lineOk2, lineOk3, lineOk4, optR_some])
    (fun q _ _ M' => ⟨by simp [ev, sSeq, sAsg, sRet, sRetN, sE, sIf, sNil, sExpr, startE, f2, fVar, fCons, fNil, fTup, fIf, fAnd, fOr, fNot, fChain, gNm, bind_eq, pure_eq, bad_eq, biV, bopV, copV, wdOf, asB_bl, lineOk0, lineOk1, lineOk2, lineOk3, lineOk4, optR_some], rfl⟩)
  have e5 : itup (tied wo k) = .tup (((wo.getD k.toNat []).filter fun c => decide (said wo c = [k])).map PV.int) := rfl
  rw [e5]
  simp [ev, sSeq, sAsg, sRet, sRetN, sE, sIf, sNil, sExpr, startE, f2, fVar, fCons, fNil, fTup, fIf, fAnd, fOr, fNot, fChain, gNm, bind_eq, pure_eq, bad_eq, biV, bopV, copV, wdOf, asB_bl, lineOk0, lineOk1, lineOk2, lineOk3, lineOk4, optR_some] at hc
  simp [ev, sSeq, sAsg, sRet, sRetN, sE, sIf, sNil, sExpr, startE, f2, fVar, fCons, fNil, fTup, fIf, fAnd, fOr, fNot, fChain, gNm, bind_eq, pure_eq, bad_eq, biV, bopV, copV, wdOf, asB_bl, lineOk0, lineOk1, lineOk2, lineOk3, lineOk4, optR_some, b_Teller_bound_in, hc, tupleW_lst]
end R
set_option maxHeartbeats 1000000
namespace R
open PySem PySem.Spec L2
open PyProof.Rows hiding St
/-! P8: what a teller leaves open, plain. -/
theorem fvar_at {e : Env} {i : Nat} {x : PV} (h : e[i]? = some (some x)) : fVar i e = pure x := by unfold fVar; rw [h]
theorem filt_in {a b j : Nat} {e : Env} {v : PV} {cs L : List Int} {M : Mem} (ha : e[a]? = some (some v)) (hv : wkOf v = pure ⟨cs.map PV.int, []⟩) (hb : e[b]? = some (some (itup L))) (hj : j < e.length) (hbj : j ≠ b) (hl : cs.length ≤ 1000) :
    fLc (fun e => fVar a e >>= wkOf) [j] (gNm j) (fun e => f2 inX (fVar j) (fVar b) e >>= asB) (fVar j) e M = .ok (.lst ((cs.filter fun c => decide (c ∈ L)).map PV.int)) M := by
  refine lc_gen (fun c => ((wipeE e [j]).set j (some (.int c)))) (fun c => decide (c ∈ L)) PV.int ?_ (Nat.le_trans hl (by rw [sizeLine_eq]; decide)) (fun c _ M' => rfl) (fun c _ M' => ?_) (fun c _ _ M' => ⟨?_, rfl⟩)
  · rw [fvar_at ha]; show wkOf v M = _; rw [hv]; rfl
  · have h1 : fVar j ((wipeE e [j]).set j (some (.int c))) = pure (.int c) := fvar_at (by simp [wipeE, hj])
    have h2 : fVar b ((wipeE e [j]).set j (some (.int c))) = pure (itup L) := fvar_at (by simp [wipeE, List.getElem?_set_ne hbj, hb])
    unfold f2
    rw [h1, h2]
    show (inX (.int c) (itup L) >>= asB) M' = _
    rw [inX_itup]; rfl
  · rw [fvar_at (x := .int c) (by simp [wipeE, hj])]; rfl
theorem filt_nin {a b j : Nat} {e : Env} {v : PV} {cs L : List Int} {M : Mem} (ha : e[a]? = some (some v)) (hv : wkOf v = pure ⟨cs.map PV.int, []⟩) (hb : e[b]? = some (some (itup L))) (hj : j < e.length) (hbj : j ≠ b) (hl : cs.length ≤ 1000) :
    fLc (fun e => fVar a e >>= wkOf) [j] (gNm j) (fun e => f2 ninX (fVar j) (fVar b) e >>= asB) (fVar j) e M = .ok (.lst ((cs.filter fun c => decide (c ∉ L)).map PV.int)) M := by
  refine lc_gen (fun c => ((wipeE e [j]).set j (some (.int c)))) (fun c => decide (c ∉ L)) PV.int ?_ (Nat.le_trans hl (by rw [sizeLine_eq]; decide)) (fun c _ M' => rfl) (fun c _ M' => ?_) (fun c _ _ M' => ⟨?_, rfl⟩)
  · rw [fvar_at ha]; show wkOf v M = _; rw [hv]; rfl
  · have h1 : fVar j ((wipeE e [j]).set j (some (.int c))) = pure (.int c) := fvar_at (by simp [wipeE, hj])
    have h2 : fVar b ((wipeE e [j]).set j (some (.int c))) = pure (itup L) := fvar_at (by simp [wipeE, List.getElem?_set_ne hbj, hb])
    unfold f2
    rw [h1, h2]
    show (ninX (.int c) (itup L) >>= asB) M' = _
    rw [ninX_itup]; rfl
  · rw [fvar_at (x := .int c) (by simp [wipeE, hj])]; rfl
end R
set_option maxHeartbeats 2000000
namespace R
open PySem PySem.Spec L2
open PyProof.Rows hiding St
/-! P9: the ends, plain. -/
def inn (wo : List (List Int)) (k : Int) (L : List Int) : List Int := (wo.getD k.toNat []).filter fun c => decide (c ∈ L)
def out (wo : List (List Int)) (k : Int) (L : List Int) : List Int := (wo.getD k.toNat []).filter fun c => decide (c ∉ L)
theorem F_parted_ok (lo : List Int) (wo : List (List Int)) (k : Int) (L : List Int) (M : Mem) (hl : wo.length ≤ 1000) (h0 : 0 ≤ k) (h1 : k < wo.length) (hg : (wo.getD k.toNat []).length ≤ 1000) (hr : ∀ c ∈ wo.getD k.toNat [], 0 ≤ c ∧ c < lo.length) :
    F_parted [tel lo wo, .int k, itup L] M = .ok (.tup [.int (wsum lo ((inn wo k L).filter fun c => decide (c ∈ tied wo k))), .int (wsum lo (inn wo k L)), .int (wsum lo ((out wo k L).filter fun c => decide (c ∈ tied wo k))), .int (wsum lo (out wo k L))]) M := by
  refine mk_pure rfl ?_ rfl
  have p1 := prop_tel (F_sayings_ok lo wo M)
  have e3 := idx_wo (l := wo) h0 h1
  have h2 := F_bound_in_ok lo wo k M hl h0 h1 hg
  have hin : (inn wo k L).length ≤ 1000 := Nat.le_trans (List.length_filter_le _ _) hg
  have hou : (out wo k L).length ≤ 1000 := Nat.le_trans (List.length_filter_le _ _) hg
  have ri : ∀ c ∈ inn wo k L, 0 ≤ c ∧ c < lo.length := fun c hc => hr c (List.mem_filter.mp hc).1
  have ro : ∀ c ∈ out wo k L, 0 ≤ c ∧ c < lo.length := fun c hc => hr c (List.mem_filter.mp hc).1
  have w1 := F_weight_of_ok (lo := lo) (wo := wo) M (wkOf_lst ((inn wo k L).map PV.int)) ri hin
  have w2 := F_weight_of_ok (lo := lo) (wo := wo) M (wkOf_lst ((out wo k L).map PV.int)) ro hou
  have w3 := F_weight_of_ok (lo := lo) (wo := wo) M (wkOf_lst (((inn wo k L).filter fun c => decide (c ∈ tied wo k)).map PV.int)) (fun c hc => ri c (List.mem_filter.mp hc).1) (Nat.le_trans (List.length_filter_le _ _) hin)
  have w4 := F_weight_of_ok (lo := lo) (wo := wo) M (wkOf_lst (((out wo k L).filter fun c => decide (c ∈ tied wo k)).map PV.int)) (fun c hc => ro c (List.mem_filter.mp hc).1) (Nat.le_trans (List.length_filter_le _ _) hou)
  have h3 : methW (· == ("Teller" : Str)) "bound_in" F_Teller_bound_in (tel lo wo) (do let x ← (pure (PV.int k) : RM PV); let xs ← (pure [] : RM (List PV)); pure (x :: xs)) M = .ok (itup (tied wo k)) M := by
    show (pure [.int k] >>= fun ys => F_Teller_bound_in (tel lo wo :: ys) : RM PV) M = _
    exact h2
  simp [bind_eq] at p1
  have c1 := filt_in (a := 7) (b := 2) (j := 9) (e := [some (tel lo wo), some (.int k), some (itup L), none, none, none, none, some (itup (wo.getD k.toNat [])), some (itup (tied wo k)), none]) (M := M) rfl (wkOf_tup _) rfl (by simp) (by decide) hg
  have c2 := filt_nin (a := 7) (b := 2) (j := 9) (e := [some (tel lo wo), some (.int k), some (itup L), some (.lst ((inn wo k L).map PV.int)), none, none, none, some (itup (wo.getD k.toNat [])), some (itup (tied wo k)), none]) (M := M) rfl (wkOf_tup _) rfl (by simp) (by decide) hg
  have c3 := filt_in (a := 3) (b := 8) (j := 9) (e := [some (tel lo wo), some (.int k), some (itup L), some (.lst ((inn wo k L).map PV.int)), some (.lst ((out wo k L).map PV.int)), none, none, some (itup (wo.getD k.toNat [])), some (itup (tied wo k)), none]) (M := M) rfl (wkOf_lst _) rfl (by simp) (by decide) hin
  have c4 := filt_in (a := 4) (b := 8) (j := 9) (e := [some (tel lo wo), some (.int k), some (itup L), some (.lst ((inn wo k L).map PV.int)), some (.lst ((out wo k L).map PV.int)), some (.int (wsum lo ((inn wo k L).filter fun c => decide (c ∈ tied wo k)))), none, some (itup (wo.getD k.toNat [])), some (itup (tied wo k)), none]) (M := M) rfl (wkOf_lst _) rfl (by simp) (by decide) hou
  change _ = Res.ok (PV.lst ((inn wo k L).map PV.int)) M at c1
  change _ = Res.ok (PV.lst ((out wo k L).map PV.int)) M at c2
  generalize inn wo k L = ii at *
  generalize out wo k L = oo at *
  generalize wo.getD k.toNat [] = gg at *
  generalize tied wo k = tt at *
  simp [ev, sSeq, sAsg, sRet, sRetN, sE, sIf, sNil, sExpr, startE, f2, fVar, fCons, fNil, fTup, fIf, fAnd, fOr, fNot, fChain, gNm, bind_eq, pure_eq, bad_eq, biV, bopV, copV, wdOf, asB_bl, lineOk0, lineOk1, lineOk2, lineOk3, lineOk4, optR_some] at c1 c2 c3 c4 p1
  have lo4 : ∀ a b c d : PV, lineOk [a, b, c, d] = true := fun _ _ _ _ => lineOk_of (by simp)
  simp [ev, sSeq, sAsg, sRet, sRetN, sE, sIf, sNil, sExpr, startE, f2, fVar, fCons, fNil, fTup, fIf, fAnd, fOr, fNot, fChain, gNm, bind_eq, pure_eq, bad_eq, biV, bopV, copV, wdOf, asB_bl, lineOk0, lineOk1, lineOk2, lineOk3, lineOk4, optR_some, gSq, gsCons, gsNil, seqW_tup, b_parted, D_parted, L_parted, mclOf, mnmOf, p1, e3]
  rw [h3]
  simp [ev, sSeq, sAsg, sRet, sRetN, sE, sIf, sNil, sExpr, startE, f2, fVar, fCons, fNil, fTup, fIf, fAnd, fOr, fNot, fChain, gNm, bind_eq, pure_eq, bad_eq, biV, bopV, copV, wdOf, asB_bl, lineOk0, lineOk1, lineOk2, lineOk3, lineOk4, optR_some, seqW_tup, gsCons, gsNil, c1, c2, c3, c4, w1, w2, w3, w4, lo4]
end R
set_option maxHeartbeats 2000000
namespace R
open PySem PySem.Spec L2
open PyProof.Rows hiding St
/-! P10: least and greatest, plain. -/
theorem wsum_bd {lo : List Int} (hw : ∀ x ∈ lo, 1 ≤ x ∧ x ≤ 1000000) : ∀ {cs : List Int}, (∀ c ∈ cs, 0 ≤ c ∧ c < lo.length) → (cs.length : Int) ≤ wsum lo cs ∧ wsum lo cs ≤ 1000000 * cs.length
  | [], _ => by simp [wsum]
  | c :: cs, h => by
    obtain ⟨h1, h2⟩ := wsum_bd hw (cs := cs) fun d hd => h d (by simp [hd])
    have hc := h c (by simp)
    have hm : at0 lo c ∈ lo := by
      have : c.toNat < lo.length := by omega
      simp [at0, List.getElem?_eq_getElem this]
    have := hw _ hm
    have e : wsum lo (c :: cs) = at0 lo c + wsum lo cs := by simp [wsum]
    rw [e, List.length_cons]
    omega
def leastQ (lo : List Int) (wo : List (List Int)) (k : Int) (L : List Int) : Rat :=
  if 0 < wsum lo (out wo k L) then Rat.divInt (wsum lo ((inn wo k L).filter fun c => decide (c ∈ tied wo k))) (wsum lo ((inn wo k L).filter fun c => decide (c ∈ tied wo k)) + wsum lo (out wo k L)) else 1
def greatQ (lo : List Int) (wo : List (List Int)) (k : Int) (L : List Int) : Rat :=
  if 0 < wsum lo (inn wo k L) then Rat.divInt (wsum lo (inn wo k L)) (wsum lo (inn wo k L) + wsum lo ((out wo k L).filter fun c => decide (c ∈ tied wo k))) else 0
section
variable (lo : List Int) (wo : List (List Int)) (k : Int) (L : List Int) (M : Mem) (hl : wo.length ≤ 1000) (h0 : 0 ≤ k) (h1 : k < wo.length) (hg : (wo.getD k.toNat []).length ≤ 1000) (hr : ∀ c ∈ wo.getD k.toNat [], 0 ≤ c ∧ c < lo.length) (hw : ∀ x ∈ lo, 1 ≤ x ∧ x ≤ 1000000)
include hl h0 h1 hg hr hw
theorem F_least_for_ok : F_least_for [tel lo wo, .int k, itup L] M = .ok (frV (leastQ lo wo k L)) M := by
  have hp := F_parted_ok lo wo k L M hl h0 h1 hg hr
  have ri : ∀ c ∈ inn wo k L, 0 ≤ c ∧ c < lo.length := fun c hc => hr c (List.mem_filter.mp hc).1
  have ro : ∀ c ∈ out wo k L, 0 ≤ c ∧ c < lo.length := fun c hc => hr c (List.mem_filter.mp hc).1
  have b1 := wsum_bd hw (cs := (inn wo k L).filter fun c => decide (c ∈ tied wo k)) (fun c hc => ri c (List.mem_filter.mp hc).1)
  have b2 := wsum_bd hw ro
  have l1 : ((inn wo k L).filter fun c => decide (c ∈ tied wo k)).length ≤ 1000 := Nat.le_trans (List.length_filter_le _ _) (Nat.le_trans (List.length_filter_le _ _) hg)
  have l2 : (out wo k L).length ≤ 1000 := Nat.le_trans (List.length_filter_le _ _) hg
  refine mk_pure rfl ?_ rfl
  unfold leastQ
  generalize wsum lo ((inn wo k L).filter fun c => decide (c ∈ tied wo k)) = a at *
  generalize wsum lo ((out wo k L).filter fun c => decide (c ∈ tied wo k)) = c at *
  generalize wsum lo (inn wo k L) = b at *
  generalize wsum lo (out wo k L) = d at *
  have big : (2 : Nat) ^ 40 ≤ 2 ^ 4000 := Nat.pow_le_pow_right (by omega) (by omega)
  have v40 : (2 : Nat) ^ 40 = 1099511627776 := by decide
  by_cases hd : 0 < d
  · have hf := F_fraction_ok a (a + d) M (Nat.lt_of_lt_of_le (by omega) big) (Nat.lt_of_lt_of_le (by omega) big) (by omega)
    simp [ev, sSeq, sAsg, sRet, sRetN, sE, sIf, sNil, sExpr, startE, f2, fVar, fCons, fNil, fTup, fIf, fAnd, fOr, fNot, fChain, gNm, bind_eq, pure_eq, bad_eq, biV, bopV, copV, wdOf, asB_bl, lineOk0, lineOk1, lineOk2, lineOk3, lineOk4, optR_some, sAsg, gSq, gsCons, gsNil, seqW_tup, b_least_for, D_least_for, L_least_for, hp, cmpW_int, hd, addW_int, hf]
  · simp [ev, sSeq, sAsg, sRet, sRetN, sE, sIf, sNil, sExpr, startE, f2, fVar, fCons, fNil, fTup, fIf, fAnd, fOr, fNot, fChain, gNm, bind_eq, pure_eq, bad_eq, biV, bopV, copV, wdOf, asB_bl, lineOk0, lineOk1, lineOk2, lineOk3, lineOk4, optR_some, sAsg, gSq, gsCons, gsNil, seqW_tup, b_least_for, D_least_for, L_least_for, hp, cmpW_int, hd, fr1]
theorem F_greatest_for_ok : F_greatest_for [tel lo wo, .int k, itup L] M = .ok (frV (greatQ lo wo k L)) M := by
  have hp := F_parted_ok lo wo k L M hl h0 h1 hg hr
  have ri : ∀ c ∈ inn wo k L, 0 ≤ c ∧ c < lo.length := fun c hc => hr c (List.mem_filter.mp hc).1
  have ro : ∀ c ∈ out wo k L, 0 ≤ c ∧ c < lo.length := fun c hc => hr c (List.mem_filter.mp hc).1
  have b1 := wsum_bd hw (cs := (out wo k L).filter fun c => decide (c ∈ tied wo k)) (fun c hc => ro c (List.mem_filter.mp hc).1)
  have b2 := wsum_bd hw ri
  have l1 : ((out wo k L).filter fun c => decide (c ∈ tied wo k)).length ≤ 1000 := Nat.le_trans (List.length_filter_le _ _) (Nat.le_trans (List.length_filter_le _ _) hg)
  have l2 : (inn wo k L).length ≤ 1000 := Nat.le_trans (List.length_filter_le _ _) hg
  refine mk_pure rfl ?_ rfl
  unfold greatQ
  generalize wsum lo ((inn wo k L).filter fun c => decide (c ∈ tied wo k)) = a at *
  generalize wsum lo ((out wo k L).filter fun c => decide (c ∈ tied wo k)) = c at *
  generalize wsum lo (inn wo k L) = b at *
  generalize wsum lo (out wo k L) = d at *
  have big : (2 : Nat) ^ 40 ≤ 2 ^ 4000 := Nat.pow_le_pow_right (by omega) (by omega)
  have v40 : (2 : Nat) ^ 40 = 1099511627776 := by decide
  by_cases hd : 0 < b
  · have hf := F_fraction_ok b (b + c) M (Nat.lt_of_lt_of_le (by omega) big) (Nat.lt_of_lt_of_le (by omega) big) (by omega)
    simp [ev, sSeq, sAsg, sRet, sRetN, sE, sIf, sNil, sExpr, startE, f2, fVar, fCons, fNil, fTup, fIf, fAnd, fOr, fNot, fChain, gNm, bind_eq, pure_eq, bad_eq, biV, bopV, copV, wdOf, asB_bl, lineOk0, lineOk1, lineOk2, lineOk3, lineOk4, optR_some, sAsg, gSq, gsCons, gsNil, seqW_tup, b_greatest_for, D_greatest_for, L_greatest_for, hp, cmpW_int, hd, addW_int, hf]
  · simp [ev, sSeq, sAsg, sRet, sRetN, sE, sIf, sNil, sExpr, startE, f2, fVar, fCons, fNil, fTup, fIf, fAnd, fOr, fNot, fChain, gNm, bind_eq, pure_eq, bad_eq, biV, bopV, copV, wdOf, asB_bl, lineOk0, lineOk1, lineOk2, lineOk3, lineOk4, optR_some, sAsg, gSq, gsCons, gsNil, seqW_tup, b_greatest_for, D_greatest_for, L_greatest_for, hp, cmpW_int, hd, fr0]
end
end R
set_option maxHeartbeats 1000000
namespace R
open PySem PySem.Spec L2
open PyProof.Rows hiding St
/-! P11: lots, plain. -/
/-- each below the next -/
def ascB (l : List Int) : Bool := (List.range (l.length - 1)).all fun i => decide (at0 l (i : Nat) < at0 l ((i : Nat) + 1))
theorem rngB_of {i : Int} (h0 : -1000000 ≤ i) (h1 : i ≤ 1000000) : rngB i = true := rngB_iff.mpr (by omega)
theorem range2W_eq {i j : Int} (h : rngB i = true) (h' : rngB j = true) : range2W [.int i, .int j] = pure ⟨rngP i j, []⟩ := by
  have e : range2W [.int i, .int j] = if (rngB i && rngB j) = true then pure ⟨rngP i j, []⟩ else RM.bad := rfl
  rw [e, h, h']; rfl
theorem range1W_eq {j : Int} (h : rngB j = true) : range1W [.int j] = pure ⟨rngP 0 j, []⟩ := if_pos h
theorem F_is_ascending_ok (l : List Int) (M : Mem) (hl : l.length ≤ 1000) : F_is_ascending [itup l] M = .ok (.bl (ascB l)) M := by
  refine mk_pure rfl ?_ rfl
  have r1 : range2W [.int 1, .int l.length] = pure ⟨(List.range (l.length - 1)).map fun i => PV.int (1 + (i : Nat)), []⟩ := by
    rw [range2W_eq (rngB_of (by omega) (by omega)) (rngB_of (i := (l.length : Int)) (by omega) (by omega))]
    have : ((l.length : Int) - 1).toNat = l.length - 1 := by omega
    simp [rngP, this]
  have len : lenW [itup l] = pure (.int l.length) := by simp [itup, lenW_tup]
  have hc := lc_map (as := List.range (l.length - 1)) (enc := fun i => PV.int (1 + (i : Nat))) (fi := ev D_is_ascending (.range2 (.int 1) (.bi .len (.cons (.var 0) .nil)))) (vs := [1]) (i := 1) (f := ev D_is_ascending (.cmp .lt (.idx (.var 0) (.bin .sub (.var 1) (.int 1))) (.idx (.var 0) (.var 1)))) (e := [some (itup l), none]) (M := M)
    (fun i => .bl (decide (at0 l (i : Nat) < at0 l ((i : Nat) + 1)))) (by simp [ev, sSeq, sAsg, sRet, sRetN, sE, sIf, sNil, sExpr, startE, f2, fVar, fCons, fNil, fTup, fIf, fAnd, fOr, fNot, fChain, gNm, bind_eq, pure_eq, bad_eq, biV, bopV, copV, wdOf, asB_bl, lineOk0, lineOk1, lineOk2, lineOk3, lineOk4, optR_some, len, r1]) (by rw [List.length_range]; exact Nat.le_trans (by omega) (Nat.le_trans hl (by rw [sizeLine_eq]; decide)))
    (fun i hi M' => by
      have hi := List.mem_range.mp hi
      have a1 := idx_itup (l := l) (i := (i : Nat)) (by omega) (by omega)
      have a2 := idx_itup (l := l) (i := 1 + (i : Nat)) (by omega) (by omega)
      have e1 : (1 : Int) + (i : Nat) - 1 = (i : Nat) := by omega
      have e2 : (1 : Int) + (i : Nat) = (i : Nat) + 1 := by omega
      rw [e2] at a2
      refine ⟨?_, rfl⟩
      simp [ev, sSeq, sAsg, sRet, sRetN, sE, sIf, sNil, sExpr, startE, f2, fVar, fCons, fNil, fTup, fIf, fAnd, fOr, fNot, fChain, gNm, bind_eq, pure_eq, bad_eq, biV, bopV, copV, wdOf, asB_bl, lineOk0, lineOk1, lineOk2, lineOk3, lineOk4, optR_some, wipeE, subV_int, e2, a1, a2, cmpW_int])
  simp [ev, sSeq, sAsg, sRet, sRetN, sE, sIf, sNil, sExpr, startE, f2, fVar, fCons, fNil, fTup, fIf, fAnd, fOr, fNot, fChain, gNm, bind_eq, pure_eq, bad_eq, biV, bopV, copV, wdOf, asB_bl, lineOk0, lineOk1, lineOk2, lineOk3, lineOk4, optR_some] at hc
  simp [ev, sSeq, sAsg, sRet, sRetN, sE, sIf, sNil, sExpr, startE, f2, fVar, fCons, fNil, fTup, fIf, fAnd, fOr, fNot, fChain, gNm, bind_eq, pure_eq, bad_eq, biV, bopV, copV, wdOf, asB_bl, lineOk0, lineOk1, lineOk2, lineOk3, lineOk4, optR_some, b_is_ascending, hc, allW_map, ascB]
theorem F_is_lot_ok (l : List Int) (many : Int) (M : Mem) (hl : l.length ≤ 1000) : F_is_lot [itup l, .int many] M = .ok (.bl ((l.all fun c => decide (0 ≤ c) && decide (c ≤ many - 1)) && ascB l)) M := by
  refine mk_pure rfl ?_ rfl
  have ha := F_is_ascending_ok l M hl
  have i1 : isiW "tuple" (itup l) = pure (.bl true) := isi_tuple_tup _
  have hc := lc_map (as := l) (enc := PV.int) (fi := ev D_is_lot (.seq (.var 0))) (vs := [2]) (i := 2) (f := ev D_is_lot (.call 0 (.cons (.var 2) (.cons (.int 0) (.cons (.bin .sub (.var 1) (.int 1)) .nil))))) (e := [some (itup l), some (.int many), none]) (M := M)
    (fun c => .bl (decide (0 ≤ c) && decide (c ≤ many - 1))) rfl (Nat.le_trans hl (by rw [sizeLine_eq]; decide)) (fun c _ M' => by
      have := is_between_int c 0 (many - 1) M'
      refine ⟨?_, rfl⟩
      simp only [ev, sSeq, sAsg, sRet, sRetN, sE, sIf, sNil, sExpr, startE, f2, fVar, fCons, fNil, fTup, fIf, fAnd, fOr, fNot, fChain, gNm, bind_eq, pure_eq, bad_eq, biV, bopV, copV, wdOf, asB_bl, lineOk0, lineOk1, lineOk2, lineOk3, lineOk4, optR_some, wipeE, subV_int, D_is_lot, L_is_lot, List.getElem?_cons_zero, List.getElem?_cons_succ, List.set_cons_succ, List.set_cons_zero, Option.getD_some]
      exact this)
  have al := allW_map (fun c : Int => decide (0 ≤ c) && decide (c ≤ many - 1)) l
  by_cases h : (l.all fun c => decide (0 ≤ c) && decide (c ≤ many - 1)) = true
  · rw [h] at al ⊢
    generalize (l.map fun c => PV.bl (decide (0 ≤ c) && decide (c ≤ many - 1))) = zs at *
    simp [ev, sSeq, sAsg, sRet, sRetN, sE, sIf, sNil, sExpr, startE, f2, fVar, fCons, fNil, fTup, fIf, fAnd, fOr, fNot, fChain, gNm, bind_eq, pure_eq, bad_eq, biV, bopV, copV, wdOf, asB_bl, lineOk0, lineOk1, lineOk2, lineOk3, lineOk4, optR_some, D_is_lot, L_is_lot] at hc
    simp [ev, sSeq, sAsg, sRet, sRetN, sE, sIf, sNil, sExpr, startE, f2, fVar, fCons, fNil, fTup, fIf, fAnd, fOr, fNot, fChain, gNm, bind_eq, pure_eq, bad_eq, biV, bopV, copV, wdOf, asB_bl, lineOk0, lineOk1, lineOk2, lineOk3, lineOk4, optR_some, tyS, isi_int_non, isi_int_bl, isi_int_int, isi_int_str, isi_int_tup, isi_int_lst, isi_bool_non, isi_bool_bl, isi_bool_int, isi_bool_str, isi_bool_tup, isi_bool_lst, isi_str_non, isi_str_bl, isi_str_int, isi_str_str, isi_str_tup, isi_str_lst, isi_tuple_non, isi_tuple_bl, isi_tuple_int, isi_tuple_str, isi_tuple_tup, isi_tuple_lst, isi_int_dct, isi_bool_dct, isi_str_dct, isi_tuple_dct, i1, b_is_lot, hc, al, ha, D_is_lot, L_is_lot]
  · rw [Bool.not_eq_true] at h
    rw [h] at al ⊢
    generalize (l.map fun c => PV.bl (decide (0 ≤ c) && decide (c ≤ many - 1))) = zs at *
    simp [ev, sSeq, sAsg, sRet, sRetN, sE, sIf, sNil, sExpr, startE, f2, fVar, fCons, fNil, fTup, fIf, fAnd, fOr, fNot, fChain, gNm, bind_eq, pure_eq, bad_eq, biV, bopV, copV, wdOf, asB_bl, lineOk0, lineOk1, lineOk2, lineOk3, lineOk4, optR_some, D_is_lot, L_is_lot] at hc
    simp [ev, sSeq, sAsg, sRet, sRetN, sE, sIf, sNil, sExpr, startE, f2, fVar, fCons, fNil, fTup, fIf, fAnd, fOr, fNot, fChain, gNm, bind_eq, pure_eq, bad_eq, biV, bopV, copV, wdOf, asB_bl, lineOk0, lineOk1, lineOk2, lineOk3, lineOk4, optR_some, tyS, isi_int_non, isi_int_bl, isi_int_int, isi_int_str, isi_int_tup, isi_int_lst, isi_bool_non, isi_bool_bl, isi_bool_int, isi_bool_str, isi_bool_tup, isi_bool_lst, isi_str_non, isi_str_bl, isi_str_int, isi_str_str, isi_str_tup, isi_str_lst, isi_tuple_non, isi_tuple_bl, isi_tuple_int, isi_tuple_str, isi_tuple_tup, isi_tuple_lst, isi_int_dct, isi_bool_dct, isi_str_dct, isi_tuple_dct, i1, b_is_lot, hc, al, ha, D_is_lot, L_is_lot]
end R
set_option maxHeartbeats 1000000
namespace R
open PySem PySem.Spec L2
open PyProof.Rows hiding St
variable {K K2 : Nat}
/-! P12: the checker's small questions about any plain value. -/
mutual
/-- plain data, numbers of less than K bits -/
def pl (K : Nat) : PV → Bool
  | .non => true
  | .bl _ => true
  | .int i => decide (i.natAbs < 2 ^ K)
  | .str s => PyData.strOk s
  | .tup xs => pls K xs
  | .lst xs => pls K xs
  | .dct _ xs => pls K xs
  | _ => false
def pls (K : Nat) : List PV → Bool
  | [] => true
  | x :: xs => pl K x && pls K xs
end
theorem pls_iff {xs : List PV} : pls K xs = true ↔ ∀ x ∈ xs, pl K x = true := by
  induction xs with
  | nil => simp [pls]
  | cons x xs ih => simp [pls, ih]
mutual
theorem pl_da : ∀ x : PV, pl K x = true → Da x
  | .non, _ => rfl
  | .bl _, _ => rfl
  | .int _, _ => rfl
  | .str _, _ => rfl
  | .tup xs, h => by simp only [Da, noRef]; exact pls_da xs (by simpa [pl] using h)
  | .lst xs, h => by simp only [Da, noRef]; exact pls_da xs (by simpa [pl] using h)
  | .dct _ xs, h => by simp only [Da, noRef]; exact pls_da xs (by simpa [pl] using h)
  | .ins _ _ _, h => by simp [pl] at h
  | .ref _, h => by simp [pl] at h
  | .exn _ _, h => by simp [pl] at h
theorem pls_da : ∀ xs : List PV, pls K xs = true → noRefs 0 xs = true
  | [], _ => rfl
  | x :: xs, h => by
    simp only [pls, Bool.and_eq_true] at h
    simp only [noRefs, Bool.and_eq_true]
    exact ⟨pl_da x h.1, pls_da xs h.2⟩
end
def isI : PV → Bool
  | .int _ => true
  | _ => false
theorem is_integer_any {v : PV} (h : pl K v = true) (M : Mem) : F_is_integer [v] M = .ok (.bl (isI v)) M := by
  refine mk_pure rfl ?_ rfl
  cases v with
  | non => simp [ev, sSeq, sAsg, sRet, sRetN, sE, sIf, sNil, sExpr, startE, f2, fVar, fCons, fNil, fTup, fIf, fAnd, fOr, fNot, fChain, gNm, bind_eq, pure_eq, bad_eq, biV, bopV, copV, wdOf, asB_bl, lineOk0, lineOk1, lineOk2, lineOk3, lineOk4, optR_some, tyS, isi_int_non, isi_int_bl, isi_int_int, isi_int_str, isi_int_tup, isi_int_lst, isi_bool_non, isi_bool_bl, isi_bool_int, isi_bool_str, isi_bool_tup, isi_bool_lst, isi_str_non, isi_str_bl, isi_str_int, isi_str_str, isi_str_tup, isi_str_lst, isi_tuple_non, isi_tuple_bl, isi_tuple_int, isi_tuple_str, isi_tuple_tup, isi_tuple_lst, isi_int_dct, isi_bool_dct, isi_str_dct, isi_tuple_dct, D_is_integer, L_is_integer, b_is_integer, isI]
  | bl b => simp [ev, sSeq, sAsg, sRet, sRetN, sE, sIf, sNil, sExpr, startE, f2, fVar, fCons, fNil, fTup, fIf, fAnd, fOr, fNot, fChain, gNm, bind_eq, pure_eq, bad_eq, biV, bopV, copV, wdOf, asB_bl, lineOk0, lineOk1, lineOk2, lineOk3, lineOk4, optR_some, tyS, isi_int_non, isi_int_bl, isi_int_int, isi_int_str, isi_int_tup, isi_int_lst, isi_bool_non, isi_bool_bl, isi_bool_int, isi_bool_str, isi_bool_tup, isi_bool_lst, isi_str_non, isi_str_bl, isi_str_int, isi_str_str, isi_str_tup, isi_str_lst, isi_tuple_non, isi_tuple_bl, isi_tuple_int, isi_tuple_str, isi_tuple_tup, isi_tuple_lst, isi_int_dct, isi_bool_dct, isi_str_dct, isi_tuple_dct, D_is_integer, L_is_integer, b_is_integer, isI]
  | int b => simp [ev, sSeq, sAsg, sRet, sRetN, sE, sIf, sNil, sExpr, startE, f2, fVar, fCons, fNil, fTup, fIf, fAnd, fOr, fNot, fChain, gNm, bind_eq, pure_eq, bad_eq, biV, bopV, copV, wdOf, asB_bl, lineOk0, lineOk1, lineOk2, lineOk3, lineOk4, optR_some, tyS, isi_int_non, isi_int_bl, isi_int_int, isi_int_str, isi_int_tup, isi_int_lst, isi_bool_non, isi_bool_bl, isi_bool_int, isi_bool_str, isi_bool_tup, isi_bool_lst, isi_str_non, isi_str_bl, isi_str_int, isi_str_str, isi_str_tup, isi_str_lst, isi_tuple_non, isi_tuple_bl, isi_tuple_int, isi_tuple_str, isi_tuple_tup, isi_tuple_lst, isi_int_dct, isi_bool_dct, isi_str_dct, isi_tuple_dct, D_is_integer, L_is_integer, b_is_integer, isI]
  | str b => simp [ev, sSeq, sAsg, sRet, sRetN, sE, sIf, sNil, sExpr, startE, f2, fVar, fCons, fNil, fTup, fIf, fAnd, fOr, fNot, fChain, gNm, bind_eq, pure_eq, bad_eq, biV, bopV, copV, wdOf, asB_bl, lineOk0, lineOk1, lineOk2, lineOk3, lineOk4, optR_some, tyS, isi_int_non, isi_int_bl, isi_int_int, isi_int_str, isi_int_tup, isi_int_lst, isi_bool_non, isi_bool_bl, isi_bool_int, isi_bool_str, isi_bool_tup, isi_bool_lst, isi_str_non, isi_str_bl, isi_str_int, isi_str_str, isi_str_tup, isi_str_lst, isi_tuple_non, isi_tuple_bl, isi_tuple_int, isi_tuple_str, isi_tuple_tup, isi_tuple_lst, isi_int_dct, isi_bool_dct, isi_str_dct, isi_tuple_dct, D_is_integer, L_is_integer, b_is_integer, isI]
  | tup b => simp [ev, sSeq, sAsg, sRet, sRetN, sE, sIf, sNil, sExpr, startE, f2, fVar, fCons, fNil, fTup, fIf, fAnd, fOr, fNot, fChain, gNm, bind_eq, pure_eq, bad_eq, biV, bopV, copV, wdOf, asB_bl, lineOk0, lineOk1, lineOk2, lineOk3, lineOk4, optR_some, tyS, isi_int_non, isi_int_bl, isi_int_int, isi_int_str, isi_int_tup, isi_int_lst, isi_bool_non, isi_bool_bl, isi_bool_int, isi_bool_str, isi_bool_tup, isi_bool_lst, isi_str_non, isi_str_bl, isi_str_int, isi_str_str, isi_str_tup, isi_str_lst, isi_tuple_non, isi_tuple_bl, isi_tuple_int, isi_tuple_str, isi_tuple_tup, isi_tuple_lst, isi_int_dct, isi_bool_dct, isi_str_dct, isi_tuple_dct, D_is_integer, L_is_integer, b_is_integer, isI]
  | lst b => simp [ev, sSeq, sAsg, sRet, sRetN, sE, sIf, sNil, sExpr, startE, f2, fVar, fCons, fNil, fTup, fIf, fAnd, fOr, fNot, fChain, gNm, bind_eq, pure_eq, bad_eq, biV, bopV, copV, wdOf, asB_bl, lineOk0, lineOk1, lineOk2, lineOk3, lineOk4, optR_some, tyS, isi_int_non, isi_int_bl, isi_int_int, isi_int_str, isi_int_tup, isi_int_lst, isi_bool_non, isi_bool_bl, isi_bool_int, isi_bool_str, isi_bool_tup, isi_bool_lst, isi_str_non, isi_str_bl, isi_str_int, isi_str_str, isi_str_tup, isi_str_lst, isi_tuple_non, isi_tuple_bl, isi_tuple_int, isi_tuple_str, isi_tuple_tup, isi_tuple_lst, isi_int_dct, isi_bool_dct, isi_str_dct, isi_tuple_dct, D_is_integer, L_is_integer, b_is_integer, isI]
  | dct a b => simp [ev, sSeq, sAsg, sRet, sRetN, sE, sIf, sNil, sExpr, startE, f2, fVar, fCons, fNil, fTup, fIf, fAnd, fOr, fNot, fChain, gNm, bind_eq, pure_eq, bad_eq, biV, bopV, copV, wdOf, asB_bl, lineOk0, lineOk1, lineOk2, lineOk3, lineOk4, optR_some, tyS, isi_int_non, isi_int_bl, isi_int_int, isi_int_str, isi_int_tup, isi_int_lst, isi_bool_non, isi_bool_bl, isi_bool_int, isi_bool_str, isi_bool_tup, isi_bool_lst, isi_str_non, isi_str_bl, isi_str_int, isi_str_str, isi_str_tup, isi_str_lst, isi_tuple_non, isi_tuple_bl, isi_tuple_int, isi_tuple_str, isi_tuple_tup, isi_tuple_lst, isi_int_dct, isi_bool_dct, isi_str_dct, isi_tuple_dct, D_is_integer, L_is_integer, b_is_integer, isI]
  | _ => simp [pl] at h
def btw (v : PV) (a b : Int) : Bool := match v with
  | .int i => decide (a ≤ i) && decide (i ≤ b)
  | _ => false
theorem is_between_any {v : PV} (h : pl K v = true) (a b : Int) (M : Mem) : F_is_between [v, .int a, .int b] M = .ok (.bl (btw v a b)) M := by
  by_cases hi : isI v = true
  · cases v with
    | int i => exact is_between_int i a b M
    | _ => simp [isI] at hi
  · refine mk_pure rfl ?_ rfl
    have h1 := is_integer_any h M
    have h2 : btw v a b = false := by cases v <;> simp [btw, isI] at hi ⊢
    simp only [Bool.not_eq_true] at hi
    simp [ev, sSeq, sAsg, sRet, sRetN, sE, sIf, sNil, sExpr, startE, f2, fVar, fCons, fNil, fTup, fIf, fAnd, fOr, fNot, fChain, gNm, bind_eq, pure_eq, bad_eq, biV, bopV, copV, wdOf, asB_bl, lineOk0, lineOk1, lineOk2, lineOk3, lineOk4, optR_some, D_is_between, L_is_between, b_is_between, h1, hi, h2]
def isFr : PV → Bool
  | .tup [.int n, .int d] => decide (0 ≤ n) && decide (n ≤ d) && decide (0 < d) && decide (Int.gcd n d = 1)
  | _ => false
def ratOf : PV → Rat
  | .tup [.int n, .int d] => Rat.divInt n d
  | _ => 0
theorem isFr_ok {v : PV} (h : isFr v = true) : v = frV (ratOf v) ∧ 0 ≤ (ratOf v).num ∧ (ratOf v).num ≤ ((ratOf v).den : Int) := by
  unfold isFr at h
  split at h
  · rename_i n d
    simp only [Bool.and_eq_true, decide_eq_true_eq] at h
    obtain ⟨⟨⟨h0, h1⟩, h2⟩, h3⟩ := h
    have e := frV_div n d h2
    rw [h3] at e
    have e1 : ((1 : Nat) : Int) = 1 := rfl
    rw [e1, Int.fdiv_one, Int.fdiv_one] at e
    refine ⟨e, ?_⟩
    show 0 ≤ (Rat.divInt n d).num ∧ (Rat.divInt n d).num ≤ ((Rat.divInt n d).den : Int)
    unfold frV at e
    injection e with e
    injection e with e2 e
    injection e with e3 e
    injection e2 with e2
    injection e3 with e3
    rw [← e2, ← e3]
    exact ⟨h0, h1⟩
  · cases h
theorem frV_inj {p q : Rat} (h : frV p = frV q) : p = q := by
  unfold frV at h
  injection h with e
  injection e with e2 e
  injection e with e3 e
  injection e2 with e2
  injection e3 with e3
  exact Rat.ext e2 (by omega)
theorem ratOf_frV (q : Rat) : ratOf (frV q) = q := Rat.num_divInt_den q
theorem isFr_frV (q : Rat) : isFr (frV q) = okF q := by
  show (decide (0 ≤ q.num) && decide (q.num ≤ (q.den : Int)) && decide (0 < (q.den : Int)) && decide (Int.gcd q.num q.den = 1)) = okF q
  have h1 : (0 : Int) < q.den := by have := q.den_pos; omega
  have h2 : Int.gcd q.num q.den = 1 := q.reduced
  simp [okF, h1, h2, q.den_pos]
theorem isFr_sz {v : PV} (h : isFr v = true) (hp : pl K v = true) : Sz K (ratOf v) := by
  obtain ⟨e, h0, h1⟩ := isFr_ok h
  rw [e] at hp
  simp only [frV, pl, pls, Bool.and_eq_true, decide_eq_true_eq, and_true] at hp
  exact ⟨hp.1, by have := hp.2; simpa using this⟩
theorem is_fraction_any {v : PV} (h : pl K v = true) (M : Mem) (hK : K ≤ 3900 := by omega) : F_is_fraction [v] M = .ok (.bl (isFr v)) M := by
  refine mk_pure rfl ?_ rfl
  cases v with
  | non => simp [ev, sSeq, sAsg, sRet, sRetN, sE, sIf, sNil, sExpr, startE, f2, fVar, fCons, fNil, fTup, fIf, fAnd, fOr, fNot, fChain, gNm, bind_eq, pure_eq, bad_eq, biV, bopV, copV, wdOf, asB_bl, lineOk0, lineOk1, lineOk2, lineOk3, lineOk4, optR_some, tyS, isi_int_non, isi_int_bl, isi_int_int, isi_int_str, isi_int_tup, isi_int_lst, isi_bool_non, isi_bool_bl, isi_bool_int, isi_bool_str, isi_bool_tup, isi_bool_lst, isi_str_non, isi_str_bl, isi_str_int, isi_str_str, isi_str_tup, isi_str_lst, isi_tuple_non, isi_tuple_bl, isi_tuple_int, isi_tuple_str, isi_tuple_tup, isi_tuple_lst, isi_int_dct, isi_bool_dct, isi_str_dct, isi_tuple_dct, D_is_fraction, L_is_fraction, b_is_fraction, isFr]
  | bl b => simp [ev, sSeq, sAsg, sRet, sRetN, sE, sIf, sNil, sExpr, startE, f2, fVar, fCons, fNil, fTup, fIf, fAnd, fOr, fNot, fChain, gNm, bind_eq, pure_eq, bad_eq, biV, bopV, copV, wdOf, asB_bl, lineOk0, lineOk1, lineOk2, lineOk3, lineOk4, optR_some, tyS, isi_int_non, isi_int_bl, isi_int_int, isi_int_str, isi_int_tup, isi_int_lst, isi_bool_non, isi_bool_bl, isi_bool_int, isi_bool_str, isi_bool_tup, isi_bool_lst, isi_str_non, isi_str_bl, isi_str_int, isi_str_str, isi_str_tup, isi_str_lst, isi_tuple_non, isi_tuple_bl, isi_tuple_int, isi_tuple_str, isi_tuple_tup, isi_tuple_lst, isi_int_dct, isi_bool_dct, isi_str_dct, isi_tuple_dct, D_is_fraction, L_is_fraction, b_is_fraction, isFr]
  | int b => simp [ev, sSeq, sAsg, sRet, sRetN, sE, sIf, sNil, sExpr, startE, f2, fVar, fCons, fNil, fTup, fIf, fAnd, fOr, fNot, fChain, gNm, bind_eq, pure_eq, bad_eq, biV, bopV, copV, wdOf, asB_bl, lineOk0, lineOk1, lineOk2, lineOk3, lineOk4, optR_some, tyS, isi_int_non, isi_int_bl, isi_int_int, isi_int_str, isi_int_tup, isi_int_lst, isi_bool_non, isi_bool_bl, isi_bool_int, isi_bool_str, isi_bool_tup, isi_bool_lst, isi_str_non, isi_str_bl, isi_str_int, isi_str_str, isi_str_tup, isi_str_lst, isi_tuple_non, isi_tuple_bl, isi_tuple_int, isi_tuple_str, isi_tuple_tup, isi_tuple_lst, isi_int_dct, isi_bool_dct, isi_str_dct, isi_tuple_dct, D_is_fraction, L_is_fraction, b_is_fraction, isFr]
  | str b => simp [ev, sSeq, sAsg, sRet, sRetN, sE, sIf, sNil, sExpr, startE, f2, fVar, fCons, fNil, fTup, fIf, fAnd, fOr, fNot, fChain, gNm, bind_eq, pure_eq, bad_eq, biV, bopV, copV, wdOf, asB_bl, lineOk0, lineOk1, lineOk2, lineOk3, lineOk4, optR_some, tyS, isi_int_non, isi_int_bl, isi_int_int, isi_int_str, isi_int_tup, isi_int_lst, isi_bool_non, isi_bool_bl, isi_bool_int, isi_bool_str, isi_bool_tup, isi_bool_lst, isi_str_non, isi_str_bl, isi_str_int, isi_str_str, isi_str_tup, isi_str_lst, isi_tuple_non, isi_tuple_bl, isi_tuple_int, isi_tuple_str, isi_tuple_tup, isi_tuple_lst, isi_int_dct, isi_bool_dct, isi_str_dct, isi_tuple_dct, D_is_fraction, L_is_fraction, b_is_fraction, isFr]
  | lst b => simp [ev, sSeq, sAsg, sRet, sRetN, sE, sIf, sNil, sExpr, startE, f2, fVar, fCons, fNil, fTup, fIf, fAnd, fOr, fNot, fChain, gNm, bind_eq, pure_eq, bad_eq, biV, bopV, copV, wdOf, asB_bl, lineOk0, lineOk1, lineOk2, lineOk3, lineOk4, optR_some, tyS, isi_int_non, isi_int_bl, isi_int_int, isi_int_str, isi_int_tup, isi_int_lst, isi_bool_non, isi_bool_bl, isi_bool_int, isi_bool_str, isi_bool_tup, isi_bool_lst, isi_str_non, isi_str_bl, isi_str_int, isi_str_str, isi_str_tup, isi_str_lst, isi_tuple_non, isi_tuple_bl, isi_tuple_int, isi_tuple_str, isi_tuple_tup, isi_tuple_lst, isi_int_dct, isi_bool_dct, isi_str_dct, isi_tuple_dct, D_is_fraction, L_is_fraction, b_is_fraction, isFr]
  | dct a b => simp [ev, sSeq, sAsg, sRet, sRetN, sE, sIf, sNil, sExpr, startE, f2, fVar, fCons, fNil, fTup, fIf, fAnd, fOr, fNot, fChain, gNm, bind_eq, pure_eq, bad_eq, biV, bopV, copV, wdOf, asB_bl, lineOk0, lineOk1, lineOk2, lineOk3, lineOk4, optR_some, tyS, isi_int_non, isi_int_bl, isi_int_int, isi_int_str, isi_int_tup, isi_int_lst, isi_bool_non, isi_bool_bl, isi_bool_int, isi_bool_str, isi_bool_tup, isi_bool_lst, isi_str_non, isi_str_bl, isi_str_int, isi_str_str, isi_str_tup, isi_str_lst, isi_tuple_non, isi_tuple_bl, isi_tuple_int, isi_tuple_str, isi_tuple_tup, isi_tuple_lst, isi_int_dct, isi_bool_dct, isi_str_dct, isi_tuple_dct, D_is_fraction, L_is_fraction, b_is_fraction, isFr]
  | tup xs =>
    match xs, h with
    | [], h => simp [ev, sSeq, sAsg, sRet, sRetN, sE, sIf, sNil, sExpr, startE, f2, fVar, fCons, fNil, fTup, fIf, fAnd, fOr, fNot, fChain, gNm, bind_eq, pure_eq, bad_eq, biV, bopV, copV, wdOf, asB_bl, lineOk0, lineOk1, lineOk2, lineOk3, lineOk4, optR_some, tyS, isi_int_non, isi_int_bl, isi_int_int, isi_int_str, isi_int_tup, isi_int_lst, isi_bool_non, isi_bool_bl, isi_bool_int, isi_bool_str, isi_bool_tup, isi_bool_lst, isi_str_non, isi_str_bl, isi_str_int, isi_str_str, isi_str_tup, isi_str_lst, isi_tuple_non, isi_tuple_bl, isi_tuple_int, isi_tuple_str, isi_tuple_tup, isi_tuple_lst, isi_int_dct, isi_bool_dct, isi_str_dct, isi_tuple_dct, D_is_fraction, L_is_fraction, b_is_fraction, isFr, lenW_tup, neX_int]
    | [x], h => simp [ev, sSeq, sAsg, sRet, sRetN, sE, sIf, sNil, sExpr, startE, f2, fVar, fCons, fNil, fTup, fIf, fAnd, fOr, fNot, fChain, gNm, bind_eq, pure_eq, bad_eq, biV, bopV, copV, wdOf, asB_bl, lineOk0, lineOk1, lineOk2, lineOk3, lineOk4, optR_some, tyS, isi_int_non, isi_int_bl, isi_int_int, isi_int_str, isi_int_tup, isi_int_lst, isi_bool_non, isi_bool_bl, isi_bool_int, isi_bool_str, isi_bool_tup, isi_bool_lst, isi_str_non, isi_str_bl, isi_str_int, isi_str_str, isi_str_tup, isi_str_lst, isi_tuple_non, isi_tuple_bl, isi_tuple_int, isi_tuple_str, isi_tuple_tup, isi_tuple_lst, isi_int_dct, isi_bool_dct, isi_str_dct, isi_tuple_dct, D_is_fraction, L_is_fraction, b_is_fraction, isFr, lenW_tup, neX_int]
    | x :: y :: z :: r, h =>
      have : ¬ ((r.length : Int) + 1 + 1 + 1 = 2) := by omega
      simp [ev, sSeq, sAsg, sRet, sRetN, sE, sIf, sNil, sExpr, startE, f2, fVar, fCons, fNil, fTup, fIf, fAnd, fOr, fNot, fChain, gNm, bind_eq, pure_eq, bad_eq, biV, bopV, copV, wdOf, asB_bl, lineOk0, lineOk1, lineOk2, lineOk3, lineOk4, optR_some, tyS, isi_int_non, isi_int_bl, isi_int_int, isi_int_str, isi_int_tup, isi_int_lst, isi_bool_non, isi_bool_bl, isi_bool_int, isi_bool_str, isi_bool_tup, isi_bool_lst, isi_str_non, isi_str_bl, isi_str_int, isi_str_str, isi_str_tup, isi_str_lst, isi_tuple_non, isi_tuple_bl, isi_tuple_int, isi_tuple_str, isi_tuple_tup, isi_tuple_lst, isi_int_dct, isi_bool_dct, isi_str_dct, isi_tuple_dct, D_is_fraction, L_is_fraction, b_is_fraction, isFr, lenW_tup, neX_int, this]
    | [x, y], h =>
      simp only [pl, pls, Bool.and_eq_true, and_true] at h
      have h1 := is_integer_any h.1 M
      have h2 := is_integer_any h.2 M
      have x0 : idxW (.tup [x, y]) (.int 0) = pure x := rfl
      have x1 : idxW (.tup [x, y]) (.int 1) = pure y := rfl
      have i2 : lenW [.tup [x, y]] = pure (.int 2) := rfl
      cases hx : isI x with
      | false =>
        have : isFr (.tup [x, y]) = false := by cases x <;> simp [isFr, isI] at hx ⊢
        simp [ev, sSeq, sAsg, sRet, sRetN, sE, sIf, sNil, sExpr, startE, f2, fVar, fCons, fNil, fTup, fIf, fAnd, fOr, fNot, fChain, gNm, bind_eq, pure_eq, bad_eq, biV, bopV, copV, wdOf, asB_bl, lineOk0, lineOk1, lineOk2, lineOk3, lineOk4, optR_some, tyS, isi_int_non, isi_int_bl, isi_int_int, isi_int_str, isi_int_tup, isi_int_lst, isi_bool_non, isi_bool_bl, isi_bool_int, isi_bool_str, isi_bool_tup, isi_bool_lst, isi_str_non, isi_str_bl, isi_str_int, isi_str_str, isi_str_tup, isi_str_lst, isi_tuple_non, isi_tuple_bl, isi_tuple_int, isi_tuple_str, isi_tuple_tup, isi_tuple_lst, isi_int_dct, isi_bool_dct, isi_str_dct, isi_tuple_dct, i2, D_is_fraction, L_is_fraction, b_is_fraction, x0, x1, h1, hx, neX_int, this]
      | true =>
        cases hy : isI y with
        | false =>
          have : isFr (.tup [x, y]) = false := by cases x <;> cases y <;> simp [isFr, isI] at hx hy ⊢
          simp [ev, sSeq, sAsg, sRet, sRetN, sE, sIf, sNil, sExpr, startE, f2, fVar, fCons, fNil, fTup, fIf, fAnd, fOr, fNot, fChain, gNm, bind_eq, pure_eq, bad_eq, biV, bopV, copV, wdOf, asB_bl, lineOk0, lineOk1, lineOk2, lineOk3, lineOk4, optR_some, tyS, isi_int_non, isi_int_bl, isi_int_int, isi_int_str, isi_int_tup, isi_int_lst, isi_bool_non, isi_bool_bl, isi_bool_int, isi_bool_str, isi_bool_tup, isi_bool_lst, isi_str_non, isi_str_bl, isi_str_int, isi_str_str, isi_str_tup, isi_str_lst, isi_tuple_non, isi_tuple_bl, isi_tuple_int, isi_tuple_str, isi_tuple_tup, isi_tuple_lst, isi_int_dct, isi_bool_dct, isi_str_dct, isi_tuple_dct, i2, D_is_fraction, L_is_fraction, b_is_fraction, x0, x1, h1, h2, hx, hy, neX_int, this]
        | true =>
          obtain ⟨n, rfl⟩ : ∃ n, x = .int n := by cases x <;> simp [isI] at hx ⊢
          obtain ⟨d, rfl⟩ : ∃ d, y = .int d := by cases y <;> simp [isI] at hy ⊢
          simp only [pl, decide_eq_true_eq] at h
          rw [show isI (.int n) = true from rfl] at h1
          rw [show isI (.int d) = true from rfl] at h2
          unfold isFr
          by_cases c1 : 0 ≤ n
          · by_cases c2 : n ≤ d
            · by_cases c3 : 0 < d
              · have hc := cd_abs n d M (Nat.lt_of_lt_of_le h.1 (Nat.pow_le_pow_right (by omega) (by omega))) (Nat.lt_of_lt_of_le h.2 (Nat.pow_le_pow_right (by omega) (by omega)))
                rw [Int.natAbs_of_nonneg c1, Int.natAbs_of_nonneg (by omega : 0 ≤ d)] at hc
                have e1 : (decide (((Int.gcd n d : Nat) : Int) = 1)) = decide (Int.gcd n d = 1) := by simp only [decide_eq_decide]; omega
                simp [ev, sSeq, sAsg, sRet, sRetN, sE, sIf, sNil, sExpr, startE, f2, fVar, fCons, fNil, fTup, fIf, fAnd, fOr, fNot, fChain, gNm, bind_eq, pure_eq, bad_eq, biV, bopV, copV, wdOf, asB_bl, lineOk0, lineOk1, lineOk2, lineOk3, lineOk4, optR_some, tyS, isi_int_non, isi_int_bl, isi_int_int, isi_int_str, isi_int_tup, isi_int_lst, isi_bool_non, isi_bool_bl, isi_bool_int, isi_bool_str, isi_bool_tup, isi_bool_lst, isi_str_non, isi_str_bl, isi_str_int, isi_str_str, isi_str_tup, isi_str_lst, isi_tuple_non, isi_tuple_bl, isi_tuple_int, isi_tuple_str, isi_tuple_tup, isi_tuple_lst, isi_int_dct, isi_bool_dct, isi_str_dct, isi_tuple_dct, i2, D_is_fraction, L_is_fraction, b_is_fraction, x0, x1, h1, h2, neX_int, eqX_int, cmpW_int, c1, c2, c3, hc, e1]
              · simp [ev, sSeq, sAsg, sRet, sRetN, sE, sIf, sNil, sExpr, startE, f2, fVar, fCons, fNil, fTup, fIf, fAnd, fOr, fNot, fChain, gNm, bind_eq, pure_eq, bad_eq, biV, bopV, copV, wdOf, asB_bl, lineOk0, lineOk1, lineOk2, lineOk3, lineOk4, optR_some, tyS, isi_int_non, isi_int_bl, isi_int_int, isi_int_str, isi_int_tup, isi_int_lst, isi_bool_non, isi_bool_bl, isi_bool_int, isi_bool_str, isi_bool_tup, isi_bool_lst, isi_str_non, isi_str_bl, isi_str_int, isi_str_str, isi_str_tup, isi_str_lst, isi_tuple_non, isi_tuple_bl, isi_tuple_int, isi_tuple_str, isi_tuple_tup, isi_tuple_lst, isi_int_dct, isi_bool_dct, isi_str_dct, isi_tuple_dct, i2, D_is_fraction, L_is_fraction, b_is_fraction, x0, x1, h1, h2, neX_int, eqX_int, cmpW_int, c1, c2, c3]
            · simp [ev, sSeq, sAsg, sRet, sRetN, sE, sIf, sNil, sExpr, startE, f2, fVar, fCons, fNil, fTup, fIf, fAnd, fOr, fNot, fChain, gNm, bind_eq, pure_eq, bad_eq, biV, bopV, copV, wdOf, asB_bl, lineOk0, lineOk1, lineOk2, lineOk3, lineOk4, optR_some, tyS, isi_int_non, isi_int_bl, isi_int_int, isi_int_str, isi_int_tup, isi_int_lst, isi_bool_non, isi_bool_bl, isi_bool_int, isi_bool_str, isi_bool_tup, isi_bool_lst, isi_str_non, isi_str_bl, isi_str_int, isi_str_str, isi_str_tup, isi_str_lst, isi_tuple_non, isi_tuple_bl, isi_tuple_int, isi_tuple_str, isi_tuple_tup, isi_tuple_lst, isi_int_dct, isi_bool_dct, isi_str_dct, isi_tuple_dct, i2, D_is_fraction, L_is_fraction, b_is_fraction, x0, x1, h1, h2, neX_int, eqX_int, cmpW_int, c1, c2]
          · simp [ev, sSeq, sAsg, sRet, sRetN, sE, sIf, sNil, sExpr, startE, f2, fVar, fCons, fNil, fTup, fIf, fAnd, fOr, fNot, fChain, gNm, bind_eq, pure_eq, bad_eq, biV, bopV, copV, wdOf, asB_bl, lineOk0, lineOk1, lineOk2, lineOk3, lineOk4, optR_some, tyS, isi_int_non, isi_int_bl, isi_int_int, isi_int_str, isi_int_tup, isi_int_lst, isi_bool_non, isi_bool_bl, isi_bool_int, isi_bool_str, isi_bool_tup, isi_bool_lst, isi_str_non, isi_str_bl, isi_str_int, isi_str_str, isi_str_tup, isi_str_lst, isi_tuple_non, isi_tuple_bl, isi_tuple_int, isi_tuple_str, isi_tuple_tup, isi_tuple_lst, isi_int_dct, isi_bool_dct, isi_str_dct, isi_tuple_dct, i2, D_is_fraction, L_is_fraction, b_is_fraction, x0, x1, h1, h2, neX_int, eqX_int, cmpW_int, c1]
  | _ => simp [pl] at h
end R
set_option maxHeartbeats 1000000
namespace R
open PySem PySem.Spec L2
open PyProof.Rows hiding St
variable {K K2 : Nat}
/-! P13: tuples of fractions, lots, rows, habits: any plain value. -/
theorem lc_mapP {xs : List PV} {fi : Env → RM Wk} {vs : List Nat} {i : Nat} {f : Env → RM PV} {e : Env} {M : Mem} (φ : PV → PV) (hi : fi e M = .ok ⟨xs, []⟩ M) (hl : xs.length ≤ sizeLine) (h : ∀ a ∈ xs, ∀ M', f ((wipeE e vs).set i (some a)) M' = .ok (φ a) M' ∧ Da (φ a)) :
    fLc fi vs (gNm i) tNone f e M = .ok (.lst (xs.map φ)) M := lc_map (as := xs) (enc := fun x => x) φ (by simpa using hi) hl h
theorem szl {n : Nat} (h : n ≤ 1000) : n ≤ sizeLine := Nat.le_trans h (by rw [sizeLine_eq]; decide)
theorem eqX_frV (p q : Rat) : eqX (frV p) (frV q) = pure (.bl (decide (p = q))) := by
  have e := eqX_itup [p.num, (p.den : Int)] [q.num, (q.den : Int)]
  have e2 : decide ([p.num, (p.den : Int)] = [q.num, (q.den : Int)]) = decide (p = q) := by
    simp only [decide_eq_decide, List.cons.injEq, and_true]
    constructor
    · intro ⟨a, b⟩; exact Rat.ext a (by omega)
    · intro h; subst h; exact ⟨rfl, rfl⟩
  rw [e2] at e
  exact e
theorem neX_frV (p q : Rat) : neX (frV p) (frV q) = pure (.bl (!decide (p = q))) := by
  have e := eqX_frV p q
  have e1 : eqB (frV p) (frV q) = some (decide (p = q)) := by
    have d : dataOf (frV p) = some (iD [p.num, (p.den : Int)]) := rfl
    cases h : eqB (frV p) (frV q) with
    | some b =>
      rw [eqX_of h] at e
      have := congrFun e []
      simp [pure_eq] at this
      rw [this]
    | none =>
      have h1 := eqB_dt (dt_itup [p.num, (p.den : Int)]) (dt_itup [q.num, (q.den : Int)]) (by omega) (by omega)
      change eqB (frV p) (frV q) = _ at h1
      rw [h] at h1
      cases h1
  exact neX_of e1
def areFr (v : PV) (many : Int) : Bool := match v with
  | .tup xs => decide ((xs.length : Int) = many) && xs.all isFr
  | _ => false
theorem are_fractions_any {v : PV} (h : pl K v = true) (many : Int) (hm : many ≤ 1000) (M : Mem) (hK : K ≤ 3900 := by omega) : F_are_fractions [v, .int many] M = .ok (.bl (areFr v many)) M := by
  refine mk_pure rfl ?_ rfl
  cases v with
  | non => simp [ev, sSeq, sAsg, sRet, sRetN, sE, sIf, sNil, sExpr, startE, f2, fVar, fCons, fNil, fTup, fIf, fAnd, fOr, fNot, fChain, gNm, bind_eq, pure_eq, bad_eq, biV, bopV, copV, wdOf, asB_bl, lineOk0, lineOk1, lineOk2, lineOk3, lineOk4, optR_some, tyS, isi_int_non, isi_int_bl, isi_int_int, isi_int_str, isi_int_tup, isi_int_lst, isi_bool_non, isi_bool_bl, isi_bool_int, isi_bool_str, isi_bool_tup, isi_bool_lst, isi_str_non, isi_str_bl, isi_str_int, isi_str_str, isi_str_tup, isi_str_lst, isi_tuple_non, isi_tuple_bl, isi_tuple_int, isi_tuple_str, isi_tuple_tup, isi_tuple_lst, isi_int_dct, isi_bool_dct, isi_str_dct, isi_tuple_dct, b_are_fractions, areFr]
  | bl b => simp [ev, sSeq, sAsg, sRet, sRetN, sE, sIf, sNil, sExpr, startE, f2, fVar, fCons, fNil, fTup, fIf, fAnd, fOr, fNot, fChain, gNm, bind_eq, pure_eq, bad_eq, biV, bopV, copV, wdOf, asB_bl, lineOk0, lineOk1, lineOk2, lineOk3, lineOk4, optR_some, tyS, isi_int_non, isi_int_bl, isi_int_int, isi_int_str, isi_int_tup, isi_int_lst, isi_bool_non, isi_bool_bl, isi_bool_int, isi_bool_str, isi_bool_tup, isi_bool_lst, isi_str_non, isi_str_bl, isi_str_int, isi_str_str, isi_str_tup, isi_str_lst, isi_tuple_non, isi_tuple_bl, isi_tuple_int, isi_tuple_str, isi_tuple_tup, isi_tuple_lst, isi_int_dct, isi_bool_dct, isi_str_dct, isi_tuple_dct, b_are_fractions, areFr]
  | int b => simp [ev, sSeq, sAsg, sRet, sRetN, sE, sIf, sNil, sExpr, startE, f2, fVar, fCons, fNil, fTup, fIf, fAnd, fOr, fNot, fChain, gNm, bind_eq, pure_eq, bad_eq, biV, bopV, copV, wdOf, asB_bl, lineOk0, lineOk1, lineOk2, lineOk3, lineOk4, optR_some, tyS, isi_int_non, isi_int_bl, isi_int_int, isi_int_str, isi_int_tup, isi_int_lst, isi_bool_non, isi_bool_bl, isi_bool_int, isi_bool_str, isi_bool_tup, isi_bool_lst, isi_str_non, isi_str_bl, isi_str_int, isi_str_str, isi_str_tup, isi_str_lst, isi_tuple_non, isi_tuple_bl, isi_tuple_int, isi_tuple_str, isi_tuple_tup, isi_tuple_lst, isi_int_dct, isi_bool_dct, isi_str_dct, isi_tuple_dct, b_are_fractions, areFr]
  | str b => simp [ev, sSeq, sAsg, sRet, sRetN, sE, sIf, sNil, sExpr, startE, f2, fVar, fCons, fNil, fTup, fIf, fAnd, fOr, fNot, fChain, gNm, bind_eq, pure_eq, bad_eq, biV, bopV, copV, wdOf, asB_bl, lineOk0, lineOk1, lineOk2, lineOk3, lineOk4, optR_some, tyS, isi_int_non, isi_int_bl, isi_int_int, isi_int_str, isi_int_tup, isi_int_lst, isi_bool_non, isi_bool_bl, isi_bool_int, isi_bool_str, isi_bool_tup, isi_bool_lst, isi_str_non, isi_str_bl, isi_str_int, isi_str_str, isi_str_tup, isi_str_lst, isi_tuple_non, isi_tuple_bl, isi_tuple_int, isi_tuple_str, isi_tuple_tup, isi_tuple_lst, isi_int_dct, isi_bool_dct, isi_str_dct, isi_tuple_dct, b_are_fractions, areFr]
  | lst b => simp [ev, sSeq, sAsg, sRet, sRetN, sE, sIf, sNil, sExpr, startE, f2, fVar, fCons, fNil, fTup, fIf, fAnd, fOr, fNot, fChain, gNm, bind_eq, pure_eq, bad_eq, biV, bopV, copV, wdOf, asB_bl, lineOk0, lineOk1, lineOk2, lineOk3, lineOk4, optR_some, tyS, isi_int_non, isi_int_bl, isi_int_int, isi_int_str, isi_int_tup, isi_int_lst, isi_bool_non, isi_bool_bl, isi_bool_int, isi_bool_str, isi_bool_tup, isi_bool_lst, isi_str_non, isi_str_bl, isi_str_int, isi_str_str, isi_str_tup, isi_str_lst, isi_tuple_non, isi_tuple_bl, isi_tuple_int, isi_tuple_str, isi_tuple_tup, isi_tuple_lst, isi_int_dct, isi_bool_dct, isi_str_dct, isi_tuple_dct, b_are_fractions, areFr]
  | dct a b => simp [ev, sSeq, sAsg, sRet, sRetN, sE, sIf, sNil, sExpr, startE, f2, fVar, fCons, fNil, fTup, fIf, fAnd, fOr, fNot, fChain, gNm, bind_eq, pure_eq, bad_eq, biV, bopV, copV, wdOf, asB_bl, lineOk0, lineOk1, lineOk2, lineOk3, lineOk4, optR_some, tyS, isi_int_non, isi_int_bl, isi_int_int, isi_int_str, isi_int_tup, isi_int_lst, isi_bool_non, isi_bool_bl, isi_bool_int, isi_bool_str, isi_bool_tup, isi_bool_lst, isi_str_non, isi_str_bl, isi_str_int, isi_str_str, isi_str_tup, isi_str_lst, isi_tuple_non, isi_tuple_bl, isi_tuple_int, isi_tuple_str, isi_tuple_tup, isi_tuple_lst, isi_int_dct, isi_bool_dct, isi_str_dct, isi_tuple_dct, b_are_fractions, areFr]
  | tup xs =>
    simp only [pl] at h
    by_cases hl : (xs.length : Int) = many
    · have hc := lc_mapP (xs := xs) (fi := fun e => ev D_are_fractions (.var 0) e >>= wkOf) (vs := [2]) (i := 2) (f := ev D_are_fractions (.call 0 (.cons (.var 2) .nil))) (e := [some (.tup xs), some (.int many), none]) (M := M)
        (fun q => .bl (isFr q)) rfl (szl (by omega)) (fun q hq1 M' => by
          have := is_fraction_any (pls_iff.mp h q hq1) M'
          refine ⟨?_, rfl⟩
          simp [ev, sSeq, sAsg, sRet, sRetN, sE, sIf, sNil, sExpr, startE, f2, fVar, fCons, fNil, fTup, fIf, fAnd, fOr, fNot, fChain, gNm, bind_eq, pure_eq, bad_eq, biV, bopV, copV, wdOf, asB_bl, lineOk0, lineOk1, lineOk2, lineOk3, lineOk4, optR_some, wipeE, D_are_fractions, L_are_fractions, this])
      simp [ev, sSeq, sAsg, sRet, sRetN, sE, sIf, sNil, sExpr, startE, f2, fVar, fCons, fNil, fTup, fIf, fAnd, fOr, fNot, fChain, gNm, bind_eq, pure_eq, bad_eq, biV, bopV, copV, wdOf, asB_bl, lineOk0, lineOk1, lineOk2, lineOk3, lineOk4, optR_some] at hc
      simp [ev, sSeq, sAsg, sRet, sRetN, sE, sIf, sNil, sExpr, startE, f2, fVar, fCons, fNil, fTup, fIf, fAnd, fOr, fNot, fChain, gNm, bind_eq, pure_eq, bad_eq, biV, bopV, copV, wdOf, asB_bl, lineOk0, lineOk1, lineOk2, lineOk3, lineOk4, optR_some, tyS, isi_int_non, isi_int_bl, isi_int_int, isi_int_str, isi_int_tup, isi_int_lst, isi_bool_non, isi_bool_bl, isi_bool_int, isi_bool_str, isi_bool_tup, isi_bool_lst, isi_str_non, isi_str_bl, isi_str_int, isi_str_str, isi_str_tup, isi_str_lst, isi_tuple_non, isi_tuple_bl, isi_tuple_int, isi_tuple_str, isi_tuple_tup, isi_tuple_lst, isi_int_dct, isi_bool_dct, isi_str_dct, isi_tuple_dct, b_are_fractions, lenW_tup, eqX_int, hl, hc, allW_map, areFr]
    · simp [ev, sSeq, sAsg, sRet, sRetN, sE, sIf, sNil, sExpr, startE, f2, fVar, fCons, fNil, fTup, fIf, fAnd, fOr, fNot, fChain, gNm, bind_eq, pure_eq, bad_eq, biV, bopV, copV, wdOf, asB_bl, lineOk0, lineOk1, lineOk2, lineOk3, lineOk4, optR_some, tyS, isi_int_non, isi_int_bl, isi_int_int, isi_int_str, isi_int_tup, isi_int_lst, isi_bool_non, isi_bool_bl, isi_bool_int, isi_bool_str, isi_bool_tup, isi_bool_lst, isi_str_non, isi_str_bl, isi_str_int, isi_str_str, isi_str_tup, isi_str_lst, isi_tuple_non, isi_tuple_bl, isi_tuple_int, isi_tuple_str, isi_tuple_tup, isi_tuple_lst, isi_int_dct, isi_bool_dct, isi_str_dct, isi_tuple_dct, b_are_fractions, lenW_tup, eqX_int, hl, areFr]
  | _ => simp [pl] at h
theorem intsOf_some : ∀ {xs : List PV} {l : List Int}, intsOf xs = some l → xs = l.map PV.int
  | [], l, h => by simp [intsOf] at h; subst h; rfl
  | x :: xs, l, h => by
    cases x with
    | int i =>
      simp only [intsOf, Option.map_eq_some_iff] at h
      obtain ⟨m, h1, rfl⟩ := h
      simp [intsOf_some h1]
    | _ => simp [intsOf] at h
theorem intsOf_btw {a b : Int} : ∀ {xs : List PV}, (xs.all fun x => btw x a b) = true → ∃ l, intsOf xs = some l
  | [], _ => ⟨[], rfl⟩
  | x :: xs, h => by
    rw [List.all_cons, Bool.and_eq_true] at h
    obtain ⟨l, e⟩ := intsOf_btw h.2
    cases x with
    | int i => exact ⟨i :: l, by simp [intsOf, e]⟩
    | _ => simp [btw] at h
/-- an ascending tuple of numbers below many -/
def isLot (v : PV) (many : Int) : Bool := match v with
  | .tup xs => match intsOf xs with
    | some l => (l.all fun c => decide (0 ≤ c) && decide (c ≤ many - 1)) && ascB l
    | none => false
  | _ => false
theorem isLot_itup (l : List Int) (many : Int) : isLot (itup l) many = ((l.all fun c => decide (0 ≤ c) && decide (c ≤ many - 1)) && ascB l) := by
  unfold isLot itup
  simp only [intsOf_map]
theorem is_lot_any {v : PV} (h : pl K v = true) (many : Int) (M : Mem) (hl : ∀ xs, v = .tup xs → xs.length ≤ 1000) : F_is_lot [v, .int many] M = .ok (.bl (isLot v many)) M := by
  cases v with
  | tup xs =>
    have hl := hl xs rfl
    cases e : intsOf xs with
    | some l =>
      have := intsOf_some e
      subst this
      rw [show PV.tup (l.map PV.int) = itup l from rfl, isLot_itup]
      exact F_is_lot_ok l many M (by simpa using hl)
    | none =>
      refine mk_pure rfl ?_ rfl
      have hf : (xs.all fun x => btw x 0 (many - 1)) = false := by
        cases q : (xs.all fun x => btw x 0 (many - 1)) with
        | false => rfl
        | true => obtain ⟨l, e2⟩ := intsOf_btw q; rw [e] at e2; cases e2
      simp only [pl] at h
      have hc := lc_mapP (xs := xs) (fi := fun e => ev D_is_lot (.var 0) e >>= wkOf) (vs := [2]) (i := 2) (f := ev D_is_lot (.call 0 (.cons (.var 2) (.cons (.int 0) (.cons (.bin .sub (.var 1) (.int 1)) .nil))))) (e := [some (.tup xs), some (.int many), none]) (M := M)
        (fun c => .bl (btw c 0 (many - 1))) rfl (szl hl) (fun c hc M' => by
          have := is_between_any (pls_iff.mp h c hc) 0 (many - 1) M'
          refine ⟨?_, rfl⟩
          simp [ev, sSeq, sAsg, sRet, sRetN, sE, sIf, sNil, sExpr, startE, f2, fVar, fCons, fNil, fTup, fIf, fAnd, fOr, fNot, fChain, gNm, bind_eq, pure_eq, bad_eq, biV, bopV, copV, wdOf, asB_bl, lineOk0, lineOk1, lineOk2, lineOk3, lineOk4, optR_some, wipeE, subV_int, D_is_lot, L_is_lot, this])
      have al := allW_map (fun c => btw c 0 (many - 1)) xs
      rw [hf] at al
      simp [ev, sSeq, sAsg, sRet, sRetN, sE, sIf, sNil, sExpr, startE, f2, fVar, fCons, fNil, fTup, fIf, fAnd, fOr, fNot, fChain, gNm, bind_eq, pure_eq, bad_eq, biV, bopV, copV, wdOf, asB_bl, lineOk0, lineOk1, lineOk2, lineOk3, lineOk4, optR_some] at hc
      simp [ev, sSeq, sAsg, sRet, sRetN, sE, sIf, sNil, sExpr, startE, f2, fVar, fCons, fNil, fTup, fIf, fAnd, fOr, fNot, fChain, gNm, bind_eq, pure_eq, bad_eq, biV, bopV, copV, wdOf, asB_bl, lineOk0, lineOk1, lineOk2, lineOk3, lineOk4, optR_some, tyS, isi_int_non, isi_int_bl, isi_int_int, isi_int_str, isi_int_tup, isi_int_lst, isi_bool_non, isi_bool_bl, isi_bool_int, isi_bool_str, isi_bool_tup, isi_bool_lst, isi_str_non, isi_str_bl, isi_str_int, isi_str_str, isi_str_tup, isi_str_lst, isi_tuple_non, isi_tuple_bl, isi_tuple_int, isi_tuple_str, isi_tuple_tup, isi_tuple_lst, isi_int_dct, isi_bool_dct, isi_str_dct, isi_tuple_dct, b_is_lot, hc, al, isLot, e]
  | non => refine mk_pure rfl ?_ rfl; simp [ev, sSeq, sAsg, sRet, sRetN, sE, sIf, sNil, sExpr, startE, f2, fVar, fCons, fNil, fTup, fIf, fAnd, fOr, fNot, fChain, gNm, bind_eq, pure_eq, bad_eq, biV, bopV, copV, wdOf, asB_bl, lineOk0, lineOk1, lineOk2, lineOk3, lineOk4, optR_some, tyS, isi_int_non, isi_int_bl, isi_int_int, isi_int_str, isi_int_tup, isi_int_lst, isi_bool_non, isi_bool_bl, isi_bool_int, isi_bool_str, isi_bool_tup, isi_bool_lst, isi_str_non, isi_str_bl, isi_str_int, isi_str_str, isi_str_tup, isi_str_lst, isi_tuple_non, isi_tuple_bl, isi_tuple_int, isi_tuple_str, isi_tuple_tup, isi_tuple_lst, isi_int_dct, isi_bool_dct, isi_str_dct, isi_tuple_dct, b_is_lot, isLot]
  | bl b => refine mk_pure rfl ?_ rfl; simp [ev, sSeq, sAsg, sRet, sRetN, sE, sIf, sNil, sExpr, startE, f2, fVar, fCons, fNil, fTup, fIf, fAnd, fOr, fNot, fChain, gNm, bind_eq, pure_eq, bad_eq, biV, bopV, copV, wdOf, asB_bl, lineOk0, lineOk1, lineOk2, lineOk3, lineOk4, optR_some, tyS, isi_int_non, isi_int_bl, isi_int_int, isi_int_str, isi_int_tup, isi_int_lst, isi_bool_non, isi_bool_bl, isi_bool_int, isi_bool_str, isi_bool_tup, isi_bool_lst, isi_str_non, isi_str_bl, isi_str_int, isi_str_str, isi_str_tup, isi_str_lst, isi_tuple_non, isi_tuple_bl, isi_tuple_int, isi_tuple_str, isi_tuple_tup, isi_tuple_lst, isi_int_dct, isi_bool_dct, isi_str_dct, isi_tuple_dct, b_is_lot, isLot]
  | int b => refine mk_pure rfl ?_ rfl; simp [ev, sSeq, sAsg, sRet, sRetN, sE, sIf, sNil, sExpr, startE, f2, fVar, fCons, fNil, fTup, fIf, fAnd, fOr, fNot, fChain, gNm, bind_eq, pure_eq, bad_eq, biV, bopV, copV, wdOf, asB_bl, lineOk0, lineOk1, lineOk2, lineOk3, lineOk4, optR_some, tyS, isi_int_non, isi_int_bl, isi_int_int, isi_int_str, isi_int_tup, isi_int_lst, isi_bool_non, isi_bool_bl, isi_bool_int, isi_bool_str, isi_bool_tup, isi_bool_lst, isi_str_non, isi_str_bl, isi_str_int, isi_str_str, isi_str_tup, isi_str_lst, isi_tuple_non, isi_tuple_bl, isi_tuple_int, isi_tuple_str, isi_tuple_tup, isi_tuple_lst, isi_int_dct, isi_bool_dct, isi_str_dct, isi_tuple_dct, b_is_lot, isLot]
  | str b => refine mk_pure rfl ?_ rfl; simp [ev, sSeq, sAsg, sRet, sRetN, sE, sIf, sNil, sExpr, startE, f2, fVar, fCons, fNil, fTup, fIf, fAnd, fOr, fNot, fChain, gNm, bind_eq, pure_eq, bad_eq, biV, bopV, copV, wdOf, asB_bl, lineOk0, lineOk1, lineOk2, lineOk3, lineOk4, optR_some, tyS, isi_int_non, isi_int_bl, isi_int_int, isi_int_str, isi_int_tup, isi_int_lst, isi_bool_non, isi_bool_bl, isi_bool_int, isi_bool_str, isi_bool_tup, isi_bool_lst, isi_str_non, isi_str_bl, isi_str_int, isi_str_str, isi_str_tup, isi_str_lst, isi_tuple_non, isi_tuple_bl, isi_tuple_int, isi_tuple_str, isi_tuple_tup, isi_tuple_lst, isi_int_dct, isi_bool_dct, isi_str_dct, isi_tuple_dct, b_is_lot, isLot]
  | lst b => refine mk_pure rfl ?_ rfl; simp [ev, sSeq, sAsg, sRet, sRetN, sE, sIf, sNil, sExpr, startE, f2, fVar, fCons, fNil, fTup, fIf, fAnd, fOr, fNot, fChain, gNm, bind_eq, pure_eq, bad_eq, biV, bopV, copV, wdOf, asB_bl, lineOk0, lineOk1, lineOk2, lineOk3, lineOk4, optR_some, tyS, isi_int_non, isi_int_bl, isi_int_int, isi_int_str, isi_int_tup, isi_int_lst, isi_bool_non, isi_bool_bl, isi_bool_int, isi_bool_str, isi_bool_tup, isi_bool_lst, isi_str_non, isi_str_bl, isi_str_int, isi_str_str, isi_str_tup, isi_str_lst, isi_tuple_non, isi_tuple_bl, isi_tuple_int, isi_tuple_str, isi_tuple_tup, isi_tuple_lst, isi_int_dct, isi_bool_dct, isi_str_dct, isi_tuple_dct, b_is_lot, isLot]
  | dct a b => refine mk_pure rfl ?_ rfl; simp [ev, sSeq, sAsg, sRet, sRetN, sE, sIf, sNil, sExpr, startE, f2, fVar, fCons, fNil, fTup, fIf, fAnd, fOr, fNot, fChain, gNm, bind_eq, pure_eq, bad_eq, biV, bopV, copV, wdOf, asB_bl, lineOk0, lineOk1, lineOk2, lineOk3, lineOk4, optR_some, tyS, isi_int_non, isi_int_bl, isi_int_int, isi_int_str, isi_int_tup, isi_int_lst, isi_bool_non, isi_bool_bl, isi_bool_int, isi_bool_str, isi_bool_tup, isi_bool_lst, isi_str_non, isi_str_bl, isi_str_int, isi_str_str, isi_str_tup, isi_str_lst, isi_tuple_non, isi_tuple_bl, isi_tuple_int, isi_tuple_str, isi_tuple_tup, isi_tuple_lst, isi_int_dct, isi_bool_dct, isi_str_dct, isi_tuple_dct, b_is_lot, isLot]
  | _ => simp [pl] at h
end R
set_option maxHeartbeats 1000000
namespace R
open PySem PySem.Spec L2
open PyProof.Rows hiding St
variable {K K2 : Nat}
/-! P14: rows and habits, any plain value. -/
theorem frs_eq : ∀ {xs : List PV}, xs.all isFr = true → xs = (xs.map ratOf).map frV
  | [], _ => rfl
  | x :: xs, h => by
    rw [List.all_cons, Bool.and_eq_true] at h
    have e := (isFr_ok h.1).1
    have ih := frs_eq h.2
    rw [List.map_cons, List.map_cons, ← ih, ← e]
theorem map_frV_all {qs : List Rat} (h : ∀ q ∈ qs, okF q = true) : (qs.map frV).all isFr = true := by
  rw [List.all_map, List.all_eq_true]
  intro q hq
  simp [isFr_frV, h q hq]
theorem map_ratOf_frV (qs : List Rat) : (qs.map frV).map ratOf = qs := by
  rw [List.map_map]
  conv => rhs; rw [← List.map_id qs]
  exact List.map_congr_left fun q _ => ratOf_frV q
/-- the chances of a case, by the words -/
def isRow (wo : List (List Int)) (c : Int) (v : PV) : Bool := match v with
  | .tup xs => decide (xs.length = wo.length) && (xs.all isFr && (decide (rsum (xs.map ratOf) = 1) && (nums wo).all fun p => decide ((xs.map ratOf).getD p.1 0 = 0) || decide (c ∈ p.2)))
  | _ => false
theorem mem_nums {α : Type} {l : List α} {p : Nat × α} (h : p ∈ nums l) : l[p.1]? = some p.2 := by
  unfold nums at h
  obtain ⟨i, hi⟩ := List.mem_iff_getElem?.mp h
  rw [List.getElem?_zip_eq_some] at hi
  obtain ⟨h1, h2⟩ := hi
  have h3 := (List.getElem?_eq_some_iff.mp h1)
  obtain ⟨h4, h5⟩ := h3
  rw [List.getElem_range] at h5
  rw [← h5]
  exact h2
theorem is_habit_in_any (lo : List Int) (wo : List (List Int)) (c : Int) {v : PV} (h : pl K v = true) (M : Mem) (hw : wo.length ≤ 16) (hK : K ≤ 100 := by omega) : F_is_habit_in [tel lo wo, .int c, v] M = .ok (.bl (isRow wo c v)) M := by
  refine mk_pure rfl ?_ rfl
  have p1 := prop_tel (F_sayings_ok lo wo M)
  simp [bind_eq] at p1
  cases v with
  | non => simp [ev, sSeq, sAsg, sRet, sRetN, sE, sIf, sNil, sExpr, startE, f2, fVar, fCons, fNil, fTup, fIf, fAnd, fOr, fNot, fChain, gNm, bind_eq, pure_eq, bad_eq, biV, bopV, copV, wdOf, asB_bl, lineOk0, lineOk1, lineOk2, lineOk3, lineOk4, optR_some, tyS, isi_int_non, isi_int_bl, isi_int_int, isi_int_str, isi_int_tup, isi_int_lst, isi_bool_non, isi_bool_bl, isi_bool_int, isi_bool_str, isi_bool_tup, isi_bool_lst, isi_str_non, isi_str_bl, isi_str_int, isi_str_str, isi_str_tup, isi_str_lst, isi_tuple_non, isi_tuple_bl, isi_tuple_int, isi_tuple_str, isi_tuple_tup, isi_tuple_lst, isi_int_dct, isi_bool_dct, isi_str_dct, isi_tuple_dct, b_is_habit_in, isRow]
  | bl b => simp [ev, sSeq, sAsg, sRet, sRetN, sE, sIf, sNil, sExpr, startE, f2, fVar, fCons, fNil, fTup, fIf, fAnd, fOr, fNot, fChain, gNm, bind_eq, pure_eq, bad_eq, biV, bopV, copV, wdOf, asB_bl, lineOk0, lineOk1, lineOk2, lineOk3, lineOk4, optR_some, tyS, isi_int_non, isi_int_bl, isi_int_int, isi_int_str, isi_int_tup, isi_int_lst, isi_bool_non, isi_bool_bl, isi_bool_int, isi_bool_str, isi_bool_tup, isi_bool_lst, isi_str_non, isi_str_bl, isi_str_int, isi_str_str, isi_str_tup, isi_str_lst, isi_tuple_non, isi_tuple_bl, isi_tuple_int, isi_tuple_str, isi_tuple_tup, isi_tuple_lst, isi_int_dct, isi_bool_dct, isi_str_dct, isi_tuple_dct, b_is_habit_in, isRow]
  | int b => simp [ev, sSeq, sAsg, sRet, sRetN, sE, sIf, sNil, sExpr, startE, f2, fVar, fCons, fNil, fTup, fIf, fAnd, fOr, fNot, fChain, gNm, bind_eq, pure_eq, bad_eq, biV, bopV, copV, wdOf, asB_bl, lineOk0, lineOk1, lineOk2, lineOk3, lineOk4, optR_some, tyS, isi_int_non, isi_int_bl, isi_int_int, isi_int_str, isi_int_tup, isi_int_lst, isi_bool_non, isi_bool_bl, isi_bool_int, isi_bool_str, isi_bool_tup, isi_bool_lst, isi_str_non, isi_str_bl, isi_str_int, isi_str_str, isi_str_tup, isi_str_lst, isi_tuple_non, isi_tuple_bl, isi_tuple_int, isi_tuple_str, isi_tuple_tup, isi_tuple_lst, isi_int_dct, isi_bool_dct, isi_str_dct, isi_tuple_dct, b_is_habit_in, isRow]
  | str b => simp [ev, sSeq, sAsg, sRet, sRetN, sE, sIf, sNil, sExpr, startE, f2, fVar, fCons, fNil, fTup, fIf, fAnd, fOr, fNot, fChain, gNm, bind_eq, pure_eq, bad_eq, biV, bopV, copV, wdOf, asB_bl, lineOk0, lineOk1, lineOk2, lineOk3, lineOk4, optR_some, tyS, isi_int_non, isi_int_bl, isi_int_int, isi_int_str, isi_int_tup, isi_int_lst, isi_bool_non, isi_bool_bl, isi_bool_int, isi_bool_str, isi_bool_tup, isi_bool_lst, isi_str_non, isi_str_bl, isi_str_int, isi_str_str, isi_str_tup, isi_str_lst, isi_tuple_non, isi_tuple_bl, isi_tuple_int, isi_tuple_str, isi_tuple_tup, isi_tuple_lst, isi_int_dct, isi_bool_dct, isi_str_dct, isi_tuple_dct, b_is_habit_in, isRow]
  | lst b => simp [ev, sSeq, sAsg, sRet, sRetN, sE, sIf, sNil, sExpr, startE, f2, fVar, fCons, fNil, fTup, fIf, fAnd, fOr, fNot, fChain, gNm, bind_eq, pure_eq, bad_eq, biV, bopV, copV, wdOf, asB_bl, lineOk0, lineOk1, lineOk2, lineOk3, lineOk4, optR_some, tyS, isi_int_non, isi_int_bl, isi_int_int, isi_int_str, isi_int_tup, isi_int_lst, isi_bool_non, isi_bool_bl, isi_bool_int, isi_bool_str, isi_bool_tup, isi_bool_lst, isi_str_non, isi_str_bl, isi_str_int, isi_str_str, isi_str_tup, isi_str_lst, isi_tuple_non, isi_tuple_bl, isi_tuple_int, isi_tuple_str, isi_tuple_tup, isi_tuple_lst, isi_int_dct, isi_bool_dct, isi_str_dct, isi_tuple_dct, b_is_habit_in, isRow]
  | dct a b => simp [ev, sSeq, sAsg, sRet, sRetN, sE, sIf, sNil, sExpr, startE, f2, fVar, fCons, fNil, fTup, fIf, fAnd, fOr, fNot, fChain, gNm, bind_eq, pure_eq, bad_eq, biV, bopV, copV, wdOf, asB_bl, lineOk0, lineOk1, lineOk2, lineOk3, lineOk4, optR_some, tyS, isi_int_non, isi_int_bl, isi_int_int, isi_int_str, isi_int_tup, isi_int_lst, isi_bool_non, isi_bool_bl, isi_bool_int, isi_bool_str, isi_bool_tup, isi_bool_lst, isi_str_non, isi_str_bl, isi_str_int, isi_str_str, isi_str_tup, isi_str_lst, isi_tuple_non, isi_tuple_bl, isi_tuple_int, isi_tuple_str, isi_tuple_tup, isi_tuple_lst, isi_int_dct, isi_bool_dct, isi_str_dct, isi_tuple_dct, b_is_habit_in, isRow]
  | tup xs =>
    simp only [pl] at h
    by_cases hl : xs.length = wo.length
    · have hli : (xs.length : Int) = wo.length := by omega
      have hc := lc_mapP (xs := xs) (fi := fun e => ev D_is_habit_in (.var 2) e >>= wkOf) (vs := [5]) (i := 5) (f := ev D_is_habit_in (.call 1 (.cons (.var 5) .nil))) (e := [some (tel lo wo), some (.int c), some (.tup xs), none, none, none]) (M := M)
        (fun q => .bl (isFr q)) rfl (szl (by omega)) (fun q hq1 M' => by
          have := is_fraction_any (pls_iff.mp h q hq1) M'
          refine ⟨?_, rfl⟩
          simp [ev, sSeq, sAsg, sRet, sRetN, sE, sIf, sNil, sExpr, startE, f2, fVar, fCons, fNil, fTup, fIf, fAnd, fOr, fNot, fChain, gNm, bind_eq, pure_eq, bad_eq, biV, bopV, copV, wdOf, asB_bl, lineOk0, lineOk1, lineOk2, lineOk3, lineOk4, optR_some, wipeE, D_is_habit_in, L_is_habit_in, this])
      have al := allW_map isFr xs
      by_cases hf : xs.all isFr = true
      · have exs := frs_eq hf
        have hsz : ∀ q ∈ xs.map ratOf, Sz 100 q := by
          intro q hq
          obtain ⟨x, hx, rfl⟩ := List.mem_map.mp hq
          exact (isFr_sz (List.all_eq_true.mp hf x hx) (pls_iff.mp h x hx)).mono hK
        have hle : (xs.map ratOf).length = wo.length := by simpa using hl
        have tot := (F_total_ok (v := .tup xs) (qs := xs.map ratOf) (k := 100) M (by rw [← exs]; rfl) hsz (by omega)).1
        have hget : ∀ p ∈ nums wo, idxW (.tup xs) (.int (p.1 : Nat)) = pure (frV ((xs.map ratOf).getD p.1 0)) := by
          intro p hp
          have h1 := (List.getElem?_eq_some_iff.mp (mem_nums hp)).1
          refine idx_tup (by omega) ?_
          rw [exs]
          simp only [Int.toNat_natCast, List.getElem?_map, List.map_map]
          have h2 : p.1 < xs.length := by omega
          simp [List.getElem?_eq_getElem h2, ratOf_frV]
        by_cases ht : rsum (xs.map ratOf) = 1
        · have hc2 := lc_gen (as := nums wo) (enc := fun q => .tup [.int (q.1 : Nat), itup q.2]) (fi := ev D_is_habit_in (.enum (.prop 0 (.var 0)))) (vs := [3, 4]) (g := gSq 2 (gsCons (gNm 3) (gsCons (gNm 4) gsNil))) (t := tNone) (f := ev D_is_habit_in (.or_ (.cmp .eq (.idx (.var 2) (.var 3)) (.gv 1)) (.or1 (.cmp .in_ (.var 1) (.var 4)))))
            (e := [some (tel lo wo), some (.int c), some (.tup xs), none, none, none]) (M := M) (fun q => [some (tel lo wo), some (.int c), some (.tup xs), some (.int (q.1 : Nat)), some (itup q.2), none]) (fun q => true) (fun p => .bl (decide ((xs.map ratOf).getD p.1 0 = 0) || decide (c ∈ p.2)))
            (by simp [ev, sSeq, sAsg, sRet, sRetN, sE, sIf, sNil, sExpr, startE, f2, fVar, fCons, fNil, fTup, fIf, fAnd, fOr, fNot, fChain, gNm, bind_eq, pure_eq, bad_eq, biV, bopV, copV, wdOf, asB_bl, lineOk0, lineOk1, lineOk2, lineOk3, lineOk4, optR_some, D_is_habit_in, L_is_habit_in, mclOf, p1, enumW_tup, numbered_map]) (by rw [nums_len]; exact szl (by omega))
            (fun q _ M' => by simp [ev, sSeq, sAsg, sRet, sRetN, sE, sIf, sNil, sExpr, startE, f2, fVar, fCons, fNil, fTup, fIf, fAnd, fOr, fNot, fChain, gNm, bind_eq, pure_eq, bad_eq, biV, bopV, copV, wdOf, asB_bl, lineOk0, lineOk1, lineOk2, lineOk3, lineOk4, optR_some, gSq, gsCons, gsNil, seqW_tup, wipeE])
            (fun q _ M' => rfl)
            (fun q hq _ M' => ⟨by
              have h3 := eqX_frV ((xs.map ratOf).getD q.1 0) 0
              have h4 := hget q hq
              rw [← fr0] at h3
              by_cases hz : (xs.map ratOf).getD q.1 0 = 0
              · generalize (xs.map ratOf).getD q.1 0 = z at *
                simp only [hz, decide_true] at h3 h4
                simp [ev, sSeq, sAsg, sRet, sRetN, sE, sIf, sNil, sExpr, startE, f2, fVar, fCons, fNil, fTup, fIf, fAnd, fOr, fNot, fChain, gNm, bind_eq, pure_eq, bad_eq, biV, bopV, copV, wdOf, asB_bl, lineOk0, lineOk1, lineOk2, lineOk3, lineOk4, optR_some, D_is_habit_in, L_is_habit_in, h4, h3, hz]
              · simp only [hz, decide_false] at h3
                generalize (xs.map ratOf).getD q.1 0 = z at *
                simp [ev, sSeq, sAsg, sRet, sRetN, sE, sIf, sNil, sExpr, startE, f2, fVar, fCons, fNil, fTup, fIf, fAnd, fOr, fNot, fChain, gNm, bind_eq, pure_eq, bad_eq, biV, bopV, copV, wdOf, asB_bl, lineOk0, lineOk1, lineOk2, lineOk3, lineOk4, optR_some, D_is_habit_in, L_is_habit_in, h4, h3, hz, inX_itup], rfl⟩)
          have al2 := allW_map (fun p : Nat × List Int => decide ((xs.map ratOf).getD p.1 0 = 0) || decide (c ∈ p.2)) (nums wo)
          have n1 := neX_frV 1 1
          rw [← fr1] at n1
          have er : isRow wo c (.tup xs) = (nums wo).all fun p => decide ((xs.map ratOf).getD p.1 0 = 0) || decide (c ∈ p.2) := by
            unfold isRow; simp only [hl, hf, ht, decide_true, Bool.true_and]
          rw [er]
          rw [ht, ← fr1] at tot
          rw [hf] at al
          have nt : (List.filter (fun q : Nat × List Int => true) (nums wo)) = nums wo := by simp
          rw [nt] at hc2
          generalize ((nums wo).map fun p => PV.bl (decide ((xs.map ratOf).getD p.1 0 = 0) || decide (c ∈ p.2))) = zs at *
          generalize ((nums wo).all fun p => decide ((xs.map ratOf).getD p.1 0 = 0) || decide (c ∈ p.2)) = bb at *
          simp [ev, sSeq, sAsg, sRet, sRetN, sE, sIf, sNil, sExpr, startE, f2, fVar, fCons, fNil, fTup, fIf, fAnd, fOr, fNot, fChain, gNm, bind_eq, pure_eq, bad_eq, biV, bopV, copV, wdOf, asB_bl, lineOk0, lineOk1, lineOk2, lineOk3, lineOk4, optR_some, D_is_habit_in, L_is_habit_in, mclOf] at hc hc2
          simp [ev, sSeq, sAsg, sRet, sRetN, sE, sIf, sNil, sExpr, startE, f2, fVar, fCons, fNil, fTup, fIf, fAnd, fOr, fNot, fChain, gNm, bind_eq, pure_eq, bad_eq, biV, bopV, copV, wdOf, asB_bl, lineOk0, lineOk1, lineOk2, lineOk3, lineOk4, optR_some, tyS, isi_int_non, isi_int_bl, isi_int_int, isi_int_str, isi_int_tup, isi_int_lst, isi_bool_non, isi_bool_bl, isi_bool_int, isi_bool_str, isi_bool_tup, isi_bool_lst, isi_str_non, isi_str_bl, isi_str_int, isi_str_str, isi_str_tup, isi_str_lst, isi_tuple_non, isi_tuple_bl, isi_tuple_int, isi_tuple_str, isi_tuple_tup, isi_tuple_lst, isi_int_dct, isi_bool_dct, isi_str_dct, isi_tuple_dct, b_is_habit_in, D_is_habit_in, L_is_habit_in, mclOf, p1, lenW_tup, neX_int, hl, hc, hc2, al, al2, tot, n1]
        · have n1 := neX_frV (rsum (xs.map ratOf)) 1
          rw [← fr1] at n1
          have er : isRow wo c (.tup xs) = false := by unfold isRow; simp [ht]
          rw [er]
          rw [hf] at al
          simp only [ht, decide_false] at n1
          generalize rsum (xs.map ratOf) = z at *
          simp [ev, sSeq, sAsg, sRet, sRetN, sE, sIf, sNil, sExpr, startE, f2, fVar, fCons, fNil, fTup, fIf, fAnd, fOr, fNot, fChain, gNm, bind_eq, pure_eq, bad_eq, biV, bopV, copV, wdOf, asB_bl, lineOk0, lineOk1, lineOk2, lineOk3, lineOk4, optR_some, D_is_habit_in, L_is_habit_in, mclOf] at hc
          simp [ev, sSeq, sAsg, sRet, sRetN, sE, sIf, sNil, sExpr, startE, f2, fVar, fCons, fNil, fTup, fIf, fAnd, fOr, fNot, fChain, gNm, bind_eq, pure_eq, bad_eq, biV, bopV, copV, wdOf, asB_bl, lineOk0, lineOk1, lineOk2, lineOk3, lineOk4, optR_some, tyS, isi_int_non, isi_int_bl, isi_int_int, isi_int_str, isi_int_tup, isi_int_lst, isi_bool_non, isi_bool_bl, isi_bool_int, isi_bool_str, isi_bool_tup, isi_bool_lst, isi_str_non, isi_str_bl, isi_str_int, isi_str_str, isi_str_tup, isi_str_lst, isi_tuple_non, isi_tuple_bl, isi_tuple_int, isi_tuple_str, isi_tuple_tup, isi_tuple_lst, isi_int_dct, isi_bool_dct, isi_str_dct, isi_tuple_dct, b_is_habit_in, D_is_habit_in, L_is_habit_in, mclOf, p1, lenW_tup, neX_int, hl, hc, al, tot, n1]
      · rw [Bool.not_eq_true] at hf
        have er : isRow wo c (.tup xs) = false := by unfold isRow; simp only [hf, Bool.false_and, Bool.and_false]
        rw [er]
        rw [hf] at al
        simp [ev, sSeq, sAsg, sRet, sRetN, sE, sIf, sNil, sExpr, startE, f2, fVar, fCons, fNil, fTup, fIf, fAnd, fOr, fNot, fChain, gNm, bind_eq, pure_eq, bad_eq, biV, bopV, copV, wdOf, asB_bl, lineOk0, lineOk1, lineOk2, lineOk3, lineOk4, optR_some, D_is_habit_in, L_is_habit_in, mclOf] at hc
        simp [ev, sSeq, sAsg, sRet, sRetN, sE, sIf, sNil, sExpr, startE, f2, fVar, fCons, fNil, fTup, fIf, fAnd, fOr, fNot, fChain, gNm, bind_eq, pure_eq, bad_eq, biV, bopV, copV, wdOf, asB_bl, lineOk0, lineOk1, lineOk2, lineOk3, lineOk4, optR_some, tyS, isi_int_non, isi_int_bl, isi_int_int, isi_int_str, isi_int_tup, isi_int_lst, isi_bool_non, isi_bool_bl, isi_bool_int, isi_bool_str, isi_bool_tup, isi_bool_lst, isi_str_non, isi_str_bl, isi_str_int, isi_str_str, isi_str_tup, isi_str_lst, isi_tuple_non, isi_tuple_bl, isi_tuple_int, isi_tuple_str, isi_tuple_tup, isi_tuple_lst, isi_int_dct, isi_bool_dct, isi_str_dct, isi_tuple_dct, b_is_habit_in, D_is_habit_in, L_is_habit_in, mclOf, p1, lenW_tup, neX_int, hl, hc, al]
    · have hli : ¬ (xs.length : Int) = wo.length := by omega
      have er : isRow wo c (.tup xs) = false := by unfold isRow; simp [hl]
      simp [ev, sSeq, sAsg, sRet, sRetN, sE, sIf, sNil, sExpr, startE, f2, fVar, fCons, fNil, fTup, fIf, fAnd, fOr, fNot, fChain, gNm, bind_eq, pure_eq, bad_eq, biV, bopV, copV, wdOf, asB_bl, lineOk0, lineOk1, lineOk2, lineOk3, lineOk4, optR_some, tyS, isi_int_non, isi_int_bl, isi_int_int, isi_int_str, isi_int_tup, isi_int_lst, isi_bool_non, isi_bool_bl, isi_bool_int, isi_bool_str, isi_bool_tup, isi_bool_lst, isi_str_non, isi_str_bl, isi_str_int, isi_str_str, isi_str_tup, isi_str_lst, isi_tuple_non, isi_tuple_bl, isi_tuple_int, isi_tuple_str, isi_tuple_tup, isi_tuple_lst, isi_int_dct, isi_bool_dct, isi_str_dct, isi_tuple_dct, b_is_habit_in, D_is_habit_in, L_is_habit_in, mclOf, p1, lenW_tup, neX_int, hli, er]
  | _ => simp [pl] at h
end R
set_option maxHeartbeats 1000000
namespace R
open PySem PySem.Spec L2
open PyProof.Rows hiding St
variable {K K2 : Nat}
/-! P15: habits, what is heard. -/
def isHab (lo : List Int) (wo : List (List Int)) (v : PV) : Bool := match v with
  | .tup rows => decide (rows.length = lo.length) && (nums rows).all fun p => isRow wo (p.1 : Nat) p.2
  | _ => false
theorem is_habit_any (lo : List Int) (wo : List (List Int)) {v : PV} (h : pl K v = true) (M : Mem) (hw : wo.length ≤ 16) (hl8 : lo.length ≤ 8) (hK : K ≤ 100 := by omega) : F_is_habit [tel lo wo, v] M = .ok (.bl (isHab lo wo v)) M := by
  refine mk_pure rfl ?_ rfl
  have p1 := prop_tel (F_weights_ok lo wo M)
  simp [bind_eq] at p1
  have ll : lenW [itup lo] = pure (.int lo.length) := by simp [itup, lenW_tup]
  cases v with
  | non => simp [ev, sSeq, sAsg, sRet, sRetN, sE, sIf, sNil, sExpr, startE, f2, fVar, fCons, fNil, fTup, fIf, fAnd, fOr, fNot, fChain, gNm, bind_eq, pure_eq, bad_eq, biV, bopV, copV, wdOf, asB_bl, lineOk0, lineOk1, lineOk2, lineOk3, lineOk4, optR_some, tyS, isi_int_non, isi_int_bl, isi_int_int, isi_int_str, isi_int_tup, isi_int_lst, isi_bool_non, isi_bool_bl, isi_bool_int, isi_bool_str, isi_bool_tup, isi_bool_lst, isi_str_non, isi_str_bl, isi_str_int, isi_str_str, isi_str_tup, isi_str_lst, isi_tuple_non, isi_tuple_bl, isi_tuple_int, isi_tuple_str, isi_tuple_tup, isi_tuple_lst, isi_int_dct, isi_bool_dct, isi_str_dct, isi_tuple_dct, b_is_habit, isHab]
  | bl b => simp [ev, sSeq, sAsg, sRet, sRetN, sE, sIf, sNil, sExpr, startE, f2, fVar, fCons, fNil, fTup, fIf, fAnd, fOr, fNot, fChain, gNm, bind_eq, pure_eq, bad_eq, biV, bopV, copV, wdOf, asB_bl, lineOk0, lineOk1, lineOk2, lineOk3, lineOk4, optR_some, tyS, isi_int_non, isi_int_bl, isi_int_int, isi_int_str, isi_int_tup, isi_int_lst, isi_bool_non, isi_bool_bl, isi_bool_int, isi_bool_str, isi_bool_tup, isi_bool_lst, isi_str_non, isi_str_bl, isi_str_int, isi_str_str, isi_str_tup, isi_str_lst, isi_tuple_non, isi_tuple_bl, isi_tuple_int, isi_tuple_str, isi_tuple_tup, isi_tuple_lst, isi_int_dct, isi_bool_dct, isi_str_dct, isi_tuple_dct, b_is_habit, isHab]
  | int b => simp [ev, sSeq, sAsg, sRet, sRetN, sE, sIf, sNil, sExpr, startE, f2, fVar, fCons, fNil, fTup, fIf, fAnd, fOr, fNot, fChain, gNm, bind_eq, pure_eq, bad_eq, biV, bopV, copV, wdOf, asB_bl, lineOk0, lineOk1, lineOk2, lineOk3, lineOk4, optR_some, tyS, isi_int_non, isi_int_bl, isi_int_int, isi_int_str, isi_int_tup, isi_int_lst, isi_bool_non, isi_bool_bl, isi_bool_int, isi_bool_str, isi_bool_tup, isi_bool_lst, isi_str_non, isi_str_bl, isi_str_int, isi_str_str, isi_str_tup, isi_str_lst, isi_tuple_non, isi_tuple_bl, isi_tuple_int, isi_tuple_str, isi_tuple_tup, isi_tuple_lst, isi_int_dct, isi_bool_dct, isi_str_dct, isi_tuple_dct, b_is_habit, isHab]
  | str b => simp [ev, sSeq, sAsg, sRet, sRetN, sE, sIf, sNil, sExpr, startE, f2, fVar, fCons, fNil, fTup, fIf, fAnd, fOr, fNot, fChain, gNm, bind_eq, pure_eq, bad_eq, biV, bopV, copV, wdOf, asB_bl, lineOk0, lineOk1, lineOk2, lineOk3, lineOk4, optR_some, tyS, isi_int_non, isi_int_bl, isi_int_int, isi_int_str, isi_int_tup, isi_int_lst, isi_bool_non, isi_bool_bl, isi_bool_int, isi_bool_str, isi_bool_tup, isi_bool_lst, isi_str_non, isi_str_bl, isi_str_int, isi_str_str, isi_str_tup, isi_str_lst, isi_tuple_non, isi_tuple_bl, isi_tuple_int, isi_tuple_str, isi_tuple_tup, isi_tuple_lst, isi_int_dct, isi_bool_dct, isi_str_dct, isi_tuple_dct, b_is_habit, isHab]
  | lst b => simp [ev, sSeq, sAsg, sRet, sRetN, sE, sIf, sNil, sExpr, startE, f2, fVar, fCons, fNil, fTup, fIf, fAnd, fOr, fNot, fChain, gNm, bind_eq, pure_eq, bad_eq, biV, bopV, copV, wdOf, asB_bl, lineOk0, lineOk1, lineOk2, lineOk3, lineOk4, optR_some, tyS, isi_int_non, isi_int_bl, isi_int_int, isi_int_str, isi_int_tup, isi_int_lst, isi_bool_non, isi_bool_bl, isi_bool_int, isi_bool_str, isi_bool_tup, isi_bool_lst, isi_str_non, isi_str_bl, isi_str_int, isi_str_str, isi_str_tup, isi_str_lst, isi_tuple_non, isi_tuple_bl, isi_tuple_int, isi_tuple_str, isi_tuple_tup, isi_tuple_lst, isi_int_dct, isi_bool_dct, isi_str_dct, isi_tuple_dct, b_is_habit, isHab]
  | dct a b => simp [ev, sSeq, sAsg, sRet, sRetN, sE, sIf, sNil, sExpr, startE, f2, fVar, fCons, fNil, fTup, fIf, fAnd, fOr, fNot, fChain, gNm, bind_eq, pure_eq, bad_eq, biV, bopV, copV, wdOf, asB_bl, lineOk0, lineOk1, lineOk2, lineOk3, lineOk4, optR_some, tyS, isi_int_non, isi_int_bl, isi_int_int, isi_int_str, isi_int_tup, isi_int_lst, isi_bool_non, isi_bool_bl, isi_bool_int, isi_bool_str, isi_bool_tup, isi_bool_lst, isi_str_non, isi_str_bl, isi_str_int, isi_str_str, isi_str_tup, isi_str_lst, isi_tuple_non, isi_tuple_bl, isi_tuple_int, isi_tuple_str, isi_tuple_tup, isi_tuple_lst, isi_int_dct, isi_bool_dct, isi_str_dct, isi_tuple_dct, b_is_habit, isHab]
  | tup xs =>
    simp only [pl] at h
    by_cases hl : xs.length = lo.length
    · have hc := lc_gen (as := nums xs) (enc := fun q => .tup [.int (q.1 : Nat), q.2]) (fi := ev D_is_habit (.enum (.var 1))) (vs := [2, 3]) (g := gSq 2 (gsCons (gNm 2) (gsCons (gNm 3) gsNil))) (t := tNone) (f := ev D_is_habit (.call 1 (.cons (.var 0) (.cons (.var 2) (.cons (.var 3) .nil)))))
          (e := [some (tel lo wo), some (.tup xs), none, none]) (M := M) (fun q => [some (tel lo wo), some (.tup xs), some (.int (q.1 : Nat)), some q.2]) (fun q => true) (fun p => .bl (isRow wo (p.1 : Nat) p.2))
          (by have := numbered_map (fun x : PV => x) xs; simp at this; simp [ev, sSeq, sAsg, sRet, sRetN, sE, sIf, sNil, sExpr, startE, f2, fVar, fCons, fNil, fTup, fIf, fAnd, fOr, fNot, fChain, gNm, bind_eq, pure_eq, bad_eq, biV, bopV, copV, wdOf, asB_bl, lineOk0, lineOk1, lineOk2, lineOk3, lineOk4, optR_some, D_is_habit, L_is_habit, enumW_tup, this]) (by rw [nums_len]; exact szl (by omega))
          (fun q _ M' => by simp [ev, sSeq, sAsg, sRet, sRetN, sE, sIf, sNil, sExpr, startE, f2, fVar, fCons, fNil, fTup, fIf, fAnd, fOr, fNot, fChain, gNm, bind_eq, pure_eq, bad_eq, biV, bopV, copV, wdOf, asB_bl, lineOk0, lineOk1, lineOk2, lineOk3, lineOk4, optR_some, gSq, gsCons, gsNil, seqW_tup, wipeE])
          (fun q _ M' => rfl)
          (fun q hq _ M' => ⟨by
            have := is_habit_in_any lo wo (q.1 : Nat) (pls_iff.mp h q.2 (List.mem_of_getElem? (mem_nums hq))) M' hw
            simp [ev, sSeq, sAsg, sRet, sRetN, sE, sIf, sNil, sExpr, startE, f2, fVar, fCons, fNil, fTup, fIf, fAnd, fOr, fNot, fChain, gNm, bind_eq, pure_eq, bad_eq, biV, bopV, copV, wdOf, asB_bl, lineOk0, lineOk1, lineOk2, lineOk3, lineOk4, optR_some, D_is_habit, L_is_habit, this], rfl⟩)
      have nt : (List.filter (fun q : Nat × PV => true) (nums xs)) = nums xs := by simp
      rw [nt] at hc
      have al := allW_map (fun p : Nat × PV => isRow wo (p.1 : Nat) p.2) (nums xs)
      have er : isHab lo wo (.tup xs) = (nums xs).all fun p => isRow wo (p.1 : Nat) p.2 := by unfold isHab; simp only [hl, decide_true, Bool.true_and]
      rw [er]
      simp [ev, sSeq, sAsg, sRet, sRetN, sE, sIf, sNil, sExpr, startE, f2, fVar, fCons, fNil, fTup, fIf, fAnd, fOr, fNot, fChain, gNm, bind_eq, pure_eq, bad_eq, biV, bopV, copV, wdOf, asB_bl, lineOk0, lineOk1, lineOk2, lineOk3, lineOk4, optR_some, D_is_habit, L_is_habit, mclOf] at hc
      simp [ev, sSeq, sAsg, sRet, sRetN, sE, sIf, sNil, sExpr, startE, f2, fVar, fCons, fNil, fTup, fIf, fAnd, fOr, fNot, fChain, gNm, bind_eq, pure_eq, bad_eq, biV, bopV, copV, wdOf, asB_bl, lineOk0, lineOk1, lineOk2, lineOk3, lineOk4, optR_some, tyS, isi_int_non, isi_int_bl, isi_int_int, isi_int_str, isi_int_tup, isi_int_lst, isi_bool_non, isi_bool_bl, isi_bool_int, isi_bool_str, isi_bool_tup, isi_bool_lst, isi_str_non, isi_str_bl, isi_str_int, isi_str_str, isi_str_tup, isi_str_lst, isi_tuple_non, isi_tuple_bl, isi_tuple_int, isi_tuple_str, isi_tuple_tup, isi_tuple_lst, isi_int_dct, isi_bool_dct, isi_str_dct, isi_tuple_dct, b_is_habit, D_is_habit, L_is_habit, mclOf, p1, ll, lenW_tup, neX_int, hl, hc, al]
    · have hli : ¬ (xs.length : Int) = lo.length := by omega
      have er : isHab lo wo (.tup xs) = false := by unfold isHab; simp [hl]
      simp [ev, sSeq, sAsg, sRet, sRetN, sE, sIf, sNil, sExpr, startE, f2, fVar, fCons, fNil, fTup, fIf, fAnd, fOr, fNot, fChain, gNm, bind_eq, pure_eq, bad_eq, biV, bopV, copV, wdOf, asB_bl, lineOk0, lineOk1, lineOk2, lineOk3, lineOk4, optR_some, tyS, isi_int_non, isi_int_bl, isi_int_int, isi_int_str, isi_int_tup, isi_int_lst, isi_bool_non, isi_bool_bl, isi_bool_int, isi_bool_str, isi_bool_tup, isi_bool_lst, isi_str_non, isi_str_bl, isi_str_int, isi_str_str, isi_str_tup, isi_str_lst, isi_tuple_non, isi_tuple_bl, isi_tuple_int, isi_tuple_str, isi_tuple_tup, isi_tuple_lst, isi_int_dct, isi_bool_dct, isi_str_dct, isi_tuple_dct, b_is_habit, D_is_habit, L_is_habit, mclOf, p1, ll, lenW_tup, neX_int, hli, er]
  | _ => simp [pl] at h
/-- a table of chances -/
def hab (H : List (List Rat)) : PV := .tup (H.map fun r => .tup (r.map frV))
def rowOf : PV → List Rat
  | .tup xs => xs.map ratOf
  | _ => []
def rowsOf : PV → List (List Rat)
  | .tup rows => rows.map rowOf
  | _ => []
def hAt (H : List (List Rat)) (c s : Int) : Rat := (H.getD c.toNat []).getD s.toNat 0
structure Hb (lo : List Int) (wo : List (List Int)) (H : List (List Rat)) : Prop where
  len : H.length = lo.length
  row : ∀ r ∈ H, r.length = wo.length ∧ (∀ q ∈ r, okF q = true) ∧ rsum r = 1
  quiet : ∀ (c : Nat) (s : Nat) (r : List Rat), H[c]? = some r → s < wo.length → r.getD s 0 = 0 ∨ (c : Int) ∈ wo.getD s []
theorem nums_mem {α : Type} {l : List α} {i : Nat} {x : α} (h : l[i]? = some x) : (i, x) ∈ nums l := by
  have hi := (List.getElem?_eq_some_iff.mp h).1
  refine List.mem_of_getElem? (i := i) ?_
  unfold nums
  rw [List.getElem?_zip_eq_some]
  refine ⟨?_, h⟩
  rw [List.getElem?_eq_getElem (by simpa using hi)]
  simp
theorem isRow_iff {wo : List (List Int)} {c : Int} {r : List Rat} : isRow wo c (.tup (r.map frV)) = true ↔ r.length = wo.length ∧ (∀ q ∈ r, okF q = true) ∧ rsum r = 1 ∧ ∀ s, s < wo.length → r.getD s 0 = 0 ∨ c ∈ wo.getD s [] := by
  unfold isRow
  simp only [map_ratOf_frV, Bool.and_eq_true, decide_eq_true_eq, List.length_map]
  constructor
  · intro ⟨h1, h2, h3, h4⟩
    refine ⟨h1, fun q hq => ?_, h3, fun s hs => ?_⟩
    · have := List.all_eq_true.mp h2 (frV q) (List.mem_map.mpr ⟨q, hq, rfl⟩)
      rwa [isFr_frV] at this
    · have h5 : wo[s]? = some wo[s] := List.getElem?_eq_getElem hs
      have := List.all_eq_true.mp h4 (s, wo[s]) (nums_mem h5)
      simp only [Bool.or_eq_true, decide_eq_true_eq] at this
      rcases this with h | h
      · exact .inl h
      · exact .inr (by simpa [List.getElem?_eq_getElem hs] using h)
  · intro ⟨h1, h2, h3, h4⟩
    refine ⟨h1, map_frV_all h2, h3, List.all_eq_true.mpr fun p hp => ?_⟩
    have h5 := mem_nums hp
    have hs := (List.getElem?_eq_some_iff.mp h5).1
    rcases h4 p.1 hs with h | h
    · simp only [h, decide_true, Bool.true_or]
    · have e : wo.getD p.1 [] = p.2 := by simp [h5]
      rw [e] at h
      simp only [h, decide_true, Bool.or_true]
theorem isHab_hab {lo : List Int} {wo : List (List Int)} {H : List (List Rat)} (h : Hb lo wo H) : isHab lo wo (hab H) = true := by
  show (decide ((H.map fun r => PV.tup (r.map frV)).length = lo.length) && (nums (H.map fun r => PV.tup (r.map frV))).all fun p => isRow wo (p.1 : Nat) p.2) = true
  simp only [Bool.and_eq_true, decide_eq_true_eq, List.length_map]
  refine ⟨h.len, List.all_eq_true.mpr fun p hp => ?_⟩
  have h5 := mem_nums hp
  rw [List.getElem?_map, Option.map_eq_some_iff] at h5
  obtain ⟨r, h6, h7⟩ := h5
  rw [← h7]
  obtain ⟨a, b, c⟩ := h.row r (List.mem_of_getElem? h6)
  exact isRow_iff.mpr ⟨a, b, c, fun s hs => h.quiet p.1 s r h6 hs⟩
theorem isRow_eq {wo : List (List Int)} {c : Int} {v : PV} (h : isRow wo c v = true) : v = .tup ((rowOf v).map frV) := by
  cases v with
  | tup xs =>
    unfold isRow at h
    simp only [Bool.and_eq_true] at h
    exact congrArg PV.tup (frs_eq h.2.1)
  | _ => simp [isRow] at h
theorem isHab_ok {lo : List Int} {wo : List (List Int)} {v : PV} (h : isHab lo wo v = true) : v = hab (rowsOf v) ∧ Hb lo wo (rowsOf v) := by
  cases v with
  | tup rows =>
    unfold isHab at h
    simp only [Bool.and_eq_true, decide_eq_true_eq] at h
    obtain ⟨h1, h2⟩ := h
    have hr : ∀ (i : Nat) (x : PV), rows[i]? = some x → isRow wo (i : Int) x = true := fun i x hx => List.all_eq_true.mp h2 (i, x) (nums_mem hx)
    have he : ∀ x ∈ rows, x = .tup ((rowOf x).map frV) := fun x hx => by
      obtain ⟨i, hi⟩ := List.mem_iff_getElem?.mp hx
      exact isRow_eq (hr i x hi)
    refine ⟨?_, ?_, ?_, ?_⟩
    · show PV.tup rows = .tup ((rows.map rowOf).map fun r => .tup (r.map frV))
      rw [List.map_map]
      congr 1
      conv => lhs; rw [← List.map_id rows]
      exact List.map_congr_left fun x hx => he x hx
    · simpa [rowsOf] using h1
    · intro r hrr
      obtain ⟨x, hx, rfl⟩ := List.mem_map.mp hrr
      obtain ⟨i, hi⟩ := List.mem_iff_getElem?.mp hx
      have := hr i x hi
      rw [he x hx] at this
      obtain ⟨a, b, c, _⟩ := isRow_iff.mp this
      exact ⟨a, b, c⟩
    · intro c s r hrr hs
      have hrr : (rows.map rowOf)[c]? = some r := hrr
      rw [List.getElem?_map, Option.map_eq_some_iff] at hrr
      obtain ⟨x, hx, rfl⟩ := hrr
      have := hr c x hx
      rw [he x (List.mem_of_getElem? hx)] at this
      exact (isRow_iff.mp this).2.2.2 s hs
  | _ => simp [isHab] at h
theorem pl_rows {v : PV} (hK : K ≤ 100) (hp : pl K v = true) {lo : List Int} {wo : List (List Int)} (h : isHab lo wo v = true) : ∀ r ∈ rowsOf v, ∀ q ∈ r, Sz 100 q := by
  cases v with
  | tup rows =>
    intro r hr q hq
    obtain ⟨x, hx, rfl⟩ := List.mem_map.mp hr
    simp only [pl] at hp
    have hpx := pls_iff.mp hp x hx
    unfold isHab at h
    simp only [Bool.and_eq_true, decide_eq_true_eq] at h
    obtain ⟨i, hi⟩ := List.mem_iff_getElem?.mp hx
    have hrow := List.all_eq_true.mp h.2 (i, x) (nums_mem hi)
    cases x with
    | tup ys =>
      obtain ⟨y, hy, rfl⟩ := List.mem_map.mp hq
      simp only [pl] at hpx
      unfold isRow at hrow
      simp only [Bool.and_eq_true] at hrow
      exact (isFr_sz (List.all_eq_true.mp hrow.2.1 y hy) (pls_iff.mp hpx y hy)).mono hK
    | _ => simp [isRow] at hrow
  | _ => simp [isHab] at h
end R
set_option maxHeartbeats 1000000
namespace R
open PySem PySem.Spec L2
open PyProof.Rows hiding St
variable {K K2 : Nat}
/-! P16: what is heard; the claims of ends. -/
/-- a teller's numbers -/
structure Tl (lo : List Int) (wo : List (List Int)) : Prop where
  n2 : 2 ≤ lo.length
  n8 : lo.length ≤ 8
  w : ∀ x ∈ lo, 1 ≤ x ∧ x ≤ 1000000
  m1 : 1 ≤ wo.length
  m16 : wo.length ≤ 16
  g : ∀ g ∈ wo, g ≠ [] ∧ ascB g = true ∧ ∀ c ∈ g, 0 ≤ c ∧ c < lo.length
  cov : ∀ c : Int, 0 ≤ c → c < lo.length → ∃ g ∈ wo, c ∈ g
theorem frV_int (w : Int) : PV.tup [.int w, .int 1] = frV (w : Rat) := rfl
theorem Sz.int {w : Int} {k : Nat} (h : w.natAbs < 2 ^ k) (hk : 1 ≤ k) : Sz k (w : Rat) := ⟨h, Nat.lt_of_lt_of_le (by decide : 1 < 2 ^ 1) (Nat.pow_le_pow_right (by omega) hk)⟩
/-- the weights of some cases, each times its chance of a word -/
def hwt (lo : List Int) (H : List (List Rat)) (s : Int) (cs : List Int) : Rat := rsum (cs.map fun c => (at0 lo c : Rat) * hAt H c s)
theorem at0_mem {lo : List Int} {c : Int} (h0 : 0 ≤ c) (h1 : c < lo.length) : at0 lo c ∈ lo := by
  have : c.toNat < lo.length := by omega
  simp [at0, List.getElem?_eq_getElem this]
theorem F_heard_weight_ok {lo : List Int} {wo : List (List Int)} {H : List (List Rat)} {v : PV} {cs : List Int} {k : Nat} (s : Int) (M : Mem) (hw : ∀ x ∈ lo, 1 ≤ x ∧ x ≤ 1000000) (hH : H.length = lo.length) (hr : ∀ r ∈ H, r.length = wo.length) (hk : ∀ r ∈ H, ∀ q ∈ r, Sz k q) (h0 : 0 ≤ s) (h1 : s < wo.length)
    (hv : wkOf v = pure ⟨cs.map PV.int, []⟩) (hc : ∀ c ∈ cs, 0 ≤ c ∧ c < lo.length) (hl : cs.length ≤ 1000) (hz : (k + 21) * (cs.length + 1) < 3800) :
    F_heard_weight [tel lo wo, hab H, .int s, v] M = .ok (frV (hwt lo H s cs)) M ∧ Sz ((k + 21) * cs.length + 1) (hwt lo H s cs) := by
  have ht : ∀ c ∈ cs, ∀ M', F_times [frV (at0 lo c : Rat), frV (hAt H c s)] M' = .ok (frV ((at0 lo c : Rat) * hAt H c s)) M' ∧ Sz (20 + k) ((at0 lo c : Rat) * hAt H c s) ∧ idxW (hab H) (.int c) = pure (.tup ((H.getD c.toNat []).map frV)) ∧ idxW (.tup ((H.getD c.toNat []).map frV)) (.int s) = pure (frV (hAt H c s)) := by
    intro c h M'
    obtain ⟨c0, c1⟩ := hc c h
    have hc2 : c.toNat < H.length := by omega
    have eH : H.getD c.toNat [] = H[c.toNat] := by simp [List.getElem?_eq_getElem hc2]
    have mH : H[c.toNat] ∈ H := List.getElem_mem _
    have hs2 : s.toNat < (H[c.toNat]).length := by rw [hr _ mH]; omega
    have es : hAt H c s = (H[c.toNat])[s.toNat] := by unfold hAt; rw [eH]; simp [List.getElem?_eq_getElem hs2]
    have hw2 := hw _ (at0_mem c0 c1)
    have s1 : Sz 20 (at0 lo c : Rat) := Sz.int (by have : (2 : Nat) ^ 20 = 1048576 := by decide
                                                   omega) (by omega)
    have s2 : Sz k (hAt H c s) := by rw [es]; exact hk _ mH _ (List.getElem_mem _)
    have hz2 : (k + 21) * 1 ≤ (k + 21) * (cs.length + 1) := Nat.mul_le_mul_left _ (by omega)
    have t := F_times_ok M' s1 s2 (by omega)
    refine ⟨t.1, t.2, idx_tup c0 ?_, idx_tup h0 ?_⟩
    · rw [eH]; simp [List.getElem?_eq_getElem hc2]
    · rw [eH, es]; simp [List.getElem?_eq_getElem hs2]
  have hcomp := lc_map (as := cs) (enc := PV.int) (fi := fun e => ev D_heard_weight (.var 3) e >>= wkOf) (vs := [4]) (i := 4) (f := ev D_heard_weight (.call 1 (.cons (.tup (.cons (.idx (.prop 2 (.var 0)) (.var 4)) (.cons (.int 1) .nil))) (.cons (.idx (.idx (.var 1) (.var 4)) (.var 2)) .nil)))) (e := [some (tel lo wo), some (hab H), some (.int s), some v, none]) (M := M)
    (fun c => frV ((at0 lo c : Rat) * hAt H c s)) (by show wkOf v M = _; rw [hv]; rfl) (szl hl) (fun c h M' => by
      obtain ⟨t1, t2, t3, t4⟩ := ht c h M'
      have p1 := prop_tel (F_weights_ok lo wo M')
      simp [bind_eq] at p1
      have i1 := idx_itup (hc c h).1 (hc c h).2
      refine ⟨?_, rfl⟩
      generalize H.getD c.toNat [] = rr at *
      simp [ev, sSeq, sAsg, sRet, sRetN, sE, sIf, sNil, sExpr, startE, f2, fVar, fCons, fNil, fTup, fIf, fAnd, fOr, fNot, fChain, gNm, bind_eq, pure_eq, bad_eq, biV, bopV, copV, wdOf, asB_bl, lineOk0, lineOk1, lineOk2, lineOk3, lineOk4, optR_some, wipeE, D_heard_weight, L_heard_weight, mclOf, p1, i1, t3, t4, frV_int, t1])
  have tot := F_total_ok (v := .lst (cs.map fun c => frV ((at0 lo c : Rat) * hAt H c s))) (qs := cs.map fun c => (at0 lo c : Rat) * hAt H c s) (k := 20 + k) M (by rw [List.map_map]; rfl) (by
    intro q hq
    obtain ⟨c, hc, rfl⟩ := List.mem_map.mp hq
    exact (ht c hc M).2.1) (by rw [List.length_map, show 20 + k + 1 = k + 21 by omega]; exact hz)
  refine ⟨?_, by have z := tot.2; rw [List.length_map, show 20 + k + 1 = k + 21 by omega] at z; exact z⟩
  refine mk_pure rfl ?_ rfl
  have tot1 := tot.1
  simp [ev, sSeq, sAsg, sRet, sRetN, sE, sIf, sNil, sExpr, startE, f2, fVar, fCons, fNil, fTup, fIf, fAnd, fOr, fNot, fChain, gNm, bind_eq, pure_eq, bad_eq, biV, bopV, copV, wdOf, asB_bl, lineOk0, lineOk1, lineOk2, lineOk3, lineOk4, optR_some] at hcomp
  show _ = SRes.rt (frV (hwt lo H s cs)) M
  unfold hwt
  simp [ev, sSeq, sAsg, sRet, sRetN, sE, sIf, sNil, sExpr, startE, f2, fVar, fCons, fNil, fTup, fIf, fAnd, fOr, fNot, fChain, gNm, bind_eq, pure_eq, bad_eq, biV, bopV, copV, wdOf, asB_bl, lineOk0, lineOk1, lineOk2, lineOk3, lineOk4, optR_some, b_heard_weight, hcomp]
  simp [D_heard_weight, L_heard_weight, wdOf, tot1]
theorem is_asked_any (lo : List Int) (wo : List (List Int)) {s l b : PV} (hs : pl K s = true) (hl : pl K l = true) (hb : pl K b = true) (hn : ∀ xs, l = .tup xs → xs.length ≤ 1000) (M : Mem) (hK : K ≤ 3900 := by omega) :
    F_is_asked [tel lo wo, s, l, b] M = .ok (.bl (btw s 0 (wo.length - 1) && (isLot l lo.length && isFr b))) M := by
  refine mk_pure rfl ?_ rfl
  have p1 := prop_tel (F_weights_ok lo wo M)
  simp [bind_eq] at p1
  have p2 := prop_tel (F_sayings_ok lo wo M)
  simp [bind_eq] at p2
  have ll : lenW [itup lo] = pure (.int lo.length) := by simp [itup, lenW_tup]
  have h1 := is_between_any hs 0 (wo.length - 1) M
  have h2 := is_lot_any hl lo.length M hn
  have h3 := is_fraction_any hb M
  cases q1 : btw s 0 (wo.length - 1) with
  | false =>
    rw [q1] at h1
    simp [ev, sSeq, sAsg, sRet, sRetN, sE, sIf, sNil, sExpr, startE, f2, fVar, fCons, fNil, fTup, fIf, fAnd, fOr, fNot, fChain, gNm, bind_eq, pure_eq, bad_eq, biV, bopV, copV, wdOf, asB_bl, lineOk0, lineOk1, lineOk2, lineOk3, lineOk4, optR_some, tyS, isi_int_non, isi_int_bl, isi_int_int, isi_int_str, isi_int_tup, isi_int_lst, isi_bool_non, isi_bool_bl, isi_bool_int, isi_bool_str, isi_bool_tup, isi_bool_lst, isi_str_non, isi_str_bl, isi_str_int, isi_str_str, isi_str_tup, isi_str_lst, isi_tuple_non, isi_tuple_bl, isi_tuple_int, isi_tuple_str, isi_tuple_tup, isi_tuple_lst, isi_int_dct, isi_bool_dct, isi_str_dct, isi_tuple_dct, b_is_asked, D_is_asked, L_is_asked, mclOf, p1, p2, ll, lenW_tup, subV_int, h1]
  | true =>
    rw [q1] at h1
    cases q2 : isLot l lo.length with
    | false =>
      rw [q2] at h2
      simp [ev, sSeq, sAsg, sRet, sRetN, sE, sIf, sNil, sExpr, startE, f2, fVar, fCons, fNil, fTup, fIf, fAnd, fOr, fNot, fChain, gNm, bind_eq, pure_eq, bad_eq, biV, bopV, copV, wdOf, asB_bl, lineOk0, lineOk1, lineOk2, lineOk3, lineOk4, optR_some, tyS, isi_int_non, isi_int_bl, isi_int_int, isi_int_str, isi_int_tup, isi_int_lst, isi_bool_non, isi_bool_bl, isi_bool_int, isi_bool_str, isi_bool_tup, isi_bool_lst, isi_str_non, isi_str_bl, isi_str_int, isi_str_str, isi_str_tup, isi_str_lst, isi_tuple_non, isi_tuple_bl, isi_tuple_int, isi_tuple_str, isi_tuple_tup, isi_tuple_lst, isi_int_dct, isi_bool_dct, isi_str_dct, isi_tuple_dct, b_is_asked, D_is_asked, L_is_asked, mclOf, p1, p2, ll, lenW_tup, subV_int, h1, h2]
    | true =>
      rw [q2] at h2
      simp [ev, sSeq, sAsg, sRet, sRetN, sE, sIf, sNil, sExpr, startE, f2, fVar, fCons, fNil, fTup, fIf, fAnd, fOr, fNot, fChain, gNm, bind_eq, pure_eq, bad_eq, biV, bopV, copV, wdOf, asB_bl, lineOk0, lineOk1, lineOk2, lineOk3, lineOk4, optR_some, tyS, isi_int_non, isi_int_bl, isi_int_int, isi_int_str, isi_int_tup, isi_int_lst, isi_bool_non, isi_bool_bl, isi_bool_int, isi_bool_str, isi_bool_tup, isi_bool_lst, isi_str_non, isi_str_bl, isi_str_int, isi_str_str, isi_str_tup, isi_str_lst, isi_tuple_non, isi_tuple_bl, isi_tuple_int, isi_tuple_str, isi_tuple_tup, isi_tuple_lst, isi_int_dct, isi_bool_dct, isi_str_dct, isi_tuple_dct, b_is_asked, D_is_asked, L_is_asked, mclOf, p1, p2, ll, lenW_tup, subV_int, h1, h2, h3]
end R
set_option maxHeartbeats 2000000
namespace R
open PySem PySem.Spec L2
open PyProof.Rows hiding St
variable {K K2 : Nat}
/-! P17: the claims of ends, any plain value. -/
theorem ascB_iff {l : List Int} : ascB l = true ↔ ∀ i : Nat, i + 1 < l.length → at0 l (i : Nat) < at0 l ((i : Nat) + 1) := by
  unfold ascB
  rw [List.all_eq_true]
  constructor
  · intro h i hi
    have := h i (List.mem_range.mpr (by omega))
    simpa using this
  · intro h i hi
    have := h i (by have := List.mem_range.mp hi; omega)
    simpa using this
theorem asc_len {l : List Int} {n : Int} (h : ascB l = true) (hr : ∀ c ∈ l, 0 ≤ c ∧ c < n) (hn : 0 ≤ n) : (l.length : Int) ≤ n := by
  have h := ascB_iff.mp h
  have key : ∀ i : Nat, i < l.length → (i : Int) ≤ at0 l (i : Nat) := by
    intro i
    induction i with
    | zero => intro hi; have := (hr _ (at0_mem (lo := l) (c := ((0 : Nat) : Int)) (by omega) (by omega))).1; exact this
    | succ i ih => 
      intro hi
      have a := ih (by omega)
      have b := h i hi
      have e : (((i + 1 : Nat)) : Int) = (i : Int) + 1 := by omega
      rw [e]; omega
  cases hl : l.length with
  | zero => omega
  | succ m =>
    have a := key m (by omega)
    have b := (hr _ (at0_mem (lo := l) (c := (m : Int)) (by omega) (by omega))).2
    omega
theorem Tl.glen {lo : List Int} {wo : List (List Int)} (T : Tl lo wo) {g : List Int} (h : g ∈ wo) : g.length ≤ 8 := by
  have := T.n8
  have := asc_len (T.g g h).2.1 (T.g g h).2.2 (by omega)
  omega
theorem Tl.at_ {lo : List Int} {wo : List (List Int)} {k : Int} (h0 : 0 ≤ k) (h1 : k < wo.length) : wo.getD k.toNat [] ∈ wo := by
  have : k.toNat < wo.length := by omega
  simp [List.getElem?_eq_getElem this]
theorem rsum_cons (q : Rat) (qs : List Rat) : rsum (q :: qs) = q + rsum qs := by
  unfold rsum
  rw [List.foldl_cons, Rat.zero_add]
  have key : ∀ (l : List Rat) (a b : Rat), l.foldl (· + ·) (a + b) = a + l.foldl (· + ·) b := by
    intro l
    induction l with
    | nil => intro a b; rfl
    | cons x l ih => intro a b; rw [List.foldl_cons, List.foldl_cons, Rat.add_assoc, ih]
  have := key qs q 0
  rwa [Rat.add_zero] at this
theorem rsum_nil : rsum [] = 0 := rfl
theorem rsum_nonneg {qs : List Rat} (h : ∀ q ∈ qs, 0 ≤ q) : 0 ≤ rsum qs := by
  induction qs with
  | nil => exact Rat.le_refl
  | cons q qs ih => rw [rsum_cons]; exact Rat.add_nonneg (h q (by simp)) (ih fun p hp => h p (by simp [hp]))
theorem okF_iff {q : Rat} : okF q = true ↔ 0 ≤ q ∧ q ≤ 1 := by
  unfold okF
  rw [Bool.and_eq_true, decide_eq_true_eq, decide_eq_true_eq, Rat.num_nonneg]
  refine and_congr Iff.rfl ?_
  rw [Rat.le_iff]
  simp
theorem hAt_nonneg {lo : List Int} {wo : List (List Int)} {H : List (List Rat)} (h : Hb lo wo H) (c s : Int) : 0 ≤ hAt H c s := by
  unfold hAt
  cases e : H[c.toNat]? with
  | none => simp [e, Rat.le_refl]
  | some r =>
    simp only [List.getD_eq_getElem?_getD, e, Option.getD_some]
    cases e2 : r[s.toNat]? with
    | none => simp [Rat.le_refl]
    | some q => exact (okF_iff.mp ((h.row r (List.mem_of_getElem? e)).2.1 q (List.mem_of_getElem? e2))).1
theorem hwt_nonneg {lo : List Int} {wo : List (List Int)} {H : List (List Rat)} (hw : ∀ x ∈ lo, 1 ≤ x ∧ x ≤ 1000000) (h : Hb lo wo H) (s : Int) {cs : List Int} (hc : ∀ c ∈ cs, 0 ≤ c ∧ c < lo.length) : 0 ≤ hwt lo H s cs := by
  refine rsum_nonneg fun q hq => ?_
  obtain ⟨c, h1, rfl⟩ := List.mem_map.mp hq
  have := hw _ (at0_mem (hc c h1).1 (hc c h1).2)
  exact Rat.mul_nonneg (by exact_mod_cast (by omega : (0 : Int) ≤ at0 lo c)) (hAt_nonneg h c s)
def iv : PV → Int
  | .int i => i
  | _ => 0
def ivs : PV → List Int
  | .tup xs => (intsOf xs).getD []
  | _ => []
def endB (lo : List Int) (wo : List (List Int)) (w : Str) (k : Int) (L : List Int) (H : List (List Rat)) (b : Rat) : Bool :=
  decide (hwt lo H k (wo.getD k.toNat []) ≠ 0) && (decide (hwt lo H k L / hwt lo H k (wo.getD k.toNat []) = b) && decide (b = if w = ("least" : Str) then leastQ lo wo k L else greatQ lo wo k L))
theorem isLot_eq {v : PV} {n : Int} (h : isLot v n = true) : v = itup (ivs v) ∧ ascB (ivs v) = true ∧ ∀ c ∈ ivs v, 0 ≤ c ∧ c < n := by
  cases v with
  | tup xs =>
    unfold isLot at h
    cases e : intsOf xs with
    | none => simp [e] at h
    | some l =>
      simp only [e, Bool.and_eq_true, List.all_eq_true, decide_eq_true_eq] at h
      have : ivs (.tup xs) = l := by unfold ivs; simp [e]
      rw [this]
      exact ⟨congrArg PV.tup (intsOf_some e), h.2, fun c hc => ⟨(h.1 c hc).1, by have := (h.1 c hc).2; omega⟩⟩
  | _ => simp [isLot] at h
theorem eqX_str {a b : Str} (ha : PyData.strOk a = true) (hb : PyData.strOk b = true) : eqX (.str a) (.str b) = pure (.bl (decide (a = b))) := by
  refine eqX_of ?_
  simp [eqB, dataOf, SeqAt.shaped, PyData.eqv, PyData.canLay0, PyData.depth, ha, hb]
  rfl
theorem rat_div (p q : Rat) : Rat.divInt (p.num * q.den) ((p.den : Int) * q.num) = p / q := by
  rw [Rat.div_def, Rat.inv_def]
  have := Rat.divInt_mul_divInt p.num (q.den : Int) (d₁ := (p.den : Int)) (d₂ := q.num)
  rw [← this, Rat.num_divInt_den]
theorem shows_end_any {lo : List Int} {wo : List (List Int)} (T : Tl lo wo) {w line : Str} {s l b v : PV} (hwk : PyData.strOk w = true) (hs : pl K s = true) (hl : pl K l = true) (hb : pl K b = true) (hv : pl K2 v = true) (hn : ∀ xs, l = .tup xs → xs.length ≤ 1000) (M : Mem) (hK : K ≤ 3900 := by omega) (hK2 : K2 ≤ 100 := by omega) :
    F_shows_end [tel lo wo, .tup [.str w, .str line, s, l, b], v] M = .ok (.bl (btw s 0 (wo.length - 1) && (isLot l lo.length && isFr b) && isHab lo wo v && endB lo wo w (iv s) (ivs l) (rowsOf v) (ratOf b))) M := by
  refine mk_pure rfl ?_ rfl
  have h1 := is_asked_any lo wo hs hl hb hn M
  have h2 := is_habit_any lo wo hv M T.m16 T.n8
  have ew := eqX_str hwk (show PyData.strOk ("least" : Str) = true by decide +kernel)
  have x0 : idxW (.tup [.str w, .str line, s, l, b]) (.int 0) = pure (.str w) := rfl
  have x2 : idxW (.tup [.str w, .str line, s, l, b]) (.int 2) = pure s := rfl
  have x3 : idxW (.tup [.str w, .str line, s, l, b]) (.int 3) = pure l := rfl
  have x4 : idxW (.tup [.str w, .str line, s, l, b]) (.int 4) = pure b := rfl
  have lo4 : ∀ a b c d : PV, lineOk [a, b, c, d] = true := fun _ _ _ _ => lineOk_of (by simp)
  generalize hcl : PV.tup [.str w, .str line, s, l, b] = cl at *
  cases q1 : (btw s 0 (wo.length - 1) && (isLot l lo.length && isFr b)) with
  | false =>
    rw [q1] at h1
    simp [ev, sSeq, sAsg, sRet, sRetN, sE, sIf, sNil, sExpr, startE, f2, fVar, fCons, fNil, fTup, fIf, fAnd, fOr, fNot, fChain, gNm, bind_eq, pure_eq, bad_eq, biV, bopV, copV, wdOf, asB_bl, lineOk0, lineOk1, lineOk2, lineOk3, lineOk4, optR_some, gSq, gsCons, gsNil, seqW_tup, b_shows_end, D_shows_end, L_shows_end, x0, x2, x3, x4, lo4, h1]
  | true =>
    rw [q1] at h1
    cases q2 : isHab lo wo v with
    | false =>
      rw [q2] at h2
      simp [ev, sSeq, sAsg, sRet, sRetN, sE, sIf, sNil, sExpr, startE, f2, fVar, fCons, fNil, fTup, fIf, fAnd, fOr, fNot, fChain, gNm, bind_eq, pure_eq, bad_eq, biV, bopV, copV, wdOf, asB_bl, lineOk0, lineOk1, lineOk2, lineOk3, lineOk4, optR_some, gSq, gsCons, gsNil, seqW_tup, b_shows_end, D_shows_end, L_shows_end, x0, x2, x3, x4, lo4, h1, h2]
    | true =>
      rw [q2] at h2
      simp only [Bool.and_eq_true] at q1
      obtain ⟨a1, a2, a3⟩ := q1
      obtain ⟨k, rfl⟩ : ∃ k, s = .int k := by cases s <;> simp [btw] at a1 ⊢
      simp only [btw, Bool.and_eq_true, decide_eq_true_eq] at a1
      obtain ⟨k0, k1⟩ := a1
      obtain ⟨el, asc, rg⟩ := isLot_eq a2
      have eb := (isFr_ok a3).1
      obtain ⟨eqv, hb2⟩ := isHab_ok q2
      have hsz := pl_rows hK2 hv q2
      have hrow : ∀ r ∈ rowsOf v, r.length = wo.length := fun r hr => (hb2.row r hr).1
      show _ = SRes.rt (.bl (true && true && endB lo wo w k (ivs l) (rowsOf v) (ratOf b))) M
      have gm := Tl.at_ (lo := lo) (wo := wo) k0 (by omega : k < wo.length)
      have gl := T.glen gm
      have gr := (T.g _ gm).2.2
      have ll : (ivs l).length ≤ 8 := by have := asc_len asc rg (by omega); have := T.n8; omega
      have p2 := prop_tel (F_sayings_ok lo wo M)
      simp [bind_eq] at p2
      have i2 := idx_wo (l := wo) k0 (by omega : k < wo.length)
      have w1 := F_heard_weight_ok (lo := lo) (wo := wo) (H := rowsOf v) (v := itup (wo.getD k.toNat [])) (cs := wo.getD k.toNat []) (k := 100) k M T.w hb2.len hrow hsz k0 (by omega) rfl gr (by omega) (by omega)
      have w2 := F_heard_weight_ok (lo := lo) (wo := wo) (H := rowsOf v) (v := itup (ivs l)) (cs := ivs l) (k := 100) k M T.w hb2.len hrow hsz k0 (by omega) rfl rg (by omega) (by omega)
      rw [← eqv] at w1 w2
      rw [← el] at w2
      have le := F_least_for_ok lo wo k (ivs l) M (by have := T.m16; omega) k0 (by omega) (by omega) gr T.w
      have ge := F_greatest_for_ok lo wo k (ivs l) M (by have := T.m16; omega) k0 (by omega) (by omega) gr T.w
      rw [← el] at le ge
      have nn := hwt_nonneg T.w hb2 k gr
      unfold endB
      have s1 : Sz 969 (hwt lo (rowsOf v) k (wo.getD k.toNat [])) := w1.2.mono (by omega)
      have s2 : Sz 969 (hwt lo (rowsOf v) k (ivs l)) := w2.2.mono (by omega)
      have w1 := w1.1
      have w2 := w2.1
      generalize hwt lo (rowsOf v) k (wo.getD k.toNat []) = W at *
      generalize hwt lo (rowsOf v) k (ivs l) = P at *
      generalize wo.getD k.toNat [] = gg at *
      generalize ratOf b = bq at *
      have zW : ((W.num = 0) ↔ W = 0) := Rat.num_eq_zero
      by_cases c1 : W = 0
      · have c2 := zW.mpr c1
        simp [ev, sSeq, sAsg, sRet, sRetN, sE, sIf, sNil, sExpr, startE, f2, fVar, fCons, fNil, fTup, fIf, fAnd, fOr, fNot, fChain, gNm, bind_eq, pure_eq, bad_eq, biV, bopV, copV, wdOf, asB_bl, lineOk0, lineOk1, lineOk2, lineOk3, lineOk4, optR_some, gSq, gsCons, gsNil, seqW_tup, b_shows_end, D_shows_end, L_shows_end, mclOf, mnmOf, x0, x2, x3, x4, lo4, h1, h2, p2, i2, w1, w2, idx_frV0, idx_frV1, eqX_int, c2, c1]
      · have c2 : ¬ W.num = 0 := fun z => c1 (zW.mp z)
        have c3 : 0 < W.num := by have := Rat.num_nonneg.mpr nn; omega
        have d1 : ((P.den : Int)).natAbs < 2 ^ 969 := by simpa using s2.d
        have d2 : ((W.den : Int)).natAbs < 2 ^ 969 := by simpa using s1.d
        have m1 := mul_lt s2.n d2
        have m2 := mul_lt d1 s1.n
        have o1 := mulOk_of s2.n d2 (by omega)
        have o2 := mulOk_of d1 s1.n (by omega)
        have big : (2 : Nat) ^ (969 + 969) ≤ 2 ^ 4000 := Nat.pow_le_pow_right (by omega) (by omega)
        have hf := F_fraction_ok (P.num * W.den) ((P.den : Int) * W.num) M (Nat.lt_of_lt_of_le m1 big) (Nat.lt_of_lt_of_le m2 big) (Int.mul_pos (by have := P.den_pos; omega) c3)
        rw [rat_div] at hf
        have n1 := neX_frV (P / W) bq
        rw [← eb] at n1
        by_cases c4 : P / W = bq
        · rw [c4] at n1 hf
          by_cases c5 : w = ("least" : Str)
          · rw [c5] at ew
            have n2 := eqX_frV bq (leastQ lo wo k (ivs l))
            rw [← eb] at n2
            simp [ev, sSeq, sAsg, sRet, sRetN, sE, sIf, sNil, sExpr, startE, f2, fVar, fCons, fNil, fTup, fIf, fAnd, fOr, fNot, fChain, gNm, bind_eq, pure_eq, bad_eq, biV, bopV, copV, wdOf, asB_bl, lineOk0, lineOk1, lineOk2, lineOk3, lineOk4, optR_some, gSq, gsCons, gsNil, seqW_tup, b_shows_end, D_shows_end, L_shows_end, mclOf, mnmOf, x0, x2, x3, x4, lo4, h1, h2, p2, i2, w1, w2, idx_frV0, idx_frV1, eqX_int, c2, c1, mulV_int, o1, o2, hf, n1, c4, ew, c5, le, n2]
          · have n2 := eqX_frV bq (greatQ lo wo k (ivs l))
            rw [← eb] at n2
            simp [ev, sSeq, sAsg, sRet, sRetN, sE, sIf, sNil, sExpr, startE, f2, fVar, fCons, fNil, fTup, fIf, fAnd, fOr, fNot, fChain, gNm, bind_eq, pure_eq, bad_eq, biV, bopV, copV, wdOf, asB_bl, lineOk0, lineOk1, lineOk2, lineOk3, lineOk4, optR_some, gSq, gsCons, gsNil, seqW_tup, b_shows_end, D_shows_end, L_shows_end, mclOf, mnmOf, x0, x2, x3, x4, lo4, h1, h2, p2, i2, w1, w2, idx_frV0, idx_frV1, eqX_int, c2, c1, mulV_int, o1, o2, hf, n1, c4, ew, c5, ge, n2]
        · simp [ev, sSeq, sAsg, sRet, sRetN, sE, sIf, sNil, sExpr, startE, f2, fVar, fCons, fNil, fTup, fIf, fAnd, fOr, fNot, fChain, gNm, bind_eq, pure_eq, bad_eq, biV, bopV, copV, wdOf, asB_bl, lineOk0, lineOk1, lineOk2, lineOk3, lineOk4, optR_some, gSq, gsCons, gsNil, seqW_tup, b_shows_end, D_shows_end, L_shows_end, mclOf, mnmOf, x0, x2, x3, x4, lo4, h1, h2, p2, i2, w1, w2, idx_frV0, idx_frV1, eqX_int, c2, c1, mulV_int, o1, o2, hf, n1, c4]
end R
set_option maxHeartbeats 1000000
namespace R
open PySem PySem.Spec L2 TL
open PyProof.Rows hiding St
/-! P18: numbers in texts. -/
theorem mk_none {n nl : Nat} {b : Tm .b} {D : Wd} {xs : List PV} {M : Mem} {e : Env} (hl : xs.length = n) (h : ev (k := .b) D b (startE nl xs) M = .nx e M) : mkF n nl b D xs M = .ok .non M := by
  unfold mkF; rw [if_pos hl, h]; exact trim_p rfl
def optI : Option Nat → PV
  | none => .non
  | some n => .int n
def digB (c : Nat) : Bool := decide (48 ≤ c) && decide (c ≤ 57)
def numIn (t : Str) : Option Nat := if tl t = [] then none else if (tl t).all digB then (if (tl t).head? = some 48 ∧ tl t ≠ [48] then none else some (NumText.digitsVal (tl t))) else none
theorem digits_tl : (("0123456789" : Str)).cps.toList = [48, 49, 50, 51, 52, 53, 54, 55, 56, 57] := by decide +kernel
theorem inX_dig (c : Nat) : inX (.str ⟨#[c]⟩) (.str ("0123456789" : Str)) = pure (.bl (digB c)) := by
  show (pure (PV.bl (decide (c ∈ (("0123456789" : Str)).cps.toList))) : RM PV) = _
  rw [digits_tl]
  congr 2
  unfold digB
  rw [Bool.eq_iff_iff]
  simp only [decide_eq_true_eq, List.mem_cons, List.not_mem_nil, or_false, Bool.and_eq_true]
  omega
theorem str_nil : tl ("" : Str) = [] := by decide +kernel
theorem str_zero : tl ("0" : Str) = [48] := by decide +kernel
theorem eq_tl {a b : Str} : a = b ↔ tl a = tl b := ⟨fun h => by rw [h], ext_tl⟩
theorem neX_str {a b : Str} (ha : PyData.strOk a = true) (hb : PyData.strOk b = true) : neX (.str a) (.str b) = pure (.bl (!decide (a = b))) := by
  refine neX_of ?_
  simp [eqB, dataOf, SeqAt.shaped, PyData.eqv, PyData.canLay0, PyData.depth, ha, hb]
  rfl
theorem strOk_iff {t : Str} : PyData.strOk t = true ↔ ∀ c ∈ tl t, c < 0x110000 := by
  unfold PyData.strOk tl
  rw [← Array.all_toList, List.all_eq_true]
  simp
theorem number_in_ok (t : Str) (M : Mem) (ht : PyData.strOk t = true) (hl : t.length ≤ 640) : F_number_in [.str t] M = .ok (optI (numIn t)) M := by
  have hda : noRef M.length (optI (numIn t)) = true := by cases numIn t <;> rfl
  refine mk_pure rfl ?_ hda
  have e0 := eqX_str ht (show PyData.strOk ("" : Str) = true by decide +kernel)
  have hlen : t.length = (tl t).length := len_tl t
  by_cases h0 : tl t = []
  · have h1 : t = ("" : Str) := ext_tl (by rw [h0, str_nil])
    have hn : numIn t = none := if_pos h0
    rw [hn]
    simp only [h1, decide_true] at e0
    simp [ev, sSeq, sAsg, sRet, sRetN, sE, sIf, sNil, sExpr, startE, f2, fVar, fCons, fNil, fTup, fIf, fAnd, fOr, fNot, fChain, gNm, bind_eq, pure_eq, bad_eq, biV, bopV, copV, wdOf, asB_bl, lineOk0, lineOk1, lineOk2, lineOk3, lineOk4, optR_some, b_number_in, h1, e0, optI]
  · have h1 : ¬ t = ("" : Str) := fun e => h0 (by rw [e, str_nil])
    simp only [h1, decide_false] at e0
    have hc := lc_map (as := tl t) (enc := fun c => PV.str ⟨#[c]⟩) (fi := fun e => ev D_number_in (.var 0) e >>= wkOf) (vs := [1]) (i := 1) (f := ev D_number_in (.cmp .in_ (.var 1) (.gv 0))) (e := [some (.str t), none]) (M := M)
      (fun c => .bl (digB c)) rfl (szl (by omega)) (fun c _ M' => by
        refine ⟨?_, rfl⟩
        simp [ev, sSeq, sAsg, sRet, sRetN, sE, sIf, sNil, sExpr, startE, f2, fVar, fCons, fNil, fTup, fIf, fAnd, fOr, fNot, fChain, gNm, bind_eq, pure_eq, bad_eq, biV, bopV, copV, wdOf, asB_bl, lineOk0, lineOk1, lineOk2, lineOk3, lineOk4, optR_some, wipeE, D_number_in, inX_dig])
    have al := allW_map digB (tl t)
    by_cases hd : (tl t).all digB = true
    · rw [hd] at al
      cases htl : tl t with
      | nil => exact absurd htl h0
      | cons c r =>
        have x0 : idxW (.str t) (.int 0) = pure (.str ⟨#[c]⟩) := by
          show (if t.length ≤ sizeLine then optR ((atI t.cps.toList 0).map fun c => PV.str ⟨#[c]⟩) else RM.bad) = _
          rw [if_pos (szl (by omega))]
          have : t.cps.toList = c :: r := htl
          rw [this]
          simp [atI, ixN, optR]
        have hcc : c < 0x110000 := strOk_iff.mp ht c (by rw [htl]; simp)
        have e1 := eqX_str (a := ⟨#[c]⟩) (b := ("0" : Str)) (strOk_iff.mpr (by simpa [tl] using hcc)) (by decide +kernel)
        have e2 := neX_str ht (show PyData.strOk ("0" : Str) = true by decide +kernel)
        have z1 : ((⟨#[c]⟩ : Str) = ("0" : Str)) ↔ c = 48 := by rw [eq_tl, str_zero]; simp [tl]
        have z2 : (t = ("0" : Str)) ↔ tl t = [48] := by rw [eq_tl, str_zero]
        have hi : intW [.str t] = pure (.int (NumText.digitsVal (tl t) : Nat)) := by
          show (if t.length ≤ 640 then optR ((PySem.intText? t).map PV.int) else RM.bad) = _
          rw [if_pos hl, intText_digits (x := t) (by
            intro d hd2
            have := List.all_eq_true.mp hd d hd2
            simpa [digB] using this) h0 (by omega)]
          rfl
        have hn : numIn t = if c = 48 ∧ tl t ≠ [48] then none else some (NumText.digitsVal (tl t)) := by
          unfold numIn
          rw [if_neg h0, if_pos hd, htl]
          simp
        rw [hn]
        simp only [decide_eq_decide.mpr z1] at e1
        simp only [decide_eq_decide.mpr z2] at e2
        simp [ev, sSeq, sAsg, sRet, sRetN, sE, sIf, sNil, sExpr, startE, f2, fVar, fCons, fNil, fTup, fIf, fAnd, fOr, fNot, fChain, gNm, bind_eq, pure_eq, bad_eq, biV, bopV, copV, wdOf, asB_bl, lineOk0, lineOk1, lineOk2, lineOk3, lineOk4, optR_some, D_number_in] at hc
        generalize (List.map (fun c => PV.bl (digB c)) (tl t)) = zs at *
        clear hl hlen h0 hd z1 z2 hn htl
        by_cases c1 : c = 48
        · subst c1
          have c1 : (48 : Nat) = 48 := rfl
          by_cases c2 : tl t = [48]
          · simp [ev, sSeq, sAsg, sRet, sRetN, sE, sIf, sNil, sExpr, startE, f2, fVar, fCons, fNil, fTup, fIf, fAnd, fOr, fNot, fChain, gNm, bind_eq, pure_eq, bad_eq, biV, bopV, copV, wdOf, asB_bl, lineOk0, lineOk1, lineOk2, lineOk3, lineOk4, optR_some, b_number_in, D_number_in, e0, hc, al, x0, e1, e2, c1, c2, hi, optI]
          · simp [ev, sSeq, sAsg, sRet, sRetN, sE, sIf, sNil, sExpr, startE, f2, fVar, fCons, fNil, fTup, fIf, fAnd, fOr, fNot, fChain, gNm, bind_eq, pure_eq, bad_eq, biV, bopV, copV, wdOf, asB_bl, lineOk0, lineOk1, lineOk2, lineOk3, lineOk4, optR_some, b_number_in, D_number_in, e0, hc, al, x0, e1, e2, c1, c2, hi, optI]
        · simp [ev, sSeq, sAsg, sRet, sRetN, sE, sIf, sNil, sExpr, startE, f2, fVar, fCons, fNil, fTup, fIf, fAnd, fOr, fNot, fChain, gNm, bind_eq, pure_eq, bad_eq, biV, bopV, copV, wdOf, asB_bl, lineOk0, lineOk1, lineOk2, lineOk3, lineOk4, optR_some, b_number_in, D_number_in, e0, hc, al, x0, e1, e2, c1, hi, optI]
    · rw [Bool.not_eq_true] at hd
      rw [hd] at al
      have hn : numIn t = none := by
        unfold numIn
        rw [if_neg h0, hd]
        rfl
      rw [hn]
      simp [ev, sSeq, sAsg, sRet, sRetN, sE, sIf, sNil, sExpr, startE, f2, fVar, fCons, fNil, fTup, fIf, fAnd, fOr, fNot, fChain, gNm, bind_eq, pure_eq, bad_eq, biV, bopV, copV, wdOf, asB_bl, lineOk0, lineOk1, lineOk2, lineOk3, lineOk4, optR_some, D_number_in] at hc
      generalize (List.map (fun c => PV.bl (digB c)) (tl t)) = zs at *
      simp [ev, sSeq, sAsg, sRet, sRetN, sE, sIf, sNil, sExpr, startE, f2, fVar, fCons, fNil, fTup, fIf, fAnd, fOr, fNot, fChain, gNm, bind_eq, pure_eq, bad_eq, biV, bopV, copV, wdOf, asB_bl, lineOk0, lineOk1, lineOk2, lineOk3, lineOk4, optR_some, b_number_in, D_number_in, e0, hc, al, optI]
/-- a number as a text -/
def numW (n : Nat) : Str := Str.ofString (toString ((n : Nat) : Int))
theorem tl_numW (n : Nat) : tl (numW n) = numL n := tl_num n
theorem numL_head {n : Nat} (h : 0 < n) : (numL n).head? ≠ some 48 := by
  induction n using Nat.strongRecOn with
  | _ n ih =>
    by_cases h1 : n < 10
    · rw [numL_lt h1]
      simp; omega
    · rw [numL_step (by omega)]
      have := ih (n / 10) (by omega) (by omega)
      rw [List.head?_append]
      cases q : (numL (n / 10)).head? with
      | none => have := numL_ne (n / 10); simp at q; exact absurd q this
      | some c => rw [q] at this; simpa using this
theorem numIn_numW (n : Nat) : numIn (numW n) = some n := by
  unfold numIn
  rw [tl_numW, if_neg (numL_ne n), if_pos (by
    rw [List.all_eq_true]
    intro c hc
    have := numL_digits n c hc
    simpa [digB] using this), if_neg, numL_val]
  intro ⟨h1, h2⟩
  by_cases h0 : n = 0
  · subst h0; exact h2 (numL_lt (by omega))
  · exact numL_head (by omega) h1
theorem strOk_numW (n : Nat) : PyData.strOk (numW n) = true := strOk_iff.mpr fun c hc => by
  rw [tl_numW] at hc
  have := numL_digits n c hc
  omega
theorem len_numW {n k : Nat} (hk : 0 < k) (h : n < 10 ^ k) : (numW n).length ≤ k := by
  rw [len_tl, tl_numW]; exact numL_len hk h
theorem strW_num {n : Nat} (h : n < 10 ^ 100) : strW [.int (n : Nat)] = pure (.str (numW n)) := by
  show (if ((n : Int)).natAbs.log2 < 1920 then pure (PV.str (Str.ofString (toString (n : Int)))) else RM.bad) = _
  rw [if_pos]
  · rfl
  · have h2 : (10 : Nat) ^ 100 ≤ 2 ^ 400 := by
      have : (10 : Nat) ^ 100 = (10 ^ 3) ^ 33 * 10 := by rw [← Nat.pow_mul, ← Nat.pow_succ]
      rw [this]
      have h3 : ((10 : Nat) ^ 3) ^ 33 ≤ (2 ^ 10) ^ 33 := Nat.pow_le_pow_left (by decide) 33
      have h4 : ((2 : Nat) ^ 10) ^ 33 * 2 ^ 4 = 2 ^ 334 := by rw [← Nat.pow_mul, ← Nat.pow_add]
      have h5 : (2 : Nat) ^ 334 ≤ 2 ^ 400 := Nat.pow_le_pow_right (by omega) (by omega)
      have h6 : (10 : Nat) ≤ 2 ^ 4 := by decide
      exact Nat.le_trans (Nat.mul_le_mul h3 h6) (by rw [h4]; exact h5)
    have := log2_lt (n := n) (k := 400) (by omega) (by omega)
    simp; omega
/-! ### walking through a block -/
theorem seq_nx {a b : SM} {e e' : Env} {M M' : Mem} {r : SRes} (h : a e M = .nx e' M') (k : b e' M' = r) : sSeq a b e M = r := by unfold sSeq; rw [h]; exact k
theorem seq_rt {a b : SM} {e : Env} {M M' : Mem} {x : PV} (h : a e M = .rt x M') : sSeq a b e M = .rt x M' := by unfold sSeq; rw [h]
theorem seq_ex {a b : SM} {e e' : Env} {M M' : Mem} {c : Str} {xs : List PV} (h : a e M = .ex c xs e' M') : sSeq a b e M = .ex c xs e' M' := by unfold sSeq; rw [h]
theorem sFor_of {fi : Env → RM Wk} {g : PV → Env → RM Env} {body : SM} {e : Env} {M M' : Mem} {w : Wk} (hi : fi e M = .ok w M') : sFor fi g body e M = forL w g body w.xs e M' := by unfold sFor sE; rw [hi]
/-- a loop that goes through, and what follows -/
theorem seq_for {fi : Env → RM Wk} {g : PV → Env → RM Env} {body rest : SM} {e : Env} {M M0 : Mem} {w : Wk} {r : SRes} (P : Nat → Env → Mem → Prop) (hi : fi e M = .ok w M0) (h0 : P 0 e M0)
    (step : ∀ (i : Nat) (x : PV) (e : Env) (M : Mem), w.xs[i]? = some x → P i e M → w.holds M ∧ ∃ e1 M1 e2 M2, g x e M = .ok e1 M1 ∧ body e1 M1 = .nx e2 M2 ∧ P (i + 1) e2 M2)
    (hend : ∀ e M, P w.xs.length e M → w.holds M) (k : ∀ e' M', P w.xs.length e' M' → rest e' M' = r) : sSeq (sFor fi g body) rest e M = r := by
  obtain ⟨e', M', h1, h2⟩ := for_thru P step hend h0
  exact seq_nx (by rw [sFor_of hi]; exact h1) (k e' M' h2)
/-- a loop that goes through, at the end of a block -/
theorem for_end {fi : Env → RM Wk} {g : PV → Env → RM Env} {body : SM} {e : Env} {M M0 : Mem} {w : Wk} (P : Nat → Env → Mem → Prop) (hi : fi e M = .ok w M0) (h0 : P 0 e M0)
    (step : ∀ (i : Nat) (x : PV) (e : Env) (M : Mem), w.xs[i]? = some x → P i e M → w.holds M ∧ ∃ e1 M1 e2 M2, g x e M = .ok e1 M1 ∧ body e1 M1 = .nx e2 M2 ∧ P (i + 1) e2 M2)
    (hend : ∀ e M, P w.xs.length e M → w.holds M) : ∃ e' M', sFor fi g body e M = .nx e' M' ∧ P w.xs.length e' M' := by
  obtain ⟨e', M', h1, h2⟩ := for_thru P step hend h0
  exact ⟨e', M', by rw [sFor_of hi]; exact h1, h2⟩
end R
set_option maxHeartbeats 1000000
namespace R
open PySem PySem.Spec L2 TL
open PyProof.Rows hiding St
/-! P19: the text of a teller, written. -/
theorem recv_str (z : Str) : recvW "str" (.str z) = pure (.str z) := rfl
theorem splitW_ok {a b : Str} (ha : a.length ≤ 100000) (hb : b.length ≠ 0) : splitW (.str a) [.str b] = pure (.lst ((Txt.split a b).map PV.str)) := by
  show (if (b.length != 0) && decide (a.length + 2 ≤ sizeLine) then pure (PV.lst ((Txt.split a b).map PV.str)) else RM.bad) = _
  rw [if_pos]
  have : a.length + 2 ≤ sizeLine := by rw [sizeLine_eq]; omega
  simp [this, hb]
theorem strsOf_map (ys : List Str) : strsOf (ys.map PV.str) = some ys := by
  induction ys with
  | nil => rfl
  | cons b bs ih => simp [strsOf, ih]
theorem joinW_ok {a : Str} {ys : List Str} (h : joinOk a ys = true) : joinW (.str a) [.lst (ys.map PV.str)] = pure (.str (Txt.join a ys)) := by
  show (pure (ys.map PV.str) >>= fun xs => optR (strsOf xs) >>= fun ys => if joinOk a ys then pure (PV.str (Txt.join a ys)) else RM.bad : RM PV) = _
  funext M
  simp [bind_eq, pure_eq, strsOf_map, optR, h]
def numI (i : Int) : Str := numW i.toNat
def wordsL (l : List Int) : List Str := l.map numI
theorem numI_len {i : Int} (h0 : 0 ≤ i) (h1 : i ≤ 1000000) : (numI i).length ≤ 7 := len_numW (by omega) (Nat.lt_of_lt_of_eq (by omega : i.toNat < 10000000) (by decide))
theorem words_sum {l : List Int} (h : ∀ i ∈ l, 0 ≤ i ∧ i ≤ 1000000) : ((wordsL l).map (·.length)).sum ≤ 7 * l.length := by
  induction l with
  | nil => simp [wordsL]
  | cons i l ih =>
    have a := numI_len (h i (by simp)).1 (h i (by simp)).2
    have b := ih fun j hj => h j (by simp [hj])
    simp only [wordsL, List.map_cons, List.sum_cons, List.length_cons] at b ⊢
    omega
theorem words_ok {a : Str} {l : List Int} (h : ∀ i ∈ l, 0 ≤ i ∧ i ≤ 1000000) (hl : l.length ≤ 100) (ha : a.length ≤ 2) : joinOk a (wordsL l) = true := by
  have := words_sum h
  have h2 : l.length * a.length ≤ 100 * 2 := Nat.mul_le_mul hl ha
  refine decide_eq_true ?_
  have h3 : (wordsL l).length = l.length := by simp [wordsL]
  rw [h3]; omega
theorem len_joinL (S : List Nat) : ∀ ps : List (List Nat), (joinL S ps).length ≤ (ps.map List.length).sum + ps.length * S.length
  | [] => by simp [joinL]
  | [p] => by simp [joinL]
  | p :: q :: r => by
    have ih := len_joinL S (q :: r)
    simp only [joinL, List.length_append, List.map_cons, List.sum_cons, List.length_cons] at ih ⊢
    rw [Nat.succ_mul]; omega
theorem len_join {a : Str} {l : List Int} (h : ∀ i ∈ l, 0 ≤ i ∧ i ≤ 1000000) (ha : a.length ≤ 1) : (Txt.join a (wordsL l)).length ≤ 8 * l.length := by
  have h1 := words_sum h
  have h2 := len_joinL (tl a) ((wordsL l).map tl)
  rw [len_tl, join_eq, tl_join]
  have e1 : ((wordsL l).map tl).map List.length = (wordsL l).map (·.length) := by
    rw [List.map_map]; exact List.map_congr_left fun x _ => (len_tl x).symm
  have e2 : ((wordsL l).map tl).length = l.length := by simp [wordsL]
  have e3 : (tl a).length ≤ 1 := by rw [← len_tl]; exact ha
  rw [e1, e2] at h2
  have h3 : l.length * (tl a).length ≤ l.length * 1 := Nat.mul_le_mul_left _ e3
  omega
theorem len_app (s t : Str) : (s ++ t).length = s.length + t.length := by rw [len_tl, tl_append, List.length_append, ← len_tl, ← len_tl]
def pgStep (s : Str) (g : List Int) : Str := s ++ (" " : Str) ++ Txt.join ("," : Str) (wordsL g)
def page0 (lo : List Int) : Str := Txt.join (" " : Str) (wordsL lo) ++ (":" : Str)
def pageS (lo : List Int) (wo : List (List Int)) : Str := wo.foldl pgStep (page0 lo)
theorem addV_str {a b : Str} (h : a.length + b.length ≤ 100000) : addW (.str a) (.str b) = pure (.str (a ++ b)) := by
  show (if a.length + b.length ≤ sizeLine then pure (PV.str (a ++ b)) else RM.bad) = _
  rw [if_pos (by rw [sizeLine_eq]; omega)]
def card (lo : List Int) (wo : List (List Int)) : PV := .tup [itup lo, .tup (wo.map itup)]
theorem strW_numI {i : Int} (h0 : 0 ≤ i) (h1 : i ≤ 1000000) : strW [.int i] = pure (.str (numI i)) := by
  have := strW_num (n := i.toNat) (Nat.lt_of_le_of_lt (by omega : i.toNat ≤ 10 ^ 7) (Nat.pow_lt_pow_right (by omega) (by omega)))
  rwa [Int.toNat_of_nonneg h0] at this
theorem len1s : (" " : Str).length = 1 := by decide +kernel
theorem len1c : ("," : Str).length = 1 := by decide +kernel
theorem len1d : (":" : Str).length = 1 := by decide +kernel
theorem page_len {lo : List Int} {wo : List (List Int)} (hlo : ∀ x ∈ lo, 0 ≤ x ∧ x ≤ 1000000) (hn : lo.length ≤ 8) (hg : ∀ g ∈ wo, g.length ≤ 8 ∧ ∀ c ∈ g, 0 ≤ c ∧ c ≤ 1000000) : ∀ k, (pageS lo (wo.take k)).length ≤ 100 + 100 * (wo.take k).length := by
  intro k
  induction k with
  | zero =>
    simp only [List.take_zero, pageS, List.foldl_nil, page0, len_app, List.length_nil]
    have := len_join (a := (" " : Str)) hlo (by rw [len1s]; omega)
    have := len1d
    omega
  | succ k ih =>
    cases e : wo[k]? with
    | none =>
      have : wo.length ≤ k := by simpa using e
      rw [List.take_of_length_le (by omega)] at ih ⊢
      exact ih
    | some g =>
      rw [take_succ e]
      simp only [pageS, List.foldl_append, List.foldl_cons, List.foldl_nil, pgStep, len_app, List.length_append, List.length_cons, List.length_nil] at ih ⊢
      have h1 := hg g (List.mem_of_getElem? e)
      have := len_join (a := ("," : Str)) h1.2 (by rw [len1c]; omega)
      have := len1s
      omega
end R
set_option maxHeartbeats 1000000
namespace R
open PySem PySem.Spec L2 TL
open PyProof.Rows hiding St
/-! P20: the text of a teller, read. -/
theorem tl_sp : tl (" " : Str) = [32] := by decide +kernel
theorem tl_co : tl ("," : Str) = [44] := by decide +kernel
theorem tl_cl : tl (":" : Str) = [58] := by decide +kernel
theorem tl_cs : tl (": " : Str) = [58, 32] := by decide +kernel
theorem numI_free {i : Int} {s : Nat} (h : s < 48 ∨ 57 < s) : s ∉ tl (numI i) := by unfold numI; rw [tl_numW]; exact numL_free h
theorem joinL_free {s : Nat} {S : List Nat} (hS : s ∉ S) : ∀ {ps : List (List Nat)}, (∀ p ∈ ps, s ∉ p) → s ∉ joinL S ps
  | [], _ => by simp [joinL]
  | [p], h => by simpa [joinL] using h p (by simp)
  | p :: q :: r, h => by
    simp only [joinL, List.mem_append, not_or]
    exact ⟨h p (by simp), hS, joinL_free hS fun x hx => h x (by simp [hx])⟩
theorem words_free {a : Str} {l : List Int} {s : Nat} (h : s < 48 ∨ 57 < s) (ha : s ∉ tl a) : s ∉ tl (Txt.join a (wordsL l)) := by
  rw [join_eq, tl_join]
  refine joinL_free ha fun p hp => ?_
  simp only [wordsL, List.map_map, List.mem_map, Function.comp_apply] at hp
  obtain ⟨i, _, rfl⟩ := hp
  exact numI_free h
/-- the text's second half -/
def halfS (wo : List (List Int)) : Str := Txt.join (" " : Str) (wo.map fun g => Txt.join ("," : Str) (wordsL g))
theorem fold_tl (wo : List (List Int)) : ∀ s : Str, tl (wo.foldl pgStep s) = tl s ++ (wo.flatMap fun g => 32 :: tl (Txt.join ("," : Str) (wordsL g))) := by
  induction wo with
  | nil => intro s; simp
  | cons g wo ih =>
    intro s
    rw [List.foldl_cons, ih, pgStep, tl_append, tl_append, tl_sp, List.flatMap_cons]
    simp
theorem joinL_flat : ∀ {ps : List (List Nat)}, ps ≠ [] → 32 :: joinL [32] ps = ps.flatMap fun p => 32 :: p
  | [], h => absurd rfl h
  | [p], _ => by simp [joinL]
  | p :: q :: r, _ => by
    have ih := joinL_flat (ps := q :: r) (by simp)
    rw [List.flatMap_cons, ← ih]
    simp [joinL]
theorem page_join {lo : List Int} {wo : List (List Int)} (h : wo ≠ []) : pageS lo wo = Txt.join (": " : Str) [Txt.join (" " : Str) (wordsL lo), halfS wo] := by
  refine ext_tl ?_
  unfold pageS
  rw [fold_tl, page0, tl_append, tl_cl]
  rw [join_eq (": " : Str), tl_join, tl_cs]
  have e : 32 :: tl (halfS wo) = wo.flatMap fun g => 32 :: tl (Txt.join ("," : Str) (wordsL g)) := by
    unfold halfS
    rw [join_eq, tl_join, tl_sp, joinL_flat (by simpa using h), List.map_map, List.flatMap_map]
    rfl
  rw [← e]
  simp [joinL]
theorem split_page {lo : List Int} {wo : List (List Int)} (h : wo ≠ []) : Txt.split (pageS lo wo) (": " : Str) = [Txt.join (" " : Str) (wordsL lo), halfS wo] := by
  rw [page_join h]
  refine split_join tl_cs (by decide +kernel) (by simp) fun p hp => ?_
  simp only [List.mem_cons, List.not_mem_nil, or_false] at hp
  rcases hp with rfl | rfl
  · exact words_free (by omega) (by rw [tl_sp]; simp)
  · unfold halfS
    rw [join_eq, tl_join]
    refine joinL_free (by rw [tl_sp]; simp) fun q hq => ?_
    simp only [List.map_map, List.mem_map, Function.comp_apply] at hq
    obtain ⟨g, _, rfl⟩ := hq
    exact words_free (by omega) (by rw [tl_co]; simp)
theorem split_words {l : List Int} (h : l ≠ []) : Txt.split (Txt.join (" " : Str) (wordsL l)) (" " : Str) = wordsL l :=
  split_join tl_sp (by decide +kernel) (by simpa [wordsL] using h) fun p hp => by
    obtain ⟨i, _, rfl⟩ := List.mem_map.mp hp
    exact numI_free (by omega)
theorem split_cases {l : List Int} (h : l ≠ []) : Txt.split (Txt.join ("," : Str) (wordsL l)) ("," : Str) = wordsL l :=
  split_join tl_co (by decide +kernel) (by simpa [wordsL] using h) fun p hp => by
    obtain ⟨i, _, rfl⟩ := List.mem_map.mp hp
    exact numI_free (by omega)
theorem split_half {wo : List (List Int)} (h : wo ≠ []) : Txt.split (halfS wo) (" " : Str) = wo.map fun g => Txt.join ("," : Str) (wordsL g) :=
  split_join tl_sp (by decide +kernel) (by simpa using h) fun p hp => by
    obtain ⟨g, _, rfl⟩ := List.mem_map.mp hp
    exact words_free (by omega) (by rw [tl_co]; simp)
theorem numIn_numI {i : Int} (h : 0 ≤ i) : optI (numIn (numI i)) = .int i := by
  unfold numI
  rw [numIn_numW]
  show PV.int ((i.toNat : Nat) : Int) = _
  rw [Int.toNat_of_nonneg h]
theorem number_in_numI {i : Int} (M : Mem) (h0 : 0 ≤ i) (h1 : i ≤ 1000000) : F_number_in [.str (numI i)] M = .ok (.int i) M := by
  have := numI_len h0 h1
  have := number_in_ok (numI i) M (strOk_numW _) (by omega)
  rwa [numIn_numI h0] at this
theorem cases_in_words {g : List Int} (M : Mem) (h0 : g ≠ []) (hl : g.length ≤ 100) (h : ∀ i ∈ g, 0 ≤ i ∧ i ≤ 1000000) : F_cases_in [.str (Txt.join ("," : Str) (wordsL g))] M = .ok (itup g) M := by
  refine mk_pure rfl ?_ (da_itup g).at_
  have l1 := len_join (a := ("," : Str)) h (by rw [len1c]; omega)
  have sp := splitW_ok (a := Txt.join ("," : Str) (wordsL g)) (b := ("," : Str)) (by omega) (by rw [len1c]; omega)
  rw [split_cases h0] at sp
  have hc := lc_map (as := g) (enc := fun i => PV.str (numI i)) (fi := fun e => ev D_cases_in (.bm .split (.var 0) (.cons (.str ("," : Str)) .nil)) e >>= wkOf) (vs := [1]) (i := 1) (f := ev D_cases_in (.call 0 (.cons (.var 1) .nil))) (e := [some (.str (Txt.join ("," : Str) (wordsL g))), none]) (M := M)
    PV.int (by rw [show (g.map fun i => PV.str (numI i)) = (wordsL g).map PV.str by simp [wordsL]]; simp [ev, sSeq, sAsg, sRet, sRetN, sE, sIf, sNil, sExpr, startE, f2, fVar, fCons, fNil, fTup, fIf, fAnd, fOr, fNot, fChain, gNm, bind_eq, pure_eq, bad_eq, biV, bopV, copV, wdOf, asB_bl, lineOk0, lineOk1, lineOk2, lineOk3, lineOk4, optR_some, fMeth, bmT, bmV, recv_str, sp, wkOf_lst]) (szl (by omega)) (fun c hc M' => by
      have := number_in_numI M' (h c hc).1 (h c hc).2
      refine ⟨?_, rfl⟩
      simp [ev, sSeq, sAsg, sRet, sRetN, sE, sIf, sNil, sExpr, startE, f2, fVar, fCons, fNil, fTup, fIf, fAnd, fOr, fNot, fChain, gNm, bind_eq, pure_eq, bad_eq, biV, bopV, copV, wdOf, asB_bl, lineOk0, lineOk1, lineOk2, lineOk3, lineOk4, optR_some, wipeE, D_cases_in, L_cases_in, this])
  simp [ev, sSeq, sAsg, sRet, sRetN, sE, sIf, sNil, sExpr, startE, f2, fVar, fCons, fNil, fTup, fIf, fAnd, fOr, fNot, fChain, gNm, bind_eq, pure_eq, bad_eq, biV, bopV, copV, wdOf, asB_bl, lineOk0, lineOk1, lineOk2, lineOk3, lineOk4, optR_some] at hc
  simp [ev, sSeq, sAsg, sRet, sRetN, sE, sIf, sNil, sExpr, startE, f2, fVar, fCons, fNil, fTup, fIf, fAnd, fOr, fNot, fChain, gNm, bind_eq, pure_eq, bad_eq, biV, bopV, copV, wdOf, asB_bl, lineOk0, lineOk1, lineOk2, lineOk3, lineOk4, optR_some, b_cases_in, hc, tupleW_lst, itup]
theorem check_weights_ok {lo : List Int} (M : Mem) (h2 : 2 ≤ lo.length) (h8 : lo.length ≤ 8) (hw : ∀ x ∈ lo, 1 ≤ x ∧ x ≤ 1000000) : F_check_weights [itup lo] M = .ok .non M := by
  have i1 : isiW "tuple" (itup lo) = pure (.bl true) := isi_tuple_tup _
  have ll : lenW [itup lo] = pure (.int lo.length) := by simp [itup, lenW_tup]
  have c1 : ¬ (lo.length : Int) < 2 := by omega
  obtain ⟨e', M', hf, hM, he⟩ := for_end (fi := ev D_check_weights (.enum (.var 0))) (g := gSq 2 (gsCons (gNm 1) (gsCons (gNm 2) gsNil))) (body := ev (k := .b) D_check_weights (.bone (.ifs (.or_ (.cmp .eq (.var 1) (.gv 1)) (.or1 (.not_ (.call 0 (.cons (.var 2) (.cons (.int 1) (.cons (.gv 2) .nil))))))) (.bone (.raise ("InvalidWeights" : Str) ("index" : Str) (.var 1))) .bnil)))
    (e := [some (itup lo), none, none]) (M := M) (M0 := M) (w := ⟨(nums lo).map fun q => .tup [.int (q.1 : Nat), .int q.2], []⟩) (fun i e M' => M' = M ∧ ∃ z1 z2, e = [some (itup lo), z1, z2])
    (by simp [ev, sSeq, sAsg, sRet, sRetN, sE, sIf, sNil, sExpr, startE, f2, fVar, fCons, fNil, fTup, fIf, fAnd, fOr, fNot, fChain, gNm, bind_eq, pure_eq, bad_eq, biV, bopV, copV, wdOf, asB_bl, lineOk0, lineOk1, lineOk2, lineOk3, lineOk4, optR_some, itup, enumW_tup, numbered_map]) ⟨rfl, none, none, rfl⟩ (fun i x e M' hx ⟨hM, z1, z2, he⟩ => by
      subst hM he
      obtain ⟨q, hq, rfl⟩ : ∃ q, (nums lo)[i]? = some q ∧ PV.tup [.int (q.1 : Nat), .int q.2] = x := by simpa using hx
      have hm := mem_nums (List.mem_of_getElem? hq)
      have hi := (List.getElem?_eq_some_iff.mp hm).1
      have hv := hw q.2 (List.mem_of_getElem? hm)
      have e1 : ¬ ((q.1 : Nat) : Int) = 8 := by omega
      have hb := is_between_int q.2 1 1000000 M'
      simp only [hv.1, hv.2, decide_true, Bool.and_self] at hb
      refine ⟨Wk.holds0, [some (itup lo), some (.int (q.1 : Nat)), some (.int q.2)], M', [some (itup lo), some (.int (q.1 : Nat)), some (.int q.2)], M', ?_, ?_, rfl, _, _, rfl⟩
      · simp [ev, sSeq, sAsg, sRet, sRetN, sE, sIf, sNil, sExpr, startE, f2, fVar, fCons, fNil, fTup, fIf, fAnd, fOr, fNot, fChain, gNm, bind_eq, pure_eq, bad_eq, biV, bopV, copV, wdOf, asB_bl, lineOk0, lineOk1, lineOk2, lineOk3, lineOk4, optR_some, gSq, gsCons, gsNil, seqW_tup]
      · simp [ev, sSeq, sAsg, sRet, sRetN, sE, sIf, sNil, sExpr, startE, f2, fVar, fCons, fNil, fTup, fIf, fAnd, fOr, fNot, fChain, gNm, bind_eq, pure_eq, bad_eq, biV, bopV, copV, wdOf, asB_bl, lineOk0, lineOk1, lineOk2, lineOk3, lineOk4, optR_some, D_check_weights, L_check_weights, eqX_int, e1, hb])
    (fun _ _ _ => Wk.holds0)
  refine mk_none (e := e') rfl ?_
  subst hM
  show sSeq _ _ _ _ = _
  refine seq_nx (e' := [some (itup lo), none, none]) (M' := M') ?_ hf
  simp [ev, sSeq, sAsg, sRet, sRetN, sE, sIf, sNil, sExpr, startE, f2, fVar, fCons, fNil, fTup, fIf, fAnd, fOr, fNot, fChain, gNm, bind_eq, pure_eq, bad_eq, biV, bopV, copV, wdOf, asB_bl, lineOk0, lineOk1, lineOk2, lineOk3, lineOk4, optR_some, tyS, isi_int_non, isi_int_bl, isi_int_int, isi_int_str, isi_int_tup, isi_int_lst, isi_bool_non, isi_bool_bl, isi_bool_int, isi_bool_str, isi_bool_tup, isi_bool_lst, isi_str_non, isi_str_bl, isi_str_int, isi_str_str, isi_str_tup, isi_str_lst, isi_tuple_non, isi_tuple_bl, isi_tuple_int, isi_tuple_str, isi_tuple_tup, isi_tuple_lst, isi_int_dct, isi_bool_dct, isi_str_dct, isi_tuple_dct, i1, ll, D_check_weights, cmpW_int, c1]
end R
set_option maxHeartbeats 1000000
namespace R
open PySem PySem.Spec L2 TL
open PyProof.Rows hiding St
variable {K K2 : Nat}
/-! P50: weights and sayings that are none. -/
theorem mk_ex {n nl : Nat} {b : Tm .b} {D : Wd} {xs : List PV} {M : Mem} {c : Str} {ys : List PV} {e : Env} (hl : xs.length = n) (h : ev (k := .b) D b (startE nl xs) M = .ex c ys e M) (hr : noRefs M.length ys = true) : mkF n nl b D xs M = .exc c ys M := by
  unfold mkF; rw [if_pos hl, h]
  show trim M (.exc c ys M) = _
  rw [trim_ey ⟨hr, keeps_refl M⟩, List.take_length]
theorem eqB_tnil {xs : List PV} {b : Bool} (h : eqB (.tup xs) (.tup []) = some b) : b = xs.isEmpty := by
  obtain ⟨d, e, h1, h2, h3, h4, rfl⟩ := eqB_some h
  have : e = .tuple [] := by simp [dataOf, datasOf] at h2; exact h2.symm
  subst this
  cases q : datasOf xs with
  | none => simp [dataOf, q] at h1
  | some ds =>
    simp [dataOf, q] at h1
    subst h1
    show PyData.eqvAll ds [] = _
    cases xs with
    | nil => simp [datasOf] at q; subst q; rfl
    | cons x xs =>
      cases ds with
      | nil =>
        simp only [datasOf] at q
        split at q <;> simp at q
      | cons d ds => rfl
theorem eqX_tnil (xs : List PV) : eqX (.tup xs) (.tup []) = pure (.bl xs.isEmpty) := by
  cases h : eqB (.tup xs) (.tup []) with
  | some b => rw [eqX_of h, eqB_tnil h]
  | none =>
    unfold eqX
    rw [h]
    show (match tpE (.tup xs) (.tup []) with
      | some b => (pure (PV.bl b) : RM PV)
      | none => _) = _
    have : tpE (.tup xs) (.tup []) = some xs.isEmpty := by unfold tpE; simp
    rw [this]
/-- numbered elements, one at a time, up to one that is wrong -/
theorem for_until {w : Wk} {g : PV → Env → RM Env} {body : SM} {e : Env} {M : Mem} (P : Nat → Env → Mem → Prop) (ok : Nat → Bool) (Q : SRes → Prop)
    (step : ∀ (i : Nat) (x : PV) (e : Env) (M : Mem), w.xs[i]? = some x → P i e M → w.holds M ∧ ∃ e1 M1, g x e M = .ok e1 M1 ∧ ((ok i = true ∧ ∃ e2 M2, body e1 M1 = .nx e2 M2 ∧ P (i + 1) e2 M2) ∨ (ok i = false ∧ ∃ c ys e2 M2, body e1 M1 = .ex c ys e2 M2 ∧ Q (.ex c ys e2 M2))))
    (hend : ∀ e M, P w.xs.length e M → w.holds M) (h0 : P 0 e M) : (((List.range w.xs.length).all ok = true) ∧ ∃ e' M', forL w g body w.xs e M = .nx e' M' ∧ P w.xs.length e' M') ∨ (((List.range w.xs.length).all ok = false) ∧ Q (forL w g body w.xs e M)) := by
  have h := for_inv (w := w) (g := g) (body := body) (xs := w.xs) (fun i e M => P i e M ∧ ∀ j, j < i → ok j = true) (fun r => Q r ∧ (List.range w.xs.length).all ok = false) (fun i x e M hx ⟨hp, hj⟩ => by
    obtain ⟨a, e1, M1, h1, h2⟩ := step i x e M hx hp
    have hi := (List.getElem?_eq_some_iff.mp hx).1
    refine ⟨a, e1, M1, h1, ?_⟩
    rcases h2 with ⟨ho, e2, M2, h3, h4⟩ | ⟨ho, c, ys, e2, M2, h3, h4⟩
    · exact .inl ⟨e2, M2, .inl h3, h4, fun j hj2 => by
        rcases Nat.lt_succ_iff_lt_or_eq.mp hj2 with h | h
        · exact hj j h
        · rw [h]; exact ho⟩
    · refine .inr (.inr ⟨c, ys, e2, M2, h3, h4, ?_⟩)
      cases q : (List.range w.xs.length).all ok with
      | false => rfl
      | true =>
        have := List.all_eq_true.mp q i (List.mem_range.mpr hi)
        rw [ho] at this
        cases this) (fun e M hp => hend e M hp.1) w.xs 0 e M rfl (Nat.zero_le _) ⟨h0, fun j hj => by omega⟩
  rcases h with ⟨e', M', h1, h2, h3⟩ | ⟨h1, h2⟩
  · exact .inl ⟨List.all_eq_true.mpr fun j hj => h3 j (List.mem_range.mp hj), e', M', h1, h2⟩
  · exact .inr ⟨h2, h1⟩
def wOk (xs : List PV) : Bool := decide (2 ≤ xs.length) && (decide (xs.length ≤ 8) && xs.all fun x => btw x 1 1000000)
theorem wOk_range {xs : List PV} : ((List.range xs.length).all fun i => !decide (i = 8) && btw (xs.getD i .non) 1 1000000) = (decide (xs.length ≤ 8) && xs.all fun x => btw x 1 1000000) := by
  rw [Bool.eq_iff_iff]
  simp only [List.all_eq_true, List.mem_range, Bool.and_eq_true, Bool.not_eq_true', decide_eq_false_iff_not, decide_eq_true_eq]
  constructor
  · intro h
    refine ⟨?_, fun x hx => ?_⟩
    · refine Nat.le_of_not_lt fun h2 => ?_
      exact (h 8 h2).1 rfl
    · obtain ⟨i, hi⟩ := List.mem_iff_getElem?.mp hx
      have := (h i (List.getElem?_eq_some_iff.mp hi).1).2
      rw [List.getD_eq_getElem?_getD, hi] at this
      exact this
  · intro ⟨h1, h2⟩ i hi
    refine ⟨by omega, ?_⟩
    rw [List.getD_eq_getElem?_getD, List.getElem?_eq_getElem hi]
    exact h2 _ (List.getElem_mem hi)
theorem check_weights_any {xs : List PV} (h : pls K xs = true) (hl : xs.length ≤ 1000) (M : Mem) : (wOk xs = true ∧ F_check_weights [.tup xs] M = .ok .non M) ∨ (wOk xs = false ∧ ∃ y, Da y ∧ F_check_weights [.tup xs] M = .exc ("InvalidWeights" : Str) [y] M) := by
  have i1 : isiW "tuple" (.tup xs) = pure (.bl true) := isi_tuple_tup _
  have ll : lenW [.tup xs] = pure (.int xs.length) := by simp [lenW_tup]
  by_cases c1 : xs.length < 2
  · refine .inr ⟨by unfold wOk; rw [decide_eq_false (by omega)]; rfl, .non, rfl, mk_ex (e := [some (.tup xs), none, none]) rfl ?_ rfl⟩
    have c2 : (xs.length : Int) < 2 := by omega
    show sSeq _ _ _ _ = _
    refine seq_ex ?_
    simp [ev, sSeq, sAsg, sRet, sRetN, sE, sIf, sNil, sExpr, startE, f2, fVar, fCons, fNil, fTup, fIf, fAnd, fOr, fNot, fChain, gNm, bind_eq, pure_eq, bad_eq, biV, bopV, copV, wdOf, asB_bl, lineOk0, lineOk1, lineOk2, lineOk3, lineOk4, optR_some, tyS, isi_int_non, isi_int_bl, isi_int_int, isi_int_str, isi_int_tup, isi_int_lst, isi_bool_non, isi_bool_bl, isi_bool_int, isi_bool_str, isi_bool_tup, isi_bool_lst, isi_str_non, isi_str_bl, isi_str_int, isi_str_str, isi_str_tup, isi_str_lst, isi_tuple_non, isi_tuple_bl, isi_tuple_int, isi_tuple_str, isi_tuple_tup, isi_tuple_lst, isi_int_dct, isi_bool_dct, isi_str_dct, isi_tuple_dct, i1, ll, D_check_weights, cmpW_int, c2, sRaise]
  · have c2 : ¬ (xs.length : Int) < 2 := by omega
    have e0 : wOk xs = ((List.range xs.length).all fun i => !decide (i = 8) && btw (xs.getD i .non) 1 1000000) := by
      rw [wOk_range]; unfold wOk; rw [decide_eq_true (by omega : 2 ≤ xs.length)]; rfl
    have pre : ∀ r, sFor (ev D_check_weights (.enum (.var 0))) (gSq 2 (gsCons (gNm 1) (gsCons (gNm 2) gsNil))) (ev (k := .b) D_check_weights (.bone (.ifs (.or_ (.cmp .eq (.var 1) (.gv 1)) (.or1 (.not_ (.call 0 (.cons (.var 2) (.cons (.int 1) (.cons (.gv 2) .nil))))))) (.bone (.raise ("InvalidWeights" : Str) ("index" : Str) (.var 1))) .bnil))) [some (.tup xs), none, none] M = r → ev (k := .b) D_check_weights b_check_weights (startE 3 [.tup xs]) M = r := by
      intro r hr
      show sSeq _ _ _ _ = _
      refine seq_nx (e' := [some (.tup xs), none, none]) (M' := M) ?_ hr
      simp [ev, sSeq, sAsg, sRet, sRetN, sE, sIf, sNil, sExpr, startE, f2, fVar, fCons, fNil, fTup, fIf, fAnd, fOr, fNot, fChain, gNm, bind_eq, pure_eq, bad_eq, biV, bopV, copV, wdOf, asB_bl, lineOk0, lineOk1, lineOk2, lineOk3, lineOk4, optR_some, tyS, isi_int_non, isi_int_bl, isi_int_int, isi_int_str, isi_int_tup, isi_int_lst, isi_bool_non, isi_bool_bl, isi_bool_int, isi_bool_str, isi_bool_tup, isi_bool_lst, isi_str_non, isi_str_bl, isi_str_int, isi_str_str, isi_str_tup, isi_str_lst, isi_tuple_non, isi_tuple_bl, isi_tuple_int, isi_tuple_str, isi_tuple_tup, isi_tuple_lst, isi_int_dct, isi_bool_dct, isi_str_dct, isi_tuple_dct, i1, ll, D_check_weights, cmpW_int, c2]
    have hi : ev D_check_weights (.enum (.var 0)) [some (.tup xs), none, none] M = .ok ⟨(nums xs).map fun q => .tup [.int (q.1 : Nat), q.2], []⟩ M := by
      have := numbered_map (fun x : PV => x) xs
      simp at this
      simp [ev, sSeq, sAsg, sRet, sRetN, sE, sIf, sNil, sExpr, startE, f2, fVar, fCons, fNil, fTup, fIf, fAnd, fOr, fNot, fChain, gNm, bind_eq, pure_eq, bad_eq, biV, bopV, copV, wdOf, asB_bl, lineOk0, lineOk1, lineOk2, lineOk3, lineOk4, optR_some, enumW_tup, this]
    have L := for_until (w := ⟨(nums xs).map fun q => .tup [.int (q.1 : Nat), q.2], []⟩) (g := gSq 2 (gsCons (gNm 1) (gsCons (gNm 2) gsNil))) (body := ev (k := .b) D_check_weights (.bone (.ifs (.or_ (.cmp .eq (.var 1) (.gv 1)) (.or1 (.not_ (.call 0 (.cons (.var 2) (.cons (.int 1) (.cons (.gv 2) .nil))))))) (.bone (.raise ("InvalidWeights" : Str) ("index" : Str) (.var 1))) .bnil)))
      (e := [some (.tup xs), none, none]) (M := M) (fun i e M' => M' = M ∧ ∃ z1 z2, e = [some (.tup xs), z1, z2]) (fun i => !decide (i = 8) && btw (xs.getD i .non) 1 1000000) (fun r => ∃ y e, Da y ∧ r = .ex ("InvalidWeights" : Str) [y] e M)
      (fun i x e M' hx ⟨hM, z1, z2, he⟩ => by
        subst hM he
        obtain ⟨q, hq, rfl⟩ : ∃ q, (nums xs)[i]? = some q ∧ PV.tup [.int (q.1 : Nat), q.2] = x := by simpa using hx
        have hm := mem_nums (List.mem_of_getElem? hq)
        have hqi : q.1 = i := by
          unfold nums at hq
          rw [List.getElem?_zip_eq_some] at hq
          obtain ⟨h5, h6⟩ := List.getElem?_eq_some_iff.mp hq.1
          rw [List.getElem_range] at h6
          omega
        have hv : xs.getD i .non = q.2 := by rw [hqi] at hm; simp [hm]
        have hb := is_between_any (pls_iff.mp h q.2 (List.mem_of_getElem? hm)) 1 1000000 M'
        refine ⟨Wk.holds0, [some (.tup xs), some (.int (q.1 : Nat)), some q.2], M', ?_, ?_⟩
        · simp [ev, sSeq, sAsg, sRet, sRetN, sE, sIf, sNil, sExpr, startE, f2, fVar, fCons, fNil, fTup, fIf, fAnd, fOr, fNot, fChain, gNm, bind_eq, pure_eq, bad_eq, biV, bopV, copV, wdOf, asB_bl, lineOk0, lineOk1, lineOk2, lineOk3, lineOk4, optR_some, gSq, gsCons, gsNil, seqW_tup]
        rw [hv, hqi]
        by_cases h8 : i = 8
        · subst h8
          refine .inr ⟨by simp, ("InvalidWeights" : Str), [.int 8], [some (.tup xs), some (.int 8), some q.2], M', ?_, .int 8, _, rfl, rfl⟩
          simp [ev, sSeq, sAsg, sRet, sRetN, sE, sIf, sNil, sExpr, startE, f2, fVar, fCons, fNil, fTup, fIf, fAnd, fOr, fNot, fChain, gNm, bind_eq, pure_eq, bad_eq, biV, bopV, copV, wdOf, asB_bl, lineOk0, lineOk1, lineOk2, lineOk3, lineOk4, optR_some, D_check_weights, L_check_weights, eqX_int, sRaise]
        · have e1 : ¬ ((i : Nat) : Int) = 8 := by omega
          cases hbv : btw q.2 1 1000000 with
          | true =>
            rw [hbv] at hb
            refine .inl ⟨by simp [h8], [some (.tup xs), some (.int (i : Nat)), some q.2], M', ?_, rfl, _, _, rfl⟩
            simp [ev, sSeq, sAsg, sRet, sRetN, sE, sIf, sNil, sExpr, startE, f2, fVar, fCons, fNil, fTup, fIf, fAnd, fOr, fNot, fChain, gNm, bind_eq, pure_eq, bad_eq, biV, bopV, copV, wdOf, asB_bl, lineOk0, lineOk1, lineOk2, lineOk3, lineOk4, optR_some, D_check_weights, L_check_weights, eqX_int, e1, hb]
          | false =>
            rw [hbv] at hb
            refine .inr ⟨by simp, ("InvalidWeights" : Str), [.int (i : Nat)], [some (.tup xs), some (.int (i : Nat)), some q.2], M', ?_, .int (i : Nat), _, rfl, rfl⟩
            simp [ev, sSeq, sAsg, sRet, sRetN, sE, sIf, sNil, sExpr, startE, f2, fVar, fCons, fNil, fTup, fIf, fAnd, fOr, fNot, fChain, gNm, bind_eq, pure_eq, bad_eq, biV, bopV, copV, wdOf, asB_bl, lineOk0, lineOk1, lineOk2, lineOk3, lineOk4, optR_some, D_check_weights, L_check_weights, eqX_int, e1, hb, sRaise])
      (fun _ _ _ => Wk.holds0) ⟨rfl, none, none, rfl⟩
    have nl : ((nums xs).map fun q => PV.tup [.int (q.1 : Nat), q.2]).length = xs.length := by rw [List.length_map, nums_len]
    dsimp only at L
    rw [nl, ← e0] at L
    rcases L with ⟨h1, e', M', h2, hM, z1, z2, he⟩ | ⟨h1, y, e', hd, h2⟩
    · subst hM
      refine .inl ⟨h1, mk_none (e := e') rfl (pre _ ?_)⟩
      rw [sFor_of hi]; exact h2
    · refine .inr ⟨h1, y, hd, mk_ex (e := e') rfl (pre _ ?_) (das fun x hx => by rw [List.mem_singleton.mp hx]; exact hd)⟩
      rw [sFor_of hi]; exact h2
end R
set_option maxHeartbeats 1000000
namespace R
open PySem PySem.Spec L2 TL
open PyProof.Rows hiding St
variable {K K2 : Nat}
/-! P51: sayings that are none. -/
def nilT : PV → Bool
  | .tup [] => true
  | _ => false
def gOk (many : Nat) (y : PV) : Bool := isLot y many && !nilT y
def covB (many : Nat) (wo : List (List Int)) : Bool := (List.range many).all fun c => wo.any fun g => decide ((c : Int) ∈ g)
def sOk (ys : List PV) (many : Nat) : Bool := !ys.isEmpty && ((decide (ys.length ≤ 16) && ys.all (gOk many)) && covB many (ys.map ivs))
theorem gOk_eq {many : Nat} {y : PV} (h : gOk many y = true) : y = itup (ivs y) := by
  unfold gOk at h
  rw [Bool.and_eq_true] at h
  have h1 := h.1
  cases y with
  | tup xs =>
    unfold isLot at h1
    cases e : intsOf xs with
    | none => simp [e] at h1
    | some l =>
      have := intsOf_some e
      subst this
      show PV.tup (l.map PV.int) = itup ((intsOf (l.map PV.int)).getD [])
      rw [intsOf_map]
      rfl
  | _ => simp [isLot] at h1
theorem sOk_range {ys : List PV} {many : Nat} : ((List.range ys.length).all fun i => !decide (i = 16) && gOk many (ys.getD i .non)) = (decide (ys.length ≤ 16) && ys.all (gOk many)) := by
  rw [Bool.eq_iff_iff]
  simp only [List.all_eq_true, List.mem_range, Bool.and_eq_true, Bool.not_eq_true', decide_eq_false_iff_not, decide_eq_true_eq]
  constructor
  · intro h
    refine ⟨?_, fun x hx => ?_⟩
    · refine Nat.le_of_not_lt fun h2 => ?_
      exact (h 16 h2).1 rfl
    · obtain ⟨i, hi⟩ := List.mem_iff_getElem?.mp hx
      have := (h i (List.getElem?_eq_some_iff.mp hi).1).2
      rw [List.getD_eq_getElem?_getD, hi] at this
      exact this
  · intro ⟨h1, h2⟩ i hi
    refine ⟨by omega, ?_⟩
    rw [List.getD_eq_getElem?_getD, List.getElem?_eq_getElem hi]
    exact h2 _ (List.getElem_mem hi)
theorem check_sayings_any {ys : List PV} (many : Nat) (h : pls K ys = true) (hl : ys.length ≤ 1000) (hl2 : ∀ y ∈ ys, ∀ zs, y = .tup zs → zs.length ≤ 1000) (hmy : many ≤ 1000) (M : Mem) :
    (sOk ys many = true ∧ F_check_sayings [.tup ys, .int many] M = .ok .non M) ∨ (sOk ys many = false ∧ ∃ y, Da y ∧ F_check_sayings [.tup ys, .int many] M = .exc ("InvalidSayings" : Str) [y] M) := by
  have i1 : isiW "tuple" (.tup ys) = pure (.bl true) := isi_tuple_tup _
  have e00 := eqX_tnil ys
  cases hne : ys.isEmpty with
  | true =>
    rw [hne] at e00
    refine .inr ⟨by unfold sOk; rw [hne]; rfl, .non, rfl, mk_ex (e := [some (.tup ys), some (.int many), none, none, none]) rfl ?_ rfl⟩
    show sSeq _ _ _ _ = _
    refine seq_ex ?_
    simp [ev, sSeq, sAsg, sRet, sRetN, sE, sIf, sNil, sExpr, startE, f2, fVar, fCons, fNil, fTup, fIf, fAnd, fOr, fNot, fChain, gNm, bind_eq, pure_eq, bad_eq, biV, bopV, copV, wdOf, asB_bl, lineOk0, lineOk1, lineOk2, lineOk3, lineOk4, optR_some, tyS, isi_int_non, isi_int_bl, isi_int_int, isi_int_str, isi_int_tup, isi_int_lst, isi_bool_non, isi_bool_bl, isi_bool_int, isi_bool_str, isi_bool_tup, isi_bool_lst, isi_str_non, isi_str_bl, isi_str_int, isi_str_str, isi_str_tup, isi_str_lst, isi_tuple_non, isi_tuple_bl, isi_tuple_int, isi_tuple_str, isi_tuple_tup, isi_tuple_lst, isi_int_dct, isi_bool_dct, isi_str_dct, isi_tuple_dct, i1, e00, D_check_sayings, sRaise]
  | false =>
    rw [hne] at e00
    have hi : ev D_check_sayings (.enum (.var 0)) [some (.tup ys), some (.int many), none, none, none] M = .ok ⟨(nums ys).map fun q => .tup [.int (q.1 : Nat), q.2], []⟩ M := by
      have := numbered_map (fun x : PV => x) ys
      simp at this
      simp [ev, sSeq, sAsg, sRet, sRetN, sE, sIf, sNil, sExpr, startE, f2, fVar, fCons, fNil, fTup, fIf, fAnd, fOr, fNot, fChain, gNm, bind_eq, pure_eq, bad_eq, biV, bopV, copV, wdOf, asB_bl, lineOk0, lineOk1, lineOk2, lineOk3, lineOk4, optR_some, enumW_tup, this]
    have L := for_until (w := ⟨(nums ys).map fun q => .tup [.int (q.1 : Nat), q.2], []⟩) (g := gSq 2 (gsCons (gNm 2) (gsCons (gNm 3) gsNil))) (body := ev (k := .b) D_check_sayings (.bone (.ifs (.or_ (.cmp .eq (.var 2) (.gv 0)) (.or_ (.not_ (.call 0 (.cons (.var 3) (.cons (.var 1) .nil)))) (.or1 (.cmp .eq (.var 3) (.tup .nil))))) (.bone (.raise ("InvalidSayings" : Str) ("index" : Str) (.var 2))) .bnil)))
      (e := [some (.tup ys), some (.int many), none, none, none]) (M := M) (fun i e M' => M' = M ∧ ∃ z1 z2, e = [some (.tup ys), some (.int many), z1, z2, none]) (fun i => !decide (i = 16) && gOk many (ys.getD i .non)) (fun r => ∃ y e, Da y ∧ r = .ex ("InvalidSayings" : Str) [y] e M)
      (fun i x e M' hx ⟨hM, z1, z2, he⟩ => by
        subst hM he
        obtain ⟨q, hq, rfl⟩ : ∃ q, (nums ys)[i]? = some q ∧ PV.tup [.int (q.1 : Nat), q.2] = x := by simpa using hx
        have hm := mem_nums (List.mem_of_getElem? hq)
        have hqi : q.1 = i := by
          unfold nums at hq
          rw [List.getElem?_zip_eq_some] at hq
          obtain ⟨h5, h6⟩ := List.getElem?_eq_some_iff.mp hq.1
          rw [List.getElem_range] at h6
          omega
        have hv : ys.getD i .non = q.2 := by rw [hqi] at hm; simp [hm]
        have hq2 := List.mem_of_getElem? hm
        have hb := is_lot_any (pls_iff.mp h q.2 hq2) many M' (hl2 q.2 hq2)
        refine ⟨Wk.holds0, [some (.tup ys), some (.int many), some (.int (q.1 : Nat)), some q.2, none], M', ?_, ?_⟩
        · simp [ev, sSeq, sAsg, sRet, sRetN, sE, sIf, sNil, sExpr, startE, f2, fVar, fCons, fNil, fTup, fIf, fAnd, fOr, fNot, fChain, gNm, bind_eq, pure_eq, bad_eq, biV, bopV, copV, wdOf, asB_bl, lineOk0, lineOk1, lineOk2, lineOk3, lineOk4, optR_some, gSq, gsCons, gsNil, seqW_tup]
        rw [hv, hqi]
        by_cases h8 : i = 16
        · subst h8
          refine .inr ⟨by simp, ("InvalidSayings" : Str), [.int 16], [some (.tup ys), some (.int many), some (.int 16), some q.2, none], M', ?_, .int 16, _, rfl, rfl⟩
          simp [ev, sSeq, sAsg, sRet, sRetN, sE, sIf, sNil, sExpr, startE, f2, fVar, fCons, fNil, fTup, fIf, fAnd, fOr, fNot, fChain, gNm, bind_eq, pure_eq, bad_eq, biV, bopV, copV, wdOf, asB_bl, lineOk0, lineOk1, lineOk2, lineOk3, lineOk4, optR_some, D_check_sayings, L_check_sayings, eqX_int, sRaise]
        · have e1 : ¬ ((i : Nat) : Int) = 16 := by omega
          cases hbv : isLot q.2 many with
          | false =>
            rw [hbv] at hb
            refine .inr ⟨by simp [gOk, hbv], ("InvalidSayings" : Str), [.int (i : Nat)], [some (.tup ys), some (.int many), some (.int (i : Nat)), some q.2, none], M', ?_, .int (i : Nat), _, rfl, rfl⟩
            simp [ev, sSeq, sAsg, sRet, sRetN, sE, sIf, sNil, sExpr, startE, f2, fVar, fCons, fNil, fTup, fIf, fAnd, fOr, fNot, fChain, gNm, bind_eq, pure_eq, bad_eq, biV, bopV, copV, wdOf, asB_bl, lineOk0, lineOk1, lineOk2, lineOk3, lineOk4, optR_some, D_check_sayings, L_check_sayings, eqX_int, e1, hb, sRaise]
          | true =>
            rw [hbv] at hb
            obtain ⟨zs, hz⟩ : ∃ zs, q.2 = .tup zs := by
              cases hh : q.2 with
              | tup zs => exact ⟨zs, rfl⟩
              | _ => rw [hh] at hbv; simp [isLot] at hbv
            rw [hz] at hb hbv ⊢
            have e2 := eqX_tnil zs
            cases hzn : zs.isEmpty with
            | true =>
              rw [hzn] at e2
              have hn : nilT (.tup zs) = true := by cases zs <;> simp at hzn ⊢; rfl
              refine .inr ⟨by simp [gOk, hn], ("InvalidSayings" : Str), [.int (i : Nat)], [some (.tup ys), some (.int many), some (.int (i : Nat)), some (.tup zs), none], M', ?_, .int (i : Nat), _, rfl, rfl⟩
              simp [ev, sSeq, sAsg, sRet, sRetN, sE, sIf, sNil, sExpr, startE, f2, fVar, fCons, fNil, fTup, fIf, fAnd, fOr, fNot, fChain, gNm, bind_eq, pure_eq, bad_eq, biV, bopV, copV, wdOf, asB_bl, lineOk0, lineOk1, lineOk2, lineOk3, lineOk4, optR_some, D_check_sayings, L_check_sayings, eqX_int, e1, hb, e2, sRaise]
            | false =>
              rw [hzn] at e2
              have hn : nilT (.tup zs) = false := by cases zs <;> simp at hzn ⊢; rfl
              refine .inl ⟨by simp [h8, gOk, hn, hbv], [some (.tup ys), some (.int many), some (.int (i : Nat)), some (.tup zs), none], M', ?_, rfl, _, _, rfl⟩
              simp [ev, sSeq, sAsg, sRet, sRetN, sE, sIf, sNil, sExpr, startE, f2, fVar, fCons, fNil, fTup, fIf, fAnd, fOr, fNot, fChain, gNm, bind_eq, pure_eq, bad_eq, biV, bopV, copV, wdOf, asB_bl, lineOk0, lineOk1, lineOk2, lineOk3, lineOk4, optR_some, D_check_sayings, L_check_sayings, eqX_int, e1, hb, e2])
      (fun _ _ _ => Wk.holds0) ⟨rfl, none, none, rfl⟩
    have nl : ((nums ys).map fun q => PV.tup [.int (q.1 : Nat), q.2]).length = ys.length := by rw [List.length_map, nums_len]
    dsimp only at L
    rw [nl, sOk_range] at L
    have a0 : ∀ {r : SRes} {e' : Env} {M' : Mem}, forL ⟨(nums ys).map fun q => .tup [.int (q.1 : Nat), q.2], []⟩ (gSq 2 (gsCons (gNm 2) (gsCons (gNm 3) gsNil))) (ev (k := .b) D_check_sayings (.bone (.ifs (.or_ (.cmp .eq (.var 2) (.gv 0)) (.or_ (.not_ (.call 0 (.cons (.var 3) (.cons (.var 1) .nil)))) (.or1 (.cmp .eq (.var 3) (.tup .nil))))) (.bone (.raise ("InvalidSayings" : Str) ("index" : Str) (.var 2))) .bnil)))
        ((nums ys).map fun q => .tup [.int (q.1 : Nat), q.2]) [some (.tup ys), some (.int many), none, none, none] M = r → sFor (ev D_check_sayings (.enum (.var 0))) (gSq 2 (gsCons (gNm 2) (gsCons (gNm 3) gsNil))) (ev (k := .b) D_check_sayings (.bone (.ifs (.or_ (.cmp .eq (.var 2) (.gv 0)) (.or_ (.not_ (.call 0 (.cons (.var 3) (.cons (.var 1) .nil)))) (.or1 (.cmp .eq (.var 3) (.tup .nil))))) (.bone (.raise ("InvalidSayings" : Str) ("index" : Str) (.var 2))) .bnil))) [some (.tup ys), some (.int many), none, none, none] M = r := by
      intro r e' M' hr
      rw [sFor_of hi]; exact hr
    have p1 : ev (k := .s) D_check_sayings (.ifs (.or_ (.not_ (.isi (.var 0) .tuple)) (.or1 (.cmp .eq (.var 0) (.tup .nil)))) (.bone (.raise ("InvalidSayings" : Str) ("index" : Str) .non)) .bnil) [some (.tup ys), some (.int many), none, none, none] M = .nx [some (.tup ys), some (.int many), none, none, none] M := by
      simp [ev, sSeq, sAsg, sRet, sRetN, sE, sIf, sNil, sExpr, startE, f2, fVar, fCons, fNil, fTup, fIf, fAnd, fOr, fNot, fChain, gNm, bind_eq, pure_eq, bad_eq, biV, bopV, copV, wdOf, asB_bl, lineOk0, lineOk1, lineOk2, lineOk3, lineOk4, optR_some, tyS, isi_int_non, isi_int_bl, isi_int_int, isi_int_str, isi_int_tup, isi_int_lst, isi_bool_non, isi_bool_bl, isi_bool_int, isi_bool_str, isi_bool_tup, isi_bool_lst, isi_str_non, isi_str_bl, isi_str_int, isi_str_str, isi_str_tup, isi_str_lst, isi_tuple_non, isi_tuple_bl, isi_tuple_int, isi_tuple_str, isi_tuple_tup, isi_tuple_lst, isi_int_dct, isi_bool_dct, isi_str_dct, isi_tuple_dct, i1, e00]
    rcases L with ⟨h1, e', M', h2, hM, z1, z2, he⟩ | ⟨h1, y, e', hd, h2⟩
    · subst hM he
      have hal : ∀ y ∈ ys, y = itup (ivs y) := fun y hy => by
        rw [Bool.and_eq_true] at h1
        exact gOk_eq (List.all_eq_true.mp h1.2 y hy)
      have h16 : ys.length ≤ 16 := by
        rw [Bool.and_eq_true] at h1
        exact of_decide_eq_true h1.1
      have hys : ys = (ys.map ivs).map itup := by
        rw [List.map_map]
        conv => lhs; rw [← List.map_id ys]
        exact List.map_congr_left fun y hy => hal y hy
      have es : sOk ys many = covB many (ys.map ivs) := by unfold sOk; rw [hne, h1]; rfl
      rw [es]
      have hw16 : (ys.map ivs).length ≤ 16 := by simpa using h16
      generalize hwo : ys.map ivs = wo at *
      have hc := lc_map (as := List.range many) (enc := fun i => PV.int (i : Nat)) (fi := ev D_check_sayings (.range1 (.var 1))) (vs := [4]) (i := 4) (f := ev D_check_sayings (.bi .any (.cons (.lc false [(("value" : Str), 3)] (.gnm 3) (.seq (.var 0)) .tt (.cmp .in_ (.var 4) (.var 3))) .nil))) (e := [some (.tup ys), some (.int many), z1, z2, none]) (M := M')
        (fun c => .bl (wo.any fun g => decide ((c : Int) ∈ g)))
        (by
          have r1 := range1W_eq (rngB_of (i := (many : Int)) (by omega) (by omega))
          simp only [rngP, Int.sub_zero, Int.toNat_natCast, Int.zero_add] at r1
          show (fCons (fVar 1) fNil _ >>= range1W) M' = _
          have : fCons (fVar 1) fNil [some (.tup ys), some (PV.int many), z1, z2, none] = pure [.int many] := by
            funext M; simp [fCons, fVar, fNil, bind_eq, pure_eq]
          rw [this, bind_eq, pure_eq]
          simp only
          rw [r1]; rfl) (by rw [List.length_range]; exact szl (by omega))
        (fun c hc M2 => by
          have hc2 := lc_map (as := wo) (enc := itup) (fi := fun e => ev D_check_sayings (.var 0) e >>= wkOf) (vs := [3]) (i := 3) (f := ev D_check_sayings (.cmp .in_ (.var 4) (.var 3))) (e := [some (.tup ys), some (.int many), z1, z2, some (.int (c : Nat))]) (M := M2)
            (fun g => .bl (decide ((c : Int) ∈ g))) (by rw [hys]; rfl) (szl (by omega)) (fun g hg M3 => by
              refine ⟨?_, rfl⟩
              simp [ev, sSeq, sAsg, sRet, sRetN, sE, sIf, sNil, sExpr, startE, f2, fVar, fCons, fNil, fTup, fIf, fAnd, fOr, fNot, fChain, gNm, bind_eq, pure_eq, bad_eq, biV, bopV, copV, wdOf, asB_bl, lineOk0, lineOk1, lineOk2, lineOk3, lineOk4, optR_some, wipeE, inX_itup])
          have al := anyW_map (fun g : List Int => decide ((c : Int) ∈ g)) wo
          refine ⟨?_, rfl⟩
          simp [ev, sSeq, sAsg, sRet, sRetN, sE, sIf, sNil, sExpr, startE, f2, fVar, fCons, fNil, fTup, fIf, fAnd, fOr, fNot, fChain, gNm, bind_eq, pure_eq, bad_eq, biV, bopV, copV, wdOf, asB_bl, lineOk0, lineOk1, lineOk2, lineOk3, lineOk4, optR_some] at hc2
          simp [ev, sSeq, sAsg, sRet, sRetN, sE, sIf, sNil, sExpr, startE, f2, fVar, fCons, fNil, fTup, fIf, fAnd, fOr, fNot, fChain, gNm, bind_eq, pure_eq, bad_eq, biV, bopV, copV, wdOf, asB_bl, lineOk0, lineOk1, lineOk2, lineOk3, lineOk4, optR_some, wipeE, hc2, al])
      have al := allW_map (fun c : Nat => wo.any fun g => decide ((c : Int) ∈ g)) (List.range many)
      change allW _ = pure (.bl (covB many wo)) at al
      generalize ((List.range many).map fun c : Nat => PV.bl (wo.any fun g => decide ((c : Int) ∈ g))) = zs at *
      simp [ev, sSeq, sAsg, sRet, sRetN, sE, sIf, sNil, sExpr, startE, f2, fVar, fCons, fNil, fTup, fIf, fAnd, fOr, fNot, fChain, gNm, bind_eq, pure_eq, bad_eq, biV, bopV, copV, wdOf, asB_bl, lineOk0, lineOk1, lineOk2, lineOk3, lineOk4, optR_some] at hc
      cases hcv : covB many wo with
      | true =>
        rw [hcv] at al
        refine .inl ⟨rfl, mk_none (e := [some (.tup ys), some (.int many), z1, z2, none]) rfl ?_⟩
        show sSeq _ (sSeq _ _) _ _ = _
        refine seq_nx p1 (seq_nx (a0 (e' := []) (M' := []) h2) ?_)
        simp [ev, sSeq, sAsg, sRet, sRetN, sE, sIf, sNil, sExpr, startE, f2, fVar, fCons, fNil, fTup, fIf, fAnd, fOr, fNot, fChain, gNm, bind_eq, pure_eq, bad_eq, biV, bopV, copV, wdOf, asB_bl, lineOk0, lineOk1, lineOk2, lineOk3, lineOk4, optR_some, hc, al]
      | false =>
        rw [hcv] at al
        refine .inr ⟨rfl, .non, rfl, mk_ex (e := [some (.tup ys), some (.int many), z1, z2, none]) rfl ?_ rfl⟩
        show sSeq _ (sSeq _ _) _ _ = _
        refine seq_nx p1 (seq_nx (a0 (e' := []) (M' := []) h2) ?_)
        simp [ev, sSeq, sAsg, sRet, sRetN, sE, sIf, sNil, sExpr, startE, f2, fVar, fCons, fNil, fTup, fIf, fAnd, fOr, fNot, fChain, gNm, bind_eq, pure_eq, bad_eq, biV, bopV, copV, wdOf, asB_bl, lineOk0, lineOk1, lineOk2, lineOk3, lineOk4, optR_some, hc, al, sRaise]
    · refine .inr ⟨by unfold sOk; rw [h1]; simp, y, hd, mk_ex (e := e') rfl ?_ (das fun x hx => by rw [List.mem_singleton.mp hx]; exact hd)⟩
      show sSeq _ (sSeq _ _) _ _ = _
      exact seq_nx p1 (seq_ex (a0 (e' := []) (M' := []) h2))
end R
set_option maxHeartbeats 1000000
namespace R
open PySem PySem.Spec L2 TL
open PyProof.Rows hiding St
variable {K K2 : Nat}
/-! P52: any text, read: words and numbers. -/
theorem joinL_mem {S : List Nat} : ∀ {ps : List (List Nat)} {p : List Nat}, p ∈ ps → ∀ c ∈ p, c ∈ joinL S ps
  | [], p, h, c, hc => by simp at h
  | [q], p, h, c, hc => by
    rw [List.mem_singleton] at h
    subst h
    simpa [joinL] using hc
  | q :: r :: s, p, h, c, hc => by
    simp only [joinL, List.mem_append]
    rcases List.mem_cons.mp h with h | h
    · subst h; exact .inl hc
    · exact .inr (.inr (joinL_mem h c hc))
theorem joinL_sum {S : List Nat} : ∀ ps : List (List Nat), (ps.map List.length).sum ≤ (joinL S ps).length
  | [] => by simp
  | [p] => by simp [joinL]
  | p :: q :: r => by
    have ih := joinL_sum (S := S) (q :: r)
    simp only [joinL, List.length_append, List.map_cons, List.sum_cons] at ih ⊢
    omega
theorem joinL_cnt {S : List Nat} (hS : 1 ≤ S.length) : ∀ ps : List (List Nat), ps.length ≤ (joinL S ps).length + 1
  | [] => by simp
  | [p] => by simp
  | p :: q :: r => by
    have ih := joinL_cnt hS (q :: r)
    simp only [joinL, List.length_append, List.length_cons] at ih ⊢
    omega
theorem le_sum : ∀ {l : List Nat} {n : Nat}, n ∈ l → n ≤ l.sum
  | [], n, h => by simp at h
  | m :: l, n, h => by
    rw [List.sum_cons]
    rcases List.mem_cons.mp h with h | h
    · omega
    · have := le_sum h; omega
theorem split_tl (x y : Str) : tl x = joinL (tl y) ((Txt.split x y).map tl) := by
  conv => lhs; rw [← PySem.StrLaws.join_split x y]
  rw [tl_join]
theorem split_part {x y p : Str} (hp : p ∈ Txt.split x y) : (PyData.strOk x = true → PyData.strOk p = true) ∧ p.length ≤ x.length := by
  have h := split_tl x y
  refine ⟨fun hx => strOk_iff.mpr fun c hc => strOk_iff.mp hx c ?_, ?_⟩
  · rw [h]
    exact joinL_mem (List.mem_map.mpr ⟨p, hp, rfl⟩) c hc
  · have h1 := joinL_sum (S := tl y) ((Txt.split x y).map tl)
    rw [← h] at h1
    have h2 : (tl p).length ≤ (((Txt.split x y).map tl).map List.length).sum := le_sum (List.mem_map.mpr ⟨tl p, List.mem_map.mpr ⟨p, hp, rfl⟩, rfl⟩)
    rw [len_tl, len_tl]
    omega
theorem split_cnt {x y : Str} (hy : 1 ≤ y.length) : (Txt.split x y).length ≤ x.length + 1 := by
  have h1 := joinL_cnt (S := tl y) (by rw [← len_tl]; exact hy) ((Txt.split x y).map tl)
  rw [← split_tl, ← len_tl, List.length_map] at h1
  exact h1
theorem recv_str2 (z : Str) : recvW "str" (.str z) = pure (.str z) := rfl
theorem splitW_any {a b : Str} (ha : a.length ≤ 100000) (hb : b.length ≠ 0) : splitW (.str a) [.str b] = pure (.lst ((Txt.split a b).map PV.str)) := by
  show (if (b.length != 0) && decide (a.length + 2 ≤ sizeLine) then pure (PV.lst ((Txt.split a b).map PV.str)) else RM.bad) = _
  rw [if_pos]
  have : a.length + 2 ≤ sizeLine := by rw [sizeLine_eq]; omega
  simp [this, hb]
def onum (t : Str) : PV := optI (numIn t)
def casesP (w : Str) : PV := .tup ((Txt.split w (",")).map onum)
def wsP (a : Str) : List PV := (Txt.split a (" ")).map onum
def ssP (b : Str) : List PV := (Txt.split b (" ")).map casesP
theorem l1c : (("," : Str)).length = 1 := by decide +kernel
theorem l1s : ((" " : Str)).length = 1 := by decide +kernel
theorem l2c : ((": " : Str)).length = 2 := by decide +kernel
theorem dv_go : ∀ (cs : List Nat) (a : Nat), cs.all digB = true → cs.foldl (fun acc c => acc * 10 + (c - 48)) a < (a + 1) * 10 ^ cs.length
  | [], a, _ => by simp
  | c :: cs, a, h => by
    rw [List.all_cons, Bool.and_eq_true] at h
    have ih := dv_go cs (a * 10 + (c - 48)) h.2
    have h1 : c ≤ 57 := by
      have := h.1
      simp [digB] at this
      exact this.2
    rw [List.foldl_cons, List.length_cons, Nat.pow_succ]
    refine Nat.lt_of_lt_of_le ih ?_
    have h2 : a * 10 + (c - 48) + 1 ≤ (a + 1) * 10 := by omega
    have h3 := Nat.mul_le_mul_right (10 ^ cs.length) h2
    rw [Nat.mul_assoc, Nat.mul_comm 10] at h3
    exact h3
theorem dv_lt (cs : List Nat) (h : cs.all digB = true) : NumText.digitsVal cs < 10 ^ cs.length := by
  have := dv_go cs 0 h
  simpa [NumText.digitsVal] using this
theorem numIn_lt {t : Str} {n : Nat} (h : numIn t = some n) : n < 10 ^ t.length := by
  unfold numIn at h
  split at h
  · cases h
  · split at h
    · split at h
      · cases h
      · rename_i h1 h2 h3
        injection h with h
        rw [← h, len_tl]
        exact dv_lt _ h2
    · cases h
theorem da_onum (t : Str) : Da (onum t) := by unfold onum; cases numIn t <;> rfl
theorem da_casesP (w : Str) : Da (casesP w) := da_tup fun x hx => by
  obtain ⟨t, _, rfl⟩ := List.mem_map.mp hx
  exact da_onum t
theorem pl_onum {t : Str} (hl : t.length ≤ 640) : pl 3000 (onum t) = true := by
  unfold onum
  cases h : numIn t with
  | none => rfl
  | some n =>
    have := numIn_lt h
    simp only [optI, pl, decide_eq_true_eq]
    have e1 : (10 : Nat) ^ t.length ≤ 16 ^ t.length := Nat.pow_le_pow_left (by omega) _
    have e2 : (16 : Nat) ^ t.length = 2 ^ (4 * t.length) := by rw [show (16 : Nat) = 2 ^ 4 from rfl, ← Nat.pow_mul]
    have e3 : (2 : Nat) ^ (4 * t.length) ≤ 2 ^ 3000 := Nat.pow_le_pow_right (by omega) (by omega)
    have e4 : ((n : Int)).natAbs = n := Int.natAbs_natCast n
    rw [e4]
    exact Nat.lt_of_lt_of_le this (Nat.le_trans (e2 ▸ e1) e3)
theorem cases_in_any {w : Str} (hw : PyData.strOk w = true) (hl : w.length ≤ 640) (M : Mem) : F_cases_in [.str w] M = .ok (casesP w) M := by
  refine mk_pure rfl ?_ (da_casesP w).at_
  have sp := splitW_any (a := w) (b := ("," : Str)) (by omega) (by rw [l1c]; omega)
  have hc := lc_map (as := Txt.split w ("," : Str)) (enc := PV.str) (fi := fun e => ev D_cases_in (.bm .split (.var 0) (.cons (.str ("," : Str)) .nil)) e >>= wkOf) (vs := [1]) (i := 1) (f := ev D_cases_in (.call 0 (.cons (.var 1) .nil))) (e := [some (.str w), none]) (M := M)
    onum (by simp [ev, sSeq, sAsg, sRet, sRetN, sE, sIf, sNil, sExpr, startE, f2, fVar, fCons, fNil, fTup, fIf, fAnd, fOr, fNot, fChain, gNm, bind_eq, pure_eq, bad_eq, biV, bopV, copV, wdOf, asB_bl, lineOk0, lineOk1, lineOk2, lineOk3, lineOk4, optR_some, fMeth, bmT, bmV, recv_str2, sp, wkOf_lst]) (szl (by have := split_cnt (x := w) (y := ("," : Str)) (by rw [l1c]; omega); omega)) (fun c hc M' => by
      obtain ⟨h1, h2⟩ := split_part hc
      have := number_in_ok c M' (h1 hw) (by omega)
      refine ⟨?_, da_onum c⟩
      simp [ev, sSeq, sAsg, sRet, sRetN, sE, sIf, sNil, sExpr, startE, f2, fVar, fCons, fNil, fTup, fIf, fAnd, fOr, fNot, fChain, gNm, bind_eq, pure_eq, bad_eq, biV, bopV, copV, wdOf, asB_bl, lineOk0, lineOk1, lineOk2, lineOk3, lineOk4, optR_some, wipeE, D_cases_in, L_cases_in, this, onum])
  simp [ev, sSeq, sAsg, sRet, sRetN, sE, sIf, sNil, sExpr, startE, f2, fVar, fCons, fNil, fTup, fIf, fAnd, fOr, fNot, fChain, gNm, bind_eq, pure_eq, bad_eq, biV, bopV, copV, wdOf, asB_bl, lineOk0, lineOk1, lineOk2, lineOk3, lineOk4, optR_some] at hc
  simp [ev, sSeq, sAsg, sRet, sRetN, sE, sIf, sNil, sExpr, startE, f2, fVar, fCons, fNil, fTup, fIf, fAnd, fOr, fNot, fChain, gNm, bind_eq, pure_eq, bad_eq, biV, bopV, copV, wdOf, asB_bl, lineOk0, lineOk1, lineOk2, lineOk3, lineOk4, optR_some, b_cases_in, hc, tupleW_lst, casesP]
end R
set_option maxHeartbeats 1000000
namespace R
open PySem PySem.Spec L2 TL
open PyProof.Rows hiding St
variable {K K2 : Nat}
/-! P53: any text, read. -/
theorem trim_len0 {M M' : Mem} {x : PV} (h : M'.length = M.length) : trim M (.ok x M') = .ok x M' := by
  have e : M'.take M.length = M' := by rw [← h, List.take_length]
  unfold trim
  dsimp only
  rw [e]
  split <;> rfl
theorem mk_lenN0 {n nl : Nat} {b : Tm .b} {D : Wd} {xs : List PV} {M M' : Mem} {e : Env} (hl : xs.length = n) (h : ev (k := .b) D b (startE nl xs) M = .nx e M') (hr : M'.length = M.length) : mkF n nl b D xs M = .ok .non M' := by
  unfold mkF; rw [if_pos hl, h]; exact trim_len0 hr
def errN (c : Str) : Bool := decide (c = ("InvalidWeights" : Str)) || decide (c = ("InvalidSayings" : Str))
theorem init_any {ws ss : List PV} (h1 : pls K ws = true) (h2 : pls K ss = true) (l1 : ws.length ≤ 1000) (l2 : ss.length ≤ 1000) (l3 : ∀ y ∈ ss, ∀ zs, y = .tup zs → zs.length ≤ 1000) (M : Mem) :
    ((wOk ws && sOk ss ws.length) = true ∧ F_Teller___init__ [.ref M.length, .tup ws, .tup ss] (M ++ [.ins "Teller" [] []]) = .ok .non (M ++ [.ins "Teller" ["held"] [.tup [.tup ws, .tup ss]]])) ∨
    ((wOk ws && sOk ss ws.length) = false ∧ ∃ c y, errN c = true ∧ Da y ∧ F_Teller___init__ [.ref M.length, .tup ws, .tup ss] (M ++ [.ins "Teller" [] []]) = .exc c [y] (M ++ [.ins "Teller" [] []])) := by
  have a1 := check_weights_any h1 l1 (M ++ [.ins "Teller" [] []])
  have a2 := check_sayings_any ws.length h2 l2 l3 l1 (M ++ [.ins "Teller" [] []])
  have ll : lenW [.tup ws] = pure (.int ws.length) := by simp [lenW_tup]
  rcases a1 with ⟨w1, a1⟩ | ⟨w1, y, hy, a1⟩
  · rcases a2 with ⟨w2, a2⟩ | ⟨w2, y, hy, a2⟩
    · refine .inl ⟨by rw [w1, w2]; rfl, mk_lenN0 (e := [some (.ref M.length), some (.tup ws), some (.tup ss)]) rfl ?_ (by simp)⟩
      have st : stoW (· == ("Teller" : Str)) ("held" : Str) (.tup [.tup ws, .tup ss]) (.ref M.length) (M ++ [.ins "Teller" [] []]) = .ok () (M ++ [.ins "Teller" ["held"] [.tup [.tup ws, .tup ss]]]) := by
        simp [stoW, putP]
      simp [ev, sSeq, sAsg, sRet, sRetN, sE, sIf, sNil, sExpr, startE, f2, fVar, fCons, fNil, fTup, fIf, fAnd, fOr, fNot, fChain, gNm, bind_eq, pure_eq, bad_eq, biV, bopV, copV, wdOf, asB_bl, lineOk0, lineOk1, lineOk2, lineOk3, lineOk4, optR_some, sSto, b_Teller___init__, D_Teller___init__, L_Teller___init__, a1, a2, ll, st]
    · refine .inr ⟨by rw [w1, w2]; rfl, ("InvalidSayings" : Str), y, by decide +kernel, hy, mk_ex (e := [some (.ref M.length), some (.tup ws), some (.tup ss)]) rfl ?_ (das fun x hx => by rw [List.mem_singleton.mp hx]; exact hy)⟩
      simp [ev, sSeq, sAsg, sRet, sRetN, sE, sIf, sNil, sExpr, startE, f2, fVar, fCons, fNil, fTup, fIf, fAnd, fOr, fNot, fChain, gNm, bind_eq, pure_eq, bad_eq, biV, bopV, copV, wdOf, asB_bl, lineOk0, lineOk1, lineOk2, lineOk3, lineOk4, optR_some, sSto, b_Teller___init__, D_Teller___init__, L_Teller___init__, a1, a2, ll]
  · refine .inr ⟨by rw [w1]; rfl, ("InvalidWeights" : Str), y, by decide +kernel, hy, mk_ex (e := [some (.ref M.length), some (.tup ws), some (.tup ss)]) rfl ?_ (das fun x hx => by rw [List.mem_singleton.mp hx]; exact hy)⟩
    simp [ev, sSeq, sAsg, sRet, sRetN, sE, sIf, sNil, sExpr, startE, f2, fVar, fCons, fNil, fTup, fIf, fAnd, fOr, fNot, fChain, gNm, bind_eq, pure_eq, bad_eq, biV, bopV, copV, wdOf, asB_bl, lineOk0, lineOk1, lineOk2, lineOk3, lineOk4, optR_some, sSto, b_Teller___init__, D_Teller___init__, L_Teller___init__, a1]
theorem new_any {ws ss : List PV} (h1 : pls K ws = true) (h2 : pls K ss = true) (l1 : ws.length ≤ 1000) (l2 : ss.length ≤ 1000) (l3 : ∀ y ∈ ss, ∀ zs, y = .tup zs → zs.length ≤ 1000) (M : Mem) :
    ((wOk ws && sOk ss ws.length) = true ∧ newF ("Teller" : Str) F_Teller___init__ [.tup ws, .tup ss] M = .ok (.ins "Teller" ["held"] [.tup [.tup ws, .tup ss]]) M) ∨
    ((wOk ws && sOk ss ws.length) = false ∧ ∃ c y, errN c = true ∧ Da y ∧ newF ("Teller" : Str) F_Teller___init__ [.tup ws, .tup ss] M = .exc c [y] M) := by
  rcases init_any h1 h2 l1 l2 l3 M with ⟨w, a⟩ | ⟨w, c, y, hc, hy, a⟩
  · refine .inl ⟨w, ?_⟩
    unfold newF
    rw [a]
    dsimp only
    have hd : noRefs M.length [.tup [.tup ws, .tup ss]] = true := das fun x hx => by
      rw [List.mem_singleton.mp hx]
      refine da_tup fun y hy => ?_
      simp only [List.mem_cons, List.not_mem_nil, or_false] at hy
      rcases hy with rfl | rfl
      · exact pl_da (K := K) _ (by simpa [pl] using h1)
      · exact pl_da (K := K) _ (by simpa [pl] using h2)
    have hk : Keeps M (M ++ [.ins "Teller" ["held"] [.tup [.tup ws, .tup ss]]]) := ⟨by simp, fun i o hi ho => .inl (by rwa [List.getElem?_append_left hi] at ho)⟩
    rw [List.getElem?_append_right (Nat.le_refl _), Nat.sub_self]
    dsimp only [List.getElem?_cons_zero]
    rw [if_pos ⟨rfl, hd, hk⟩, List.take_left' rfl]
  · refine .inr ⟨w, c, y, hc, hy, ?_⟩
    unfold newF
    rw [a]
    dsimp only
    have hd : noRefs M.length [y] = true := das fun x hx => by rw [List.mem_singleton.mp hx]; exact hy
    have hk : Keeps M (M ++ [.ins "Teller" [] []]) := ⟨by simp, fun i o hi ho => .inl (by rwa [List.getElem?_append_left hi] at ho)⟩
    rw [if_pos ⟨hd, hk⟩, List.take_left' rfl]
def readT (t : Str) : Option (List Int × List (List Int)) := match Txt.split t (": ") with
  | [a, b] => if wOk (wsP a) && sOk (ssP b) (wsP a).length then some ((wsP a).map iv, (ssP b).map ivs) else none
  | _ => none
theorem wOk_eq {xs : List PV} (h : wOk xs = true) : PV.tup xs = itup (xs.map iv) := by
  unfold wOk at h
  simp only [Bool.and_eq_true] at h
  unfold itup
  rw [List.map_map]
  congr 1
  conv => lhs; rw [← List.map_id xs]
  refine List.map_congr_left fun x hx => ?_
  have := List.all_eq_true.mp h.2.2 x hx
  cases x with
  | int i => rfl
  | _ => simp [btw] at this
theorem sOk_eq {ys : List PV} {many : Nat} (h : sOk ys many = true) : PV.tup ys = .tup ((ys.map ivs).map itup) := by
  unfold sOk at h
  simp only [Bool.and_eq_true] at h
  rw [List.map_map]
  congr 1
  conv => lhs; rw [← List.map_id ys]
  exact List.map_congr_left fun x hx => gOk_eq (List.all_eq_true.mp h.2.1.2 x hx)
theorem pls_ws {a : Str} (hl : a.length ≤ 640) : pls 3000 (wsP a) = true := pls_iff.mpr fun x hx => by
  obtain ⟨t, ht, rfl⟩ := List.mem_map.mp hx
  exact pl_onum (Nat.le_trans (split_part ht).2 hl)
theorem pl_cases {w : Str} (hl : w.length ≤ 640) : pl 3000 (casesP w) = true := by
  show pls 3000 _ = true
  refine pls_iff.mpr fun x hx => ?_
  obtain ⟨t, ht, rfl⟩ := List.mem_map.mp hx
  exact pl_onum (Nat.le_trans (split_part ht).2 hl)
theorem pls_ss {b : Str} (hl : b.length ≤ 640) : pls 3000 (ssP b) = true := pls_iff.mpr fun x hx => by
  obtain ⟨t, ht, rfl⟩ := List.mem_map.mp hx
  exact pl_cases (Nat.le_trans (split_part ht).2 hl)
theorem ws_len {a : Str} (hl : a.length ≤ 640) : (wsP a).length ≤ 1000 := by
  have := split_cnt (x := a) (y := (" " : Str)) (by rw [l1s]; omega)
  unfold wsP
  rw [List.length_map]; omega
theorem ss_len {b : Str} (hl : b.length ≤ 640) : (ssP b).length ≤ 1000 ∧ ∀ y ∈ ssP b, ∀ zs, y = .tup zs → zs.length ≤ 1000 := by
  refine ⟨?_, fun y hy zs e => ?_⟩
  · have := split_cnt (x := b) (y := (" " : Str)) (by rw [l1s]; omega)
    unfold ssP
    rw [List.length_map]; omega
  · obtain ⟨t, ht, rfl⟩ := List.mem_map.mp hy
    have h1 := (split_part ht).2
    have := split_cnt (x := t) (y := ("," : Str)) (by rw [l1c]; omega)
    unfold casesP at e
    injection e with e
    rw [← e, List.length_map]; omega
theorem mtR0 : List.lookup (("InvalidWeights" : Str), ("InvalidWeights" : Str)) [((("InvalidWeights" : Str), ("InvalidWeights" : Str)), true), ((("InvalidWeights" : Str), ("InvalidSayings" : Str)), false), ((("InvalidSayings" : Str), ("InvalidWeights" : Str)), false), ((("InvalidSayings" : Str), ("InvalidSayings" : Str)), true)] = some true := by decide +kernel
theorem mtR1 : List.lookup (("InvalidWeights" : Str), ("InvalidSayings" : Str)) [((("InvalidWeights" : Str), ("InvalidWeights" : Str)), true), ((("InvalidWeights" : Str), ("InvalidSayings" : Str)), false), ((("InvalidSayings" : Str), ("InvalidWeights" : Str)), false), ((("InvalidSayings" : Str), ("InvalidSayings" : Str)), true)] = some false := by decide +kernel
theorem mtR2 : List.lookup (("InvalidSayings" : Str), ("InvalidWeights" : Str)) [((("InvalidWeights" : Str), ("InvalidWeights" : Str)), true), ((("InvalidWeights" : Str), ("InvalidSayings" : Str)), false), ((("InvalidSayings" : Str), ("InvalidWeights" : Str)), false), ((("InvalidSayings" : Str), ("InvalidSayings" : Str)), true)] = some false := by decide +kernel
theorem mtR3 : List.lookup (("InvalidSayings" : Str), ("InvalidSayings" : Str)) [((("InvalidWeights" : Str), ("InvalidWeights" : Str)), true), ((("InvalidWeights" : Str), ("InvalidSayings" : Str)), false), ((("InvalidSayings" : Str), ("InvalidWeights" : Str)), false), ((("InvalidSayings" : Str), ("InvalidSayings" : Str)), true)] = some true := by decide +kernel
theorem read_any {t : Str} (hs : PyData.strOk t = true) (hl : t.length ≤ 640) (M : Mem) : F_Teller_read [.str t] M = match readT t with
    | some q => .ok (tel q.1 q.2) M
    | none => .exc ("InvalidText" : Str) [.str t] M := by
  have sp := splitW_any (a := t) (b := (": " : Str)) (by omega) (by rw [l2c]; omega)
  have ih : isiW "str" (.str t) = pure (.bl true) := isi_str_str _
  by_cases h2 : ∃ a b, Txt.split t (": " : Str) = [a, b]
  · obtain ⟨a, b, hab⟩ := h2
    have pa := split_part (x := t) (y := (": " : Str)) (p := a) (by rw [hab]; simp)
    have pb := split_part (x := t) (y := (": " : Str)) (p := b) (by rw [hab]; simp)
    have ha := pa.1 hs
    have hb := pb.1 hs
    have la : a.length ≤ 640 := Nat.le_trans pa.2 hl
    have lb : b.length ≤ 640 := Nat.le_trans pb.2 hl
    rw [hab] at sp
    have sp1 := splitW_any (a := a) (b := (" " : Str)) (by omega) (by rw [l1s]; omega)
    have sp2 := splitW_any (a := b) (b := (" " : Str)) (by omega) (by rw [l1s]; omega)
    have l2 : lenW [.lst [.str a, .str b]] = pure (.int 2) := rfl
    have x0 : idxW (.lst [.str a, .str b]) (.int 0) = pure (.str a) := rfl
    have x1 : idxW (.lst [.str a, .str b]) (.int 1) = pure (.str b) := rfl
    have hc1 := lc_map (as := Txt.split a (" " : Str)) (enc := PV.str) (fi := fun e => ev D_Teller_read (.bm .split (.idx (.var 1) (.int 0)) (.cons (.str (" " : Str)) .nil)) e >>= wkOf) (vs := [5]) (i := 5) (f := ev D_Teller_read (.call 0 (.cons (.var 5) .nil))) (e := [some (.str t), some (.lst [.str a, .str b]), none, none, none, none]) (M := M)
      onum (by simp [ev, sSeq, sAsg, sRet, sRetN, sE, sIf, sNil, sExpr, startE, f2, fVar, fCons, fNil, fTup, fIf, fAnd, fOr, fNot, fChain, gNm, bind_eq, pure_eq, bad_eq, biV, bopV, copV, wdOf, asB_bl, lineOk0, lineOk1, lineOk2, lineOk3, lineOk4, optR_some, fMeth, bmT, bmV, recv_str2, x0, sp1, wkOf_lst]) (szl (by have := split_cnt (x := a) (y := (" " : Str)) (by rw [l1s]; omega); omega)) (fun c hc M' => by
        obtain ⟨h1, h2⟩ := split_part hc
        have := number_in_ok c M' (h1 ha) (by omega)
        refine ⟨?_, da_onum c⟩
        simp [ev, sSeq, sAsg, sRet, sRetN, sE, sIf, sNil, sExpr, startE, f2, fVar, fCons, fNil, fTup, fIf, fAnd, fOr, fNot, fChain, gNm, bind_eq, pure_eq, bad_eq, biV, bopV, copV, wdOf, asB_bl, lineOk0, lineOk1, lineOk2, lineOk3, lineOk4, optR_some, wipeE, D_Teller_read, L_Teller_read, this, onum])
    have hc2 := lc_map (as := Txt.split b (" " : Str)) (enc := PV.str) (fi := fun e => ev D_Teller_read (.bm .split (.idx (.var 1) (.int 1)) (.cons (.str (" " : Str)) .nil)) e >>= wkOf) (vs := [5]) (i := 5) (f := ev D_Teller_read (.call 1 (.cons (.var 5) .nil))) (e := [some (.str t), some (.lst [.str a, .str b]), some (.tup (wsP a)), none, none, none]) (M := M)
      casesP (by simp [ev, sSeq, sAsg, sRet, sRetN, sE, sIf, sNil, sExpr, startE, f2, fVar, fCons, fNil, fTup, fIf, fAnd, fOr, fNot, fChain, gNm, bind_eq, pure_eq, bad_eq, biV, bopV, copV, wdOf, asB_bl, lineOk0, lineOk1, lineOk2, lineOk3, lineOk4, optR_some, fMeth, bmT, bmV, recv_str2, x1, sp2, wkOf_lst]) (szl (by have := split_cnt (x := b) (y := (" " : Str)) (by rw [l1s]; omega); omega)) (fun g hg M' => by
        obtain ⟨h1, h2⟩ := split_part hg
        have := cases_in_any (h1 hb) (by omega) M'
        refine ⟨?_, da_casesP g⟩
        simp [ev, sSeq, sAsg, sRet, sRetN, sE, sIf, sNil, sExpr, startE, f2, fVar, fCons, fNil, fTup, fIf, fAnd, fOr, fNot, fChain, gNm, bind_eq, pure_eq, bad_eq, biV, bopV, copV, wdOf, asB_bl, lineOk0, lineOk1, lineOk2, lineOk3, lineOk4, optR_some, wipeE, D_Teller_read, L_Teller_read, this])
    have q1 : ev (k := .b) D_Teller_read b_Teller_read (startE 6 [.str t]) M = sSeq (ev (k := .s) D_Teller_read (.tryr ("InvalidWeights" : Str) ("InvalidSayings" : Str) ("InvalidText" : Str) ("given" : Str) (.bone (.asg (.gnm 4) (.call 2 (.cons (.var 2) (.cons (.var 3) .nil))))) (.var 0))) (ev (k := .b) D_Teller_read (.bone (.ret (.var 4)))) [some (.str t), some (.lst [.str a, .str b]), some (.tup (wsP a)), some (.tup (ssP b)), none, none] M := by
      show sSeq _ _ _ _ = _
      refine seq_nx (e' := [some (.str t), some (.lst [.str a, .str b]), none, none, none, none]) (M' := M) ?_ ?_
      · simp [ev, sSeq, sAsg, sRet, sRetN, sE, sIf, sNil, sExpr, startE, f2, fVar, fCons, fNil, fTup, fIf, fAnd, fOr, fNot, fChain, gNm, bind_eq, pure_eq, bad_eq, biV, bopV, copV, wdOf, asB_bl, lineOk0, lineOk1, lineOk2, lineOk3, lineOk4, optR_some, tyS, isi_int_non, isi_int_bl, isi_int_int, isi_int_str, isi_int_tup, isi_int_lst, isi_bool_non, isi_bool_bl, isi_bool_int, isi_bool_str, isi_bool_tup, isi_bool_lst, isi_str_non, isi_str_bl, isi_str_int, isi_str_str, isi_str_tup, isi_str_lst, isi_tuple_non, isi_tuple_bl, isi_tuple_int, isi_tuple_str, isi_tuple_tup, isi_tuple_lst, isi_int_dct, isi_bool_dct, isi_str_dct, isi_tuple_dct, ih, fMeth, bmT, bmV, recv_str2, sp]
      refine seq_nx (e' := [some (.str t), some (.lst [.str a, .str b]), none, none, none, none]) (M' := M) ?_ ?_
      · simp [ev, sSeq, sAsg, sRet, sRetN, sE, sIf, sNil, sExpr, startE, f2, fVar, fCons, fNil, fTup, fIf, fAnd, fOr, fNot, fChain, gNm, bind_eq, pure_eq, bad_eq, biV, bopV, copV, wdOf, asB_bl, lineOk0, lineOk1, lineOk2, lineOk3, lineOk4, optR_some, l2, neX_int]
      refine seq_nx (e' := [some (.str t), some (.lst [.str a, .str b]), some (.tup (wsP a)), none, none, none]) (M' := M) ?_ ?_
      · simp [ev, sSeq, sAsg, sRet, sRetN, sE, sIf, sNil, sExpr, startE, f2, fVar, fCons, fNil, fTup, fIf, fAnd, fOr, fNot, fChain, gNm, bind_eq, pure_eq, bad_eq, biV, bopV, copV, wdOf, asB_bl, lineOk0, lineOk1, lineOk2, lineOk3, lineOk4, optR_some] at hc1
        simp [ev, sSeq, sAsg, sRet, sRetN, sE, sIf, sNil, sExpr, startE, f2, fVar, fCons, fNil, fTup, fIf, fAnd, fOr, fNot, fChain, gNm, bind_eq, pure_eq, bad_eq, biV, bopV, copV, wdOf, asB_bl, lineOk0, lineOk1, lineOk2, lineOk3, lineOk4, optR_some, hc1, tupleW_lst, wsP]
      refine seq_nx (e' := [some (.str t), some (.lst [.str a, .str b]), some (.tup (wsP a)), some (.tup (ssP b)), none, none]) (M' := M) ?_ rfl
      · simp [ev, sSeq, sAsg, sRet, sRetN, sE, sIf, sNil, sExpr, startE, f2, fVar, fCons, fNil, fTup, fIf, fAnd, fOr, fNot, fChain, gNm, bind_eq, pure_eq, bad_eq, biV, bopV, copV, wdOf, asB_bl, lineOk0, lineOk1, lineOk2, lineOk3, lineOk4, optR_some] at hc2
        simp [ev, sSeq, sAsg, sRet, sRetN, sE, sIf, sNil, sExpr, startE, f2, fVar, fCons, fNil, fTup, fIf, fAnd, fOr, fNot, fChain, gNm, bind_eq, pure_eq, bad_eq, biV, bopV, copV, wdOf, asB_bl, lineOk0, lineOk1, lineOk2, lineOk3, lineOk4, optR_some, hc2, tupleW_lst, ssP]
    have er : readT t = if wOk (wsP a) && sOk (ssP b) (wsP a).length then some ((wsP a).map iv, (ssP b).map ivs) else none := by unfold readT; rw [hab]
    rcases new_any (pls_ws la) (pls_ss lb) (ws_len la) (ss_len lb).1 (ss_len lb).2 M with ⟨w, n⟩ | ⟨w, c, y, hc, hy, n⟩
    · rw [er, w]
      rw [Bool.and_eq_true] at w
      have e1 : PV.ins ("Teller" : Str) ["held"] [.tup [.tup (wsP a), .tup (ssP b)]] = tel ((wsP a).map iv) ((ssP b).map ivs) := by
        unfold tel
        rw [wOk_eq w.1, sOk_eq w.2]
      rw [e1] at n
      have da : Da (tel ((wsP a).map iv) ((ssP b).map ivs)) := by
        rw [← e1]
        show noRefs 0 [.tup [.tup (wsP a), .tup (ssP b)]] = true
        refine das fun x hx => ?_
        rw [List.mem_singleton.mp hx]
        refine da_tup fun y hy => ?_
        simp only [List.mem_cons, List.not_mem_nil, or_false] at hy
        rcases hy with rfl | rfl
        · exact pl_da (K := 3000) _ (by simpa [pl] using pls_ws la)
        · exact pl_da (K := 3000) _ (by simpa [pl] using pls_ss lb)
      refine mk_pure rfl ?_ da.at_
      rw [q1]
      clear q1 hc1 hc2 er e1
      simp [ev, sSeq, sAsg, sRet, sRetN, sE, sIf, sNil, sExpr, startE, f2, fVar, fCons, fNil, fTup, fIf, fAnd, fOr, fNot, fChain, gNm, bind_eq, pure_eq, bad_eq, biV, bopV, copV, wdOf, asB_bl, lineOk0, lineOk1, lineOk2, lineOk3, lineOk4, optR_some, sTryR, D_Teller_read, L_Teller_read, n]
    · rw [er, w]
      refine mk_ex (e := [some (.str t), some (.lst [.str a, .str b]), some (.tup (wsP a)), some (.tup (ssP b)), none, none]) rfl ?_ rfl
      rw [q1]
      clear q1 hc1 hc2 er
      simp only [errN, Bool.or_eq_true, decide_eq_true_eq] at hc
      rcases hc with rfl | rfl <;> simp [ev, sSeq, sAsg, sRet, sRetN, sE, sIf, sNil, sExpr, startE, f2, fVar, fCons, fNil, fTup, fIf, fAnd, fOr, fNot, fChain, gNm, bind_eq, pure_eq, bad_eq, biV, bopV, copV, wdOf, asB_bl, lineOk0, lineOk1, lineOk2, lineOk3, lineOk4, optR_some, sTryR, sRaise, D_Teller_read, L_Teller_read, n, mtR0, mtR1, mtR2, mtR3]
  · have er : readT t = none := by
      unfold readT
      split
      · rename_i a b hab
        exact (h2 ⟨a, b, hab⟩).elim
      · rfl
    rw [er]
    have hne : (Txt.split t (": " : Str)).length ≠ 2 := fun e => by
      match hq : Txt.split t (": " : Str), e with
      | [a, b], _ => exact h2 ⟨a, b, hq⟩
    generalize Txt.split t (": " : Str) = ps at *
    have ll : lenW [.lst (ps.map PV.str)] = pure (.int ps.length) := by simp [lenW_lst]
    have hi : ¬ (ps.length : Int) = 2 := by omega
    refine mk_ex (e := [some (.str t), some (.lst (ps.map PV.str)), none, none, none, none]) rfl ?_ rfl
    show sSeq _ _ _ _ = _
    refine seq_nx (e' := [some (.str t), some (.lst (ps.map PV.str)), none, none, none, none]) (M' := M) ?_ ?_
    · simp [ev, sSeq, sAsg, sRet, sRetN, sE, sIf, sNil, sExpr, startE, f2, fVar, fCons, fNil, fTup, fIf, fAnd, fOr, fNot, fChain, gNm, bind_eq, pure_eq, bad_eq, biV, bopV, copV, wdOf, asB_bl, lineOk0, lineOk1, lineOk2, lineOk3, lineOk4, optR_some, tyS, isi_int_non, isi_int_bl, isi_int_int, isi_int_str, isi_int_tup, isi_int_lst, isi_bool_non, isi_bool_bl, isi_bool_int, isi_bool_str, isi_bool_tup, isi_bool_lst, isi_str_non, isi_str_bl, isi_str_int, isi_str_str, isi_str_tup, isi_str_lst, isi_tuple_non, isi_tuple_bl, isi_tuple_int, isi_tuple_str, isi_tuple_tup, isi_tuple_lst, isi_int_dct, isi_bool_dct, isi_str_dct, isi_tuple_dct, ih, fMeth, bmT, bmV, recv_str2, sp]
    refine seq_ex ?_
    simp [ev, sSeq, sAsg, sRet, sRetN, sE, sIf, sNil, sExpr, startE, f2, fVar, fCons, fNil, fTup, fIf, fAnd, fOr, fNot, fChain, gNm, bind_eq, pure_eq, bad_eq, biV, bopV, copV, wdOf, asB_bl, lineOk0, lineOk1, lineOk2, lineOk3, lineOk4, optR_some, ll, neX_int, hi, sRaise]
end R
set_option maxHeartbeats 1000000
namespace R
open PySem PySem.Spec L2 TL
open PyProof.Rows hiding St
variable {K K2 : Nat}
/-! P54: any value, read as a text. -/
theorem read_non {v : PV} (hp : pl K v = true) (hn : ∀ t, v ≠ .str t) (M : Mem) : F_Teller_read [v] M = .exc ("InvalidText" : Str) [v] M := by
  have l0 : lenW [.lst []] = pure (.int 0) := rfl
  have hd : noRefs M.length [v] = true := das fun x hx => by rw [List.mem_singleton.mp hx]; exact pl_da v hp
  have go : isiW "str" v = pure (.bl false) → F_Teller_read [v] M = .exc ("InvalidText" : Str) [v] M := fun ih => by
    refine mk_ex (e := [some v, some (.lst []), none, none, none, none]) rfl ?_ hd
    show sSeq _ _ _ _ = _
    refine seq_nx (e' := [some v, some (.lst []), none, none, none, none]) (M' := M) ?_ (seq_ex ?_)
    · simp [ev, sSeq, sAsg, sRet, sRetN, sE, sIf, sNil, sExpr, startE, f2, fVar, fCons, fNil, fTup, fIf, fAnd, fOr, fNot, fChain, gNm, bind_eq, pure_eq, bad_eq, biV, bopV, copV, wdOf, asB_bl, lineOk0, lineOk1, lineOk2, lineOk3, lineOk4, optR_some, tyS, isi_int_non, isi_int_bl, isi_int_int, isi_int_str, isi_int_tup, isi_int_lst, isi_bool_non, isi_bool_bl, isi_bool_int, isi_bool_str, isi_bool_tup, isi_bool_lst, isi_str_non, isi_str_bl, isi_str_int, isi_str_str, isi_str_tup, isi_str_lst, isi_tuple_non, isi_tuple_bl, isi_tuple_int, isi_tuple_str, isi_tuple_tup, isi_tuple_lst, isi_int_dct, isi_bool_dct, isi_str_dct, isi_tuple_dct, ih, fLst, lineOk]
    · simp [ev, sSeq, sAsg, sRet, sRetN, sE, sIf, sNil, sExpr, startE, f2, fVar, fCons, fNil, fTup, fIf, fAnd, fOr, fNot, fChain, gNm, bind_eq, pure_eq, bad_eq, biV, bopV, copV, wdOf, asB_bl, lineOk0, lineOk1, lineOk2, lineOk3, lineOk4, optR_some, l0, neX_int, sRaise]
  cases v with
  | str t => exact (hn t rfl).elim
  | non => exact go (isi_str_non)
  | bl b => exact go (isi_str_bl b)
  | int b => exact go (isi_str_int b)
  | tup b => exact go (isi_str_tup b)
  | lst b => exact go (isi_str_lst b)
  | dct a b => exact go (isi_str_dct a b)
  | _ => simp [pl] at hp
def tIn : PV → Option (List Int × List (List Int))
  | .str t => readT t
  | _ => none
theorem mtT : List.lookup (("InvalidText" : Str), ("InvalidText" : Str)) [((("InvalidText" : Str), ("InvalidText" : Str)), true)] = some true := by decide +kernel
theorem da_itups (wo : List (List Int)) : Da (.tup (wo.map itup)) := da_tup fun x hx => by
  obtain ⟨g, _, rfl⟩ := List.mem_map.mp hx
  exact da_itup g
theorem da_tel0 (lo : List Int) (wo : List (List Int)) : Da (tel lo wo) := by
  show noRefs 0 [.tup [itup lo, .tup (wo.map itup)]] = true
  refine das fun x hx => ?_
  rw [List.mem_singleton.mp hx]
  refine da_tup fun y hy => ?_
  simp only [List.mem_cons, List.not_mem_nil, or_false] at hy
  rcases hy with rfl | rfl
  · exact da_itup lo
  · exact da_itups wo
def telO : Option (List Int × List (List Int)) → PV
  | some q => tel q.1 q.2
  | none => .non
theorem teller_in_any {v : PV} (hp : pl K v = true) (hl : ∀ t, v = .str t → t.length ≤ 640) (M : Mem) : F_teller_in [v] M = .ok (telO (tIn v)) M := by
  have h : F_Teller_read [v] M = match tIn v with
    | some q => .ok (tel q.1 q.2) M
    | none => .exc ("InvalidText" : Str) [v] M := by
    by_cases hs : ∃ t, v = .str t
    · obtain ⟨t, rfl⟩ := hs
      exact read_any (by simpa [pl] using hp) (hl t rfl) M
    · have : tIn v = none := by
        cases v with
        | str t => exact (hs ⟨t, rfl⟩).elim
        | _ => rfl
      rw [this]
      exact read_non hp (fun t e => hs ⟨t, e⟩) M
  cases q : tIn v with
  | some r =>
    rw [q] at h
    dsimp only at h
    refine mk_pure rfl ?_ (da_tel0 r.1 r.2).at_
    simp [ev, sSeq, sAsg, sRet, sRetN, sE, sIf, sNil, sExpr, startE, f2, fVar, fCons, fNil, fTup, fIf, fAnd, fOr, fNot, fChain, gNm, bind_eq, pure_eq, bad_eq, biV, bopV, copV, wdOf, asB_bl, lineOk0, lineOk1, lineOk2, lineOk3, lineOk4, optR_some, sTry, b_teller_in, D_teller_in, L_teller_in, h, telO]
  | none =>
    rw [q] at h
    dsimp only at h
    refine mk_pure rfl ?_ rfl
    simp [ev, sSeq, sAsg, sRet, sRetN, sE, sIf, sNil, sExpr, startE, f2, fVar, fCons, fNil, fTup, fIf, fAnd, fOr, fNot, fChain, gNm, bind_eq, pure_eq, bad_eq, biV, bopV, copV, wdOf, asB_bl, lineOk0, lineOk1, lineOk2, lineOk3, lineOk4, optR_some, sTry, hdl, b_teller_in, D_teller_in, L_teller_in, h, mtT, telO]
theorem wOk_ints {xs : List PV} (h : wOk xs = true) : 2 ≤ (xs.map iv).length ∧ (xs.map iv).length ≤ 8 ∧ ∀ x ∈ xs.map iv, 1 ≤ x ∧ x ≤ 1000000 := by
  unfold wOk at h
  simp only [Bool.and_eq_true, decide_eq_true_eq] at h
  refine ⟨by simpa using h.1, by simpa using h.2.1, fun i hi => ?_⟩
  obtain ⟨x, hx, rfl⟩ := List.mem_map.mp hi
  have := List.all_eq_true.mp h.2.2 x hx
  cases x with
  | int i => simpa [btw, iv] using this
  | _ => simp [btw] at this
theorem readT_Tl {t : Str} {q : List Int × List (List Int)} (h : readT t = some q) : Tl q.1 q.2 := by
  unfold readT at h
  split at h
  · split at h
    · rename_i a b _ hc
      injection h with h
      subst h
      rw [Bool.and_eq_true] at hc
      obtain ⟨h1, h2⟩ := hc
      obtain ⟨n2, n8, w⟩ := wOk_ints h1
      have hlen : ((wsP a).map iv).length = (wsP a).length := List.length_map _
      unfold sOk at h2
      simp only [Bool.and_eq_true, decide_eq_true_eq, Bool.not_eq_true'] at h2
      obtain ⟨e0, ⟨l16, hg⟩, hcv⟩ := h2
      have hgg : ∀ g ∈ (ssP b).map ivs, g ≠ [] ∧ ascB g = true ∧ ∀ c ∈ g, 0 ≤ c ∧ c < (wsP a).length := by
        intro g hgm
        obtain ⟨y, hy, rfl⟩ := List.mem_map.mp hgm
        have h3 := List.all_eq_true.mp hg y hy
        have h4 := gOk_eq h3
        unfold gOk at h3
        rw [Bool.and_eq_true] at h3
        obtain ⟨h5, h6⟩ := h3
        generalize hgv : ivs y = g at *
        rw [h4, isLot_itup] at h5
        rw [Bool.and_eq_true] at h5
        refine ⟨fun e => ?_, h5.2, fun c hc => ?_⟩
        · subst e
          rw [h4] at h6
          simp [nilT, itup] at h6
        · have := List.all_eq_true.mp h5.1 c hc
          simp only [Bool.and_eq_true, decide_eq_true_eq] at this
          omega
      refine ⟨n2, n8, w, ?_, by simpa using l16, fun g hg => ?_, fun c h0 h1 => ?_⟩
      · show 1 ≤ ((ssP b).map ivs).length
        rw [List.length_map]
        cases hq : ssP b with
        | nil => rw [hq] at e0; cases e0
        | cons x r => simp
      · rw [hlen]
        exact hgg g hg
      · rw [hlen] at h1
        have h3 := List.all_eq_true.mp hcv c.toNat (List.mem_range.mpr (by omega))
        obtain ⟨g, h4, h5⟩ := List.any_eq_true.mp h3
        refine ⟨g, h4, ?_⟩
        have h6 := of_decide_eq_true h5
        rwa [Int.toNat_of_nonneg h0] at h6
    · cases h
  · cases h
end R
set_option maxHeartbeats 1000000
namespace R
open PySem PySem.Spec L2 TL
open PyProof.Rows hiding St
variable {K K2 : Nat}
/-! P55: a claim of what is sure, any values. -/
theorem sumW_itup (l : List Int) : sumW [itup l] = pure (.int l.sum) := by
  show (pure (l.map PV.int) >>= fun xs => optR (intsOf xs) >>= fun ns => pure (PV.int ns.sum) : RM PV) = _
  funext M
  simp [bind_eq, pure_eq, intsOf_map, optR]
theorem sum_pos {l : List Int} (h2 : 1 ≤ l.length) (hw : ∀ x ∈ l, 1 ≤ x ∧ x ≤ 1000000) : 1 ≤ l.sum ∧ l.sum ≤ 1000000 * l.length := by
  induction l with
  | nil => simp at h2
  | cons a l ih =>
    have ha := hw a (by simp)
    rw [List.sum_cons, List.length_cons]
    cases l with
    | nil => simp; omega
    | cons b l =>
      have := ih (by simp) fun x hx => hw x (by simp [hx])
      push_cast at this ⊢
      omega
/-- a fraction by a number -/
theorem frac_over {q : Rat} {S : Int} {k : Nat} (M : Mem) (hq : Sz k q) (h1 : 1 ≤ S) (h2 : S < 2 ^ 24) (hk : k < 3900) : F_fraction [.int q.num, .int ((q.den : Int) * S)] M = .ok (frV (q / S)) M ∧ Sz (k + 24) (q / S) ∧ mulOk (q.den : Int) S = true := by
  have hd : ((q.den : Int)).natAbs < 2 ^ k := by rw [Int.natAbs_natCast]; exact hq.d
  have hS : S.natAbs < 2 ^ 24 := by omega
  have h3 := mul_lt hd hS
  have hn : q.num.natAbs < 2 ^ (k + 24) := Nat.lt_of_lt_of_le hq.n (Nat.pow_le_pow_right (by omega) (by omega))
  have hp : 0 < (q.den : Int) * S := Int.mul_pos (by have := q.den_pos; omega) (by omega)
  have e : Rat.divInt q.num ((q.den : Int) * S) = q / (S : Rat) := by
    have := rat_div q (S : Rat)
    have e1 : ((S : Rat)).num = S := rfl
    have e2 : ((S : Rat)).den = 1 := rfl
    rw [e1, e2] at this
    simpa using this
  have h4 : ∀ {n : Nat}, n < 2 ^ (k + 24) → n < 2 ^ 4000 := fun h => Nat.lt_of_lt_of_le h (Nat.pow_le_pow_right (by omega) (by omega))
  rw [← e]
  exact ⟨F_fraction_ok _ _ M (h4 hn) (h4 h3) hp, Sz.div hn h3 hp, mulOk_of hd hS (by omega)⟩
theorem areFr_eq {v : PV} {many : Int} (h : areFr v many = true) : v = .tup ((rowOf v).map frV) ∧ ((rowOf v).length : Int) = many ∧ ∀ q ∈ rowOf v, okF q = true := by
  cases v with
  | tup xs =>
    unfold areFr at h
    simp only [Bool.and_eq_true, decide_eq_true_eq] at h
    refine ⟨congrArg PV.tup (frs_eq h.2), by simpa [rowOf] using h.1, fun q hq => ?_⟩
    obtain ⟨x, hx, rfl⟩ := List.mem_map.mp hq
    have h3 := List.all_eq_true.mp h.2 x hx
    rw [(isFr_ok h3).1, isFr_frV] at h3
    exact h3
  | _ => simp [areFr] at h
theorem row_sz {v : PV} {many : Int} (h : areFr v many = true) (hp : pl K v = true) : ∀ q ∈ rowOf v, Sz K q := by
  cases v with
  | tup xs =>
    intro q hq
    obtain ⟨x, hx, rfl⟩ := List.mem_map.mp hq
    unfold areFr at h
    simp only [Bool.and_eq_true, decide_eq_true_eq] at h
    simp only [pl] at hp
    exact isFr_sz (List.all_eq_true.mp h.2 x hx) (pls_iff.mp hp x hx)
  | _ => simp [areFr] at h
theorem zipped_map : ∀ (lo : List Int) (qs : List Rat), zipped (lo.map PV.int) (qs.map frV) = (lo.zip qs).map fun p => .tup [.int p.1, frV p.2]
  | [], _ => by simp [zipped]
  | _ :: _, [] => by simp [zipped]
  | a :: lo, q :: qs => by
    have ih := zipped_map lo qs
    unfold zipped at ih ⊢
    simp [ih]
def qAt (qs : List Rat) (c : Int) : Rat := qs.getD c.toNat 0
def worth (lo : List Int) (qs : List Rat) : Rat := rsum ((lo.zip qs).map fun p => (p.1 : Rat) * p.2) / (lo.sum : Rat)
def sureB (lo : List Int) (wo : List (List Int)) (b : Rat) (qs : List Rat) : Bool := !(wo.any fun g => decide (1 < rsum (g.map (qAt qs)))) && !decide (worth lo qs < b)
theorem shows_sure_any {lo : List Int} {wo : List (List Int)} (T : Tl lo wo) {b v : PV} (hb : pl K b = true) (hv : pl K v = true) (M : Mem) (hK : K ≤ 200 := by omega) :
    F_shows_sure [tel lo wo, b, v] M = .ok (.bl ((isFr b && areFr v lo.length) && sureB lo wo (ratOf b) (rowOf v))) M := by
  refine mk_pure rfl ?_ rfl
  have n8 := T.n8
  have n2 := T.n2
  have h1 := is_fraction_any hb M
  have h2 := are_fractions_any hv lo.length (by omega) M
  have p1 := prop_tel (F_weights_ok lo wo M)
  simp [bind_eq] at p1
  have p2 := prop_tel (F_sayings_ok lo wo M)
  simp [bind_eq] at p2
  have ll : lenW [itup lo] = pure (.int lo.length) := by simp [itup, lenW_tup]
  cases q1 : isFr b with
  | false =>
    rw [q1] at h1
    simp [ev, sSeq, sAsg, sRet, sRetN, sE, sIf, sNil, sExpr, startE, f2, fVar, fCons, fNil, fTup, fIf, fAnd, fOr, fNot, fChain, gNm, bind_eq, pure_eq, bad_eq, biV, bopV, copV, wdOf, asB_bl, lineOk0, lineOk1, lineOk2, lineOk3, lineOk4, optR_some, tyS, isi_int_non, isi_int_bl, isi_int_int, isi_int_str, isi_int_tup, isi_int_lst, isi_bool_non, isi_bool_bl, isi_bool_int, isi_bool_str, isi_bool_tup, isi_bool_lst, isi_str_non, isi_str_bl, isi_str_int, isi_str_str, isi_str_tup, isi_str_lst, isi_tuple_non, isi_tuple_bl, isi_tuple_int, isi_tuple_str, isi_tuple_tup, isi_tuple_lst, isi_int_dct, isi_bool_dct, isi_str_dct, isi_tuple_dct, b_shows_sure, D_shows_sure, L_shows_sure, mclOf, p1, p2, ll, h1]
  | true =>
    cases q2 : areFr v lo.length with
    | false =>
      rw [q1] at h1
      rw [q2] at h2
      simp [ev, sSeq, sAsg, sRet, sRetN, sE, sIf, sNil, sExpr, startE, f2, fVar, fCons, fNil, fTup, fIf, fAnd, fOr, fNot, fChain, gNm, bind_eq, pure_eq, bad_eq, biV, bopV, copV, wdOf, asB_bl, lineOk0, lineOk1, lineOk2, lineOk3, lineOk4, optR_some, tyS, isi_int_non, isi_int_bl, isi_int_int, isi_int_str, isi_int_tup, isi_int_lst, isi_bool_non, isi_bool_bl, isi_bool_int, isi_bool_str, isi_bool_tup, isi_bool_lst, isi_str_non, isi_str_bl, isi_str_int, isi_str_str, isi_str_tup, isi_str_lst, isi_tuple_non, isi_tuple_bl, isi_tuple_int, isi_tuple_str, isi_tuple_tup, isi_tuple_lst, isi_int_dct, isi_bool_dct, isi_str_dct, isi_tuple_dct, b_shows_sure, D_shows_sure, L_shows_sure, mclOf, p1, p2, ll, h1, h2]
    | true =>
      rw [q1] at h1
      rw [q2] at h2
      obtain ⟨ev1, el, eo⟩ := areFr_eq q2
      have sz := row_sz q2 hv
      have szb := isFr_sz q1 hb
      have eb := (isFr_ok q1).1
      generalize hqs : rowOf v = qs at *
      generalize hbq : ratOf b = bq at *
      subst ev1 eb
      have wk0 : ∀ c : Int, 0 ≤ c → c < lo.length → Sz K (qAt qs c) ∧ idxW (.tup (qs.map frV)) (.int c) = pure (frV (qAt qs c)) := fun c c0 c1 => by
        have hc : c.toNat < qs.length := by omega
        have e : qAt qs c = qs[c.toNat] := by simp [qAt, List.getElem?_eq_getElem hc]
        rw [e]
        exact ⟨sz _ (List.getElem_mem _), idx_tup c0 (by simp [List.getElem?_eq_getElem hc])⟩
      have tg : ∀ g ∈ wo, ∀ M', F_total [.lst (g.map fun c => frV (qAt qs c))] M' = .ok (frV (rsum (g.map (qAt qs)))) M' ∧ Sz ((K + 1) * 8 + 1) (rsum (g.map (qAt qs))) := fun g hg M' => by
        have hl := T.glen hg
        have hz : (K + 1) * (g.length + 1) ≤ (K + 1) * 9 := Nat.mul_le_mul_left _ (by omega)
        have hz2 : (K + 1) * g.length ≤ (K + 1) * 8 := Nat.mul_le_mul_left _ (by omega)
        have t := F_total_ok (v := .lst (g.map fun c => frV (qAt qs c))) (qs := g.map (qAt qs)) (k := K) M' (by rw [List.map_map]; rfl) (by
          intro q hq
          obtain ⟨c, hc, rfl⟩ := List.mem_map.mp hq
          have := (T.g g hg).2.2 c hc
          exact (wk0 c this.1 this.2).1) (by rw [List.length_map]; omega)
        rw [List.length_map] at t
        exact ⟨t.1, t.2.mono (by omega)⟩
      have hany := lc_map (as := wo) (enc := itup) (fi := fun e => ev D_shows_sure (.prop 3 (.var 0)) e >>= wkOf) (vs := [4]) (i := 4) (f := ev D_shows_sure (.call 4 (.cons (.gv 0) (.cons (.call 5 (.cons (.lc false [(("case" : Str), 7)] (.gnm 7) (.seq (.var 4)) .tt (.idx (.var 2) (.var 7))) .nil)) .nil)))) (e := [some (tel lo wo), some (frV bq), some (.tup (qs.map frV)), none, none, none, none, none]) (M := M)
        (fun g => .bl (decide (1 < rsum (g.map (qAt qs))))) (by simp [ev, sSeq, sAsg, sRet, sRetN, sE, sIf, sNil, sExpr, startE, f2, fVar, fCons, fNil, fTup, fIf, fAnd, fOr, fNot, fChain, gNm, bind_eq, pure_eq, bad_eq, biV, bopV, copV, wdOf, asB_bl, lineOk0, lineOk1, lineOk2, lineOk3, lineOk4, optR_some, D_shows_sure, L_shows_sure, mclOf, p2, wkOf_tup]) (szl (by have := T.m16; omega)) (fun g hg M' => by
          have hin := lc_map (as := g) (enc := PV.int) (fi := fun e => ev D_shows_sure (.var 4) e >>= wkOf) (vs := [7]) (i := 7) (f := ev D_shows_sure (.idx (.var 2) (.var 7))) (e := [some (tel lo wo), some (frV bq), some (.tup (qs.map frV)), none, some (itup g), none, none, none]) (M := M')
            (fun c => frV (qAt qs c)) rfl (szl (by have := T.glen hg; omega)) (fun c hc M2 => by
              have hr := (T.g g hg).2.2 c hc
              have h3 := (wk0 c hr.1 hr.2).2
              refine ⟨?_, rfl⟩
              simp [ev, sSeq, sAsg, sRet, sRetN, sE, sIf, sNil, sExpr, startE, f2, fVar, fCons, fNil, fTup, fIf, fAnd, fOr, fNot, fChain, gNm, bind_eq, pure_eq, bad_eq, biV, bopV, copV, wdOf, asB_bl, lineOk0, lineOk1, lineOk2, lineOk3, lineOk4, optR_some, wipeE, h3])
          obtain ⟨t1, t2⟩ := tg g hg M'
          have l1 := F_is_less_ok M' Sz.one t2 (by omega)
          refine ⟨?_, rfl⟩
          simp [ev, sSeq, sAsg, sRet, sRetN, sE, sIf, sNil, sExpr, startE, f2, fVar, fCons, fNil, fTup, fIf, fAnd, fOr, fNot, fChain, gNm, bind_eq, pure_eq, bad_eq, biV, bopV, copV, wdOf, asB_bl, lineOk0, lineOk1, lineOk2, lineOk3, lineOk4, optR_some] at hin
          generalize (g.map fun c => frV (qAt qs c)) = zs at *
          simp [ev, sSeq, sAsg, sRet, sRetN, sE, sIf, sNil, sExpr, startE, f2, fVar, fCons, fNil, fTup, fIf, fAnd, fOr, fNot, fChain, gNm, bind_eq, pure_eq, bad_eq, biV, bopV, copV, wdOf, asB_bl, lineOk0, lineOk1, lineOk2, lineOk3, lineOk4, optR_some, wipeE, D_shows_sure, L_shows_sure, hin, t1, fr1, l1])
      have al := anyW_map (fun g : List Int => decide (1 < rsum (g.map (qAt qs)))) wo
      generalize (wo.map fun g => PV.bl (decide (1 < rsum (g.map (qAt qs))))) = zs at *
      simp [ev, sSeq, sAsg, sRet, sRetN, sE, sIf, sNil, sExpr, startE, f2, fVar, fCons, fNil, fTup, fIf, fAnd, fOr, fNot, fChain, gNm, bind_eq, pure_eq, bad_eq, biV, bopV, copV, wdOf, asB_bl, lineOk0, lineOk1, lineOk2, lineOk3, lineOk4, optR_some, mclOf] at hany
      have hw20 : ∀ x ∈ lo, Sz 20 (x : Rat) := fun x hx => by
        have := T.w x hx
        exact Sz.int (by have : (2 : Nat) ^ 20 = 1048576 := by decide
                         omega) (by omega)
      cases ca : wo.any fun g => decide (1 < rsum (g.map (qAt qs))) with
      | true =>
        rw [ca] at al
        have es : sureB lo wo bq qs = false := by unfold sureB; rw [ca]; rfl
        rw [es]
        simp [ev, sSeq, sAsg, sRet, sRetN, sE, sIf, sNil, sExpr, startE, f2, fVar, fCons, fNil, fTup, fIf, fAnd, fOr, fNot, fChain, gNm, bind_eq, pure_eq, bad_eq, biV, bopV, copV, wdOf, asB_bl, lineOk0, lineOk1, lineOk2, lineOk3, lineOk4, optR_some, tyS, isi_int_non, isi_int_bl, isi_int_int, isi_int_str, isi_int_tup, isi_int_lst, isi_bool_non, isi_bool_bl, isi_bool_int, isi_bool_str, isi_bool_tup, isi_bool_lst, isi_str_non, isi_str_bl, isi_str_int, isi_str_str, isi_str_tup, isi_str_lst, isi_tuple_non, isi_tuple_bl, isi_tuple_int, isi_tuple_str, isi_tuple_tup, isi_tuple_lst, isi_int_dct, isi_bool_dct, isi_str_dct, isi_tuple_dct, b_shows_sure, D_shows_sure, L_shows_sure, mclOf, p1, p2, ll, h1, h2] at hany ⊢
        simp [ev, sSeq, sAsg, sRet, sRetN, sE, sIf, sNil, sExpr, startE, f2, fVar, fCons, fNil, fTup, fIf, fAnd, fOr, fNot, fChain, gNm, bind_eq, pure_eq, bad_eq, biV, bopV, copV, wdOf, asB_bl, lineOk0, lineOk1, lineOk2, lineOk3, lineOk4, optR_some, hany, al]
      | false =>
        rw [ca] at al
        have es : sureB lo wo bq qs = !decide (worth lo qs < bq) := by unfold sureB; rw [ca]; rfl
        rw [es]
        have zm := zipped_map lo qs
        have hzl : (lo.zip qs).length ≤ 8 := by rw [List.length_zip]; omega
        have tp : ∀ p ∈ lo.zip qs, ∀ M', F_times [frV (p.1 : Rat), frV p.2] M' = .ok (frV ((p.1 : Rat) * p.2)) M' ∧ Sz (20 + K) ((p.1 : Rat) * p.2) := fun p hp M' =>
          F_times_ok M' (hw20 _ (List.of_mem_zip hp).1) (sz _ (List.of_mem_zip hp).2) (by omega)
        have hz := lc_gen (as := lo.zip qs) (enc := fun p => .tup [.int p.1, frV p.2]) (fi := ev D_shows_sure (.zip (.prop 2 (.var 0)) (.var 2))) (vs := [5, 6]) (g := gSq 2 (gsCons (gNm 5) (gsCons (gNm 6) gsNil))) (t := tNone) (f := ev D_shows_sure (.call 6 (.cons (.tup (.cons (.var 5) (.cons (.int 1) .nil))) (.cons (.var 6) .nil))))
          (e := [some (tel lo wo), some (frV bq), some (.tup (qs.map frV)), none, none, none, none, none]) (M := M) (fun p => [some (tel lo wo), some (frV bq), some (.tup (qs.map frV)), none, none, some (.int p.1), some (frV p.2), none]) (fun p => true) (fun p => frV ((p.1 : Rat) * p.2))
          (by simp [ev, sSeq, sAsg, sRet, sRetN, sE, sIf, sNil, sExpr, startE, f2, fVar, fCons, fNil, fTup, fIf, fAnd, fOr, fNot, fChain, gNm, bind_eq, pure_eq, bad_eq, biV, bopV, copV, wdOf, asB_bl, lineOk0, lineOk1, lineOk2, lineOk3, lineOk4, optR_some, D_shows_sure, L_shows_sure, mclOf, p1, itup, zipW, zm]) (szl (by omega))
          (fun p _ M' => by simp [ev, sSeq, sAsg, sRet, sRetN, sE, sIf, sNil, sExpr, startE, f2, fVar, fCons, fNil, fTup, fIf, fAnd, fOr, fNot, fChain, gNm, bind_eq, pure_eq, bad_eq, biV, bopV, copV, wdOf, asB_bl, lineOk0, lineOk1, lineOk2, lineOk3, lineOk4, optR_some, gSq, gsCons, gsNil, seqW_tup, wipeE])
          (fun p _ M' => rfl)
          (fun p hp _ M' => ⟨by
            have := (tp p hp M').1
            simp [ev, sSeq, sAsg, sRet, sRetN, sE, sIf, sNil, sExpr, startE, f2, fVar, fCons, fNil, fTup, fIf, fAnd, fOr, fNot, fChain, gNm, bind_eq, pure_eq, bad_eq, biV, bopV, copV, wdOf, asB_bl, lineOk0, lineOk1, lineOk2, lineOk3, lineOk4, optR_some, D_shows_sure, L_shows_sure, frV_int, this], rfl⟩)
        have nt : (List.filter (fun p : Int × Rat => true) (lo.zip qs)) = lo.zip qs := by simp
        rw [nt] at hz
        have tt := F_total_ok (v := .lst ((lo.zip qs).map fun p => frV ((p.1 : Rat) * p.2))) (qs := (lo.zip qs).map fun p => (p.1 : Rat) * p.2) (k := 20 + K) M (by rw [List.map_map]; rfl) (by
          intro q hq
          obtain ⟨p, hp, rfl⟩ := List.mem_map.mp hq
          exact (tp p hp M).2) (by
            rw [List.length_map]
            have : (20 + K + 1) * ((lo.zip qs).length + 1) ≤ (20 + K + 1) * 9 := Nat.mul_le_mul_left _ (by omega)
            omega)
        have sp := sum_pos (by omega : 1 ≤ lo.length) T.w
        have hS : lo.sum < 2 ^ 24 := by
          have : (2 : Int) ^ 24 = 16777216 := by decide
          omega
        have tz : Sz ((20 + K + 1) * 8 + 1) (rsum ((lo.zip qs).map fun p => (p.1 : Rat) * p.2)) := tt.2.mono (by
          rw [List.length_map]
          have : (20 + K + 1) * (lo.zip qs).length ≤ (20 + K + 1) * 8 := Nat.mul_le_mul_left _ hzl
          omega)
        obtain ⟨f1, f2, f3⟩ := frac_over M tz sp.1 hS (by omega)
        have l2 := F_is_less_ok M f2 szb (by omega)
        have t1 := tt.1
        have su := sumW_itup lo
        have mv := mulV_int f3
        change F_is_less [frV (worth lo qs), frV bq] M = .ok (.bl (decide (worth lo qs < bq))) M at l2
        change F_fraction _ M = .ok (frV (worth lo qs)) M at f1
        generalize worth lo qs = wq at *
        clear tp tt zm tz f2 f3
        generalize rsum ((lo.zip qs).map fun p => (p.1 : Rat) * p.2) = tq at *
        generalize ((lo.zip qs).map fun p => frV ((p.1 : Rat) * p.2)) = ys at *
        simp [ev, sSeq, sAsg, sRet, sRetN, sE, sIf, sNil, sExpr, startE, f2, fVar, fCons, fNil, fTup, fIf, fAnd, fOr, fNot, fChain, gNm, bind_eq, pure_eq, bad_eq, biV, bopV, copV, wdOf, asB_bl, lineOk0, lineOk1, lineOk2, lineOk3, lineOk4, optR_some, mclOf] at hz
        simp [ev, sSeq, sAsg, sRet, sRetN, sE, sIf, sNil, sExpr, startE, f2, fVar, fCons, fNil, fTup, fIf, fAnd, fOr, fNot, fChain, gNm, bind_eq, pure_eq, bad_eq, biV, bopV, copV, wdOf, asB_bl, lineOk0, lineOk1, lineOk2, lineOk3, lineOk4, optR_some, tyS, isi_int_non, isi_int_bl, isi_int_int, isi_int_str, isi_int_tup, isi_int_lst, isi_bool_non, isi_bool_bl, isi_bool_int, isi_bool_str, isi_bool_tup, isi_bool_lst, isi_str_non, isi_str_bl, isi_str_int, isi_str_str, isi_str_tup, isi_str_lst, isi_tuple_non, isi_tuple_bl, isi_tuple_int, isi_tuple_str, isi_tuple_tup, isi_tuple_lst, isi_int_dct, isi_bool_dct, isi_str_dct, isi_tuple_dct, b_shows_sure, D_shows_sure, L_shows_sure, mclOf, p1, p2, ll, h1, h2] at hany hz ⊢
        simp [ev, sSeq, sAsg, sRet, sRetN, sE, sIf, sNil, sExpr, startE, f2, fVar, fCons, fNil, fTup, fIf, fAnd, fOr, fNot, fChain, gNm, bind_eq, pure_eq, bad_eq, biV, bopV, copV, wdOf, asB_bl, lineOk0, lineOk1, lineOk2, lineOk3, lineOk4, optR_some, p1, hany, al, hz, t1, idx_frV0, idx_frV1, su, mv, f1, l2]
end R
set_option maxHeartbeats 1000000
namespace R
open PySem PySem.Spec L2 TL
open PyProof.Rows hiding St
variable {K K2 : Nat}
/-! P56: a claim of what no plan has more than, any values. -/
theorem memL_app (M : Mem) (xs : List PV) : memL M.length (M ++ [.lst xs]) = .ok xs (M ++ [.lst xs]) := by
  unfold memL; rw [List.getElem?_append_right (Nat.le_refl _), Nat.sub_self]; rfl
theorem F_total_ref {qs : List Rat} {k : Nat} (M : Mem) (hs : ∀ q ∈ qs, Sz k q) (h : (k + 1) * (qs.length + 1) < 3800) : F_total [.ref M.length] (M ++ [.lst (qs.map frV)]) = .ok (frV (rsum qs)) (M ++ [.lst (qs.map frV)]) ∧ Sz ((k + 1) * qs.length + 1) (rsum qs) := by
  have base := F_total_ok (v := .lst (qs.map frV)) M rfl hs h
  refine ⟨mk_pure rfl ?_ rfl, base.2⟩
  have key : ∀ i, i ≤ qs.length → Sz ((k + 1) * i + 1) (rsum (qs.take i)) := by
    intro i
    induction i with
    | zero => intro _; simpa [rsum] using Sz.zero
    | succ i ih =>
      intro hi
      have hx : qs[i]? = some qs[i] := List.getElem?_eq_getElem (by omega)
      rw [take_succ hx, rsum_snoc]
      have hm : (k + 1) * i + (k + 1) ≤ (k + 1) * (qs.length + 1) := by rw [← Nat.mul_succ]; exact Nat.mul_le_mul_left _ (by omega)
      refine ((F_plus_ok [] (ih (by omega)) (hs _ (List.getElem_mem _)) (by omega)).2).mono ?_
      rw [Nat.mul_succ]; omega
  generalize hMM : M ++ [MO.lst (qs.map frV)] = MM
  have hm0 : MM[M.length]? = some (.lst (qs.map frV)) := by rw [← hMM]; simp
  have hml : memL M.length MM = .ok (qs.map frV) MM := by rw [← hMM]; exact memL_app _ _
  have hold : (Wk.mk (qs.map frV) [(M.length, qs.map frV)]).holds MM := fun p hp => by
    rw [List.mem_singleton.mp hp]; exact hm0
  have loop := for_thru (w := ⟨qs.map frV, [(M.length, qs.map frV)]⟩) (g := gNm 2) (body := ev (k := .b) D_total (.bone (.asg (.gnm 1) (.call 0 (.cons (.var 1) (.cons (.var 2) .nil)))))) (e := [some (.ref M.length), some (frV 0), none]) (M := MM)
    (fun i e M' => M' = MM ∧ ∃ z, e = [some (.ref M.length), some (frV (rsum (qs.take i))), z])
    (fun i x e M' hx ⟨hM, z, he⟩ => by
      subst hM he
      obtain ⟨q, hq, rfl⟩ : ∃ q, qs[i]? = some q ∧ frV q = x := by simpa using hx
      have hi := (List.getElem?_eq_some_iff.mp hq).1
      have hm : (k + 1) * i + (k + 1) ≤ (k + 1) * (qs.length + 1) := by rw [← Nat.mul_succ]; exact Nat.mul_le_mul_left _ (by omega)
      have hp := (F_plus_ok M' (key i (by omega)) (hs q (List.mem_of_getElem? hq)) (by omega)).1
      refine ⟨hold, _, M', _, M', rfl, ?_, rfl, some (frV q), by rw [take_succ hq, rsum_snoc]⟩
      simp [ev, sSeq, sAsg, sRet, sRetN, sE, sIf, sNil, sExpr, startE, f2, fVar, fCons, fNil, fTup, fIf, fAnd, fOr, fNot, fChain, gNm, bind_eq, pure_eq, bad_eq, biV, bopV, copV, wdOf, asB_bl, lineOk0, lineOk1, lineOk2, lineOk3, lineOk4, optR_some, sAsg, D_total, L_total, hp])
    (fun e M' h => by rw [h.1]; exact hold) ⟨rfl, none, rfl⟩
  obtain ⟨e', M', h1, rfl, z, he⟩ := loop
  simp only [List.length_map, List.take_length] at he
  subst he
  simp [ev, sSeq, sAsg, sRet, sRetN, sE, sIf, sNil, sExpr, startE, f2, fVar, fCons, fNil, fTup, fIf, fAnd, fOr, fNot, fChain, gNm, bind_eq, pure_eq, bad_eq, biV, bopV, copV, wdOf, asB_bl, lineOk0, lineOk1, lineOk2, lineOk3, lineOk4, optR_some, sAsg, sFor, D_total, L_total, b_total, fr0, wkOf, hml]
  simp [ev, sSeq, sAsg, sRet, sRetN, sE, sIf, sNil, sExpr, startE, f2, fVar, fCons, fNil, fTup, fIf, fAnd, fOr, fNot, fChain, gNm, bind_eq, pure_eq, bad_eq, biV, bopV, copV, wdOf, asB_bl, lineOk0, lineOk1, lineOk2, lineOk3, lineOk4, optR_some, sAsg, D_total, L_total] at h1
  rw [h1]
  rfl
theorem F_greater_ok {p q : Rat} {k l : Nat} (M : Mem) (hp : Sz k p) (hq : Sz l q) (h : k + l < 3900) : F_greater [frV p, frV q] M = .ok (frV (if p < q then q else p)) M := by
  refine mk_pure rfl ?_ rfl
  have h1 := F_is_less_ok M hp hq h
  by_cases c : p < q
  · simp [c] at h1
    simp [ev, sSeq, sAsg, sRet, sRetN, sE, sIf, sNil, sExpr, startE, f2, fVar, fCons, fNil, fTup, fIf, fAnd, fOr, fNot, fChain, gNm, bind_eq, pure_eq, bad_eq, biV, bopV, copV, wdOf, asB_bl, lineOk0, lineOk1, lineOk2, lineOk3, lineOk4, optR_some, b_greater, D_greater, L_greater, h1, c]
  · simp [c] at h1
    simp [ev, sSeq, sAsg, sRet, sRetN, sE, sIf, sNil, sExpr, startE, f2, fVar, fCons, fNil, fTup, fIf, fAnd, fOr, fNot, fChain, gNm, bind_eq, pure_eq, bad_eq, biV, bopV, copV, wdOf, asB_bl, lineOk0, lineOk1, lineOk2, lineOk3, lineOk4, optR_some, b_greater, D_greater, L_greater, h1, c]
theorem F_share_of_ok {lo : List Int} {wo : List (List Int)} {q : Rat} {k : Nat} (T : Tl lo wo) (M : Mem) (hq : Sz k q) (hk : k < 3900) : F_share_of [tel lo wo, frV q] M = .ok (frV (q / (lo.sum : Rat))) M ∧ Sz (k + 24) (q / (lo.sum : Rat)) := by
  have n8 := T.n8
  have n2 := T.n2
  have sp := sum_pos (by omega : 1 ≤ lo.length) T.w
  have hS : lo.sum < 2 ^ 24 := by
    have : (2 : Int) ^ 24 = 16777216 := by decide
    omega
  obtain ⟨g1, g2, g3⟩ := frac_over M hq sp.1 hS hk
  have p1 := prop_tel (F_weights_ok lo wo M)
  simp [bind_eq] at p1
  have su := sumW_itup lo
  have mv := mulV_int g3
  refine ⟨mk_pure rfl ?_ rfl, g2⟩
  simp [ev, sSeq, sAsg, sRet, sRetN, sE, sIf, sNil, sExpr, startE, f2, fVar, fCons, fNil, fTup, fIf, fAnd, fOr, fNot, fChain, gNm, bind_eq, pure_eq, bad_eq, biV, bopV, copV, wdOf, asB_bl, lineOk0, lineOk1, lineOk2, lineOk3, lineOk4, optR_some, b_share_of, D_share_of, L_share_of, mclOf, p1, su, idx_frV0, idx_frV1, mv, g1]
def mxQ (b q : Rat) : Rat := if b < q then q else b
def bestOf (lo : List Int) (H : List (List Rat)) (s : Int) : Rat := (nums lo).foldl (fun b q => mxQ b ((q.2 : Rat) * hAt H (q.1 : Nat) s)) 0
def agQ (lo : List Int) (wo : List (List Int)) (H : List (List Rat)) : Rat := rsum ((List.range wo.length).map fun s => bestOf lo H (s : Nat)) / (lo.sum : Rat)
theorem range1_ok {n : Nat} (h : n ≤ 1000) : range1W [.int (n : Int)] = pure ⟨(List.range n).map fun i => .int (i : Nat), []⟩ := by
  have r1 := range1W_eq (rngB_of (i := (n : Int)) (by omega) (by omega))
  simp only [rngP, Int.sub_zero, Int.toNat_natCast, Int.zero_add] at r1
  rw [r1]
theorem against_ok {lo : List Int} {wo : List (List Int)} (T : Tl lo wo) {H : List (List Rat)} {k : Nat} (hH : H.length = lo.length) (hr : ∀ r ∈ H, r.length = wo.length) (hk : ∀ r ∈ H, ∀ q ∈ r, Sz k q) (hk2 : k ≤ 100) (M : Mem) :
    F_against [tel lo wo, hab H] M = .ok (frV (agQ lo wo H)) M ∧ Sz 2200 (agQ lo wo H) := by
  have n8 := T.n8
  have n2 := T.n2
  have m16 := T.m16
  have hw20 : ∀ x ∈ lo, Sz 20 (x : Rat) := fun x hx => by
    have := T.w x hx
    exact Sz.int (by have : (2 : Nat) ^ 20 = 1048576 := by decide
                     omega) (by omega)
  have prod : ∀ (s : Nat), s < wo.length → ∀ q ∈ nums lo, ∀ M', F_times [frV (q.2 : Rat), frV (hAt H (q.1 : Nat) s)] M' = .ok (frV ((q.2 : Rat) * hAt H (q.1 : Nat) s)) M' ∧ Sz 120 ((q.2 : Rat) * hAt H (q.1 : Nat) s) ∧ idxW (hab H) (.int (q.1 : Nat)) = pure (.tup ((H.getD q.1 []).map frV)) ∧ idxW (.tup ((H.getD q.1 []).map frV)) (.int s) = pure (frV (hAt H (q.1 : Nat) s)) := by
    intro s hs q hq M'
    have hm := mem_nums hq
    have hi := (List.getElem?_eq_some_iff.mp hm).1
    have hi2 : q.1 < H.length := by omega
    have eH : H.getD q.1 [] = H[q.1] := by simp [List.getElem?_eq_getElem hi2]
    have mH : H[q.1] ∈ H := List.getElem_mem _
    have hs2 : s < (H[q.1]).length := by rw [hr _ mH]; exact hs
    have es : hAt H (q.1 : Nat) s = (H[q.1])[s] := by unfold hAt; simp [List.getElem?_eq_getElem hi2, List.getElem?_eq_getElem hs2]
    have s2 : Sz k (hAt H (q.1 : Nat) s) := by rw [es]; exact hk _ mH _ (List.getElem_mem _)
    have t := F_times_ok M' (hw20 _ (List.mem_of_getElem? hm)) s2 (by omega)
    refine ⟨t.1, t.2.mono (by omega), idx_tup (by omega) ?_, idx_tup (by omega) ?_⟩
    · rw [eH]; simp [List.getElem?_eq_getElem hi2]
    · rw [eH, es]; simp [List.getElem?_eq_getElem hs2]
  have fsz : ∀ (s : Nat), s < wo.length → ∀ l : List (Nat × Int), (∀ q ∈ l, q ∈ nums lo) → ∀ b, Sz 120 b → Sz 120 (l.foldl (fun b q => mxQ b ((q.2 : Rat) * hAt H (q.1 : Nat) s)) b) := by
    intro s hs l
    induction l with
    | nil => intro _ b hb; exact hb
    | cons q l ih =>
      intro hl b hb
      rw [List.foldl_cons]
      refine ih (fun x hx => hl x (by simp [hx])) _ ?_
      unfold mxQ
      split
      · exact (prod s hs q (hl q (by simp)) []).2.1
      · exact hb
  have bsz : ∀ (s : Nat), s < wo.length → Sz 120 (bestOf lo H s) := fun s hs => fsz s hs (nums lo) (fun _ h => h) 0 (Sz.zero.mono (by omega))
  have ttl := F_total_ref (qs := (List.range wo.length).map fun s => bestOf lo H (s : Nat)) (k := 120) M (by
    intro q hq
    obtain ⟨s, hs, rfl⟩ := List.mem_map.mp hq
    exact bsz s (List.mem_range.mp hs)) (by
      rw [List.length_map, List.length_range]
      have : (120 + 1) * (wo.length + 1) ≤ (120 + 1) * 17 := Nat.mul_le_mul_left _ (by omega)
      omega)
  have tz := ttl.2.mono (l := 1937) (by
    rw [List.length_map, List.length_range]
    have : (120 + 1) * wo.length ≤ (120 + 1) * 16 := Nat.mul_le_mul_left _ (by omega)
    omega)
  have t1 := ttl.1
  have sh := F_share_of_ok T (M ++ [.lst (((List.range wo.length).map fun s => bestOf lo H (s : Nat)).map frV)]) tz (by omega)
  refine ⟨?_, sh.2.mono (by omega)⟩
  have sh1 := sh.1
  change F_share_of _ _ = .ok (frV (agQ lo wo H)) _ at sh1
  have p1 : ∀ M', (fieldsOf (tel lo wo) >>= fun t => if t.1 == ("Teller" : Str) then quietR (F_Teller_weights [tel lo wo]) else RM.bad) M' = .ok (itup lo) M' := fun M' => prop_tel (F_weights_ok lo wo M')
  have p2 : ∀ M', (fieldsOf (tel lo wo) >>= fun t => if t.1 == ("Teller" : Str) then quietR (F_Teller_sayings [tel lo wo]) else RM.bad) M' = .ok (.tup (wo.map itup)) M' := fun M' => prop_tel (F_sayings_ok lo wo M')
  have r1 := range1_ok (n := wo.length) (by omega)
  have inner : ∀ (s : Nat), s < wo.length → ∀ (z5 z6 : Option PV) (M' : Mem), ∃ z7 z8, ev (k := .s) D_against (.for_ (.gtup 2 (.gcons (.gnm 5) (.gcons (.gnm 6) .gnil))) (.enum (.prop 1 (.var 0))) (.bone (.asg (.gnm 4) (.call 2 (.cons (.var 4) (.cons (.call 3 (.cons (.tup (.cons (.var 6) (.cons (.int 1) .nil))) (.cons (.idx (.idx (.var 1) (.var 5)) (.var 3)) .nil))) .nil))))))
      [some (tel lo wo), some (hab H), some (.ref M.length), some (.int (s : Nat)), some (frV 0), z5, z6] M' = .nx [some (tel lo wo), some (hab H), some (.ref M.length), some (.int (s : Nat)), some (frV (bestOf lo H s)), z7, z8] M' := by
    intro s hs z5 z6 M'
    have hi : ev D_against (.enum (.prop 1 (.var 0))) [some (tel lo wo), some (hab H), some (.ref M.length), some (.int (s : Nat)), some (frV 0), z5, z6] M' = .ok ⟨(nums lo).map fun q => .tup [.int (q.1 : Nat), .int q.2], []⟩ M' := by
      have q1 := p1 M'
      simp [bind_eq] at q1
      simp [ev, sSeq, sAsg, sRet, sRetN, sE, sIf, sNil, sExpr, startE, f2, fVar, fCons, fNil, fTup, fIf, fAnd, fOr, fNot, fChain, gNm, bind_eq, pure_eq, bad_eq, biV, bopV, copV, wdOf, asB_bl, lineOk0, lineOk1, lineOk2, lineOk3, lineOk4, optR_some, D_against, L_against, mclOf, q1, itup, enumW_tup, numbered_map]
    obtain ⟨e', M2, h1, hM, z7, z8, he⟩ := for_thru (w := ⟨(nums lo).map fun q => .tup [.int (q.1 : Nat), .int q.2], []⟩) (g := gSq 2 (gsCons (gNm 5) (gsCons (gNm 6) gsNil))) (body := ev (k := .b) D_against (.bone (.asg (.gnm 4) (.call 2 (.cons (.var 4) (.cons (.call 3 (.cons (.tup (.cons (.var 6) (.cons (.int 1) .nil))) (.cons (.idx (.idx (.var 1) (.var 5)) (.var 3)) .nil))) .nil))))))
      (e := [some (tel lo wo), some (hab H), some (.ref M.length), some (.int (s : Nat)), some (frV 0), z5, z6]) (M := M')
      (fun i e M3 => M3 = M' ∧ ∃ z7 z8, e = [some (tel lo wo), some (hab H), some (.ref M.length), some (.int (s : Nat)), some (frV (((nums lo).take i).foldl (fun b q => mxQ b ((q.2 : Rat) * hAt H (q.1 : Nat) s)) 0)), z7, z8])
      (fun i x e M3 hx ⟨hM, z7, z8, he⟩ => by
        subst hM he
        obtain ⟨q, hq, rfl⟩ : ∃ q, (nums lo)[i]? = some q ∧ PV.tup [.int (q.1 : Nat), .int q.2] = x := by simpa using hx
        obtain ⟨a1, a2, a3, a4⟩ := prod s hs q (List.mem_of_getElem? hq) M3
        have gr := F_greater_ok M3 (fsz s hs ((nums lo).take i) (fun _ h => List.mem_of_mem_take h) 0 (Sz.zero.mono (by omega))) a2 (by omega)
        refine ⟨Wk.holds0, [some (tel lo wo), some (hab H), some (.ref M.length), some (.int (s : Nat)), some (frV (((nums lo).take i).foldl (fun b q => mxQ b ((q.2 : Rat) * hAt H (q.1 : Nat) s)) 0)), some (.int (q.1 : Nat)), some (.int q.2)], M3, _, M3, ?_, ?_, rfl, some (.int (q.1 : Nat)), some (.int q.2), rfl⟩
        · simp [ev, sSeq, sAsg, sRet, sRetN, sE, sIf, sNil, sExpr, startE, f2, fVar, fCons, fNil, fTup, fIf, fAnd, fOr, fNot, fChain, gNm, bind_eq, pure_eq, bad_eq, biV, bopV, copV, wdOf, asB_bl, lineOk0, lineOk1, lineOk2, lineOk3, lineOk4, optR_some, gSq, gsCons, gsNil, seqW_tup]
        · rw [take_succ hq, List.foldl_append, List.foldl_cons, List.foldl_nil]
          change F_greater _ M3 = .ok (frV (mxQ _ _)) M3 at gr
          generalize ((nums lo).take i).foldl (fun b q => mxQ b ((q.2 : Rat) * hAt H (q.1 : Nat) s)) 0 = bb at *
          generalize H.getD q.1 [] = rr at *
          simp [ev, sSeq, sAsg, sRet, sRetN, sE, sIf, sNil, sExpr, startE, f2, fVar, fCons, fNil, fTup, fIf, fAnd, fOr, fNot, fChain, gNm, bind_eq, pure_eq, bad_eq, biV, bopV, copV, wdOf, asB_bl, lineOk0, lineOk1, lineOk2, lineOk3, lineOk4, optR_some, D_against, L_against, frV_int, a3, a4, a1, gr])
      (fun _ _ _ => Wk.holds0) ⟨rfl, z5, z6, rfl⟩
    subst hM
    refine ⟨z7, z8, ?_⟩
    show sFor (ev D_against (.enum (.prop 1 (.var 0)))) (gSq 2 (gsCons (gNm 5) (gsCons (gNm 6) gsNil))) (ev (k := .b) D_against (.bone (.asg (.gnm 4) (.call 2 (.cons (.var 4) (.cons (.call 3 (.cons (.tup (.cons (.var 6) (.cons (.int 1) .nil))) (.cons (.idx (.idx (.var 1) (.var 5)) (.var 3)) .nil))) .nil)))))) _ _ = _
    rw [sFor_of hi, h1, he]
    have nl : ((nums lo).map fun q => PV.tup [.int (q.1 : Nat), .int q.2]).length = (nums lo).length := List.length_map _
    dsimp only
    rw [nl, List.take_length]
    rfl
  have body : ev (k := .b) D_against b_against (startE 7 [tel lo wo, hab H]) M = .rt (frV (agQ lo wo H)) (M ++ [.lst (((List.range wo.length).map fun s => bestOf lo H (s : Nat)).map frV)]) := by
    show sSeq _ _ _ _ = _
    refine seq_nx (e' := [some (tel lo wo), some (hab H), some (.ref M.length), none, none, none, none]) (M' := M ++ [.lst []]) ?_ ?_
    · simp [ev, sSeq, sAsg, sRet, sRetN, sE, sIf, sNil, sExpr, startE, f2, fVar, fCons, fNil, fTup, fIf, fAnd, fOr, fNot, fChain, gNm, bind_eq, pure_eq, bad_eq, biV, bopV, copV, wdOf, asB_bl, lineOk0, lineOk1, lineOk2, lineOk3, lineOk4, optR_some, fLstM]
    refine seq_for (w := ⟨(List.range wo.length).map fun i => .int (i : Nat), []⟩) (M0 := M ++ [.lst []]) (fun i e M' => M' = M ++ [.lst (((List.range i).map fun s => bestOf lo H (s : Nat)).map frV)] ∧ ∃ z3 z4 z5 z6, e = [some (tel lo wo), some (hab H), some (.ref M.length), z3, z4, z5, z6]) ?_ ⟨rfl, none, none, none, none, rfl⟩ ?_ (fun _ _ _ => Wk.holds0) ?_
    · have q2 := p2 (M ++ [.lst []])
      simp [bind_eq] at q2
      simp [ev, sSeq, sAsg, sRet, sRetN, sE, sIf, sNil, sExpr, startE, f2, fVar, fCons, fNil, fTup, fIf, fAnd, fOr, fNot, fChain, gNm, bind_eq, pure_eq, bad_eq, biV, bopV, copV, wdOf, asB_bl, lineOk0, lineOk1, lineOk2, lineOk3, lineOk4, optR_some, D_against, L_against, mclOf, q2, lenW_tup, r1]
    · intro i x e M' hx ⟨hM, z3, z4, z5, z6, he⟩
      subst hM he
      have hi : i < wo.length := by
        have := (List.getElem?_eq_some_iff.mp hx).1
        simpa using this
      obtain rfl : PV.int (i : Nat) = x := by simpa [hi] using hx
      obtain ⟨z7, z8, hin⟩ := inner i hi z5 z6 (M ++ [.lst (((List.range i).map fun s => bestOf lo H (s : Nat)).map frV)])
      refine ⟨Wk.holds0, [some (tel lo wo), some (hab H), some (.ref M.length), some (.int (i : Nat)), z4, z5, z6], M ++ [.lst (((List.range i).map fun s => bestOf lo H (s : Nat)).map frV)], [some (tel lo wo), some (hab H), some (.ref M.length), some (.int (i : Nat)), some (frV (bestOf lo H i)), z7, z8], _, rfl, ?_, rfl, _, _, _, _, rfl⟩
      show sSeq _ (sSeq _ _) _ _ = _
      refine seq_nx (e' := [some (tel lo wo), some (hab H), some (.ref M.length), some (.int (i : Nat)), some (frV 0), z5, z6]) (M' := M ++ [.lst (((List.range i).map fun s => bestOf lo H (s : Nat)).map frV)]) ?_ (seq_nx hin ?_)
      · simp [ev, sSeq, sAsg, sRet, sRetN, sE, sIf, sNil, sExpr, startE, f2, fVar, fCons, fNil, fTup, fIf, fAnd, fOr, fNot, fChain, gNm, bind_eq, pure_eq, bad_eq, biV, bopV, copV, wdOf, asB_bl, lineOk0, lineOk1, lineOk2, lineOk3, lineOk4, optR_some, D_against, fr0]
      · have ap : appW (.ref M.length) [frV (bestOf lo H i)] (M ++ [.lst (((List.range i).map fun s => bestOf lo H (s : Nat)).map frV)]) = .ok .non (M ++ [.lst (((List.range (i + 1)).map fun s => bestOf lo H (s : Nat)).map frV)]) := by
          unfold appW
          dsimp only
          rw [List.getElem?_append_right (Nat.le_refl _), Nat.sub_self]
          dsimp only [List.getElem?_cons_zero]
          rw [if_pos (by rw [List.length_map, List.length_map, List.length_range]; exact Nat.lt_of_lt_of_le (by omega : i < 1000) (szl (by omega)))]
          rw [List.set_append_right _ _ (Nat.le_refl _), Nat.sub_self, List.range_succ, List.map_append, List.map_append]
          rfl
        clear hin
        generalize ((List.range (i + 1)).map fun s => bestOf lo H (s : Nat)).map frV = l1 at *
        generalize ((List.range i).map fun s => bestOf lo H (s : Nat)).map frV = l0 at *
        generalize bestOf lo H i = bb at *
        simp [ev, sSeq, sAsg, sRet, sRetN, sE, sIf, sNil, sExpr, startE, f2, fVar, fCons, fNil, fTup, fIf, fAnd, fOr, fNot, fChain, gNm, bind_eq, pure_eq, bad_eq, biV, bopV, copV, wdOf, asB_bl, lineOk0, lineOk1, lineOk2, lineOk3, lineOk4, optR_some, fMeth, bmT, bmV, recvW, ap, memL_app]
    · intro e M' ⟨hM, z3, z4, z5, z6, he⟩
      subst hM he
      have nl : ((List.range wo.length).map fun i => PV.int (i : Nat)).length = wo.length := by simp
      rw [nl]
      rw [List.length_map, List.length_range] at *
      generalize hgg : M ++ [MO.lst (((List.range wo.length).map fun s => bestOf lo H (s : Nat)).map frV)] = MM at *
      generalize agQ lo wo H = ag at *
      generalize rsum ((List.range wo.length).map fun s => bestOf lo H (s : Nat)) = rs at *
      simp [ev, sSeq, sAsg, sRet, sRetN, sE, sIf, sNil, sExpr, startE, f2, fVar, fCons, fNil, fTup, fIf, fAnd, fOr, fNot, fChain, gNm, bind_eq, pure_eq, bad_eq, biV, bopV, copV, wdOf, asB_bl, lineOk0, lineOk1, lineOk2, lineOk3, lineOk4, optR_some, D_against, L_against, t1, sh1]
  show mkF 2 7 b_against D_against [tel lo wo, hab H] M = _
  unfold mkF
  rw [if_pos (show [tel lo wo, hab H].length = 2 from rfl), body]
  show trim M (.ok _ _) = _
  have hk : Keeps M (M ++ [MO.lst (((List.range wo.length).map fun s => bestOf lo H (s : Nat)).map frV)]) := ⟨by simp, fun i o hi ho => .inl (by rwa [List.getElem?_append_left hi] at ho)⟩
  rw [trim_y ⟨rfl, hk⟩, List.take_left' rfl]
end R
set_option maxHeartbeats 1000000
namespace R
open PySem PySem.Spec L2 TL
open PyProof.Rows hiding St
variable {K K2 : Nat}
/-! P57: claims of no more, of shares; any values. -/
theorem shows_no_more_any {lo : List Int} {wo : List (List Int)} (T : Tl lo wo) {b v : PV} (hb : pl K b = true) (hv : pl K2 v = true) (M : Mem) (hK : K ≤ 1000 := by omega) (hK2 : K2 ≤ 100 := by omega) :
    F_shows_no_more [tel lo wo, b, v] M = .ok (.bl (isFr b && (isHab lo wo v && !decide (ratOf b < agQ lo wo (rowsOf v))))) M := by
  refine mk_pure rfl ?_ rfl
  have h1 := is_fraction_any hb M
  have h2 := is_habit_any lo wo hv M T.m16 T.n8
  cases q1 : isFr b with
  | false =>
    rw [q1] at h1
    simp [ev, sSeq, sAsg, sRet, sRetN, sE, sIf, sNil, sExpr, startE, f2, fVar, fCons, fNil, fTup, fIf, fAnd, fOr, fNot, fChain, gNm, bind_eq, pure_eq, bad_eq, biV, bopV, copV, wdOf, asB_bl, lineOk0, lineOk1, lineOk2, lineOk3, lineOk4, optR_some, b_shows_no_more, D_shows_no_more, L_shows_no_more, h1]
  | true =>
    rw [q1] at h1
    cases q2 : isHab lo wo v with
    | false =>
      rw [q2] at h2
      simp [ev, sSeq, sAsg, sRet, sRetN, sE, sIf, sNil, sExpr, startE, f2, fVar, fCons, fNil, fTup, fIf, fAnd, fOr, fNot, fChain, gNm, bind_eq, pure_eq, bad_eq, biV, bopV, copV, wdOf, asB_bl, lineOk0, lineOk1, lineOk2, lineOk3, lineOk4, optR_some, b_shows_no_more, D_shows_no_more, L_shows_no_more, h1, h2]
    | true =>
      rw [q2] at h2
      obtain ⟨eqv, hb2⟩ := isHab_ok q2
      have szr := pl_rows hK2 hv q2
      have szb := isFr_sz q1 hb
      have eb := (isFr_ok q1).1
      have ag := against_ok T hb2.len (fun r hr => (hb2.row r hr).1) szr (Nat.le_refl _) M
      have l1 := F_is_less_ok M szb ag.2 (by omega)
      have ag1 := ag.1
      generalize agQ lo wo (rowsOf v) = ag0 at *
      generalize ratOf b = bq at *
      subst eb
      rw [← eqv] at ag1
      clear eqv hb2 szr
      simp [ev, sSeq, sAsg, sRet, sRetN, sE, sIf, sNil, sExpr, startE, f2, fVar, fCons, fNil, fTup, fIf, fAnd, fOr, fNot, fChain, gNm, bind_eq, pure_eq, bad_eq, biV, bopV, copV, wdOf, asB_bl, lineOk0, lineOk1, lineOk2, lineOk3, lineOk4, optR_some, b_shows_no_more, D_shows_no_more, L_shows_no_more, h1, h2, ag1, l1]
def shB (wo : List (List Int)) (v : PV) : Bool := areFr v wo.length && decide (rsum (rowOf v) = 1)
theorem are_shares_any {lo : List Int} {wo : List (List Int)} (T : Tl lo wo) {v : PV} (hv : pl K v = true) (M : Mem) (hK : K ≤ 200 := by omega) : F_are_shares [tel lo wo, v] M = .ok (.bl (shB wo v)) M := by
  refine mk_pure rfl ?_ rfl
  have m16 := T.m16
  have h2 := are_fractions_any hv wo.length (by omega) M
  have p2 := prop_tel (F_sayings_ok lo wo M)
  simp [bind_eq] at p2
  unfold shB
  cases q2 : areFr v wo.length with
  | false =>
    rw [q2] at h2
    simp [ev, sSeq, sAsg, sRet, sRetN, sE, sIf, sNil, sExpr, startE, f2, fVar, fCons, fNil, fTup, fIf, fAnd, fOr, fNot, fChain, gNm, bind_eq, pure_eq, bad_eq, biV, bopV, copV, wdOf, asB_bl, lineOk0, lineOk1, lineOk2, lineOk3, lineOk4, optR_some, tyS, isi_int_non, isi_int_bl, isi_int_int, isi_int_str, isi_int_tup, isi_int_lst, isi_bool_non, isi_bool_bl, isi_bool_int, isi_bool_str, isi_bool_tup, isi_bool_lst, isi_str_non, isi_str_bl, isi_str_int, isi_str_str, isi_str_tup, isi_str_lst, isi_tuple_non, isi_tuple_bl, isi_tuple_int, isi_tuple_str, isi_tuple_tup, isi_tuple_lst, isi_int_dct, isi_bool_dct, isi_str_dct, isi_tuple_dct, b_are_shares, D_are_shares, L_are_shares, mclOf, p2, lenW_tup, h2]
  | true =>
    rw [q2] at h2
    obtain ⟨ev1, el, eo⟩ := areFr_eq q2
    have sz := row_sz q2 hv
    have tt := F_total_ok (v := .tup ((rowOf v).map frV)) (qs := rowOf v) (k := K) M rfl sz (by
      have : (K + 1) * ((rowOf v).length + 1) ≤ (K + 1) * 17 := Nat.mul_le_mul_left _ (by omega)
      omega)
    have t1 := tt.1
    rw [← ev1] at t1
    have e1 := eqX_frV (rsum (rowOf v)) 1
    generalize rsum (rowOf v) = rs at *
    clear ev1
    simp [ev, sSeq, sAsg, sRet, sRetN, sE, sIf, sNil, sExpr, startE, f2, fVar, fCons, fNil, fTup, fIf, fAnd, fOr, fNot, fChain, gNm, bind_eq, pure_eq, bad_eq, biV, bopV, copV, wdOf, asB_bl, lineOk0, lineOk1, lineOk2, lineOk3, lineOk4, optR_some, tyS, isi_int_non, isi_int_bl, isi_int_int, isi_int_str, isi_int_tup, isi_int_lst, isi_bool_non, isi_bool_bl, isi_bool_int, isi_bool_str, isi_bool_tup, isi_bool_lst, isi_str_non, isi_str_bl, isi_str_int, isi_str_str, isi_str_tup, isi_str_lst, isi_tuple_non, isi_tuple_bl, isi_tuple_int, isi_tuple_str, isi_tuple_tup, isi_tuple_lst, isi_int_dct, isi_bool_dct, isi_str_dct, isi_tuple_dct, b_are_shares, D_are_shares, L_are_shares, mclOf, p2, lenW_tup, h2, t1, fr1, e1]
end R
set_option maxHeartbeats 1000000
namespace R
open PySem PySem.Spec L2 TL
open PyProof.Rows hiding St
variable {K K2 : Nat}
/-! P58: a lot that bars shares. -/
def barsB (lo : List Int) (wo : List (List Int)) (L : List Int) (qs : List Rat) : Bool := decide (rsum (((nums wo).filter fun q => q.2.any fun c => decide (c ∈ L)).map fun q => qs.getD q.1 0) < (wsum lo L : Rat) / (lo.sum : Rat))
theorem wsum_bound {lo : List Int} (hw : ∀ x ∈ lo, 1 ≤ x ∧ x ≤ 1000000) : ∀ L : List Int, (∀ c ∈ L, 0 ≤ c ∧ c < lo.length) → 0 ≤ wsum lo L ∧ wsum lo L ≤ 1000000 * L.length
  | [], _ => by simp [wsum]
  | c :: L, h => by
    have ih := wsum_bound hw L fun x hx => h x (by simp [hx])
    have hc := h c (by simp)
    have := hw _ (at0_mem hc.1 hc.2)
    unfold wsum at ih ⊢
    rw [List.map_cons, List.sum_cons, List.length_cons]
    push_cast
    omega
theorem bars_ok {lo : List Int} {wo : List (List Int)} (T : Tl lo wo) {L : List Int} {qs : List Rat} (hL : ascB L = true) (hR : ∀ c ∈ L, 0 ≤ c ∧ c < lo.length) (hq : qs.length = wo.length) (hs : ∀ q ∈ qs, Sz K q) (M : Mem) (hK : K ≤ 200 := by omega) :
    F_bars [tel lo wo, itup L, .tup (qs.map frV)] M = .ok (.bl (barsB lo wo L qs)) M := by
  refine mk_pure rfl ?_ rfl
  have n8 := T.n8
  have n2 := T.n2
  have m16 := T.m16
  have hLl : (L.length : Int) ≤ lo.length := asc_len hL hR (by omega)
  have p1 := prop_tel (F_weights_ok lo wo M)
  simp [bind_eq] at p1
  have p2 := prop_tel (F_sayings_ok lo wo M)
  simp [bind_eq] at p2
  have su := sumW_itup lo
  have wq := F_weight_of_ok (lo := lo) (wo := wo) (v := itup L) (cs := L) M rfl hR (by omega)
  have sp := sum_pos (by omega : 1 ≤ lo.length) T.w
  have wb := wsum_bound T.w L hR
  have e40 : (2 : Nat) ^ 24 = 16777216 := by decide
  have hS : lo.sum.natAbs < 2 ^ 24 := by omega
  have hWq : (wsum lo L).natAbs < 2 ^ 24 := by omega
  have lift : ∀ {n : Nat}, n < 2 ^ 24 → n < 2 ^ 4000 := fun h => Nat.lt_of_lt_of_le h (Nat.pow_le_pow_right (by omega) (by omega))
  have fr := F_fraction_ok (wsum lo L) lo.sum M (lift hWq) (lift hS) (by omega)
  have fz := Sz.div hWq hS (by omega : 0 < lo.sum)
  have hqa : ∀ i : Nat, i < wo.length → Sz K (qs.getD i 0) ∧ idxW (.tup (qs.map frV)) (.int (i : Nat)) = pure (frV (qs.getD i 0)) := fun i hi => by
    have hc : i < qs.length := by omega
    have e : qs.getD i 0 = qs[i] := by simp [List.getElem?_eq_getElem hc]
    rw [e]
    exact ⟨hs _ (List.getElem_mem _), idx_tup (by omega) (by simp [List.getElem?_eq_getElem hc])⟩
  have hc := lc_gen (as := nums wo) (enc := fun q => .tup [.int (q.1 : Nat), itup q.2]) (fi := ev D_bars (.enum (.prop 0 (.var 0)))) (vs := [4, 5]) (g := gSq 2 (gsCons (gNm 4) (gsCons (gNm 5) gsNil))) (t := ev D_bars (.tst (.bi .any (.cons (.lc false [(("case" : Str), 6)] (.gnm 6) (.seq (.var 5)) .tt (.cmp .in_ (.var 6) (.var 1))) .nil)))) (f := ev D_bars (.idx (.var 2) (.var 4)))
    (e := [some (tel lo wo), some (itup L), some (.tup (qs.map frV)), none, none, none, none]) (M := M) (fun q => [some (tel lo wo), some (itup L), some (.tup (qs.map frV)), none, some (.int (q.1 : Nat)), some (itup q.2), none]) (fun q => q.2.any fun c => decide (c ∈ L)) (fun q => frV (qs.getD q.1 0))
    (by simp [ev, sSeq, sAsg, sRet, sRetN, sE, sIf, sNil, sExpr, startE, f2, fVar, fCons, fNil, fTup, fIf, fAnd, fOr, fNot, fChain, gNm, bind_eq, pure_eq, bad_eq, biV, bopV, copV, wdOf, asB_bl, lineOk0, lineOk1, lineOk2, lineOk3, lineOk4, optR_some, D_bars, L_bars, mclOf, p2, enumW_tup, numbered_map]) (by rw [nums_len]; exact szl (by omega))
    (fun q _ M' => by simp [ev, sSeq, sAsg, sRet, sRetN, sE, sIf, sNil, sExpr, startE, f2, fVar, fCons, fNil, fTup, fIf, fAnd, fOr, fNot, fChain, gNm, bind_eq, pure_eq, bad_eq, biV, bopV, copV, wdOf, asB_bl, lineOk0, lineOk1, lineOk2, lineOk3, lineOk4, optR_some, gSq, gsCons, gsNil, seqW_tup, wipeE])
    (fun q hq M' => by
      have hin := lc_map (as := q.2) (enc := PV.int) (fi := fun e => ev D_bars (.var 5) e >>= wkOf) (vs := [6]) (i := 6) (f := ev D_bars (.cmp .in_ (.var 6) (.var 1))) (e := [some (tel lo wo), some (itup L), some (.tup (qs.map frV)), none, some (.int (q.1 : Nat)), some (itup q.2), none]) (M := M')
        (fun c => .bl (decide (c ∈ L))) rfl (szl (by have := T.glen (List.mem_of_getElem? (mem_nums hq)); omega)) (fun c _ M2 => by
          refine ⟨?_, rfl⟩
          simp [ev, sSeq, sAsg, sRet, sRetN, sE, sIf, sNil, sExpr, startE, f2, fVar, fCons, fNil, fTup, fIf, fAnd, fOr, fNot, fChain, gNm, bind_eq, pure_eq, bad_eq, biV, bopV, copV, wdOf, asB_bl, lineOk0, lineOk1, lineOk2, lineOk3, lineOk4, optR_some, wipeE, inX_itup])
      have al := anyW_map (fun c : Int => decide (c ∈ L)) q.2
      generalize (q.2.map fun c => PV.bl (decide (c ∈ L))) = zs at *
      simp [ev, sSeq, sAsg, sRet, sRetN, sE, sIf, sNil, sExpr, startE, f2, fVar, fCons, fNil, fTup, fIf, fAnd, fOr, fNot, fChain, gNm, bind_eq, pure_eq, bad_eq, biV, bopV, copV, wdOf, asB_bl, lineOk0, lineOk1, lineOk2, lineOk3, lineOk4, optR_some] at hin
      simp [ev, sSeq, sAsg, sRet, sRetN, sE, sIf, sNil, sExpr, startE, f2, fVar, fCons, fNil, fTup, fIf, fAnd, fOr, fNot, fChain, gNm, bind_eq, pure_eq, bad_eq, biV, bopV, copV, wdOf, asB_bl, lineOk0, lineOk1, lineOk2, lineOk3, lineOk4, optR_some, hin, al])
    (fun q hq _ M' => ⟨by
      have hi := (List.getElem?_eq_some_iff.mp (mem_nums hq)).1
      have := (hqa q.1 hi).2
      simp [ev, sSeq, sAsg, sRet, sRetN, sE, sIf, sNil, sExpr, startE, f2, fVar, fCons, fNil, fTup, fIf, fAnd, fOr, fNot, fChain, gNm, bind_eq, pure_eq, bad_eq, biV, bopV, copV, wdOf, asB_bl, lineOk0, lineOk1, lineOk2, lineOk3, lineOk4, optR_some, this], rfl⟩)
  have fl : ((nums wo).filter fun q => q.2.any fun c => decide (c ∈ L)).length ≤ 16 := Nat.le_trans (List.length_filter_le _ _) (by rw [nums_len]; exact m16)
  have tt := F_total_ok (v := .lst (((nums wo).filter fun q => q.2.any fun c => decide (c ∈ L)).map fun q => frV (qs.getD q.1 0))) (qs := ((nums wo).filter fun q => q.2.any fun c => decide (c ∈ L)).map fun q => qs.getD q.1 0) (k := K) M (by rw [List.map_map]; rfl) (by
    intro x hx
    obtain ⟨q, hq, rfl⟩ := List.mem_map.mp hx
    have hi := (List.getElem?_eq_some_iff.mp (mem_nums (List.mem_filter.mp hq).1)).1
    exact (hqa q.1 hi).1) (by
      rw [List.length_map]
      have : (K + 1) * (((nums wo).filter fun q => q.2.any fun c => decide (c ∈ L)).length + 1) ≤ (K + 1) * 17 := Nat.mul_le_mul_left _ (by omega)
      omega)
  have tz := tt.2.mono (l := (K + 1) * 16 + 1) (by
    rw [List.length_map]
    have : (K + 1) * ((nums wo).filter fun q => q.2.any fun c => decide (c ∈ L)).length ≤ (K + 1) * 16 := Nat.mul_le_mul_left _ fl
    omega)
  have l1 := F_is_less_ok M tz fz (by omega)
  have t1 := tt.1
  have er : Rat.divInt (wsum lo L) lo.sum = (wsum lo L : Rat) / (lo.sum : Rat) := Rat.divInt_eq_div _ _
  rw [er] at l1 fr
  change F_is_less _ M = .ok (.bl (barsB lo wo L qs)) M at l1
  generalize barsB lo wo L qs = bb at *
  clear tt tz fz er
  generalize (wsum lo L : Rat) / (lo.sum : Rat) = w2 at *
  generalize rsum (((nums wo).filter fun q => q.2.any fun c => decide (c ∈ L)).map fun q => qs.getD q.1 0) = r2 at *
  generalize (((nums wo).filter fun q => q.2.any fun c => decide (c ∈ L)).map fun q => frV (qs.getD q.1 0)) = ys at *
  simp [ev, sSeq, sAsg, sRet, sRetN, sE, sIf, sNil, sExpr, startE, f2, fVar, fCons, fNil, fTup, fIf, fAnd, fOr, fNot, fChain, gNm, bind_eq, pure_eq, bad_eq, biV, bopV, copV, wdOf, asB_bl, lineOk0, lineOk1, lineOk2, lineOk3, lineOk4, optR_some, mclOf] at hc
  simp [ev, sSeq, sAsg, sRet, sRetN, sE, sIf, sNil, sExpr, startE, f2, fVar, fCons, fNil, fTup, fIf, fAnd, fOr, fNot, fChain, gNm, bind_eq, pure_eq, bad_eq, biV, bopV, copV, wdOf, asB_bl, lineOk0, lineOk1, lineOk2, lineOk3, lineOk4, optR_some, b_bars, D_bars, L_bars, mclOf, p1, p2, su, wq, fr] at hc ⊢
  simp [ev, sSeq, sAsg, sRet, sRetN, sE, sIf, sNil, sExpr, startE, f2, fVar, fCons, fNil, fTup, fIf, fAnd, fOr, fNot, fChain, gNm, bind_eq, pure_eq, bad_eq, biV, bopV, copV, wdOf, asB_bl, lineOk0, lineOk1, lineOk2, lineOk3, lineOk4, optR_some, hc, t1, l1, p1, su, wq, fr]
end R
set_option maxHeartbeats 1000000
namespace R
open PySem PySem.Spec L2 TL
open PyProof.Rows hiding St
variable {K K2 : Nat}
/-! P59: a habit that gives shares. -/
def allC (lo : List Int) : List Int := (List.range lo.length).map fun (i : Nat) => (i : Int)
def givesB (lo : List Int) (wo : List (List Int)) (H : List (List Rat)) (qs : List Rat) : Bool := (nums qs).all fun q => decide (hwt lo H (q.1 : Nat) (allC lo) / (lo.sum : Rat) = q.2)
theorem lrange_ok (lo : List Int) (h : lo.length ≤ 8) : lrangeW (.int lo.length) = pure (.lst ((allC lo).map PV.int)) := by
  show (if decide ((0 : Int) ≤ lo.length) && decide ((lo.length : Int) ≤ 1000) then pure (PV.lst (rngP 0 lo.length)) else RM.bad : RM PV) = _
  rw [if_pos (by simp; omega)]
  simp [rngP, allC]
  rfl
theorem gives_ok {lo : List Int} {wo : List (List Int)} (T : Tl lo wo) {H : List (List Rat)} {qs : List Rat} (hH : H.length = lo.length) (hr : ∀ r ∈ H, r.length = wo.length) (hk : ∀ r ∈ H, ∀ q ∈ r, Sz 100 q) (hq : qs.length = wo.length) (M : Mem) :
    F_gives [tel lo wo, hab H, .tup (qs.map frV)] M = .ok (.bl (givesB lo wo H qs)) M := by
  have n8 := T.n8
  have n2 := T.n2
  have m16 := T.m16
  have p1 := prop_tel (F_weights_ok lo wo M)
  simp [bind_eq] at p1
  have ll : lenW [itup lo] = pure (.int lo.length) := by simp [itup, lenW_tup]
  have su := sumW_itup lo
  have sp := sum_pos (by omega : 1 ≤ lo.length) T.w
  have hS : lo.sum < 2 ^ 24 := by
    have : (2 : Int) ^ 24 = 16777216 := by decide
    omega
  have lr := lrange_ok lo n8
  have cl : (allC lo).length = lo.length := by simp [allC]
  have cr : ∀ c ∈ allC lo, 0 ≤ c ∧ c < lo.length := fun c hc => by
    obtain ⟨i, hi, rfl⟩ := List.mem_map.mp hc
    have := List.mem_range.mp hi
    omega
  have hw : ∀ (s : Nat) (M' : Mem), s < wo.length → F_heard_weight [tel lo wo, hab H, .int (s : Nat), .lst ((allC lo).map PV.int)] M' = .ok (frV (hwt lo H (s : Nat) (allC lo))) M' ∧ Sz 1000 (hwt lo H (s : Nat) (allC lo)) := fun s M' hs => by
    have h := F_heard_weight_ok (k := 100) (wo := wo) (v := .lst ((allC lo).map PV.int)) (cs := allC lo) (s : Nat) M' T.w hH hr hk (by omega) (by omega) rfl cr (by omega) (by rw [cl]; omega)
    exact ⟨h.1, h.2.mono (by rw [cl]; omega)⟩
  have hi : ev D_gives (.enum (.var 2)) [some (tel lo wo), some (hab H), some (.tup (qs.map frV)), some (.lst ((allC lo).map PV.int)), some (.int lo.sum), none, none, none] M = .ok ⟨(nums qs).map fun q => .tup [.int (q.1 : Nat), frV q.2], []⟩ M := by
    simp [ev, sSeq, sAsg, sRet, sRetN, sE, sIf, sNil, sExpr, startE, f2, fVar, fCons, fNil, fTup, fIf, fAnd, fOr, fNot, fChain, gNm, bind_eq, pure_eq, bad_eq, biV, bopV, copV, wdOf, asB_bl, lineOk0, lineOk1, lineOk2, lineOk3, lineOk4, optR_some, enumW_tup, numbered_map]
  have L := for_inv (w := ⟨(nums qs).map fun q => .tup [.int (q.1 : Nat), frV q.2], []⟩) (g := gSq 2 (gsCons (gNm 5) (gsCons (gNm 6) gsNil))) (body := ev (k := .b) D_gives (.bcons (.asg (.gnm 7) (.call 1 (.cons (.var 0) (.cons (.var 1) (.cons (.var 5) (.cons (.var 3) .nil)))))) (.bone (.ifs (.cmp .ne (.call 2 (.cons (.idx (.var 7) (.int 0)) (.cons (.bin .mul (.idx (.var 7) (.int 1)) (.var 4)) .nil))) (.var 6)) (.bone (.ret (.bl false))) .bnil))))
    (xs := (nums qs).map fun q => .tup [.int (q.1 : Nat), frV q.2])
    (fun i e M' => M' = M ∧ (∃ z5 z6 z7, e = [some (tel lo wo), some (hab H), some (.tup (qs.map frV)), some (.lst ((allC lo).map PV.int)), some (.int lo.sum), z5, z6, z7]) ∧ ∀ q ∈ (nums qs).take i, decide (hwt lo H (q.1 : Nat) (allC lo) / (lo.sum : Rat) = q.2) = true)
    (fun r => r = .rt (.bl false) M ∧ givesB lo wo H qs = false)
    (fun i x e M' hx ⟨hM, ⟨z5, z6, z7, he⟩, hg⟩ => by
      subst hM he
      obtain ⟨q, hqi, rfl⟩ : ∃ q, (nums qs)[i]? = some q ∧ PV.tup [.int (q.1 : Nat), frV q.2] = x := by simpa using hx
      have hqm := List.mem_of_getElem? hqi
      have hs : q.1 < wo.length := by
        have := (List.getElem?_eq_some_iff.mp (mem_nums hqm)).1
        omega
      obtain ⟨h1, h2⟩ := hw q.1 M' hs
      obtain ⟨g1, g2, g3⟩ := frac_over M' h2 sp.1 hS (by omega)
      have mv := mulV_int g3
      have ne := neX_frV (hwt lo H (q.1 : Nat) (allC lo) / (lo.sum : Rat)) q.2
      refine ⟨Wk.holds0, [some (tel lo wo), some (hab H), some (.tup (qs.map frV)), some (.lst ((allC lo).map PV.int)), some (.int lo.sum), some (.int (q.1 : Nat)), some (frV q.2), z7], M', by simp [ev, sSeq, sAsg, sRet, sRetN, sE, sIf, sNil, sExpr, startE, f2, fVar, fCons, fNil, fTup, fIf, fAnd, fOr, fNot, fChain, gNm, bind_eq, pure_eq, bad_eq, biV, bopV, copV, wdOf, asB_bl, lineOk0, lineOk1, lineOk2, lineOk3, lineOk4, optR_some, gSq, gsCons, gsNil, seqW_tup], ?_⟩
      by_cases c : hwt lo H (q.1 : Nat) (allC lo) / (lo.sum : Rat) = q.2
      · refine .inl ⟨[some (tel lo wo), some (hab H), some (.tup (qs.map frV)), some (.lst ((allC lo).map PV.int)), some (.int lo.sum), some (.int (q.1 : Nat)), some (frV q.2), some (frV (hwt lo H (q.1 : Nat) (allC lo)))], M', .inl ?_, rfl, ⟨_, _, _, rfl⟩, fun y hy => ?_⟩
        · have cd : decide (hwt lo H (q.1 : Nat) (allC lo) / (lo.sum : Rat) = q.2) = true := decide_eq_true c
          rw [cd] at ne
          clear c cd g2 h2
          generalize hwt lo H (q.1 : Nat) (allC lo) / (lo.sum : Rat) = w1 at *
          generalize hwt lo H (q.1 : Nat) (allC lo) = w2 at *
          simp [ev, sSeq, sAsg, sRet, sRetN, sE, sIf, sNil, sExpr, startE, f2, fVar, fCons, fNil, fTup, fIf, fAnd, fOr, fNot, fChain, gNm, bind_eq, pure_eq, bad_eq, biV, bopV, copV, wdOf, asB_bl, lineOk0, lineOk1, lineOk2, lineOk3, lineOk4, optR_some, D_gives, L_gives, h1, idx_frV0, idx_frV1, mv, g1, ne]
        · rw [take_succ hqi] at hy
          rcases List.mem_append.mp hy with hy | hy
          · exact hg y hy
          · rw [List.mem_singleton.mp hy]; exact decide_eq_true c
      · refine .inr (.inl ⟨.bl false, M', ?_, rfl, ?_⟩)
        · have cd : decide (hwt lo H (q.1 : Nat) (allC lo) / (lo.sum : Rat) = q.2) = false := decide_eq_false c
          rw [cd] at ne
          clear c cd g2 h2
          generalize hwt lo H (q.1 : Nat) (allC lo) / (lo.sum : Rat) = w1 at *
          generalize hwt lo H (q.1 : Nat) (allC lo) = w2 at *
          simp [ev, sSeq, sAsg, sRet, sRetN, sE, sIf, sNil, sExpr, startE, f2, fVar, fCons, fNil, fTup, fIf, fAnd, fOr, fNot, fChain, gNm, bind_eq, pure_eq, bad_eq, biV, bopV, copV, wdOf, asB_bl, lineOk0, lineOk1, lineOk2, lineOk3, lineOk4, optR_some, D_gives, L_gives, h1, idx_frV0, idx_frV1, mv, g1, ne]
        · cases hgv : givesB lo wo H qs with
          | false => rfl
          | true => exact absurd (of_decide_eq_true (List.all_eq_true.mp hgv q hqm)) c)
    (fun _ _ _ => Wk.holds0) _ 0 [some (tel lo wo), some (hab H), some (.tup (qs.map frV)), some (.lst ((allC lo).map PV.int)), some (.int lo.sum), none, none, none] M rfl (Nat.zero_le _) ⟨rfl, ⟨_, _, _, rfl⟩, by simp⟩
  have pre : ∀ r, (sSeq (sFor (ev D_gives (.enum (.var 2))) (gSq 2 (gsCons (gNm 5) (gsCons (gNm 6) gsNil))) (ev (k := .b) D_gives (.bcons (.asg (.gnm 7) (.call 1 (.cons (.var 0) (.cons (.var 1) (.cons (.var 5) (.cons (.var 3) .nil)))))) (.bone (.ifs (.cmp .ne (.call 2 (.cons (.idx (.var 7) (.int 0)) (.cons (.bin .mul (.idx (.var 7) (.int 1)) (.var 4)) .nil))) (.var 6)) (.bone (.ret (.bl false))) .bnil))))) (ev (k := .b) D_gives (.bone (.ret (.bl true)))))
      [some (tel lo wo), some (hab H), some (.tup (qs.map frV)), some (.lst ((allC lo).map PV.int)), some (.int lo.sum), none, none, none] M = r → ev (k := .b) D_gives b_gives (startE 8 [tel lo wo, hab H, .tup (qs.map frV)]) M = r := by
    intro r h
    show sSeq _ _ _ _ = _
    refine seq_nx (e' := [some (tel lo wo), some (hab H), some (.tup (qs.map frV)), some (.lst ((allC lo).map PV.int)), some (.int lo.sum), none, none, none]) (M' := M) ?_ h
    simp [ev, sSeq, sAsg, sRet, sRetN, sE, sIf, sNil, sExpr, startE, f2, fVar, fCons, fNil, fTup, fIf, fAnd, fOr, fNot, fChain, gNm, bind_eq, pure_eq, bad_eq, biV, bopV, copV, wdOf, asB_bl, lineOk0, lineOk1, lineOk2, lineOk3, lineOk4, optR_some, sPar, D_gives, L_gives, mclOf, p1, ll, lr, su]
  refine mk_pure rfl (pre _ ?_) rfl
  rcases L with ⟨e', M', h1, hM, ⟨z5, z6, z7, he⟩, hg⟩ | ⟨h1, h2⟩
  · subst hM he
    have nl : ((nums qs).map fun q => PV.tup [.int (q.1 : Nat), frV q.2]).length = (nums qs).length := List.length_map _
    rw [nl, List.take_length] at hg
    have hgv : givesB lo wo H qs = true := List.all_eq_true.mpr hg
    rw [hgv]
    refine seq_nx (by rw [sFor_of hi]; exact h1) ?_
    simp [ev, sSeq, sAsg, sRet, sRetN, sE, sIf, sNil, sExpr, startE, f2, fVar, fCons, fNil, fTup, fIf, fAnd, fOr, fNot, fChain, gNm, bind_eq, pure_eq, bad_eq, biV, bopV, copV, wdOf, asB_bl, lineOk0, lineOk1, lineOk2, lineOk3, lineOk4, optR_some]
  · rw [h2]
    refine seq_rt ?_
    rw [sFor_of hi]; exact h1
end R
set_option maxHeartbeats 1000000
namespace R
open PySem PySem.Spec L2 TL
open PyProof.Rows hiding St
variable {K K2 : Nat}
/-! P60: claims of shares, any values. -/
def sharesB (lo : List Int) (wo : List (List Int)) (w : Str) (s c : PV) : Bool := shB wo s && (if w = ("given" : Str) then isHab lo wo c && givesB lo wo (rowsOf c) (rowOf s) else isLot c lo.length && barsB lo wo (ivs c) (rowOf s))
theorem shows_shares_any {lo : List Int} {wo : List (List Int)} (T : Tl lo wo) {w : Str} {t s c : PV} (hwk : PyData.strOk w = true) (hs : pl K s = true) (hc : pl K2 c = true) (hn : ∀ xs, c = .tup xs → xs.length ≤ 1000) (M : Mem) (hK : K ≤ 200 := by omega) (hK2 : K2 ≤ 100 := by omega) :
    F_shows_shares [tel lo wo, .tup [.str w, t, s], c] M = .ok (.bl (sharesB lo wo w s c)) M := by
  refine mk_pure rfl ?_ rfl
  have h1 := are_shares_any T hs M
  have h2 := is_habit_any lo wo hc M T.m16 T.n8
  have h3 := is_lot_any hc lo.length M hn
  have ew := eqX_str hwk (show PyData.strOk ("given" : Str) = true by decide +kernel)
  have x0 : idxW (.tup [.str w, t, s]) (.int 0) = pure (.str w) := rfl
  have x2 : idxW (.tup [.str w, t, s]) (.int 2) = pure s := rfl
  have p1 := prop_tel (F_weights_ok lo wo M)
  simp [bind_eq] at p1
  have ll : lenW [itup lo] = pure (.int lo.length) := by simp [itup, lenW_tup]
  generalize hcl : PV.tup [.str w, t, s] = cl at *
  clear hcl
  unfold sharesB
  cases q1 : shB wo s with
  | false =>
    rw [q1] at h1
    simp [ev, sSeq, sAsg, sRet, sRetN, sE, sIf, sNil, sExpr, startE, f2, fVar, fCons, fNil, fTup, fIf, fAnd, fOr, fNot, fChain, gNm, bind_eq, pure_eq, bad_eq, biV, bopV, copV, wdOf, asB_bl, lineOk0, lineOk1, lineOk2, lineOk3, lineOk4, optR_some, b_shows_shares, D_shows_shares, L_shows_shares, x2, h1]
  | true =>
    rw [q1] at h1
    have qs := q1
    unfold shB at qs
    rw [Bool.and_eq_true] at qs
    obtain ⟨es, el, eo⟩ := areFr_eq qs.1
    have sz := row_sz qs.1 hs
    by_cases c1 : w = ("given" : Str)
    · have cd : decide (w = ("given" : Str)) = true := decide_eq_true c1
      rw [cd] at ew
      rw [if_pos c1]
      clear cd c1
      cases q2 : isHab lo wo c with
      | false =>
        rw [q2] at h2
        simp [ev, sSeq, sAsg, sRet, sRetN, sE, sIf, sNil, sExpr, startE, f2, fVar, fCons, fNil, fTup, fIf, fAnd, fOr, fNot, fChain, gNm, bind_eq, pure_eq, bad_eq, biV, bopV, copV, wdOf, asB_bl, lineOk0, lineOk1, lineOk2, lineOk3, lineOk4, optR_some, b_shows_shares, D_shows_shares, L_shows_shares, x0, x2, h1, ew, h2]
      | true =>
        rw [q2] at h2
        obtain ⟨eqv, hb2⟩ := isHab_ok q2
        have szr := pl_rows hK2 hc q2
        have g := gives_ok T (qs := rowOf s) hb2.len (fun r hr => (hb2.row r hr).1) szr (by omega) M
        rw [← es, ← eqv] at g
        clear es eqv hb2 szr sz
        generalize givesB lo wo (rowsOf c) (rowOf s) = gb at *
        simp [ev, sSeq, sAsg, sRet, sRetN, sE, sIf, sNil, sExpr, startE, f2, fVar, fCons, fNil, fTup, fIf, fAnd, fOr, fNot, fChain, gNm, bind_eq, pure_eq, bad_eq, biV, bopV, copV, wdOf, asB_bl, lineOk0, lineOk1, lineOk2, lineOk3, lineOk4, optR_some, b_shows_shares, D_shows_shares, L_shows_shares, x0, x2, h1, ew, h2, g]
    · have cd : decide (w = ("given" : Str)) = false := decide_eq_false c1
      rw [cd] at ew
      rw [if_neg c1]
      clear cd c1
      cases q2 : isLot c lo.length with
      | false =>
        rw [q2] at h3
        simp [ev, sSeq, sAsg, sRet, sRetN, sE, sIf, sNil, sExpr, startE, f2, fVar, fCons, fNil, fTup, fIf, fAnd, fOr, fNot, fChain, gNm, bind_eq, pure_eq, bad_eq, biV, bopV, copV, wdOf, asB_bl, lineOk0, lineOk1, lineOk2, lineOk3, lineOk4, optR_some, b_shows_shares, D_shows_shares, L_shows_shares, mclOf, p1, ll, x0, x2, h1, ew, h3]
      | true =>
        rw [q2] at h3
        obtain ⟨eqv, asc, rg⟩ := isLot_eq q2
        have g := bars_ok T (L := ivs c) (qs := rowOf s) asc rg (by omega) sz M
        rw [← es, ← eqv] at g
        clear es eqv sz
        generalize barsB lo wo (ivs c) (rowOf s) = gb at *
        simp [ev, sSeq, sAsg, sRet, sRetN, sE, sIf, sNil, sExpr, startE, f2, fVar, fCons, fNil, fTup, fIf, fAnd, fOr, fNot, fChain, gNm, bind_eq, pure_eq, bad_eq, biV, bopV, copV, wdOf, asB_bl, lineOk0, lineOk1, lineOk2, lineOk3, lineOk4, optR_some, b_shows_shares, D_shows_shares, L_shows_shares, mclOf, p1, ll, x0, x2, h1, ew, h3, g]
end R
set_option maxHeartbeats 1000000
namespace R
open PySem PySem.Spec L2 TL
open PyProof.Rows hiding St
variable {K K2 : Nat}
/-! P61: the checker, at any plain values. -/
def szTb : List (Str × Int) := [(("sure" : Str), 3), (("no more" : Str), 3), (("least" : Str), 5), (("most" : Str), 5), (("given" : Str), 3), (("not given" : Str), 3)]
def szW (w : Str) : Int := (szTb.lookup w).getD 0
theorem getC_sz (w : Str) : getC [(("sure" : Str), 3), (("no more" : Str), 3), (("least" : Str), 5), (("most" : Str), 5), (("given" : Str), 3), (("not given" : Str), 3)] (.str w) (.int 0) = pure (.int (szW w)) := by
  show (pure (match szTb.lookup w with
    | some i => PV.int i
    | none => .int 0) : RM PV) = _
  unfold szW
  cases szTb.lookup w <;> rfl
theorem szW_cases (w : Str) : szW w = 0 ∨ szW w = 3 ∨ szW w = 5 := by
  unfold szW szTb
  simp only [List.lookup]
  repeat' split
  all_goals simp
def a3 (w : Str) (o : Option (List Int × List (List Int))) (s c : PV) : Bool := decide (szW w = 3) && (match o with
  | some q => if w = ("sure" : Str) then (isFr s && areFr c q.1.length) && sureB q.1 q.2 (ratOf s) (rowOf c) else if w = ("no more" : Str) then isFr s && (isHab q.1 q.2 c && !decide (ratOf s < agQ q.1 q.2 (rowsOf c))) else sharesB q.1 q.2 w s c
  | none => false)
def a5 (w : Str) (o : Option (List Int × List (List Int))) (s l b c : PV) : Bool := decide (szW w = 5) && (match o with
  | some q => btw s 0 (q.2.length - 1) && (isLot l q.1.length && isFr b) && isHab q.1 q.2 c && endB q.1 q.2 w (iv s) (ivs l) (rowsOf c) (ratOf b)
  | none => false)
def accB (v c : PV) : Bool := match v with
  | .tup [.str w, t, s] => a3 w (tIn t) s c
  | .tup [.str w, t, s, l, b] => a5 w (tIn t) s l b c
  | _ => false
theorem len2 {r : List PV} (h : r.length = 2) : ∃ t s, r = [t, s] := by
  match r, h with
  | [t, s], _ => exact ⟨t, s, rfl⟩
theorem len4 {r : List PV} (h : r.length = 4) : ∃ t s l b, r = [t, s, l, b] := by
  match r, h with
  | [t, s, l, b], _ => exact ⟨t, s, l, b, rfl⟩
theorem szW_sure {w : Str} (h : szW w = 5) : w ≠ ("sure" : Str) ∧ w ≠ ("no more" : Str) := by
  refine ⟨fun e => ?_, fun e => ?_⟩
  · subst e
    have : szW ("sure" : Str) = 3 := by decide +kernel
    omega
  · subst e
    have : szW ("no more" : Str) = 3 := by decide +kernel
    omega
theorem accepts_any {v c : PV} (hv : pl K v = true) (hc : pl K c = true) (ht : ∀ xs t, v = .tup xs → xs[1]? = some (.str t) → t.length ≤ 640) (hl : ∀ xs ys, v = .tup xs → xs[3]? = some (.tup ys) → ys.length ≤ 1000) (hn : ∀ xs, c = .tup xs → xs.length ≤ 1000) (M : Mem) (hK : K ≤ 100 := by omega) :
    F_accepts [v, c] M = .ok (.bl (accB v c)) M := by
  refine mk_pure rfl ?_ rfl
  cases v with
  | non => simp [ev, sSeq, sAsg, sRet, sRetN, sE, sIf, sNil, sExpr, startE, f2, fVar, fCons, fNil, fTup, fIf, fAnd, fOr, fNot, fChain, gNm, bind_eq, pure_eq, bad_eq, biV, bopV, copV, wdOf, asB_bl, lineOk0, lineOk1, lineOk2, lineOk3, lineOk4, optR_some, tyS, isi_int_non, isi_int_bl, isi_int_int, isi_int_str, isi_int_tup, isi_int_lst, isi_bool_non, isi_bool_bl, isi_bool_int, isi_bool_str, isi_bool_tup, isi_bool_lst, isi_str_non, isi_str_bl, isi_str_int, isi_str_str, isi_str_tup, isi_str_lst, isi_tuple_non, isi_tuple_bl, isi_tuple_int, isi_tuple_str, isi_tuple_tup, isi_tuple_lst, isi_int_dct, isi_bool_dct, isi_str_dct, isi_tuple_dct, b_accepts, accB]
  | bl b => simp [ev, sSeq, sAsg, sRet, sRetN, sE, sIf, sNil, sExpr, startE, f2, fVar, fCons, fNil, fTup, fIf, fAnd, fOr, fNot, fChain, gNm, bind_eq, pure_eq, bad_eq, biV, bopV, copV, wdOf, asB_bl, lineOk0, lineOk1, lineOk2, lineOk3, lineOk4, optR_some, tyS, isi_int_non, isi_int_bl, isi_int_int, isi_int_str, isi_int_tup, isi_int_lst, isi_bool_non, isi_bool_bl, isi_bool_int, isi_bool_str, isi_bool_tup, isi_bool_lst, isi_str_non, isi_str_bl, isi_str_int, isi_str_str, isi_str_tup, isi_str_lst, isi_tuple_non, isi_tuple_bl, isi_tuple_int, isi_tuple_str, isi_tuple_tup, isi_tuple_lst, isi_int_dct, isi_bool_dct, isi_str_dct, isi_tuple_dct, b_accepts, accB]
  | int b => simp [ev, sSeq, sAsg, sRet, sRetN, sE, sIf, sNil, sExpr, startE, f2, fVar, fCons, fNil, fTup, fIf, fAnd, fOr, fNot, fChain, gNm, bind_eq, pure_eq, bad_eq, biV, bopV, copV, wdOf, asB_bl, lineOk0, lineOk1, lineOk2, lineOk3, lineOk4, optR_some, tyS, isi_int_non, isi_int_bl, isi_int_int, isi_int_str, isi_int_tup, isi_int_lst, isi_bool_non, isi_bool_bl, isi_bool_int, isi_bool_str, isi_bool_tup, isi_bool_lst, isi_str_non, isi_str_bl, isi_str_int, isi_str_str, isi_str_tup, isi_str_lst, isi_tuple_non, isi_tuple_bl, isi_tuple_int, isi_tuple_str, isi_tuple_tup, isi_tuple_lst, isi_int_dct, isi_bool_dct, isi_str_dct, isi_tuple_dct, b_accepts, accB]
  | str b => simp [ev, sSeq, sAsg, sRet, sRetN, sE, sIf, sNil, sExpr, startE, f2, fVar, fCons, fNil, fTup, fIf, fAnd, fOr, fNot, fChain, gNm, bind_eq, pure_eq, bad_eq, biV, bopV, copV, wdOf, asB_bl, lineOk0, lineOk1, lineOk2, lineOk3, lineOk4, optR_some, tyS, isi_int_non, isi_int_bl, isi_int_int, isi_int_str, isi_int_tup, isi_int_lst, isi_bool_non, isi_bool_bl, isi_bool_int, isi_bool_str, isi_bool_tup, isi_bool_lst, isi_str_non, isi_str_bl, isi_str_int, isi_str_str, isi_str_tup, isi_str_lst, isi_tuple_non, isi_tuple_bl, isi_tuple_int, isi_tuple_str, isi_tuple_tup, isi_tuple_lst, isi_int_dct, isi_bool_dct, isi_str_dct, isi_tuple_dct, b_accepts, accB]
  | lst b => simp [ev, sSeq, sAsg, sRet, sRetN, sE, sIf, sNil, sExpr, startE, f2, fVar, fCons, fNil, fTup, fIf, fAnd, fOr, fNot, fChain, gNm, bind_eq, pure_eq, bad_eq, biV, bopV, copV, wdOf, asB_bl, lineOk0, lineOk1, lineOk2, lineOk3, lineOk4, optR_some, tyS, isi_int_non, isi_int_bl, isi_int_int, isi_int_str, isi_int_tup, isi_int_lst, isi_bool_non, isi_bool_bl, isi_bool_int, isi_bool_str, isi_bool_tup, isi_bool_lst, isi_str_non, isi_str_bl, isi_str_int, isi_str_str, isi_str_tup, isi_str_lst, isi_tuple_non, isi_tuple_bl, isi_tuple_int, isi_tuple_str, isi_tuple_tup, isi_tuple_lst, isi_int_dct, isi_bool_dct, isi_str_dct, isi_tuple_dct, b_accepts, accB]
  | dct a b => simp [ev, sSeq, sAsg, sRet, sRetN, sE, sIf, sNil, sExpr, startE, f2, fVar, fCons, fNil, fTup, fIf, fAnd, fOr, fNot, fChain, gNm, bind_eq, pure_eq, bad_eq, biV, bopV, copV, wdOf, asB_bl, lineOk0, lineOk1, lineOk2, lineOk3, lineOk4, optR_some, tyS, isi_int_non, isi_int_bl, isi_int_int, isi_int_str, isi_int_tup, isi_int_lst, isi_bool_non, isi_bool_bl, isi_bool_int, isi_bool_str, isi_bool_tup, isi_bool_lst, isi_str_non, isi_str_bl, isi_str_int, isi_str_str, isi_str_tup, isi_str_lst, isi_tuple_non, isi_tuple_bl, isi_tuple_int, isi_tuple_str, isi_tuple_tup, isi_tuple_lst, isi_int_dct, isi_bool_dct, isi_str_dct, isi_tuple_dct, b_accepts, accB]
  | tup xs =>
    have e0 := eqX_tnil xs
    have it : isiW "tuple" (.tup xs) = pure (.bl true) := isi_tuple_tup _
    match xs, hv, ht, hl, e0, it with
    | [], hv, ht, hl, e0, it => simp [ev, sSeq, sAsg, sRet, sRetN, sE, sIf, sNil, sExpr, startE, f2, fVar, fCons, fNil, fTup, fIf, fAnd, fOr, fNot, fChain, gNm, bind_eq, pure_eq, bad_eq, biV, bopV, copV, wdOf, asB_bl, lineOk0, lineOk1, lineOk2, lineOk3, lineOk4, optR_some, tyS, isi_int_non, isi_int_bl, isi_int_int, isi_int_str, isi_int_tup, isi_int_lst, isi_bool_non, isi_bool_bl, isi_bool_int, isi_bool_str, isi_bool_tup, isi_bool_lst, isi_str_non, isi_str_bl, isi_str_int, isi_str_str, isi_str_tup, isi_str_lst, isi_tuple_non, isi_tuple_bl, isi_tuple_int, isi_tuple_str, isi_tuple_tup, isi_tuple_lst, isi_int_dct, isi_bool_dct, isi_str_dct, isi_tuple_dct, b_accepts, e0, accB]
    | x :: r, hv, ht, hl, e0, it =>
      have e0 : eqX (.tup (x :: r)) (.tup []) = pure (.bl false) := e0
      have x0 : idxW (.tup (x :: r)) (.int 0) = pure x := idx_tup (by omega) rfl
      have ll : lenW [.tup (x :: r)] = pure (.int (x :: r).length) := lenW_tup _
      simp only [pl, pls, Bool.and_eq_true] at hv
      cases x with
      | non => simp [ev, sSeq, sAsg, sRet, sRetN, sE, sIf, sNil, sExpr, startE, f2, fVar, fCons, fNil, fTup, fIf, fAnd, fOr, fNot, fChain, gNm, bind_eq, pure_eq, bad_eq, biV, bopV, copV, wdOf, asB_bl, lineOk0, lineOk1, lineOk2, lineOk3, lineOk4, optR_some, tyS, isi_int_non, isi_int_bl, isi_int_int, isi_int_str, isi_int_tup, isi_int_lst, isi_bool_non, isi_bool_bl, isi_bool_int, isi_bool_str, isi_bool_tup, isi_bool_lst, isi_str_non, isi_str_bl, isi_str_int, isi_str_str, isi_str_tup, isi_str_lst, isi_tuple_non, isi_tuple_bl, isi_tuple_int, isi_tuple_str, isi_tuple_tup, isi_tuple_lst, isi_int_dct, isi_bool_dct, isi_str_dct, isi_tuple_dct, b_accepts, e0, x0, accB]
      | bl b => simp [ev, sSeq, sAsg, sRet, sRetN, sE, sIf, sNil, sExpr, startE, f2, fVar, fCons, fNil, fTup, fIf, fAnd, fOr, fNot, fChain, gNm, bind_eq, pure_eq, bad_eq, biV, bopV, copV, wdOf, asB_bl, lineOk0, lineOk1, lineOk2, lineOk3, lineOk4, optR_some, tyS, isi_int_non, isi_int_bl, isi_int_int, isi_int_str, isi_int_tup, isi_int_lst, isi_bool_non, isi_bool_bl, isi_bool_int, isi_bool_str, isi_bool_tup, isi_bool_lst, isi_str_non, isi_str_bl, isi_str_int, isi_str_str, isi_str_tup, isi_str_lst, isi_tuple_non, isi_tuple_bl, isi_tuple_int, isi_tuple_str, isi_tuple_tup, isi_tuple_lst, isi_int_dct, isi_bool_dct, isi_str_dct, isi_tuple_dct, b_accepts, e0, x0, accB]
      | int b => simp [ev, sSeq, sAsg, sRet, sRetN, sE, sIf, sNil, sExpr, startE, f2, fVar, fCons, fNil, fTup, fIf, fAnd, fOr, fNot, fChain, gNm, bind_eq, pure_eq, bad_eq, biV, bopV, copV, wdOf, asB_bl, lineOk0, lineOk1, lineOk2, lineOk3, lineOk4, optR_some, tyS, isi_int_non, isi_int_bl, isi_int_int, isi_int_str, isi_int_tup, isi_int_lst, isi_bool_non, isi_bool_bl, isi_bool_int, isi_bool_str, isi_bool_tup, isi_bool_lst, isi_str_non, isi_str_bl, isi_str_int, isi_str_str, isi_str_tup, isi_str_lst, isi_tuple_non, isi_tuple_bl, isi_tuple_int, isi_tuple_str, isi_tuple_tup, isi_tuple_lst, isi_int_dct, isi_bool_dct, isi_str_dct, isi_tuple_dct, b_accepts, e0, x0, accB]
      | tup b => simp [ev, sSeq, sAsg, sRet, sRetN, sE, sIf, sNil, sExpr, startE, f2, fVar, fCons, fNil, fTup, fIf, fAnd, fOr, fNot, fChain, gNm, bind_eq, pure_eq, bad_eq, biV, bopV, copV, wdOf, asB_bl, lineOk0, lineOk1, lineOk2, lineOk3, lineOk4, optR_some, tyS, isi_int_non, isi_int_bl, isi_int_int, isi_int_str, isi_int_tup, isi_int_lst, isi_bool_non, isi_bool_bl, isi_bool_int, isi_bool_str, isi_bool_tup, isi_bool_lst, isi_str_non, isi_str_bl, isi_str_int, isi_str_str, isi_str_tup, isi_str_lst, isi_tuple_non, isi_tuple_bl, isi_tuple_int, isi_tuple_str, isi_tuple_tup, isi_tuple_lst, isi_int_dct, isi_bool_dct, isi_str_dct, isi_tuple_dct, b_accepts, e0, x0, accB]
      | lst b => simp [ev, sSeq, sAsg, sRet, sRetN, sE, sIf, sNil, sExpr, startE, f2, fVar, fCons, fNil, fTup, fIf, fAnd, fOr, fNot, fChain, gNm, bind_eq, pure_eq, bad_eq, biV, bopV, copV, wdOf, asB_bl, lineOk0, lineOk1, lineOk2, lineOk3, lineOk4, optR_some, tyS, isi_int_non, isi_int_bl, isi_int_int, isi_int_str, isi_int_tup, isi_int_lst, isi_bool_non, isi_bool_bl, isi_bool_int, isi_bool_str, isi_bool_tup, isi_bool_lst, isi_str_non, isi_str_bl, isi_str_int, isi_str_str, isi_str_tup, isi_str_lst, isi_tuple_non, isi_tuple_bl, isi_tuple_int, isi_tuple_str, isi_tuple_tup, isi_tuple_lst, isi_int_dct, isi_bool_dct, isi_str_dct, isi_tuple_dct, b_accepts, e0, x0, accB]
      | dct a b => simp [ev, sSeq, sAsg, sRet, sRetN, sE, sIf, sNil, sExpr, startE, f2, fVar, fCons, fNil, fTup, fIf, fAnd, fOr, fNot, fChain, gNm, bind_eq, pure_eq, bad_eq, biV, bopV, copV, wdOf, asB_bl, lineOk0, lineOk1, lineOk2, lineOk3, lineOk4, optR_some, tyS, isi_int_non, isi_int_bl, isi_int_int, isi_int_str, isi_int_tup, isi_int_lst, isi_bool_non, isi_bool_bl, isi_bool_int, isi_bool_str, isi_bool_tup, isi_bool_lst, isi_str_non, isi_str_bl, isi_str_int, isi_str_str, isi_str_tup, isi_str_lst, isi_tuple_non, isi_tuple_bl, isi_tuple_int, isi_tuple_str, isi_tuple_tup, isi_tuple_lst, isi_int_dct, isi_bool_dct, isi_str_dct, isi_tuple_dct, b_accepts, e0, x0, accB]
      | str w =>
        have hwk : PyData.strOk w = true := hv.1
        have gc := getC_sz w
        have es := eqX_str hwk (show PyData.strOk ("sure" : Str) = true by decide +kernel)
        have en := eqX_str hwk (show PyData.strOk ("no more" : Str) = true by decide +kernel)
        by_cases hz : szW w = (((PV.str w) :: r).length : Nat)
        · rcases szW_cases w with h0 | h3 | h5
          · simp only [List.length_cons] at hz; omega
          · obtain ⟨t, s, rfl⟩ := len2 (r := r) (by simp only [List.length_cons] at hz; omega)
            simp only [pls, Bool.and_eq_true, and_true] at hv
            have ti := teller_in_any hv.2.1 (fun z e => ht _ z rfl (by rw [e]; rfl)) M
            have x1 : idxW (.tup [.str w, t, s]) (.int 1) = pure t := rfl
            have x2 : idxW (.tup [.str w, t, s]) (.int 2) = pure s := rfl
            have ll3 : lenW [.tup [.str w, t, s]] = pure (.int 3) := rfl
            rw [h3] at gc
            have ac : accB (.tup [.str w, t, s]) c = a3 w (tIn t) s c := rfl
            rw [ac]
            unfold a3
            rw [h3]
            cases hq : tIn t with
            | none =>
              rw [hq] at ti
              have ii : isW PV.non .non = pure (.bl true) := rfl
              clear ac es en
              simp [ev, sSeq, sAsg, sRet, sRetN, sE, sIf, sNil, sExpr, startE, f2, fVar, fCons, fNil, fTup, fIf, fAnd, fOr, fNot, fChain, gNm, bind_eq, pure_eq, bad_eq, biV, bopV, copV, wdOf, asB_bl, lineOk0, lineOk1, lineOk2, lineOk3, lineOk4, optR_some, tyS, isi_int_non, isi_int_bl, isi_int_int, isi_int_str, isi_int_tup, isi_int_lst, isi_bool_non, isi_bool_bl, isi_bool_int, isi_bool_str, isi_bool_tup, isi_bool_lst, isi_str_non, isi_str_bl, isi_str_int, isi_str_str, isi_str_tup, isi_str_lst, isi_tuple_non, isi_tuple_bl, isi_tuple_int, isi_tuple_str, isi_tuple_tup, isi_tuple_lst, isi_int_dct, isi_bool_dct, isi_str_dct, isi_tuple_dct, b_accepts, D_accepts, L_accepts, it, e0, x0, x1, ll3, gc, neX_int, ti, telO, ii]
            | some q =>
              rw [hq] at ti
              obtain ⟨lo, wo⟩ := q
              have T : Tl lo wo := by
                cases t with
                | str z => exact readT_Tl (show readT z = some (lo, wo) from hq)
                | _ => simp [tIn] at hq
              have ii : isW (tel lo wo) .non = pure (.bl false) := rfl
              have s1 := shows_sure_any T hv.2.2 hc M
              have s2 := shows_no_more_any T hv.2.2 hc M
              have s3 := shows_shares_any T (t := t) hwk hv.2.2 hc hn M
              change F_teller_in [t] M = .ok (tel lo wo) M at ti
              generalize hcl : PV.tup [.str w, t, s] = cl at *
              clear hcl ac hq ll
              by_cases c1 : w = ("sure" : Str)
              · have cd : decide (w = ("sure" : Str)) = true := decide_eq_true c1
                rw [cd] at es
                dsimp only
                rw [if_pos c1]
                generalize ((isFr s && areFr c lo.length) && sureB lo wo (ratOf s) (rowOf c)) = bb at *
                clear cd c1 s2 s3 h3
                simp [ev, sSeq, sAsg, sRet, sRetN, sE, sIf, sNil, sExpr, startE, f2, fVar, fCons, fNil, fTup, fIf, fAnd, fOr, fNot, fChain, gNm, bind_eq, pure_eq, bad_eq, biV, bopV, copV, wdOf, asB_bl, lineOk0, lineOk1, lineOk2, lineOk3, lineOk4, optR_some, tyS, isi_int_non, isi_int_bl, isi_int_int, isi_int_str, isi_int_tup, isi_int_lst, isi_bool_non, isi_bool_bl, isi_bool_int, isi_bool_str, isi_bool_tup, isi_bool_lst, isi_str_non, isi_str_bl, isi_str_int, isi_str_str, isi_str_tup, isi_str_lst, isi_tuple_non, isi_tuple_bl, isi_tuple_int, isi_tuple_str, isi_tuple_tup, isi_tuple_lst, isi_int_dct, isi_bool_dct, isi_str_dct, isi_tuple_dct, b_accepts, D_accepts, L_accepts, it, e0, x0, x1, x2, ll3, gc, neX_int, ti, ii, es, s1]
              · have cd : decide (w = ("sure" : Str)) = false := decide_eq_false c1
                rw [cd] at es
                dsimp only
                rw [if_neg c1]
                by_cases c2 : w = ("no more" : Str)
                · have cd2 : decide (w = ("no more" : Str)) = true := decide_eq_true c2
                  rw [cd2] at en
                  rw [if_pos c2]
                  generalize (isFr s && (isHab lo wo c && !decide (ratOf s < agQ lo wo (rowsOf c)))) = bb at *
                  clear cd c1 cd2 c2 s1 s3 h3
                  simp [ev, sSeq, sAsg, sRet, sRetN, sE, sIf, sNil, sExpr, startE, f2, fVar, fCons, fNil, fTup, fIf, fAnd, fOr, fNot, fChain, gNm, bind_eq, pure_eq, bad_eq, biV, bopV, copV, wdOf, asB_bl, lineOk0, lineOk1, lineOk2, lineOk3, lineOk4, optR_some, tyS, isi_int_non, isi_int_bl, isi_int_int, isi_int_str, isi_int_tup, isi_int_lst, isi_bool_non, isi_bool_bl, isi_bool_int, isi_bool_str, isi_bool_tup, isi_bool_lst, isi_str_non, isi_str_bl, isi_str_int, isi_str_str, isi_str_tup, isi_str_lst, isi_tuple_non, isi_tuple_bl, isi_tuple_int, isi_tuple_str, isi_tuple_tup, isi_tuple_lst, isi_int_dct, isi_bool_dct, isi_str_dct, isi_tuple_dct, b_accepts, D_accepts, L_accepts, it, e0, x0, x1, x2, ll3, gc, neX_int, ti, ii, es, en, s2]
                · have cd2 : decide (w = ("no more" : Str)) = false := decide_eq_false c2
                  rw [cd2] at en
                  rw [if_neg c2]
                  generalize sharesB lo wo w s c = bb at *
                  clear cd c1 cd2 c2 s1 s2 h3
                  simp [ev, sSeq, sAsg, sRet, sRetN, sE, sIf, sNil, sExpr, startE, f2, fVar, fCons, fNil, fTup, fIf, fAnd, fOr, fNot, fChain, gNm, bind_eq, pure_eq, bad_eq, biV, bopV, copV, wdOf, asB_bl, lineOk0, lineOk1, lineOk2, lineOk3, lineOk4, optR_some, tyS, isi_int_non, isi_int_bl, isi_int_int, isi_int_str, isi_int_tup, isi_int_lst, isi_bool_non, isi_bool_bl, isi_bool_int, isi_bool_str, isi_bool_tup, isi_bool_lst, isi_str_non, isi_str_bl, isi_str_int, isi_str_str, isi_str_tup, isi_str_lst, isi_tuple_non, isi_tuple_bl, isi_tuple_int, isi_tuple_str, isi_tuple_tup, isi_tuple_lst, isi_int_dct, isi_bool_dct, isi_str_dct, isi_tuple_dct, b_accepts, D_accepts, L_accepts, it, e0, x0, x1, x2, ll3, gc, neX_int, eqX_int, ti, ii, es, en, s3]
          · obtain ⟨t, s, l, b, rfl⟩ := len4 (r := r) (by simp only [List.length_cons] at hz; omega)
            simp only [pls, Bool.and_eq_true, and_true] at hv
            have ti := teller_in_any hv.2.1 (fun z e => ht _ z rfl (by rw [e]; rfl)) M
            have x1 : idxW (.tup [.str w, t, s, l, b]) (.int 1) = pure t := rfl
            have ll5 : lenW [.tup [.str w, t, s, l, b]] = pure (.int 5) := rfl
            obtain ⟨n1, n2⟩ := szW_sure h5
            rw [decide_eq_false n1] at es
            rw [decide_eq_false n2] at en
            rw [h5] at gc
            have ac : accB (.tup [.str w, t, s, l, b]) c = a5 w (tIn t) s l b c := rfl
            rw [ac]
            unfold a5
            rw [h5]
            cases hq : tIn t with
            | none =>
              rw [hq] at ti
              have ii : isW PV.non .non = pure (.bl true) := rfl
              clear ac es en n1 n2
              simp [ev, sSeq, sAsg, sRet, sRetN, sE, sIf, sNil, sExpr, startE, f2, fVar, fCons, fNil, fTup, fIf, fAnd, fOr, fNot, fChain, gNm, bind_eq, pure_eq, bad_eq, biV, bopV, copV, wdOf, asB_bl, lineOk0, lineOk1, lineOk2, lineOk3, lineOk4, optR_some, tyS, isi_int_non, isi_int_bl, isi_int_int, isi_int_str, isi_int_tup, isi_int_lst, isi_bool_non, isi_bool_bl, isi_bool_int, isi_bool_str, isi_bool_tup, isi_bool_lst, isi_str_non, isi_str_bl, isi_str_int, isi_str_str, isi_str_tup, isi_str_lst, isi_tuple_non, isi_tuple_bl, isi_tuple_int, isi_tuple_str, isi_tuple_tup, isi_tuple_lst, isi_int_dct, isi_bool_dct, isi_str_dct, isi_tuple_dct, b_accepts, D_accepts, L_accepts, it, e0, x0, x1, ll5, gc, neX_int, ti, telO, ii]
            | some q =>
              rw [hq] at ti
              obtain ⟨lo, wo⟩ := q
              cases t with
              | str z =>
                have T : Tl lo wo := readT_Tl (show readT z = some (lo, wo) from hq)
                have ii : isW (tel lo wo) .non = pure (.bl false) := rfl
                have s4 := shows_end_any T (line := z) hwk hv.2.2.1 hv.2.2.2.1 hv.2.2.2.2 hc (fun ys e => hl _ ys rfl (by rw [e]; rfl)) M
                change F_teller_in [.str z] M = .ok (tel lo wo) M at ti
                generalize hcl : PV.tup [.str w, .str z, s, l, b] = cl at *
                dsimp only
                generalize (btw s 0 (wo.length - 1) && (isLot l lo.length && isFr b) && isHab lo wo c && endB lo wo w (iv s) (ivs l) (rowsOf c) (ratOf b)) = bb at *
                clear hcl ac hq ll n1 n2 h5
                simp [ev, sSeq, sAsg, sRet, sRetN, sE, sIf, sNil, sExpr, startE, f2, fVar, fCons, fNil, fTup, fIf, fAnd, fOr, fNot, fChain, gNm, bind_eq, pure_eq, bad_eq, biV, bopV, copV, wdOf, asB_bl, lineOk0, lineOk1, lineOk2, lineOk3, lineOk4, optR_some, tyS, isi_int_non, isi_int_bl, isi_int_int, isi_int_str, isi_int_tup, isi_int_lst, isi_bool_non, isi_bool_bl, isi_bool_int, isi_bool_str, isi_bool_tup, isi_bool_lst, isi_str_non, isi_str_bl, isi_str_int, isi_str_str, isi_str_tup, isi_str_lst, isi_tuple_non, isi_tuple_bl, isi_tuple_int, isi_tuple_str, isi_tuple_tup, isi_tuple_lst, isi_int_dct, isi_bool_dct, isi_str_dct, isi_tuple_dct, b_accepts, D_accepts, L_accepts, it, e0, x0, x1, ll5, gc, neX_int, eqX_int, ti, ii, es, en, s4]
              | _ => simp [tIn] at hq
        · have ac : accB (.tup (.str w :: r)) c = false := by
            unfold accB
            split
            · rename_i heq
              injection heq with heq
              injection heq with e1 e2
              injection e1 with e1
              subst e1 e2
              unfold a3
              rw [decide_eq_false (by simpa using hz)]
              rfl
            · rename_i heq
              injection heq with heq
              injection heq with e1 e2
              injection e1 with e1
              subst e1 e2
              unfold a5
              rw [decide_eq_false (by simpa using hz)]
              rfl
            · rfl
          rw [ac]
          generalize (.str w :: r : List PV).length = n at *
          clear ac es en
          simp [ev, sSeq, sAsg, sRet, sRetN, sE, sIf, sNil, sExpr, startE, f2, fVar, fCons, fNil, fTup, fIf, fAnd, fOr, fNot, fChain, gNm, bind_eq, pure_eq, bad_eq, biV, bopV, copV, wdOf, asB_bl, lineOk0, lineOk1, lineOk2, lineOk3, lineOk4, optR_some, tyS, isi_int_non, isi_int_bl, isi_int_int, isi_int_str, isi_int_tup, isi_int_lst, isi_bool_non, isi_bool_bl, isi_bool_int, isi_bool_str, isi_bool_tup, isi_bool_lst, isi_str_non, isi_str_bl, isi_str_int, isi_str_str, isi_str_tup, isi_str_lst, isi_tuple_non, isi_tuple_bl, isi_tuple_int, isi_tuple_str, isi_tuple_tup, isi_tuple_lst, isi_int_dct, isi_bool_dct, isi_str_dct, isi_tuple_dct, b_accepts, D_accepts, L_accepts, it, e0, x0, ll, gc, neX_int, hz]
      | _ => simp [pl] at hv
  | _ => simp [pl] at hv
end R
set_option maxHeartbeats 1000000
namespace R
open PySem PySem.Spec L2 TL
open PyProof.Rows hiding St
/-! P62: k70: values that are right nowhere; the line. -/
def odds1 : List PV := [.non, .bl true, .bl false, .str ("sur" : Str), .str ("1  1: 0,1 1" : Str), .str ("\n" : Str), .dct [] [], .lst [.str ("sure" : Str)], .tup [.non], .tup [.tup []], .tup [.lst []], .dct [.inl 3] [.tup []], .int (-1), .int 7, .str ("sure" : Str)]
def odds2 : List PV := [.tup [.str ("sure" : Str)], .tup [.dct [] []], .tup [.tup [.str ("sure" : Str)]], .str ("1 1: 0" : Str), .tup [.int 2, .int 4], .tup [.tup [.int 2, .int 4]], .tup [.int 7], .tup [.int 1, .int 0], .tup [.tup [.int 1, .int 1]], .tup [.tup [.int 0, .int 1], .int 0]]
def odds3 : List PV := [.tup [.tup [.int 1, .int 3], .tup [.int 1, .int 3]], .tup [.int 1, .int 0, .int 1], .tup [.int 9], .tup [.tup [.int 3, .int 2], .tup [.int 0, .int 1]], .str ("x" : Str), .tup [.int 0, .int 0]]
def odds : List PV := (odds1 ++ odds2) ++ odds3
theorem addW_lst {xs ys : List PV} (h : xs.length + ys.length ≤ 1000) : addW (.lst xs) (.lst ys) = pure (.lst (xs ++ ys)) := by
  have h2 : xs.length + ys.length ≤ sizeLine := szl h
  show (catW (.lst xs) (.lst ys) >>= fun zs => pure (PV.lst zs) : RM PV) = _
  funext M
  simp [catW, lstW, bind_eq, pure_eq, h2]
theorem add_at {D : Wd} {l : Tm .e} {x y z : PV} {r : List (Option PV)} {M : Mem} (h1 : ev D l (some x :: r) M = .ok y M) (h2 : addW x y = pure z) : ev D (.bin .add (.var 0) l) (some x :: r) M = .ok z M := by
  show (fVar 0 (some x :: r) >>= fun u => ev D l (some x :: r) >>= fun v => addW u v) M = _
  have h0 : fVar 0 (some x :: r) = pure x := rfl
  rw [h0, bind_eq, pure_eq]
  dsimp only
  rw [bind_eq, h1]
  dsimp only
  rw [h2]
  rfl
theorem asg_at {D : Wd} {t : Tm .e} {e : Env} {z : PV} {M : Mem} (h : ev D t e M = .ok z M) (i : Nat) : ev (k := .s) D (.asg (.gnm i) t) e M = .nx (e.set i (some z)) M := by
  show sAsg (ev D t) (gNm i) e M = _
  unfold sAsg sE
  rw [h]
  rfl
theorem ret_at {D : Wd} {t : Tm .e} {e : Env} {z : PV} {M : Mem} (h : ev D t e M = .ok z M) : ev (k := .b) D (.bone (.ret t)) e M = .rt z M := by
  show sRet (ev D t) e M = _
  unfold sRet sE
  rw [h]
theorem law_odds_ok (M : Mem) : F__law_odds [] M = .ok (.lst odds) M := by
  refine mk_pure rfl ?_ (show Da (.lst odds) by decide +kernel).at_
  have a1 := addW_lst (xs := odds1) (ys := odds2) (by decide)
  have a2 := addW_lst (xs := odds1 ++ odds2) (ys := odds3) (by decide)
  have b2 : ev D__law_odds (.lst false (.cons (.tup (.cons (.str ("sure" : Str)) .nil)) (.cons (.tup (.cons .dE .nil)) (.cons (.tup (.cons (.tup (.cons (.str ("sure" : Str)) .nil)) .nil)) (.cons (.str ("1 1: 0" : Str)) (.cons (.tup (.cons (.int 2) (.cons (.int 4) .nil))) (.cons (.tup (.cons (.tup (.cons (.int 2) (.cons (.int 4) .nil))) .nil)) (.cons (.tup (.cons (.int 7) .nil)) (.cons (.tup (.cons (.int 1) (.cons (.int 0) .nil))) (.cons (.tup (.cons (.tup (.cons (.int 1) (.cons (.int 1) .nil))) .nil)) (.cons (.tup (.cons (.tup (.cons (.int 0) (.cons (.int 1) .nil))) (.cons (.int 0) .nil))) .nil))))))))))) [some (.lst odds1)] M = .ok (.lst odds2) M := by
    simp [ev, sSeq, sAsg, sRet, sRetN, sE, sIf, sNil, sExpr, startE, f2, fVar, fCons, fNil, fTup, fIf, fAnd, fOr, fNot, fChain, gNm, bind_eq, pure_eq, bad_eq, biV, bopV, copV, wdOf, asB_bl, lineOk0, lineOk1, lineOk2, lineOk3, lineOk4, optR_some, fLst, odds2, lineOk_of]
  have b3 : ev D__law_odds (.lst false (.cons (.tup (.cons (.tup (.cons (.int 1) (.cons (.int 3) .nil))) (.cons (.tup (.cons (.int 1) (.cons (.int 3) .nil))) .nil))) (.cons (.tup (.cons (.int 1) (.cons (.int 0) (.cons (.int 1) .nil)))) (.cons (.tup (.cons (.int 9) .nil)) (.cons (.tup (.cons (.tup (.cons (.int 3) (.cons (.int 2) .nil))) (.cons (.tup (.cons (.int 0) (.cons (.int 1) .nil))) .nil))) (.cons (.str ("x" : Str)) (.cons (.tup (.cons (.int 0) (.cons (.int 0) .nil))) .nil))))))) [some (.lst (odds1 ++ odds2))] M = .ok (.lst odds3) M := by
    generalize odds1 ++ odds2 = oo
    simp [ev, sSeq, sAsg, sRet, sRetN, sE, sIf, sNil, sExpr, startE, f2, fVar, fCons, fNil, fTup, fIf, fAnd, fOr, fNot, fChain, gNm, bind_eq, pure_eq, bad_eq, biV, bopV, copV, wdOf, asB_bl, lineOk0, lineOk1, lineOk2, lineOk3, lineOk4, optR_some, fLst, odds3, lineOk_of]
  show sSeq _ (sSeq _ _) _ _ = _
  refine seq_nx (e' := [some (.lst odds1)]) (M' := M) ?_ (seq_nx (e' := [some (.lst (odds1 ++ odds2))]) (M' := M) (asg_at (add_at b2 a1) 0) (ret_at (add_at b3 a2)))
  simp [ev, sSeq, sAsg, sRet, sRetN, sE, sIf, sNil, sExpr, startE, f2, fVar, fCons, fNil, fTup, fIf, fAnd, fOr, fNot, fChain, gNm, bind_eq, pure_eq, bad_eq, biV, bopV, copV, wdOf, asB_bl, lineOk0, lineOk1, lineOk2, lineOk3, lineOk4, optR_some, fLst, negW_int, odds1, lineOk_of]
end R
set_option maxHeartbeats 1000000
namespace R
open PySem PySem.Spec L2 TL
open PyProof.Rows hiding St
/-! P63: a teller's own text is read as it is. -/
theorem Tl.rg {lo : List Int} {wo : List (List Int)} (T : Tl lo wo) : (∀ x ∈ lo, 0 ≤ x) ∧ (∀ g ∈ wo, ∀ c ∈ g, 0 ≤ c) := ⟨fun x hx => by have := T.w x hx; omega, fun g hg c hc => ((T.g g hg).2.2 c hc).1⟩
theorem Tl.nn {lo : List Int} {wo : List (List Int)} (T : Tl lo wo) : wo ≠ [] ∧ lo ≠ [] := ⟨fun h => by have := T.m1; simp [h] at this, fun h => by have := T.n2; simp [h] at this⟩
theorem onum_words {l : List Int} (h : ∀ i ∈ l, 0 ≤ i) : (wordsL l).map onum = l.map PV.int := by
  unfold wordsL
  rw [List.map_map]
  exact List.map_congr_left fun i hi => numIn_numI (h i hi)
theorem ws_page {lo : List Int} (h0 : lo ≠ []) (h : ∀ i ∈ lo, 0 ≤ i) : wsP (Txt.join (" " : Str) (wordsL lo)) = lo.map PV.int := by
  unfold wsP
  rw [split_words h0, onum_words h]
theorem cases_page {g : List Int} (h0 : g ≠ []) (h : ∀ i ∈ g, 0 ≤ i) : casesP (Txt.join ("," : Str) (wordsL g)) = itup g := by
  unfold casesP
  rw [split_cases h0, onum_words h]
  rfl
theorem ss_page {wo : List (List Int)} (h0 : wo ≠ []) (h : ∀ g ∈ wo, g ≠ [] ∧ ∀ c ∈ g, 0 ≤ c) : ssP (halfS wo) = wo.map itup := by
  unfold ssP
  rw [split_half h0, List.map_map]
  exact List.map_congr_left fun g hg => cases_page (h g hg).1 (h g hg).2
theorem wOk_of {lo : List Int} (h2 : 2 ≤ lo.length) (h8 : lo.length ≤ 8) (hw : ∀ x ∈ lo, 1 ≤ x ∧ x ≤ 1000000) : wOk (lo.map PV.int) = true := by
  unfold wOk
  simp only [List.length_map, Bool.and_eq_true, decide_eq_true_eq]
  refine ⟨h2, h8, List.all_eq_true.mpr fun x hx => ?_⟩
  obtain ⟨i, hi, rfl⟩ := List.mem_map.mp hx
  have := hw i hi
  simp [btw, this]
theorem ivs_itup (g : List Int) : ivs (itup g) = g := by
  show (intsOf (g.map PV.int)).getD [] = g
  rw [intsOf_map]; rfl
theorem sOk_of {lo : List Int} {wo : List (List Int)} (T : Tl lo wo) : sOk (wo.map itup) lo.length = true := by
  have e : (wo.map itup).map ivs = wo := by
    rw [List.map_map]
    conv => rhs; rw [← List.map_id wo]
    exact List.map_congr_left fun g _ => ivs_itup g
  unfold sOk
  rw [e]
  simp only [Bool.and_eq_true, List.length_map, decide_eq_true_eq]
  refine ⟨?_, ⟨T.m16, List.all_eq_true.mpr fun y hy => ?_⟩, List.all_eq_true.mpr fun c hc => ?_⟩
  · have := T.nn.1
    cases wo with
    | nil => exact absurd rfl this
    | cons g r => rfl
  · obtain ⟨g, hg, rfl⟩ := List.mem_map.mp hy
    obtain ⟨h1, h2, h3⟩ := T.g g hg
    unfold gOk
    rw [isLot_itup, h2]
    have hn : nilT (itup g) = false := by
      cases g with
      | nil => exact absurd rfl h1
      | cons a r => rfl
    rw [hn]
    simp only [Bool.and_true, Bool.not_false]
    exact List.all_eq_true.mpr fun c hc => by
      have := h3 c hc
      simp; omega
  · obtain ⟨g, h1, h2⟩ := T.cov (c : Int) (by omega) (by have := List.mem_range.mp hc; omega)
    exact List.any_eq_true.mpr ⟨g, h1, by simpa using h2⟩
theorem readT_page {lo : List Int} {wo : List (List Int)} (T : Tl lo wo) : readT (pageS lo wo) = some (lo, wo) := by
  obtain ⟨r1, r2⟩ := T.rg
  obtain ⟨n1, n2⟩ := T.nn
  unfold readT
  rw [split_page n1]
  dsimp only
  rw [ws_page n2 r1, ss_page n1 fun g hg => ⟨(T.g g hg).1, r2 g hg⟩, List.length_map, wOk_of T.n2 T.n8 T.w, sOk_of T]
  have e1 : (lo.map PV.int).map iv = lo := by
    rw [List.map_map]
    conv => rhs; rw [← List.map_id lo]
    rfl
  have e2 : (wo.map itup).map ivs = wo := by
    rw [List.map_map]
    conv => rhs; rw [← List.map_id wo]
    exact List.map_congr_left fun g _ => ivs_itup g
  rw [e1, e2]
  rfl
end R
set_option maxHeartbeats 1000000
namespace R
open PySem PySem.Spec L2 TL
open PyProof.Rows hiding St
/-! P64: lines with something put before or behind. -/
/-- a text of two halves -/
theorem split_two {a b : Str} (ha : 58 ∉ tl a) (hb : 58 ∉ tl b) : Txt.split (a ++ (": " : Str) ++ b) (": " : Str) = [a, b] := by
  have e : a ++ (": " : Str) ++ b = Txt.join (": " : Str) [a, b] := by
    refine ext_tl ?_
    rw [join_eq, tl_join, tl_append, tl_append, tl_cs]
    simp [joinL]
  rw [e]
  refine split_join tl_cs (by decide +kernel) (by simp) fun p hp => ?_
  simp only [List.mem_cons, List.not_mem_nil, or_false] at hp
  rcases hp with rfl | rfl
  · exact ha
  · exact hb
theorem readT_two {a b : Str} (ha : 58 ∉ tl a) (hb : 58 ∉ tl b) : readT (a ++ (": " : Str) ++ b) = if wOk (wsP a) && sOk (ssP b) (wsP a).length then some ((wsP a).map iv, (ssP b).map ivs) else none := by
  unfold readT
  rw [split_two ha hb]
/-- the text of three words -/
theorem ws_three {x y z : Str} (hx : 32 ∉ tl x) (hy : 32 ∉ tl y) (hz : 32 ∉ tl z) : wsP (x ++ (" " : Str) ++ y ++ (" " : Str) ++ z) = [onum x, onum y, onum z] := by
  have e : x ++ (" " : Str) ++ y ++ (" " : Str) ++ z = Txt.join (" " : Str) [x, y, z] := by
    refine ext_tl ?_
    rw [join_eq, tl_join]
    simp only [tl_append, tl_sp, List.map_cons, List.map_nil, joinL]
    simp
  unfold wsP
  rw [e, split_join tl_sp (by decide +kernel) (by simp) fun p hp => by
    simp only [List.mem_cons, List.not_mem_nil, or_false] at hp
    rcases hp with rfl | rfl | rfl
    · exact hx
    · exact hy
    · exact hz]
  rfl
theorem ws_two {x y : Str} (hx : 32 ∉ tl x) (hy : 32 ∉ tl y) : wsP (x ++ (" " : Str) ++ y) = [onum x, onum y] := by
  have e : x ++ (" " : Str) ++ y = Txt.join (" " : Str) [x, y] := by
    refine ext_tl ?_
    rw [join_eq, tl_join]
    simp only [tl_append, tl_sp, List.map_cons, List.map_nil, joinL]
    simp
  unfold wsP
  rw [e, split_join tl_sp (by decide +kernel) (by simp) fun p hp => by
    simp only [List.mem_cons, List.not_mem_nil, or_false] at hp
    rcases hp with rfl | rfl
    · exact hx
    · exact hy]
  rfl
def num2 (n : Nat) : Str := numW n ++ (" " : Str) ++ numW n
def lineK (n : Nat) : Str := num2 n ++ (": " : Str) ++ ("0,1 1" : Str)
theorem numW_free {n s : Nat} (h : s < 48 ∨ 57 < s) : s ∉ tl (numW n) := by rw [tl_numW]; exact numL_free h
theorem num2_free (n : Nat) : 58 ∉ tl (num2 n) := by
  unfold num2
  rw [tl_append, tl_append, tl_sp]
  have := numW_free (n := n) (s := 58) (by omega)
  simp [this]
theorem ws_num2 (n : Nat) : wsP (num2 n) = [.int n, .int n] := by
  unfold num2
  rw [ws_two (numW_free (by omega)) (numW_free (by omega))]
  unfold onum
  rw [numIn_numW]
  rfl
theorem read_behind (n : Nat) (b : Str) (hb : 58 ∉ tl b) (hs : sOk (ssP b) 2 = false) : readT (num2 n ++ (": " : Str) ++ b) = none := by
  rw [readT_two (num2_free n) hb, ws_num2]
  show (if _ && sOk (ssP b) 2 then _ else _) = _
  rw [hs]
  simp
end R
set_option maxHeartbeats 1000000
namespace R
open PySem PySem.Spec L2 TL
open PyProof.Rows hiding St
/-! P65: the eight bent lines are none. -/
theorem bent_sp (n : Nat) : readT (lineK n ++ (" " : Str)) = none := by
  have e : lineK n ++ (" " : Str) = num2 n ++ (": " : Str) ++ ("0,1 1 " : Str) := by
    refine ext_tl ?_
    unfold lineK
    simp only [tl_append, List.append_assoc]
    congr 2
    all_goals decide +kernel
  rw [e]
  exact read_behind n _ (by decide +kernel) (by decide +kernel)
theorem bent_nl (n : Nat) : readT (lineK n ++ ("\n" : Str)) = none := by
  have e : lineK n ++ ("\n" : Str) = num2 n ++ (": " : Str) ++ ("0,1 1\n" : Str) := by
    refine ext_tl ?_
    unfold lineK
    simp only [tl_append, List.append_assoc]
    congr 2
    all_goals decide +kernel
  rw [e]
  exact read_behind n _ (by decide +kernel) (by decide +kernel)
theorem bent_co (n : Nat) : readT (lineK n ++ ("," : Str)) = none := by
  have e : lineK n ++ ("," : Str) = num2 n ++ (": " : Str) ++ ("0,1 1," : Str) := by
    refine ext_tl ?_
    unfold lineK
    simp only [tl_append, List.append_assoc]
    congr 2
    all_goals decide +kernel
  rw [e]
  exact read_behind n _ (by decide +kernel) (by decide +kernel)
theorem wOk3 {o : PV} {n : Nat} (h : btw o 1 1000000 = false) : wOk [o, .int n, .int n] = false := by
  unfold wOk
  simp [h]
theorem bent_pre (n : Nat) (p : Str) (hp : 32 ∉ tl p) (hq : 58 ∉ tl p) (hb : btw (onum p) 1 1000000 = false) : readT (p ++ (" " : Str) ++ lineK n) = none := by
  have e : p ++ (" " : Str) ++ lineK n = (p ++ (" " : Str) ++ numW n ++ (" " : Str) ++ numW n) ++ (": " : Str) ++ ("0,1 1" : Str) := by
    refine ext_tl ?_
    unfold lineK num2
    simp only [tl_append, List.append_assoc]
  have hf := numW_free (n := n) (s := 58) (by omega)
  rw [e, readT_two (by simp only [tl_append, tl_sp, List.mem_append, List.mem_cons, List.not_mem_nil, or_false, not_or]; exact ⟨⟨⟨⟨hq, by omega⟩, hf⟩, by omega⟩, hf⟩) (by decide +kernel), ws_three hp (numW_free (by omega)) (numW_free (by omega))]
  have eo : onum (numW n) = .int n := by unfold onum; rw [numIn_numW]; rfl
  rw [eo, wOk3 hb]
  simp
theorem bent_s0 (n : Nat) : readT ((" " : Str) ++ lineK n) = none := by
  have := bent_pre n ("" : Str) (by decide +kernel) (by decide +kernel) (by decide +kernel)
  have e : ("" : Str) ++ (" " : Str) ++ lineK n = (" " : Str) ++ lineK n := by
    refine ext_tl ?_
    simp only [tl_append, str_nil, List.nil_append]
  exact (congrArg readT e).symm.trans this
theorem bent_0 (n : Nat) : readT (("0 " : Str) ++ lineK n) = none := by
  have := bent_pre n ("0" : Str) (by decide +kernel) (by decide +kernel) (by decide +kernel)
  have e : ("0" : Str) ++ (" " : Str) ++ lineK n = ("0 " : Str) ++ lineK n := by
    refine ext_tl ?_
    simp only [tl_append]
    congr 1
  exact (congrArg readT e).symm.trans this
end R
set_option maxHeartbeats 1000000
namespace R
open PySem PySem.Spec L2 TL
open PyProof.Rows hiding St
/-! P66: the line turned round; the line without its colon. -/
theorem split_no {x : Str} (h : 58 ∉ tl x) : Txt.split x (": " : Str) = [x] := by
  have e : x = Txt.join (": " : Str) [x] := ext_tl (by rw [join_eq, tl_join]; simp [joinL])
  conv => lhs; rw [e]
  exact split_join tl_cs (by decide +kernel) (by simp) fun p hp => by rw [List.mem_singleton.mp hp]; exact h
theorem readT_no {x : Str} (h : 58 ∉ tl x) : readT x = none := by
  unfold readT
  rw [split_no h]
theorem uniq {s : Nat} : ∀ {l1 l2 r1 r2 : List Nat}, s ∉ l1 → s ∉ r1 → l1 ++ s :: r1 = l2 ++ s :: r2 → r1 = r2
  | [], [], r1, r2, _, _, h => by simpa using h
  | [], a :: l2, r1, r2, _, h2, h => by
    simp only [List.nil_append, List.cons_append, List.cons.injEq] at h
    exact (h2 (by rw [h.2]; simp)).elim
  | a :: l1, [], r1, r2, h1, _, h => by
    simp only [List.nil_append, List.cons_append, List.cons.injEq] at h
    exact (h1 (by rw [h.1]; simp)).elim
  | a :: l1, b :: l2, r1, r2, h1, h2, h => by
    simp only [List.cons_append, List.cons.injEq] at h
    exact uniq (fun z => h1 (by simp [z])) h2 h.2
theorem bent_rev (n : Nat) : readT (revS (lineK n)) = none := by
  unfold readT
  split
  · rename_i a b hs
    have h1 := split_tl (revS (lineK n)) (": " : Str)
    rw [hs, tl_cs] at h1
    have h2 : tl (revS (lineK n)) = (tl ("0,1 1" : Str)).reverse ++ [32] ++ 58 :: (tl (num2 n)).reverse := by
      show (tl (lineK n)).reverse = _
      unfold lineK
      rw [tl_append, tl_append, tl_cs]
      simp
    rw [h2] at h1
    simp only [List.map_cons, List.map_nil, joinL] at h1
    have h3 : (tl ("0,1 1" : Str)).reverse ++ [32] ++ 58 :: (tl (num2 n)).reverse = tl a ++ 58 :: (32 :: tl b) := by rw [h1]; simp
    have h4 := uniq (by decide +kernel) (by simpa using num2_free n) h3
    have h5 : (tl (num2 n)).reverse.head? = some 32 := by rw [h4]; rfl
    unfold num2 at h5
    rw [tl_append, tl_append, List.reverse_append, List.head?_append] at h5
    have h6 : tl (numW n) ≠ [] := by rw [tl_numW]; exact numL_ne n
    cases q : (tl (numW n)).reverse with
    | nil => exact (h6 (by simpa using q)).elim
    | cons c r =>
      rw [q] at h5
      simp at h5
      have : 32 ∈ tl (numW n) := by rw [← List.mem_reverse, q, h5]; simp
      exact (numW_free (by omega) this).elim
  · rfl
end R
set_option maxHeartbeats 1000000
namespace R
open PySem PySem.Spec L2 TL
open PyProof.Rows hiding St
/-! P67: the line without its colon. -/
theorem repl_free : ∀ l : List Nat, 58 ∉ PySem.StrLaws.replL [58] [] l
  | [] => by rw [PySem.StrLaws.replL_nil]; simp
  | c :: r => by
    by_cases h : c = 58
    · rw [PySem.StrLaws.replL_hit (by simp) (by simp [h])]
      exact repl_free r
    · rw [PySem.StrLaws.replL_miss (by simp [h])]
      simp only [List.mem_cons, not_or]
      exact ⟨fun e => h e.symm, repl_free r⟩
theorem bent_rep (x : Str) : readT (Txt.replace x (":" : Str) ("" : Str)) = none := by
  refine readT_no ?_
  have h := PySem.StrLaws.replace_list (x := x) (y := (":" : Str)) (z := ("" : Str)) (by decide +kernel)
  show 58 ∉ (Txt.replace x (":" : Str) ("" : Str)).cps.toList
  rw [h]
  have e1 : ((":" : Str)).cps.toList = [58] := by decide +kernel
  have e2 : (("" : Str)).cps.toList = [] := by decide +kernel
  rw [e1, e2]
  exact repl_free _
end R
set_option maxHeartbeats 1000000
namespace R
open PySem PySem.Spec L2 TL
open PyProof.Rows hiding St
/-! P68: k70's line is a teller's. -/
abbrev lo2 (n : Nat) : List Int := [(n : Int), (n : Int)]
abbrev wo2 : List (List Int) := [[0, 1], [1]]
theorem readT_line {n : Nat} (h1 : 1 ≤ n) (h2 : n ≤ 1000000) : readT (lineK n) = some (lo2 n, wo2) := by
  unfold lineK
  rw [readT_two (num2_free n) (by decide +kernel), ws_num2]
  have e : ssP ("0,1 1" : Str) = [itup [0, 1], itup [1]] := by
    have s1 : Txt.split ("0,1 1" : Str) (" " : Str) = [("0,1" : Str), ("1" : Str)] := by decide +kernel
    have s2 : Txt.split ("0,1" : Str) ("," : Str) = [("0" : Str), ("1" : Str)] := by decide +kernel
    have s3 : Txt.split ("1" : Str) ("," : Str) = [("1" : Str)] := by decide +kernel
    have n0 : numIn ("0" : Str) = some 0 := by decide +kernel
    have n1 : numIn ("1" : Str) = some 1 := by decide +kernel
    unfold ssP
    rw [s1, List.map_cons, List.map_cons, List.map_nil]
    unfold casesP
    rw [s2, s3]
    simp only [List.map_cons, List.map_nil, onum, n0, n1, optI]
    rfl
  rw [e]
  have w : wOk [.int (n : Int), .int (n : Int)] = true := by
    have a1 : (1 : Int) ≤ n := by omega
    have a2 : (n : Int) ≤ 1000000 := by omega
    simp [wOk, btw, a1, a2]
  have s : sOk [itup [0, 1], itup [1]] 2 = true := by decide +kernel
  show (if wOk [.int (n : Int), .int (n : Int)] && sOk [itup [0, 1], itup [1]] 2 then some ([.int (n : Int), .int (n : Int)].map iv, [itup [0, 1], itup [1]].map ivs) else none) = _
  rw [w, s]
  rfl
end R
set_option maxHeartbeats 1000000
namespace R
open PySem PySem.Spec L2 TL
open PyProof.Rows hiding St
/-! P69: sums over two cases of one weight. -/
theorem natNe {n : Nat} (h : 1 ≤ n) : ((n : Int) : Rat) ≠ 0 := by
  intro e
  have : (n : Int) = 0 := by exact_mod_cast e
  omega
theorem worth2 {n : Nat} (h : 1 ≤ n) (x y : Rat) : worth (lo2 n) [x, y] = (x + y) / 2 := by
  have h0 := natNe h
  unfold worth lo2
  have e : (([(n : Int), (n : Int)].sum : Int) : Rat) = ((n : Int) : Rat) + ((n : Int) : Rat) := by
    simp [List.sum_cons]
  rw [e]
  show (0 + ((n : Int) : Rat) * x + ((n : Int) : Rat) * y) / _ = _
  generalize ((n : Int) : Rat) = N at *
  grind
end R
set_option maxHeartbeats 1000000
namespace R
open PySem PySem.Spec L2 TL
open PyProof.Rows hiding St
/-! P70: the greatest chance of plans, two cases of one weight. -/
theorem natPos {n : Nat} (h : 1 ≤ n) : (0 : Rat) < ((n : Int) : Rat) := by
  have : (0 : Int) < n := by omega
  exact_mod_cast this
theorem mxQ_mul {N a b : Rat} (hN : 0 < N) : mxQ (N * a) (N * b) = N * mxQ a b := by
  unfold mxQ
  by_cases h : a < b
  · rw [if_pos h, if_pos (Rat.mul_lt_mul_of_pos_left h hN)]
  · rw [if_neg h, if_neg]
    intro h2
    exact h (Rat.lt_of_mul_lt_mul_left h2 (Rat.le_of_lt hN))
theorem best2 {n : Nat} (h : 1 ≤ n) (a b : List Rat) (s : Nat) : bestOf (lo2 n) [a, b] s = ((n : Int) : Rat) * mxQ (mxQ 0 (a.getD s 0)) (b.getD s 0) := by
  have hN := natPos h
  show mxQ (mxQ 0 (((n : Int) : Rat) * hAt [a, b] (0 : Nat) s)) (((n : Int) : Rat) * hAt [a, b] (1 : Nat) s) = _
  have e0 : hAt [a, b] (0 : Nat) s = a.getD s 0 := rfl
  have e1 : hAt [a, b] (1 : Nat) s = b.getD s 0 := rfl
  rw [e0, e1]
  generalize a.getD s 0 = x
  generalize b.getD s 0 = y
  have z := mxQ_mul (a := 0) (b := x) hN
  rw [Rat.mul_zero] at z
  rw [z, mxQ_mul hN]
theorem ag2 {n : Nat} (h : 1 ≤ n) (a b : List Rat) : agQ (lo2 n) wo2 [a, b] = (mxQ (mxQ 0 (a.getD 0 0)) (b.getD 0 0) + mxQ (mxQ 0 (a.getD 1 0)) (b.getD 1 0)) / 2 := by
  have h0 := natNe h
  unfold agQ
  have e : (((lo2 n).sum : Int) : Rat) = ((n : Int) : Rat) + ((n : Int) : Rat) := by
    simp [lo2, List.sum_cons]
  rw [e]
  show (0 + bestOf (lo2 n) [a, b] (0 : Nat) + bestOf (lo2 n) [a, b] (1 : Nat)) / _ = _
  rw [best2 h, best2 h]
  generalize ((n : Int) : Rat) = N at *
  grind
end R
set_option maxHeartbeats 1000000
namespace R
open PySem PySem.Spec L2 TL
open PyProof.Rows hiding St
/-! P71: what is heard of two cases of one weight. -/
theorem sum2 (n : Nat) : (((lo2 n).sum : Int) : Rat) = ((n : Int) : Rat) + ((n : Int) : Rat) := by simp [lo2, List.sum_cons]
theorem hw2 (n : Nat) (a b : List Rat) (s : Nat) : hwt (lo2 n) [a, b] s [0, 1] = ((n : Int) : Rat) * (a.getD s 0 + b.getD s 0) := by
  show 0 + ((n : Int) : Rat) * a.getD s 0 + ((n : Int) : Rat) * b.getD s 0 = _
  generalize ((n : Int) : Rat) = N
  grind
theorem hw1 (n : Nat) (a b : List Rat) (s : Nat) : hwt (lo2 n) [a, b] s [0] = ((n : Int) : Rat) * a.getD s 0 := by
  show 0 + ((n : Int) : Rat) * a.getD s 0 = _
  generalize ((n : Int) : Rat) = N
  grind
theorem hw2q {n : Nat} (h : 1 ≤ n) (a b : List Rat) (s : Nat) : hwt (lo2 n) [a, b] s (allC (lo2 n)) / ((lo2 n).sum : Rat) = (a.getD s 0 + b.getD s 0) / 2 := by
  have h0 := natNe h
  have e : allC (lo2 n) = [0, 1] := rfl
  rw [e, hw2, sum2]
  generalize ((n : Int) : Rat) = N at *
  grind
theorem gives2 {n : Nat} (h : 1 ≤ n) (a b : List Rat) (p q : Rat) : givesB (lo2 n) wo2 [a, b] [p, q] = (decide ((a.getD 0 0 + b.getD 0 0) / 2 = p) && decide ((a.getD 1 0 + b.getD 1 0) / 2 = q)) := by
  show (decide (hwt (lo2 n) [a, b] (0 : Nat) (allC (lo2 n)) / ((lo2 n).sum : Rat) = p) && (decide (hwt (lo2 n) [a, b] (1 : Nat) (allC (lo2 n)) / ((lo2 n).sum : Rat) = q) && true)) = _
  rw [hw2q h, hw2q h, Bool.and_true]
end R
set_option maxHeartbeats 1000000
namespace R
open PySem PySem.Spec L2 TL
open PyProof.Rows hiding St
/-! P72: what the checker tells does not hang on the weight of two like cases. -/
theorem at2 (n : Nat) {c : Int} (h0 : 0 ≤ c) (h1 : c < 2) : at0 (lo2 n) c = n := by
  have : c = 0 ∨ c = 1 := by omega
  rcases this with rfl | rfl <;> rfl
theorem wsum2 (n : Nat) : ∀ {L : List Int}, (∀ c ∈ L, 0 ≤ c ∧ c < 2) → wsum (lo2 n) L = n * wsum (lo2 1) L
  | [], _ => by simp [wsum]
  | c :: L, h => by
    have ih := wsum2 n (L := L) fun x hx => h x (by simp [hx])
    have hc := h c (by simp)
    unfold wsum at ih ⊢
    rw [List.map_cons, List.sum_cons, List.map_cons, List.sum_cons, ih, at2 n hc.1 hc.2, at2 1 hc.1 hc.2, Int.mul_add]
    simp
theorem hwt2 (n : Nat) (H : List (List Rat)) (s : Int) : ∀ {L : List Int}, (∀ c ∈ L, 0 ≤ c ∧ c < 2) → hwt (lo2 n) H s L = ((n : Int) : Rat) * hwt (lo2 1) H s L
  | [], _ => by simp [hwt, rsum_nil, Rat.mul_zero]
  | c :: L, h => by
    have ih := hwt2 n H s (L := L) fun x hx => h x (by simp [hx])
    have hc := h c (by simp)
    unfold hwt at ih ⊢
    rw [List.map_cons, List.map_cons, rsum_cons, rsum_cons, ih, at2 n hc.1 hc.2, at2 1 hc.1 hc.2]
    generalize rsum _ = r
    generalize hAt H c s = x
    have e : (((1 : Nat) : Int) : Rat) = 1 := rfl
    rw [e]
    generalize ((n : Int) : Rat) = N
    grind
theorem div2 {N a b : Rat} (h : N ≠ 0) : N * a / (N * b) = a / b := by
  by_cases hb : b = 0
  · subst hb
    rw [Rat.mul_zero, Rat.div_def, Rat.div_def]
    simp [Rat.mul_zero]
  · grind
theorem sum21 (n : Nat) : (((lo2 n).sum : Int) : Rat) = ((n : Int) : Rat) * (((lo2 1).sum : Int) : Rat) := by
  rw [sum2, sum2]
  have e : (((1 : Nat) : Int) : Rat) = 1 := rfl
  rw [e]
  generalize ((n : Int) : Rat) = N
  grind
theorem worth_n {n : Nat} (h : 1 ≤ n) {qs : List Rat} (hl : qs.length = 2) : worth (lo2 n) qs = worth (lo2 1) qs := by
  match qs, hl with
  | [x, y], _ => rw [worth2 h, worth2 (Nat.le_refl 1)]
theorem ag_n {n : Nat} (h : 1 ≤ n) {H : List (List Rat)} (hl : H.length = 2) : agQ (lo2 n) wo2 H = agQ (lo2 1) wo2 H := by
  match H, hl with
  | [x, y], _ => rw [ag2 h, ag2 (Nat.le_refl 1)]
theorem gives_n {n : Nat} (h : 1 ≤ n) {H : List (List Rat)} {qs : List Rat} (hl : H.length = 2) (hq : qs.length = 2) : givesB (lo2 n) wo2 H qs = givesB (lo2 1) wo2 H qs := by
  match H, hl, qs, hq with
  | [x, y], _, [p, q], _ => rw [gives2 h, gives2 (Nat.le_refl 1)]
theorem bars_n {n : Nat} (h : 1 ≤ n) {L : List Int} {qs : List Rat} (hr : ∀ c ∈ L, 0 ≤ c ∧ c < 2) : barsB (lo2 n) wo2 L qs = barsB (lo2 1) wo2 L qs := by
  have h0 := natNe h
  unfold barsB
  rw [wsum2 n hr, sum21]
  have e : (((n : Int) * wsum (lo2 1) L : Int) : Rat) = ((n : Int) : Rat) * ((wsum (lo2 1) L : Int) : Rat) := by push_cast; rfl
  rw [e, div2 h0]
end R
set_option maxHeartbeats 1000000
namespace R
open PySem PySem.Spec L2 TL
open PyProof.Rows hiding St
/-! P22: a teller is made; a text is read. -/
theorem trim_len {M M' : Mem} {x : PV} (h : M'.length = M.length) : trim M (.ok x M') = .ok x M' := by
  have e : M'.take M.length = M' := by rw [← h, List.take_length]
  unfold trim
  dsimp only
  rw [e]
  split <;> rfl
theorem mk_len {n nl : Nat} {b : Tm .b} {D : Wd} {xs : List PV} {M M' : Mem} {x : PV} (hl : xs.length = n) (h : ev (k := .b) D b (startE nl xs) M = .rt x M') (hr : M'.length = M.length) : mkF n nl b D xs M = .ok x M' := by
  unfold mkF; rw [if_pos hl, h]; exact trim_len hr
theorem mk_lenN {n nl : Nat} {b : Tm .b} {D : Wd} {xs : List PV} {M M' : Mem} {e : Env} (hl : xs.length = n) (h : ev (k := .b) D b (startE nl xs) M = .nx e M') (hr : M'.length = M.length) : mkF n nl b D xs M = .ok .non M' := by
  unfold mkF; rw [if_pos hl, h]; exact trim_len hr
end R
set_option maxHeartbeats 1000000
namespace R
open PySem PySem.Spec L2 TL
open PyProof.Rows hiding St
/-! P24: draws. -/
def jarO (a b c : Int) : MO := .lst [.int a, .int b, .int c]
/-- a jar at n, of which at most k were drawn -/
def JS (n k : Nat) (M : Mem) : Prop := ∃ a b c : Int, M[n]? = some (jarO a b c) ∧ 0 ≤ a ∧ 0 ≤ b ∧ b < 2147483587 ∧ 0 ≤ c ∧ c ≤ k
/-- nothing but the jar changed -/
structure Up (n k : Nat) (M M' : Mem) : Prop where
  len : M'.length = M.length
  oth : ∀ i, i ≠ n → M'[i]? = M[i]?
  jar : JS n k M'
theorem JS.mono {n k l : Nat} {M : Mem} (h : JS n k M) (hl : k ≤ l) : JS n l M := by
  obtain ⟨a, b, c, h1, h2, h3, h4, h5, h6⟩ := h
  exact ⟨a, b, c, h1, h2, h3, h4, h5, by omega⟩
theorem JS.up {n k : Nat} {M : Mem} (h : JS n k M) : Up n k M M := ⟨rfl, fun _ _ => rfl, h⟩
theorem Up.mono {n k l : Nat} {M M' : Mem} (h : Up n k M M') (hl : k ≤ l) : Up n l M M' := ⟨h.len, h.oth, h.jar.mono hl⟩
theorem Up.trans {n k l : Nat} {M M1 M2 : Mem} (h : Up n k M M1) (h' : Up n l M1 M2) : Up n l M M2 := ⟨h'.len.trans h.len, fun i hi => (h'.oth i hi).trans (h.oth i hi), h'.jar⟩
theorem JS.lt {n k : Nat} {M : Mem} (h : JS n k M) : n < M.length := by
  obtain ⟨a, b, c, h1, _⟩ := h
  exact (List.getElem?_eq_some_iff.mp h1).1
theorem JS.of {n k : Nat} {M M' : Mem} (h : JS n k M) (e : M'[n]? = M[n]?) : JS n k M' := by
  obtain ⟨a, b, c, h1, h2⟩ := h
  exact ⟨a, b, c, by rw [e]; exact h1, h2⟩
section
variable {n : Nat} {M : Mem} {a b c : Int} (h : M[n]? = some (jarO a b c))
include h
theorem jar0 : idxW (.ref n) (.int 0) M = .ok (.int a) M := by
  show (memL n >>= fun xs => optR (atI xs 0)) M = _
  rw [bind_eq]; unfold memL; rw [h]; rfl
theorem jar1 : idxW (.ref n) (.int 1) M = .ok (.int b) M := by
  show (memL n >>= fun xs => optR (atI xs 1)) M = _
  rw [bind_eq]; unfold memL; rw [h]; rfl
theorem jar2 : idxW (.ref n) (.int 2) M = .ok (.int c) M := by
  show (memL n >>= fun xs => optR (atI xs 2)) M = _
  rw [bind_eq]; unfold memL; rw [h]; rfl
theorem jars0 (v : Int) : setW (.ref n) (.int 0) (.int v) M = .ok () (M.set n (jarO v b c)) := by unfold setW; dsimp only; rw [h]; rfl
theorem jars1 (v : Int) : setW (.ref n) (.int 1) (.int v) M = .ok () (M.set n (jarO a v c)) := by unfold setW; dsimp only; rw [h]; rfl
theorem jars2 (v : Int) : setW (.ref n) (.int 2) (.int v) M = .ok () (M.set n (jarO a b v)) := by unfold setW; dsimp only; rw [h]; rfl
end
theorem dv1 : divOk 2147483587 = true := by
  have := log2_lt (n := 2147483587) (k := 40) (by decide) (by omega)
  simp [divOk]; omega
theorem dv2 : divOk 103 = true := by
  have := log2_lt (n := 103) (k := 40) (by decide) (by omega)
  simp [divOk]; omega
theorem small_dv {m : Int} (h1 : 1 ≤ m) (h2 : m ≤ 2 ^ 62) : divOk m = true := by
  have := log2_lt (n := m.natAbs) (k := 64) (by have : (2 : Nat) ^ 64 = 18446744073709551616 := by decide
                                                have e2 : (2 : Int) ^ 62 = 4611686018427387904 := by decide
                                                omega) (by omega)
  have h3 : ¬ m = 0 := by omega
  simp [divOk, h3]; omega
theorem intW_int (i : Int) : intW [.int i] = pure (.int i) := rfl
theorem fmodp {a b : Int} (h : 0 < b) : 0 ≤ a.fmod b ∧ a.fmod b < b := ⟨Int.fmod_nonneg_of_pos a h, Int.fmod_lt_of_pos a h⟩
theorem mulOk62 {i j : Int} (hi : i.natAbs < 2 ^ 100) (hj : j.natAbs < 2 ^ 100) : mulOk i j = true := mulOk_of hi hj (by omega)
theorem set_get {n : Nat} {M : Mem} {o : MO} (h : n < M.length) : (M.set n o)[n]? = some o := List.getElem?_set_self h
theorem divmodW_ok {a m : Int} (h1 : 1 ≤ m) (h2 : m ≤ 2 ^ 62) : divmodW [.int a, .int m] = pure (.tup [.int (a / m), .int (a % m)]) := by
  show (if decide (0 < m) && decide (m.natAbs.log2 < 9000) then pure (PV.tup [.int (a / m), .int (a % m)]) else RM.bad) = _
  rw [if_pos]
  have := small_dv h1 h2
  unfold divOk at this
  simp only [Bool.and_eq_true, decide_eq_true_eq] at this ⊢
  exact ⟨by omega, this.2⟩
theorem dip_ok {n k : Nat} {M : Mem} {m : Int} (J : JS n k M) (hm : 1 ≤ m) (hm2 : m ≤ 2 ^ 62) (hk : k < 2 ^ 60) : ∃ r M', F__law_dip [.ref n, .int m] M = .ok (.int r) M' ∧ 0 ≤ r ∧ r < m ∧ Up n (k + 1) M M' := by
  have hn := J.lt
  obtain ⟨a, b, c, h, ha, hb0, hb1, hc0, hc1⟩ := J
  have e60 : (2 : Nat) ^ 60 = 1152921504606846976 := by decide
  have e100 : (2 : Nat) ^ 100 = 1267650600228229401496703205376 := by decide
  have x1 := jar2 h
  have s1 := jars2 h (c + 1)
  have hM1 : n < (M.set n (jarO a b (c + 1))).length := by simpa using hn
  have g1 := set_get (o := jarO a b (c + 1)) hn
  have y1 := jar1 g1
  have y2 := jar2 g1
  have ok1 : mulOk 770551 (c + 1) = true := mulOk62 (by omega) (by omega)
  let mx := (b + 770551 * (c + 1)).fmod 2147483587
  have hmx : 0 ≤ mx ∧ mx < 2147483587 := fmodp (by omega)
  have ok2 : mulOk mx mx = true := mulOk62 (by omega) (by omega)
  have ok3 : mulOk 2753159 mx = true := mulOk62 (by omega) (by omega)
  let b2 := (mx * mx + 2753159 * mx + 519371).fmod 2147483587
  have hb2 : 0 ≤ b2 ∧ b2 < 2147483587 := fmodp (by omega)
  have s2 := jars1 g1 b2
  rw [List.set_set] at s2
  have g2 := set_get (o := jarO a b2 (c + 1)) hn
  have z0 := jar0 g2
  have z1 := jar1 g2
  have up : ∀ v, 0 ≤ v → Up n (k + 1) M (M.set n (jarO v b2 (c + 1))) := fun v hv => ⟨by simp, fun i hi => by rw [List.getElem?_set_ne (fun z => hi z.symm)], v, b2, c + 1, set_get hn, hv, hb2.1, hb2.2, by omega, by omega⟩
  have dm := small_dv hm hm2
  have walk : ∀ (r : SRes), (∀ rest : SM, rest = ev (k := .b) D__law_dip (.bcons (.ifs (.cmp .eq (.idx (.var 0) (.int 0)) (.int 0)) (.bone (.ret (.bin .mod (.bi .int (.cons (.bin .fdiv (.idx (.var 0) (.int 1)) (.int 103)) .nil)) (.var 1)))) .bnil)
      (.bcons (.asg (.gtup 2 (.gcons (.gnm 3) (.gcons (.gnm 4) .gnil))) (.bi .divmod (.cons (.idx (.var 0) (.int 0)) (.cons (.var 1) .nil)))) (.bcons (.asg (.gsub (.var 0) (.int 0)) (.var 3)) (.bone (.ret (.var 4)))))) →
      rest [some (.ref n), some (.int m), some (.int mx), none, none] (M.set n (jarO a b2 (c + 1))) = r) → ev (k := .b) D__law_dip b__law_dip (startE 5 [.ref n, .int m]) M = r := by
    intro r hr
    show sSeq _ _ _ _ = _
    refine seq_nx (e' := [some (.ref n), some (.int m), none, none, none]) (M' := M.set n (jarO a b (c + 1))) ?_ ?_
    · simp [ev, sSeq, sAsg, sRet, sRetN, sE, sIf, sNil, sExpr, startE, f2, fVar, fCons, fNil, fTup, fIf, fAnd, fOr, fNot, fChain, gNm, bind_eq, pure_eq, bad_eq, biV, bopV, copV, wdOf, asB_bl, lineOk0, lineOk1, lineOk2, lineOk3, lineOk4, optR_some, gSubT, x1, addW_int, s1]
    refine seq_nx (e' := [some (.ref n), some (.int m), some (.int mx), none, none]) (M' := M.set n (jarO a b (c + 1))) ?_ ?_
    · simp [ev, sSeq, sAsg, sRet, sRetN, sE, sIf, sNil, sExpr, startE, f2, fVar, fCons, fNil, fTup, fIf, fAnd, fOr, fNot, fChain, gNm, bind_eq, pure_eq, bad_eq, biV, bopV, copV, wdOf, asB_bl, lineOk0, lineOk1, lineOk2, lineOk3, lineOk4, optR_some, gSubT, y1, y2, addW_int, mulV_int, ok1, intW_int, modV_int, dv1, mx]
    refine seq_nx (e' := [some (.ref n), some (.int m), some (.int mx), none, none]) (M' := M.set n (jarO a b2 (c + 1))) ?_ ?_
    · simp [ev, sSeq, sAsg, sRet, sRetN, sE, sIf, sNil, sExpr, startE, f2, fVar, fCons, fNil, fTup, fIf, fAnd, fOr, fNot, fChain, gNm, bind_eq, pure_eq, bad_eq, biV, bopV, copV, wdOf, asB_bl, lineOk0, lineOk1, lineOk2, lineOk3, lineOk4, optR_some, gSubT, addW_int, mulV_int, ok2, ok3, intW_int, modV_int, dv1]
      rw [show (mx * mx + 2753159 * mx + 519371).fmod 2147483587 = b2 from rfl, s2]
    exact hr _ rfl
  by_cases h0 : a = 0
  · subst h0
    refine ⟨(b2.fdiv 103).fmod m, M.set n (jarO 0 b2 (c + 1)), mk_len rfl (walk _ ?_) (by simp), (fmodp (by omega)).1, (fmodp (by omega)).2, up 0 (by omega)⟩
    intro rest hr
    subst hr
    generalize b2 = b2 at *
    generalize mx = mx at *
    simp [ev, sSeq, sAsg, sRet, sRetN, sE, sIf, sNil, sExpr, startE, f2, fVar, fCons, fNil, fTup, fIf, fAnd, fOr, fNot, fChain, gNm, bind_eq, pure_eq, bad_eq, biV, bopV, copV, wdOf, asB_bl, lineOk0, lineOk1, lineOk2, lineOk3, lineOk4, optR_some, z0, z1, eqX_int, fdivV_int, dv2, intW_int, modV_int, dm]
  · have hd := divmodW_ok (a := a) hm hm2
    have s3 := jars0 g2 (a / m)
    rw [List.set_set] at s3
    have hq : 0 ≤ a / m := Int.ediv_nonneg ha (by omega)
    refine ⟨a % m, M.set n (jarO (a / m) b2 (c + 1)), mk_len rfl (walk _ ?_) (by simp), Int.emod_nonneg _ (by omega), Int.emod_lt_of_pos _ (by omega), up _ hq⟩
    intro rest hr
    subst hr
    generalize b2 = b2 at *
    generalize mx = mx at *
    simp [ev, sSeq, sAsg, sRet, sRetN, sE, sIf, sNil, sExpr, startE, f2, fVar, fCons, fNil, fTup, fIf, fAnd, fOr, fNot, fChain, gNm, bind_eq, pure_eq, bad_eq, biV, bopV, copV, wdOf, asB_bl, lineOk0, lineOk1, lineOk2, lineOk3, lineOk4, optR_some, gSubT, gSq, gsCons, gsNil, seqW_tup, z0, z1, eqX_int, h0, hd, s3]
end R
set_option maxHeartbeats 1000000
namespace R
open PySem PySem.Spec L2 TL
open PyProof.Rows hiding St
/-! P25: comprehensions that draw. -/
/-- what is left of a list: some items kept, with what they became, others dropped -/
inductive Kept {α : Type} (Pr : α → PV → Prop) (dr : α → Prop) : List α → List PV → Prop
  | nil : Kept Pr dr [] []
  | drop {a : α} {as : List α} {ys : List PV} (h : dr a) (k : Kept Pr dr as ys) : Kept Pr dr (a :: as) ys
  | keep {a : α} {y : PV} {as : List α} {ys : List PV} (h : Pr a y) (k : Kept Pr dr as ys) : Kept Pr dr (a :: as) (y :: ys)
section
variable {α : Type} {Pr : α → PV → Prop} {dr : α → Prop}
theorem Kept.dropR {as : List α} {ys : List PV} (h : Kept Pr dr as ys) {a : α} (d : dr a) : Kept Pr dr (as ++ [a]) ys := by
  induction h with
  | nil => exact .drop d .nil
  | drop h k ih => exact .drop h ih
  | keep h k ih => exact .keep h ih
theorem Kept.keepR {as : List α} {ys : List PV} (h : Kept Pr dr as ys) {a : α} {y : PV} (d : Pr a y) : Kept Pr dr (as ++ [a]) (ys ++ [y]) := by
  induction h with
  | nil => exact .keep d .nil
  | drop h k ih => exact .drop h ih
  | keep h k ih => exact .keep h ih
theorem Kept.all {as : List α} {ys : List PV} (h : Kept Pr dr as ys) : ∀ y ∈ ys, ∃ a ∈ as, Pr a y := by
  induction h with
  | nil => intro y hy; cases hy
  | drop h k ih => intro y hy; obtain ⟨a, h1, h2⟩ := ih y hy; exact ⟨a, List.mem_cons_of_mem _ h1, h2⟩
  | keep h k ih =>
    intro y hy
    rcases List.mem_cons.mp hy with rfl | hy
    · exact ⟨_, List.mem_cons_self, h⟩
    · obtain ⟨a, h1, h2⟩ := ih y hy; exact ⟨a, List.mem_cons_of_mem _ h1, h2⟩
theorem Kept.len {as : List α} {ys : List PV} (h : Kept Pr dr as ys) : ys.length ≤ as.length := by
  induction h with
  | nil => simp
  | drop h k ih => simp; omega
  | keep h k ih => simp; omega
/-- nothing dropped: the values, one by one -/
theorem Kept.full {as : List α} {ys : List PV} (h : Kept Pr dr as ys) (hd : ∀ a, ¬ dr a) : ys.length = as.length ∧ ∀ (i : Nat) (a : α), as[i]? = some a → ∃ y, ys[i]? = some y ∧ Pr a y := by
  induction h with
  | nil => exact ⟨rfl, fun i a h => by simp at h⟩
  | drop h k ih => exact (hd _ h).elim
  | keep h k ih =>
    refine ⟨by simp [ih.1], fun i a e => ?_⟩
    cases i with
    | zero => simp at e; subst e; exact ⟨_, rfl, h⟩
    | succ i => simpa using ih.2 i a (by simpa using e)
end
/-- below M's end nothing but the jar changed -/
def Fr (n : Nat) (M M' : Mem) : Prop := M.length ≤ M'.length ∧ ∀ j, j < M.length → j ≠ n → M'[j]? = M[j]?
theorem Fr.refl (n : Nat) (M : Mem) : Fr n M M := ⟨Nat.le_refl _, fun _ _ _ => rfl⟩
theorem Fr.trans {n : Nat} {M M1 M2 : Mem} (h : Fr n M M1) (h' : Fr n M1 M2) : Fr n M M2 := ⟨Nat.le_trans h.1 h'.1, fun j a b => (h'.2 j (by have := h.1; omega) b).trans (h.2 j a b)⟩
theorem Up.fr {n k : Nat} {M M' : Mem} (h : Up n k M M') : Fr n M M' := ⟨by rw [h.len]; exact Nat.le_refl _, fun j _ b => h.oth j b⟩
theorem Fr.keeps {n k : Nat} {M M' : Mem} (h : Fr n M M') (J : JS n k M') : Keeps M M' := by
  refine ⟨h.1, fun i o hi ho => ?_⟩
  by_cases hn : i = n
  · subst hn
    obtain ⟨a, b, c, h1, _⟩ := J
    rw [h1] at ho
    cases ho
    exact .inr rfl
  · exact .inl (by rw [← h.2 i hi hn]; exact ho)
theorem cut_last {M : Mem} {n : Nat} {o : MO} (hl : M.length = n + 1) (h : M[n]? = some o) : M = M.take n ++ [o] := by
  conv => lhs; rw [← List.take_append_drop n M]
  congr 1
  rw [List.drop_eq_getElem_cons (by omega)]
  have := (List.getElem?_eq_some_iff.mp h).2
  rw [this, List.drop_eq_nil_of_le (by omega)]
theorem lcL_draw {α : Type} {as : List α} {enc : α → PV} {w : Wk} {g : PV → Env → RM Env} {t : Env → RM Bool} {f : Env → RM PV} {e0 : Env} {M : Mem} {n k C : Nat} (Pr : α → PV → Prop) (dr : α → Prop) (hxs : w.xs = as.map enc) (J : JS n k M) (hn : n < M.length) (hl : as.length < sizeLine)
    (hw : ∀ M', Fr n M M' → w.holds M')
    (step : ∀ a ∈ as, ∀ k' M', k' + C ≤ k + C * as.length → JS n k' M' → Fr n M M' → ∃ e1 M1 b M2, g (enc a) e0 M' = .ok e1 M1 ∧ t e1 M1 = .ok b M2 ∧ (b = false → Up n (k' + C) M' M2 ∧ dr a) ∧
      (b = true → ∃ y M3, f e1 M2 = .ok y M3 ∧ Up n (k' + C) M' M3 ∧ Pr a y)) :
    ∃ ys M', lcL w g t f M.length e0 w.xs (M ++ [.lst []]) = .ok () (M' ++ [.lst ys]) ∧ Up n (k + C * as.length) M M' ∧ Kept Pr dr as ys := by
  obtain ⟨acc, M', h1, h2, h3, h4, h5, h6⟩ := lc_inv (w := w) (g := g) (t := t) (f := f) (n := M.length) (e0 := e0) (xs := as.map enc)
    (fun i acc M' => M'.length = M.length + 1 ∧ M'[M.length]? = some (.lst acc) ∧ Fr n M M' ∧ JS n (k + C * i) M' ∧ Kept Pr dr (as.take i) acc)
    (fun i x acc M' hx ⟨h2, h3, h4, h5, h6⟩ => by
      obtain ⟨a, hxa, rfl⟩ : ∃ a, as[i]? = some a ∧ enc a = x := by simpa using hx
      have hi := (List.getElem?_eq_some_iff.mp hxa).1
      have hC : k + C * i + C ≤ k + C * as.length := by
        have : C * (i + 1) ≤ C * as.length := Nat.mul_le_mul_left _ hi
        rw [Nat.mul_succ] at this; omega
      obtain ⟨e1, M1, b, M2, s1, s2, s3, s4⟩ := step a (List.mem_of_getElem? hxa) (k + C * i) M' hC h5 h4
      refine ⟨hw M' h4, e1, M1, b, M2, s1, s2, fun hb => ?_, fun hb => ?_⟩
      · obtain ⟨u, d⟩ := s3 hb
        refine ⟨by rw [u.len, h2], by rw [u.oth _ (by omega)]; exact h3, h4.trans u.fr, by rw [Nat.mul_succ, ← Nat.add_assoc]; exact u.jar, ?_⟩
        rw [take_succ hxa]
        exact h6.dropR d
      · obtain ⟨y, M3, f1, u, p⟩ := s4 hb
        have hlen : acc.length < sizeLine := by
          have := h6.len
          rw [List.length_take] at this
          omega
        have l3 : M.length < M3.length := by rw [u.len, h2]; omega
        refine ⟨y, M3, f1, by rw [u.oth _ (by omega)]; exact h3, hlen, by simp [u.len, h2], List.getElem?_set_self l3, ?_, ?_, ?_⟩
        · refine ⟨by simp [u.len, h2], fun j hj hjn => ?_⟩
          rw [List.getElem?_set_ne (by omega), u.oth j hjn]
          exact h4.2 j hj hjn
        · rw [Nat.mul_succ, ← Nat.add_assoc]
          exact u.jar.of (List.getElem?_set_ne (by omega))
        · rw [take_succ hxa]
          exact h6.keepR p)
    (fun acc M' ⟨_, _, h4, _⟩ => hw M' h4) (as.map enc) 0 [] (M ++ [.lst []]) rfl (Nat.zero_le _)
    ⟨by simp, by simp, ⟨by simp, fun j hj _ => List.getElem?_append_left hj⟩, J.of (List.getElem?_append_left hn), .nil⟩
  rw [hxs]
  simp only [List.length_map, List.take_length] at h5 h6
  have hc := cut_last h2 h3
  refine ⟨acc, M'.take M.length, by rw [h1]; exact congrArg _ hc, ⟨by simp [h2], fun i hi => ?_, h5.of (List.getElem?_take_of_lt hn)⟩, h6⟩
  by_cases hlt : i < M.length
  · rw [List.getElem?_take_of_lt hlt]; exact h4.2 i hlt hi
  · rw [List.getElem?_eq_none (by simp; omega), List.getElem?_eq_none (by omega)]
section
variable {α : Type} {as : List α} {enc : α → PV} {w : Wk} {fi : Env → RM Wk} {vs : List Nat} {g : PV → Env → RM Env} {t : Env → RM Bool} {f : Env → RM PV} {e : Env} {M M0 : Mem} {n k C : Nat} (Pr : α → PV → Prop) (dr : α → Prop) (hi : fi e M0 = .ok w M) (hxs : w.xs = as.map enc) (J : JS n k M) (hl : as.length < sizeLine)
    (hw : ∀ M', Fr n M M' → w.holds M')
    (step : ∀ a ∈ as, ∀ k' M', k' + C ≤ k + C * as.length → JS n k' M' → Fr n M M' → ∃ e1 M1 b M2, g (enc a) (wipeE e vs) M' = .ok e1 M1 ∧ t e1 M1 = .ok b M2 ∧ (b = false → Up n (k' + C) M' M2 ∧ dr a) ∧
      (b = true → ∃ y M3, f e1 M2 = .ok y M3 ∧ Up n (k' + C) M' M3 ∧ Pr a y))
include hi hxs J hl hw step
theorem lc_draw (hda : ∀ a y, Pr a y → Da y) : ∃ ys M', fLc fi vs g t f e M0 = .ok (.lst ys) M' ∧ Up n (k + C * as.length) M M' ∧ Kept Pr dr as ys := by
  obtain ⟨ys, M', h1, h2, h3⟩ := lcL_draw Pr dr hxs J J.lt hl hw step
  refine ⟨ys, M', ?_, h2, h3⟩
  unfold fLc
  rw [bind_eq, hi]
  dsimp only
  rw [h1]
  dsimp only
  rw [← h2.len, List.getElem?_append_right (Nat.le_refl _), Nat.sub_self]
  dsimp only [List.getElem?_cons_zero]
  have hr : noRefs M'.length ys = true := das fun y hy => by obtain ⟨a, _, p⟩ := h3.all y hy; exact hda a y p
  have hk : Keeps M (M' ++ [.lst ys]) := Fr.keeps (n := n) (k := k + C * as.length) ⟨by simp [h2.len], fun j hj hjn => by rw [List.getElem?_append_left (by rw [h2.len]; exact hj)]; exact h2.oth j hjn⟩ (h2.jar.of (List.getElem?_append_left h2.jar.lt))
  rw [if_pos ⟨hr, hk⟩, List.take_left' rfl]
theorem lc_drawM : ∃ ys M', fLcM fi vs g t f e M0 = .ok (.ref M.length) (M' ++ [.lst ys]) ∧ Up n (k + C * as.length) M M' ∧ Kept Pr dr as ys := by
  obtain ⟨ys, M', h1, h2, h3⟩ := lcL_draw Pr dr hxs J J.lt hl hw step
  refine ⟨ys, M', ?_, h2, h3⟩
  unfold fLcM
  rw [bind_eq, hi]
  dsimp only
  rw [h1]
end
end R
set_option maxHeartbeats 2000000
namespace R
open PySem PySem.Spec L2 TL
open PyProof.Rows hiding St
/-! P26: a drawn teller. -/
theorem szl' {n : Nat} (h : n ≤ 1000) : n < sizeLine := Nat.lt_of_le_of_lt h (by rw [sizeLine_eq]; decide)
theorem appW_ok {n : Nat} {M : Mem} {xs : List PV} {y : PV} (h : M[n]? = some (.lst xs)) (hl : xs.length ≤ 1000) : appW (.ref n) [y] M = .ok .non (M.set n (.lst (xs ++ [y]))) := by
  unfold appW; dsimp only; rw [h]; dsimp only; rw [if_pos (szl' hl)]
theorem recv_ref {n : Nat} {M : Mem} {xs : List PV} (h : M[n]? = some (.lst xs)) : recvW "list" (.ref n) M = .ok (.ref n) M := by
  show (memL n >>= fun _ => (pure (PV.ref n) : RM PV)) M = _
  rw [bind_eq]; unfold memL; rw [h]; rfl
theorem memL_ok' {n : Nat} {M : Mem} {xs : List PV} (h : M[n]? = some (.lst xs)) : memL n M = .ok xs M := by unfold memL; rw [h]
theorem neX_ref_nil {n : Nat} {M : Mem} {l : List Int} (h : M[n]? = some (.lst (l.map PV.int))) : neX (.ref n) (.lst []) M = .ok (.bl (!decide (l = []))) M := by
  have e : eqB (.ref n) (.lst []) = none := rfl
  unfold neX
  rw [e]
  show (memL n >>= fun xs => (pure [] : RM (List PV)) >>= fun ys => if xs.length = ys.length then neW (.lst xs) (.lst ys) else pure (.bl true)) M = _
  rw [bind_eq, memL_ok' h]
  dsimp only
  rw [bind_eq, pure_eq]
  dsimp only
  by_cases hl : l = []
  · subst hl; rfl
  · have : ¬ ((l.map PV.int).length = ([] : List PV).length) := by simpa using hl
    rw [if_neg this]
    simp [hl, pure_eq]
theorem eqB_lnil {xs : List PV} {b : Bool} (h : eqB (.lst xs) (.lst []) = some b) : b = xs.isEmpty := by
  obtain ⟨d, e, h1, h2, h3, h4, rfl⟩ := eqB_some h
  have : e = .list [] := by simp [dataOf, datasOf] at h2; exact h2.symm
  subst this
  cases q : datasOf xs with
  | none => simp [dataOf, q] at h1
  | some ds =>
    simp [dataOf, q] at h1
    subst h1
    show PyData.eqvAll ds [] = _
    cases xs with
    | nil => simp [datasOf] at q; subst q; rfl
    | cons x xs =>
      cases ds with
      | nil =>
        simp only [datasOf] at q
        split at q <;> simp at q
      | cons d ds => rfl
theorem eqX_lst_nil (xs : List PV) : eqX (.lst xs) (.lst []) = pure (.bl xs.isEmpty) := by
  cases h : eqB (.lst xs) (.lst []) with
  | some b => rw [eqX_of h, eqB_lnil h]
  | none =>
    unfold eqX
    rw [h]
    show ((pure xs : RM (List PV)) >>= fun xs => (pure [] : RM (List PV)) >>= fun ys => if xs.length = ys.length then eqW (.lst xs) (.lst ys) else pure (.bl false)) = _
    funext M
    rw [bind_eq, pure_eq]
    dsimp only
    rw [bind_eq, pure_eq]
    dsimp only
    cases xs with
    | nil => rfl
    | cons x xs => rw [if_neg (by simp)]; rfl
theorem inX_ref {n : Nat} {M : Mem} {l : List Int} (c : Int) (h : M[n]? = some (.lst (l.map PV.int))) : inX (.int c) (.ref n) M = .ok (.bl (decide (c ∈ l))) M := by
  show (memL n >>= fun ys => inQ (.int c) ys >>= fun b => pure (PV.bl (id b))) M = _
  rw [bind_eq, memL_ok' h]
  dsimp only
  rw [inSeq_ints]; rfl
theorem range1_hi {fx : Env → RM PV} {e : Env} {M M' : Mem} {j : Nat} (h : fx e M = .ok (.int (j : Nat)) M') (hj : j ≤ 1000) : (fun e => fCons fx fNil e >>= range1W) e M = .ok ⟨(List.range j).map fun i => PV.int (i : Nat), []⟩ M' := by
  have r1 := range1W_eq (rngB_of (i := (j : Int)) (by omega) (by omega))
  simp only [rngP, Int.sub_zero, Int.toNat_natCast, Int.zero_add] at r1
  have h2 : fCons fx fNil e M = .ok [.int (j : Nat)] M' := by
    show (fx e >>= fun x => (pure [] : RM (List PV)) >>= fun xs => pure (x :: xs)) M = _
    rw [bind_eq, h]; rfl
  show (fCons fx fNil e >>= range1W) M = _
  rw [bind_eq, h2]
  dsimp only
  rw [r1]; rfl
/-- ascending, once sorted -/
theorem sortI_asc {l : List Int} (h : l.Nodup) : ascB (sortI l) = true := by
  have hp : (sortI l).Perm l := List.mergeSort_perm l _
  have hs : (sortI l).Pairwise (fun a b => decide (a ≤ b) = true) := List.pairwise_mergeSort (fun a b c h1 h2 => by simp at h1 h2 ⊢; omega) (fun a b => by simp; omega) l
  have hn : (sortI l).Pairwise (fun a b => a ≠ b) := (hp.nodup_iff.mpr h)
  have hlt : (sortI l).Pairwise (fun a b => a < b) := (hs.and hn).imp fun ⟨h1, h2⟩ => by simp at h1; omega
  refine ascB_iff.mpr fun i hi => ?_
  have := (List.pairwise_iff_getElem.mp hlt) i (i + 1) (by omega) hi (by omega)
  have e1 : at0 (sortI l) (i : Nat) = (sortI l)[i] := by simp [at0, List.getElem?_eq_getElem (by omega : i < (sortI l).length)]
  have e2 : at0 (sortI l) ((i : Nat) + 1) = (sortI l)[i + 1] := by
    have : ((i : Int) + 1).toNat = i + 1 := by omega
    simp [at0, this, List.getElem?_eq_getElem hi]
  rw [e1, e2]; exact this
theorem mem_sortI {l : List Int} {c : Int} : c ∈ sortI l ↔ c ∈ l := (List.mergeSort_perm l _).mem_iff
theorem sortI_nil {l : List Int} : sortI l = [] ↔ l = [] := by
  have := (List.mergeSort_perm l (fun a b => decide (a ≤ b))).length_eq
  constructor
  · intro h; have : (sortI l).length = l.length := this; rw [h] at this; exact List.length_eq_zero_iff.mp this.symm
  · intro h; subst h; exact List.length_eq_zero_iff.mp this
theorem sortedW_ref {n : Nat} {M : Mem} {l : List Int} (h : M[n]? = some (.lst (l.map PV.int))) : sortedW [.ref n] M = .ok (.lst ((sortI l).map PV.int)) M := by
  show (memL n >>= fun xs => optR (intsOf xs) >>= fun ns => pure (PV.lst ((sortI ns).map PV.int))) M = _
  rw [bind_eq, memL_ok' h]
  dsimp only
  rw [intsOf_map]; rfl
/-- the lists of the words, while they are drawn -/
structure Wds (n p m i : Nat) (rs : List Nat) (M : Mem) : Prop where
  at_ : M[p]? = some (.lst (rs.map PV.ref))
  len : rs.length = i
  nd : rs.Nodup
  obj : ∀ r ∈ rs, p < r ∧ ∃ l : List Int, M[r]? = some (.lst (l.map PV.int)) ∧ l ≠ [] ∧ l.Nodup ∧ ∀ c ∈ l, 0 ≤ c ∧ c < m
theorem Wds.fr {n p m i : Nat} {rs : List Nat} {M M' : Mem} (h : Wds n p m i rs M) (hn : n < p) (f : Fr n M M') : Wds n p m i rs M' := by
  have hp := (List.getElem?_eq_some_iff.mp h.at_).1
  refine ⟨by rw [f.2 p hp (by omega)]; exact h.at_, h.len, h.nd, fun r hr => ?_⟩
  obtain ⟨h1, l, h2, h3⟩ := h.obj r hr
  have hr2 := (List.getElem?_eq_some_iff.mp h2).1
  exact ⟨h1, l, by rw [f.2 r hr2 (by omega)]; exact h2, h3⟩
end R
set_option maxHeartbeats 2000000
namespace R
open PySem PySem.Spec L2 TL
open PyProof.Rows hiding St
/-! P29: a drawn teller, whole. -/
theorem mk_trim {n nl : Nat} {b : Tm .b} {D : Wd} {xs : List PV} {M M' : Mem} {x : PV} (hl : xs.length = n) (h : ev (k := .b) D b (startE nl xs) M = .rt x M') (hr : Da x) (hk : Keeps M M') : mkF n nl b D xs M = .ok x (M'.take M.length) := by
  unfold mkF; rw [if_pos hl, h]; exact trim_y ⟨hr.at_, hk⟩
theorem Fr.up {n k : Nat} {M M' : Mem} (h : Fr n M M') (J : JS n k M') (hn : n < M.length) : Up n k M (M'.take M.length) := by
  have hl := h.1
  refine ⟨by simp; omega, fun i hi => ?_, J.of (List.getElem?_take_of_lt hn)⟩
  by_cases hlt : i < M.length
  · rw [List.getElem?_take_of_lt hlt]; exact h.2 i hlt hi
  · rw [List.getElem?_eq_none (by simp; omega), List.getElem?_eq_none (by omega)]
theorem pow6 : powV (.int 10) (.int 6) = pure (.int 1000000) := by
  show (if decide ((0 : Int) ≤ 6) && decide ((6 : Int) ≤ 1000) && decide ((10 : Int).natAbs < 1000) then pure (PV.int ((10 : Int) ^ (6 : Int).toNat)) else RM.bad) = _
  rw [if_pos (by decide)]
  rfl
theorem seqP_nx {P : SRes → Prop} {a b : SM} {e e' : Env} {M M' : Mem} (h : a e M = .nx e' M') (k : P (b e' M')) : P (sSeq a b e M) := by rw [seq_nx h rfl]; exact k
theorem seqP_for {Q : SRes → Prop} {fi : Env → RM Wk} {g : PV → Env → RM Env} {body rest : SM} {e : Env} {M M0 : Mem} {w : Wk} (P : Nat → Env → Mem → Prop) (hi : fi e M = .ok w M0) (h0 : P 0 e M0)
    (step : ∀ (i : Nat) (x : PV) (e : Env) (M : Mem), w.xs[i]? = some x → P i e M → w.holds M ∧ ∃ e1 M1 e2 M2, g x e M = .ok e1 M1 ∧ body e1 M1 = .nx e2 M2 ∧ P (i + 1) e2 M2)
    (hend : ∀ e M, P w.xs.length e M → w.holds M) (k : ∀ e' M', P w.xs.length e' M' → Q (rest e' M')) : Q (sSeq (sFor fi g body) rest e M) := by
  obtain ⟨e', M', h1, h2⟩ := for_thru P step hend h0
  exact seqP_nx (by rw [sFor_of hi]; exact h1) (k e' M' h2)
theorem map_getI {m i : Nat} {x : PV} (h : ((List.range m).map fun i => PV.int (i : Nat))[i]? = some x) : i < m ∧ x = .int (i : Nat) := by
  obtain ⟨q, hq, rfl⟩ : ∃ q, (List.range m)[i]? = some q ∧ PV.int (q : Nat) = x := by simpa using h
  obtain ⟨h5, h6⟩ := List.getElem?_eq_some_iff.mp hq
  rw [List.getElem_range] at h6
  subst h6
  exact ⟨by simpa using h5, rfl⟩
end R
set_option maxHeartbeats 1000000
namespace R
open PySem PySem.Spec L2 TL
open PyProof.Rows hiding St
/-! P73: nor do the ends; so all that is told of the line. -/
theorem wo2_r {k : Int} : ∀ c ∈ wo2.getD k.toNat [], 0 ≤ c ∧ c < 2 := by
  intro c hc
  match k.toNat, hc with
  | 0, hc => simp at hc; omega
  | 1, hc => simp at hc; omega
  | m + 2, hc => simp at hc
theorem fil_r {p : Int → Bool} {l : List Int} (h : ∀ c ∈ l, 0 ≤ c ∧ c < 2) : ∀ c ∈ l.filter p, 0 ≤ c ∧ c < 2 := fun c hc => h c (List.mem_filter.mp hc).1
theorem pos_n {n : Nat} (h : 1 ≤ n) (x : Int) : (0 < (n : Int) * x) ↔ 0 < x := by
  constructor
  · intro h2
    exact Int.pos_of_mul_pos_right h2 (by omega) 
  · intro h2
    exact Int.mul_pos (by omega) h2
theorem divn {n : Nat} (h : 1 ≤ n) (a b : Int) : Rat.divInt ((n : Int) * a) ((n : Int) * a + (n : Int) * b) = Rat.divInt a (a + b) := by
  rw [← Int.mul_add]
  exact Rat.divInt_mul_left (by omega)
theorem least_n {n : Nat} (h : 1 ≤ n) (k : Int) (L : List Int) : leastQ (lo2 n) wo2 k L = leastQ (lo2 1) wo2 k L := by
  unfold leastQ
  have r1 : ∀ c ∈ out wo2 k L, 0 ≤ c ∧ c < 2 := fil_r wo2_r
  have r2 : ∀ c ∈ (inn wo2 k L).filter (fun c => decide (c ∈ tied wo2 k)), 0 ≤ c ∧ c < 2 := fil_r (fil_r wo2_r)
  rw [wsum2 n r1, wsum2 n r2, divn h]
  by_cases c : 0 < wsum (lo2 1) (out wo2 k L)
  · rw [if_pos c, if_pos ((pos_n h _).mpr c)]
  · rw [if_neg c, if_neg fun z => c ((pos_n h _).mp z)]
theorem great_n {n : Nat} (h : 1 ≤ n) (k : Int) (L : List Int) : greatQ (lo2 n) wo2 k L = greatQ (lo2 1) wo2 k L := by
  unfold greatQ
  have r1 : ∀ c ∈ inn wo2 k L, 0 ≤ c ∧ c < 2 := fil_r wo2_r
  have r2 : ∀ c ∈ (out wo2 k L).filter (fun c => decide (c ∈ tied wo2 k)), 0 ≤ c ∧ c < 2 := fil_r (fil_r wo2_r)
  rw [wsum2 n r1, wsum2 n r2, divn h]
  by_cases c : 0 < wsum (lo2 1) (inn wo2 k L)
  · rw [if_pos c, if_pos ((pos_n h _).mpr c)]
  · rw [if_neg c, if_neg fun z => c ((pos_n h _).mp z)]
theorem end_n {n : Nat} (h : 1 ≤ n) (w : Str) (k : Int) {L : List Int} (H : List (List Rat)) (b : Rat) (hr : ∀ c ∈ L, 0 ≤ c ∧ c < 2) : endB (lo2 n) wo2 w k L H b = endB (lo2 1) wo2 w k L H b := by
  have h0 := natNe h
  unfold endB
  rw [hwt2 n H k wo2_r, hwt2 n H k hr, div2 h0, least_n h, great_n h]
  congr 1
  rw [Bool.eq_iff_iff]
  simp only [decide_eq_true_eq, ne_eq]
  constructor
  · intro h1 h2
    exact h1 (by rw [h2, Rat.mul_zero])
  · intro h1 h2
    rcases Rat.mul_eq_zero.mp h2 with h3 | h3
    · exact h0 h3
    · exact h1 h3
theorem a3_n {n : Nat} (h : 1 ≤ n) (w : Str) (s c : PV) : a3 w (some (lo2 n, wo2)) s c = a3 w (some (lo2 1, wo2)) s c := by
  unfold a3
  dsimp only
  congr 1
  have hl : (((lo2 n).length : Nat) : Int) = 2 := rfl
  have hl1 : (((lo2 1).length : Nat) : Int) = 2 := rfl
  have hh : ∀ c, isHab (lo2 n) wo2 c = isHab (lo2 1) wo2 c := fun c => rfl
  by_cases c1 : w = ("sure" : Str)
  · rw [if_pos c1, if_pos c1, hl, hl1]
    cases q : isFr s && areFr c 2 with
    | false => rfl
    | true =>
      rw [Bool.and_eq_true] at q
      obtain ⟨_, e, _⟩ := areFr_eq q.2
      have e2 : (rowOf c).length = 2 := by omega
      unfold sureB
      rw [worth_n h e2]
  · rw [if_neg c1, if_neg c1]
    by_cases c2 : w = ("no more" : Str)
    · rw [if_pos c2, if_pos c2, hh]
      cases q : isHab (lo2 1) wo2 c with
      | false => rfl
      | true =>
        have e := (isHab_ok q).2.len
        rw [ag_n h (show (rowsOf c).length = 2 from e)]
    · rw [if_neg c2, if_neg c2]
      unfold sharesB
      rw [hh, hl, hl1]
      cases q : shB wo2 s with
      | false => rfl
      | true =>
        unfold shB at q
        rw [Bool.and_eq_true] at q
        obtain ⟨_, e, _⟩ := areFr_eq q.1
        have e2 : (rowOf s).length = 2 := by
          have : ((wo2.length : Nat) : Int) = 2 := rfl
          omega
        congr 1
        by_cases c3 : w = ("given" : Str)
        · rw [if_pos c3, if_pos c3]
          cases q2 : isHab (lo2 1) wo2 c with
          | false => rfl
          | true => rw [gives_n h (show (rowsOf c).length = 2 from (isHab_ok q2).2.len) e2]
        · rw [if_neg c3, if_neg c3]
          cases q2 : isLot c 2 with
          | false => rfl
          | true => rw [bars_n h (isLot_eq q2).2.2]
theorem a5_n {n : Nat} (h : 1 ≤ n) (w : Str) (s l b c : PV) : a5 w (some (lo2 n, wo2)) s l b c = a5 w (some (lo2 1, wo2)) s l b c := by
  unfold a5
  dsimp only
  congr 1
  have hh : ∀ c, isHab (lo2 n) wo2 c = isHab (lo2 1) wo2 c := fun c => rfl
  rw [hh]
  show (btw s 0 _ && (isLot l 2 && isFr b) && isHab (lo2 1) wo2 c && _) = (btw s 0 _ && (isLot l 2 && isFr b) && isHab (lo2 1) wo2 c && _)
  cases q2 : isLot l 2 with
  | false => simp
  | true => rw [end_n h _ _ _ _ (isLot_eq q2).2.2]
end R
set_option maxHeartbeats 2000000
namespace R
open PySem PySem.Spec L2 TL
open PyProof.Rows hiding St
/-! P74: k70: the right claims with their certificates. -/
abbrev fq (a b : Int) : PV := .tup [.int a, .int b]
def lone : PV := .tup [fq 1 1, fq 0 1]
def both2 : PV := .tup [fq 1 2, fq 1 2]
abbrev cl (w : Str) (x : Str) (r : List PV) : PV := .tup (.str w :: .str x :: r)
def rt1 : List (Str × List PV × PV) := [(("sure" : Str), [fq 1 2], lone), (("no more" : Str), [fq 3 4], .tup [lone, both2])]
def rt2 : Str × List PV × PV := (("least" : Str), [.int 0, .tup [.int 0], fq 1 2], .tup [lone, lone])
def rt3 : Str × List PV × PV := (("most" : Str), [.int 0, .tup [.int 0], fq 1 1], .tup [lone, .tup [fq 0 1, fq 1 1]])
def rt4 : Str × List PV × PV := (("given" : Str), [.tup [fq 3 4, fq 1 4]], .tup [lone, both2])
def rt5 : Str × List PV × PV := (("not given" : Str), [.tup [fq 1 4, fq 3 4]], .tup [.int 0])
abbrev rtP (x : Str) (q : Str × List PV × PV) : PV := .tup [cl q.1 x q.2.1, q.2.2]
def rtA : List (Str × List PV × PV) := rt1 ++ [rt2] ++ [rt3] ++ [rt4]
def rtL : List (Str × List PV × PV) := rtA ++ [rt5]
theorem ret_atM {D : Wd} {t : Tm .e} {e : Env} {z : PV} {M M' : Mem} (h : ev D t e M = .ok z M') : ev (k := .b) D (.bone (.ret t)) e M = .rt z M' := by
  show sRet (ev D t) e M = _
  unfold sRet sE
  rw [h]
theorem set_end {M : Mem} {xs ys : List PV} : (M ++ [MO.lst xs]).set M.length (.lst ys) = M ++ [.lst ys] := by
  rw [List.set_append_right _ _ (Nat.le_refl _), Nat.sub_self]; rfl
theorem get_end {M : Mem} {o : MO} : (M ++ [o])[M.length]? = some o := by
  rw [List.getElem?_append_right (Nat.le_refl _), Nat.sub_self]; rfl
theorem app_at {D : Wd} {i : Nat} {t : Tm .e} {e : Env} {M : Mem} {xs : List PV} {y : PV} (hv : e[i]? = some (some (.ref M.length))) (h : ev D t e (M ++ [.lst xs]) = .ok y (M ++ [.lst xs])) (hl : xs.length ≤ 1000) :
    ev (k := .s) D (.ex (.bm .append (.var i) (.cons t .nil))) e (M ++ [.lst xs]) = .nx e (M ++ [.lst (xs ++ [y])]) := by
  have h0 : fVar i e = pure (.ref M.length) := by unfold fVar; rw [hv]
  have r0 := recv_ref (n := M.length) (M := M ++ [.lst xs]) (xs := xs) get_end
  have a0 := appW_ok (n := M.length) (M := M ++ [.lst xs]) (xs := xs) (y := y) get_end hl
  rw [set_end] at a0
  simp [ev, sSeq, sAsg, sRet, sRetN, sE, sIf, sNil, sExpr, startE, f2, fVar, fCons, fNil, fTup, fIf, fAnd, fOr, fNot, fChain, gNm, bind_eq, pure_eq, bad_eq, biV, bopV, copV, wdOf, asB_bl, lineOk0, lineOk1, lineOk2, lineOk3, lineOk4, optR_some, fMeth, bmT, bmV, hv, r0, h, a0]
theorem keeps_app (M : Mem) (L : Mem) : Keeps M (M ++ L) := ⟨by simp, fun i o hi ho => .inl (by rwa [List.getElem?_append_left hi] at ho)⟩
theorem ret_addR {D : Wd} {i : Nat} {t : Tm .e} {e : Env} {M : Mem} {xs ys : List PV} (hv : e[i]? = some (some (.ref M.length))) (h : ev D t e (M ++ [.lst xs]) = .ok (.lst ys) (M ++ [.lst xs])) (hl : xs.length + ys.length ≤ 1000) :
    ev (k := .b) D (.bone (.ret (.bin .add (.var i) t))) e (M ++ [.lst xs]) = .rt (.lst (xs ++ ys)) (M ++ [.lst xs]) := by
  refine ret_atM ?_
  have h0 : fVar i e = pure (.ref M.length) := by unfold fVar; rw [hv]
  have m0 := memL_ok' (n := M.length) (M := M ++ [.lst xs]) (xs := xs) get_end
  have h2 : xs.length + ys.length ≤ sizeLine := szl hl
  show (fVar i e >>= fun u => ev D t e >>= fun v => addW u v) (M ++ [.lst xs]) = _
  rw [h0, bind_eq, pure_eq]
  dsimp only
  rw [bind_eq, h]
  dsimp only
  have c0 : catW (.ref M.length) (.lst ys) (M ++ [.lst xs]) = .ok (xs ++ ys) (M ++ [.lst xs]) := by
    show (memL M.length >>= fun xs => (pure ys : RM (List PV)) >>= fun ys => if xs.length + ys.length ≤ sizeLine then pure (xs ++ ys) else RM.bad) (M ++ [.lst xs]) = _
    rw [bind_eq, m0]
    dsimp only
    rw [bind_eq, pure_eq]
    dsimp only
    rw [if_pos h2]
    rfl
  show (catW (.ref M.length) (.lst ys) >>= fun zs => (pure (PV.lst zs) : RM PV)) (M ++ [.lst xs]) = _
  rw [bind_eq, c0]
  rfl
theorem law_rights_ok {n : Nat} (hn : n ≤ 1000000) (M : Mem) : F__law_rights [.int (n : Nat)] M = .ok (.lst (rtL.map (rtP (lineK n)))) M := by
  have sw := strW_num (n := n) (Nat.lt_of_le_of_lt (by omega : n ≤ 10 ^ 7) (Nat.pow_lt_pow_right (by omega) (by omega)))
  have l1 : (numW n).length ≤ 7 := len_numW (by omega) (Nat.lt_of_lt_of_eq (by omega : n < 10000000) (by decide))
  have l2 : ((" " : Str)).length = 1 := by decide +kernel
  have l3 : ((": 0,1 1" : Str)).length = 7 := by decide +kernel
  have a1 := addV_str (a := numW n) (b := (" " : Str)) (by omega)
  have a2 := addV_str (a := numW n ++ (" " : Str)) (b := numW n) (by rw [len_app]; omega)
  have a3 := addV_str (a := numW n ++ (" " : Str) ++ numW n) (b := (": 0,1 1" : Str)) (by rw [len_app, len_app]; omega)
  have e0 : numW n ++ (" " : Str) ++ numW n ++ (": 0,1 1" : Str) = lineK n := by
    refine ext_tl ?_
    unfold lineK num2
    simp only [tl_append, List.append_assoc]
    congr 4
  rw [e0] at a3
  clear l1 e0
  generalize lineK n = x at *
  have b : ev (k := .b) D__law_rights b__law_rights (startE 5 [.int (n : Nat)]) M = .rt (.lst (rtL.map (rtP x))) (M ++ [.lst (rtA.map (rtP x))]) := by
    show sSeq _ (sSeq _ (sSeq _ (sSeq _ (sSeq _ (sSeq _ _))))) _ _ = _
    refine seq_nx (e' := [some (.int (n : Nat)), some (.str x), none, none, none]) (M' := M) ?_ ?_
    · simp [ev, sSeq, sAsg, sRet, sRetN, sE, sIf, sNil, sExpr, startE, f2, fVar, fCons, fNil, fTup, fIf, fAnd, fOr, fNot, fChain, gNm, bind_eq, pure_eq, bad_eq, biV, bopV, copV, wdOf, asB_bl, lineOk0, lineOk1, lineOk2, lineOk3, lineOk4, optR_some, sw, a1, a2, a3]
    clear sw a1 a2 a3
    refine seq_nx (e' := [some (.int (n : Nat)), some (.str x), none, some lone, some both2]) (M' := M) ?_ ?_
    · simp [ev, sSeq, sAsg, sRet, sRetN, sE, sIf, sNil, sExpr, startE, f2, fVar, fCons, fNil, fTup, fIf, fAnd, fOr, fNot, fChain, gNm, bind_eq, pure_eq, bad_eq, biV, bopV, copV, wdOf, asB_bl, lineOk0, lineOk1, lineOk2, lineOk3, lineOk4, optR_some, gSq, gsCons, gsNil, seqW_tup, lone, both2]
    refine seq_nx (e' := [some (.int (n : Nat)), some (.str x), some (.ref M.length), some lone, some both2]) (M' := M ++ [.lst (rt1.map (rtP x))]) ?_ ?_
    · simp [ev, sSeq, sAsg, sRet, sRetN, sE, sIf, sNil, sExpr, startE, f2, fVar, fCons, fNil, fTup, fIf, fAnd, fOr, fNot, fChain, gNm, bind_eq, pure_eq, bad_eq, biV, bopV, copV, wdOf, asB_bl, lineOk0, lineOk1, lineOk2, lineOk3, lineOk4, optR_some, fLstM, rt1, lineOk_of, lone]
    refine seq_nx (M' := M ++ [.lst ((rt1 ++ [rt2]).map (rtP x))]) (app_at (xs := rt1.map (rtP x)) (y := rtP x rt2) rfl ?_ (by rw [List.length_map]; decide)) ?_
    · simp [ev, sSeq, sAsg, sRet, sRetN, sE, sIf, sNil, sExpr, startE, f2, fVar, fCons, fNil, fTup, fIf, fAnd, fOr, fNot, fChain, gNm, bind_eq, pure_eq, bad_eq, biV, bopV, copV, wdOf, asB_bl, lineOk0, lineOk1, lineOk2, lineOk3, lineOk4, optR_some, lineOk_of, rt2]
    refine seq_nx (M' := M ++ [.lst ((rt1 ++ [rt2] ++ [rt3]).map (rtP x))]) (app_at (xs := (rt1 ++ [rt2]).map (rtP x)) (y := rtP x rt3) rfl ?_ (by rw [List.length_map]; decide)) ?_
    · simp [ev, sSeq, sAsg, sRet, sRetN, sE, sIf, sNil, sExpr, startE, f2, fVar, fCons, fNil, fTup, fIf, fAnd, fOr, fNot, fChain, gNm, bind_eq, pure_eq, bad_eq, biV, bopV, copV, wdOf, asB_bl, lineOk0, lineOk1, lineOk2, lineOk3, lineOk4, optR_some, lineOk_of, rt3]
    refine seq_nx (M' := M ++ [.lst (rtA.map (rtP x))]) (app_at (xs := (rt1 ++ [rt2] ++ [rt3]).map (rtP x)) (y := rtP x rt4) rfl ?_ (by rw [List.length_map]; decide)) ?_
    · simp [ev, sSeq, sAsg, sRet, sRetN, sE, sIf, sNil, sExpr, startE, f2, fVar, fCons, fNil, fTup, fIf, fAnd, fOr, fNot, fChain, gNm, bind_eq, pure_eq, bad_eq, biV, bopV, copV, wdOf, asB_bl, lineOk0, lineOk1, lineOk2, lineOk3, lineOk4, optR_some, lineOk_of, rt4]
    refine ret_addR (xs := rtA.map (rtP x)) (ys := [rtP x rt5]) rfl ?_ (by rw [List.length_map, List.length_singleton]; decide)
    simp [ev, sSeq, sAsg, sRet, sRetN, sE, sIf, sNil, sExpr, startE, f2, fVar, fCons, fNil, fTup, fIf, fAnd, fOr, fNot, fChain, gNm, bind_eq, pure_eq, bad_eq, biV, bopV, copV, wdOf, asB_bl, lineOk0, lineOk1, lineOk2, lineOk3, lineOk4, optR_some, fLst, lineOk_of, rt5]
  refine (mk_trim rfl b ?_ (keeps_app M _)).trans ?_
  · rfl
  · rw [List.take_left' rfl]
end R
set_option maxHeartbeats 2000000
namespace R
open PySem PySem.Spec L2 TL
open PyProof.Rows hiding St
/-! P75: k70: the bent claims. -/
abbrev cls (w x : Str) (r : List PV) : List PV := .str w :: .str x :: r
def bent1 (w x : Str) (r : List PV) : List PV := [.lst (cls w x r), .tup (cutP (cls w x r) none (some (-1))), .tup (cls w x r ++ cutP (cls w x r) (some (-1)) none), .tup (cls w x r ++ [.tup []]), .tup (cutP (cls w x r) (some 1) none), .tup [.tup (cls w x r)], .tup (cls w x r).reverse]
def titles : List PV := [.str ("sure" : Str), .str ("no more" : Str), .str ("least" : Str), .str ("most" : Str), .str ("given" : Str), .str ("not given" : Str), .str ("Sure" : Str), .str ("" : Str), .non, .int 5]
def swpT : List PV := [.lst [.str ("sure" : Str), .str ("no more" : Str)], .lst [.str ("no more" : Str), .str ("sure" : Str)]]
def inT (w : Str) (p : PV) : Bool := (dataOf (.lst [p, .str w])).any fun d => ((datasOf swpT).getD []).any fun z => PyData.eqv z d
def eqT (w : Str) (p : PV) : Bool := (eqB p (.str w)).getD true
def useT (w : Str) (p : PV) : Bool := !inT w p && !eqT w p
def words6 : List Str := [("sure" : Str), ("no more" : Str), ("least" : Str), ("most" : Str), ("given" : Str), ("not given" : Str)]
theorem in_title : ∀ w ∈ words6, ∀ p ∈ titles, ninX (.lst [p, .str w]) (.lst swpT) = pure (.bl (!inT w p)) ∧ neX p (.str w) = pure (.bl (!eqT w p)) := by
  have h1 : ∀ w ∈ words6, ∀ p ∈ titles, (flatP (.lst [p, .str w]) = false) ∧ (match dataOf (.lst [p, .str w]), datasOf swpT with | some d, some ds => (SeqAt.shaped d && SeqAt.shaped (.list ds)) | _, _ => false) = true ∧ (eqB p (.str w)).isSome = true := by decide +kernel
  intro w hw p hp
  obtain ⟨a1, a2, a3⟩ := h1 w hw p hp
  refine ⟨?_, ?_⟩
  · show (inQ (.lst [p, .str w]) swpT >>= fun b => (pure (.bl (!b)) : RM PV)) = _
    unfold inQ
    rw [a1, Bool.false_and]
    unfold inT
    rw [if_neg (by simp)]
    cases q1 : dataOf (.lst [p, .str w]) with
    | none => rw [q1] at a2; simp at a2
    | some d =>
      cases q2 : datasOf swpT with
      | none => rw [q1, q2] at a2; simp at a2
      | some ds =>
        rw [q1, q2] at a2
        dsimp only at a2 ⊢
        rw [if_pos a2]
        rfl
  · obtain ⟨b, hb⟩ := Option.isSome_iff_exists.mp a3
    rw [neX_of hb]
    unfold eqT
    rw [hb]
    rfl
def tits (w x : Str) (r : List PV) (l : List PV) : List PV := (l.filter (useT w)).map fun p => .tup (p :: .str x :: r)
def lines (x : Str) : List PV := [.str (x ++ (" " : Str)), .str ((" " : Str) ++ x), .tup [.str x], .str (x ++ ("\n" : Str)), .str (revS x), .str (x ++ ("," : Str)), .str (Txt.replace x (":" : Str) ("" : Str))] ++ [.str (("0 " : Str) ++ x)]
def spots (w x : Str) (r : List PV) (s : Int) (o : PV) : PV := .tup (cutP (cls w x r) none (some s) ++ [o] ++ cutP (cls w x r) (some (s + 1)) none)
def bentV (w x : Str) (r : List PV) (s : Int) : List PV := (bent1 w x r ++ tits w x r titles) ++ (lines x).map (fun y => .tup (.str w :: y :: r)) ++ odds.map (spots w x r s)
theorem asI_int (i : Int) : asI (.int i) = pure i := rfl
theorem slc_tup (xs : List PV) (i j : Option Int) : sliceW (.tup xs) i j = pure (.tup (cutP xs i j)) := rfl
theorem cutP_len {α : Type} (xs : List α) (i j : Option Int) : (cutP xs i j).length ≤ xs.length := by
  unfold cutP
  rw [List.length_take, List.length_drop]
  omega
theorem addW_tup {xs ys : List PV} (h : xs.length + ys.length ≤ 1000) : addW (.tup xs) (.tup ys) = pure (.tup (xs ++ ys)) := by
  show (if xs.length + ys.length ≤ sizeLine then pure (PV.tup (xs ++ ys)) else RM.bad) = _
  rw [if_pos (szl h)]
theorem tits_snoc {w x : Str} {r : List PV} {l : List PV} {p : PV} : tits w x r (l ++ [p]) = tits w x r l ++ (if useT w p then [.tup (p :: .str x :: r)] else []) := by
  unfold tits
  rw [List.filter_append, List.map_append]
  congr 1
  cases h : useT w p <;> simp [h]
theorem tits_len {w x : Str} {r l : List PV} : (tits w x r l).length ≤ l.length := by
  unfold tits
  rw [List.length_map]
  exact List.length_filter_le _ _
def tNin : Tm .e := .cmp .nin (.lst false (.cons (.var 3) (.cons (.idx (.var 0) (.int 0)) .nil))) (.lst false (.cons (.lst false (.cons (.str ("sure" : Str)) (.cons (.str ("no more" : Str)) .nil))) (.cons (.lst false (.cons (.str ("no more" : Str)) (.cons (.str ("sure" : Str)) .nil))) .nil)))
def tNe : Tm .e := .cmp .ne (.var 3) (.idx (.var 0) (.int 0))
theorem bent_ok {w x : Str} {r : List PV} (hw : w ∈ words6) (hx : x.length ≤ 600) (hr : r.length = 1 ∨ r.length = 3) (hd : ∀ y ∈ r, Da y) (s : Int) (M : Mem) :
    F__law_bent [cl w x r, .int s] M = .ok (.lst (bentV w x r s)) M := by
  have hr4 : r.length ≤ 3 := by omega
  have l1 : ((" " : Str)).length = 1 := by decide +kernel
  have l2 : (("\n" : Str)).length = 1 := by decide +kernel
  have l3 : (("," : Str)).length = 1 := by decide +kernel
  have l4 : (("0 " : Str)).length = 2 := by decide +kernel
  have i0 : idxW (cl w x r) (.int 0) = pure (.str w) := idx_tup (by omega) rfl
  have i1 : idxW (cl w x r) (.int 1) = pure (.str x) := idx_tup (by omega) rfl
  have c1 : cutP (cls w x r) (some 1) none = .str x :: r := by
    unfold cutP
    simp [HT.sIx]
  have c2 : cutP (cls w x r) (some 2) none = r := by
    unfold cutP
    simp [HT.sIx]
  have b : ev (k := .b) D__law_bent b__law_bent (startE 8 [cl w x r, .int s]) M = .rt (.lst (bentV w x r s)) (M ++ [.lst ((bent1 w x r ++ tits w x r titles) ++ (lines x).map (fun y => .tup (.str w :: y :: r)))]) := by
    show sSeq _ (sSeq _ (sSeq _ (sSeq _ (sSeq _ _)))) _ _ = _
    refine seq_nx (e' := [some (cl w x r), some (.int s), some (.ref M.length), none, none, none, none, none]) (M' := M ++ [.lst (bent1 w x r)]) ?_ ?_
    · have q1 : addW (cl w x r) (.tup (cutP (cls w x r) (some (-1)) none)) = pure (.tup (cls w x r ++ cutP (cls w x r) (some (-1)) none)) := addW_tup (by have := cutP_len (cls w x r) (some (-1)) none; simp at this ⊢; omega)
      have q2 : addW (cl w x r) (.tup [.tup []]) = pure (.tup (cls w x r ++ [.tup []])) := addW_tup (by simp; omega)
      have q3 : listW [cl w x r] = pure (.lst (cls w x r)) := rfl
      have q4 : backW (cl w x r) = pure (.tup (cls w x r).reverse) := rfl
      have q5 : ∀ i j, sliceW (cl w x r) i j = pure (.tup (cutP (cls w x r) i j)) := fun i j => rfl
      unfold bent1
      generalize cutP (cls w x r) = cu at *
      clear i0 i1
      simp [ev, sSeq, sAsg, sRet, sRetN, sE, sIf, sNil, sExpr, startE, f2, fVar, fCons, fNil, fTup, fIf, fAnd, fOr, fNot, fChain, gNm, bind_eq, pure_eq, bad_eq, biV, bopV, copV, wdOf, asB_bl, lineOk0, lineOk1, lineOk2, lineOk3, lineOk4, optR_some, fLstM, fSlice, fNone, fSome, asI_int, negW_int, lineOk_of, q1, q2, q3, q4, q5]
    refine seq_for (w := ⟨titles, []⟩) (M0 := M ++ [.lst (bent1 w x r)]) (fun i e M' => M' = M ++ [.lst (bent1 w x r ++ tits w x r (titles.take i))] ∧ ∃ z, e = [some (cl w x r), some (.int s), some (.ref M.length), z, none, none, none, none]) ?_ ⟨by simp [tits], none, rfl⟩ ?_ (fun _ _ _ => Wk.holds0) ?_
    · simp [ev, sSeq, sAsg, sRet, sRetN, sE, sIf, sNil, sExpr, startE, f2, fVar, fCons, fNil, fTup, fIf, fAnd, fOr, fNot, fChain, gNm, bind_eq, pure_eq, bad_eq, biV, bopV, copV, wdOf, asB_bl, lineOk0, lineOk1, lineOk2, lineOk3, lineOk4, optR_some, fLst, lineOk_of, wkOf_lst, titles]
    · intro i p e M' hp ⟨hM, z, he⟩
      subst hM he
      obtain ⟨t1, t2⟩ := in_title w hw p (List.mem_of_getElem? hp)
      refine ⟨Wk.holds0, [some (cl w x r), some (.int s), some (.ref M.length), some p, none, none, none, none], _, [some (cl w x r), some (.int s), some (.ref M.length), some p, none, none, none, none], M ++ [.lst (bent1 w x r ++ tits w x r (titles.take (i + 1)))], rfl, ?_, rfl, some p, rfl⟩
      have tk : titles.take (i + 1) = titles.take i ++ [p] := by rw [List.take_add_one, hp]; rfl
      rw [tk, tits_snoc]
      have hl : (bent1 w x r ++ tits w x r (titles.take i)).length ≤ 1000 := by
        have := tits_len (w := w) (x := x) (r := r) (l := titles.take i)
        have h2 : (titles.take i).length ≤ 10 := by rw [List.length_take]; exact Nat.min_le_right _ _
        simp [bent1]; omega
      have ad := addW_tup (xs := [p]) (ys := .str x :: r) (by simp; omega)
      have sl : sliceW (cl w x r) (some 1) none = pure (.tup (.str x :: r)) := by rw [slc_tup, c1]
      have ap := app_at (D := D__law_bent) (i := 2) (t := .bin .add (.tup (.cons (.var 3) .nil)) (.slc (.var 0) (.osome (.int 1)) .onone)) (e := [some (cl w x r), some (.int s), some (.ref M.length), some p, none, none, none, none]) (M := M) (xs := bent1 w x r ++ tits w x r (titles.take i)) (y := .tup (p :: .str x :: r)) rfl (by simp [ev, sSeq, sAsg, sRet, sRetN, sE, sIf, sNil, sExpr, startE, f2, fVar, fCons, fNil, fTup, fIf, fAnd, fOr, fNot, fChain, gNm, bind_eq, pure_eq, bad_eq, biV, bopV, copV, wdOf, asB_bl, lineOk0, lineOk1, lineOk2, lineOk3, lineOk4, optR_some, fSlice, fNone, fSome, asI_int, sl, ad]) hl
      have sw2 : ∀ M1, ev D__law_bent (.lst false (.cons (.lst false (.cons (.str ("sure" : Str)) (.cons (.str ("no more" : Str)) .nil))) (.cons (.lst false (.cons (.str ("no more" : Str)) (.cons (.str ("sure" : Str)) .nil))) .nil))) [some (cl w x r), some (.int s), some (.ref M.length), some p, none, none, none, none] M1 = .ok (.lst swpT) M1 := by
        intro M1
        simp [ev, sSeq, sAsg, sRet, sRetN, sE, sIf, sNil, sExpr, startE, f2, fVar, fCons, fNil, fTup, fIf, fAnd, fOr, fNot, fChain, gNm, bind_eq, pure_eq, bad_eq, biV, bopV, copV, wdOf, asB_bl, lineOk0, lineOk1, lineOk2, lineOk3, lineOk4, optR_some, fLst, lineOk_of, swpT]
      have sw1 : ∀ M1, ev D__law_bent (.lst false (.cons (.var 3) (.cons (.idx (.var 0) (.int 0)) .nil))) [some (cl w x r), some (.int s), some (.ref M.length), some p, none, none, none, none] M1 = .ok (.lst [p, .str w]) M1 := by
        intro M1
        simp [ev, sSeq, sAsg, sRet, sRetN, sE, sIf, sNil, sExpr, startE, f2, fVar, fCons, fNil, fTup, fIf, fAnd, fOr, fNot, fChain, gNm, bind_eq, pure_eq, bad_eq, biV, bopV, copV, wdOf, asB_bl, lineOk0, lineOk1, lineOk2, lineOk3, lineOk4, optR_some, fLst, lineOk_of, i0]
      have tn : ∀ M1, ev D__law_bent (.and_ tNin (.and1 tNe)) [some (cl w x r), some (.int s), some (.ref M.length), some p, none, none, none, none] M1 = .ok (.bl (useT w p)) M1 := by
        intro M1
        have n1 : (ev D__law_bent tNin [some (cl w x r), some (.int s), some (.ref M.length), some p, none, none, none, none] >>= asB) M1 = .ok (!inT w p) M1 := by
          have n0 : ev D__law_bent tNin [some (cl w x r), some (.int s), some (.ref M.length), some p, none, none, none, none] M1 = .ok (.bl (!inT w p)) M1 := by
            show (ev (k := .e) D__law_bent _ _ >>= fun u => ev (k := .e) D__law_bent _ _ >>= fun v => ninX u v) M1 = _
            rw [bind_eq, sw1]
            dsimp only
            rw [bind_eq, sw2]
            dsimp only
            rw [t1]
            rfl
          rw [bind_eq, n0]
          rfl
        have n2 : ev D__law_bent tNe [some (cl w x r), some (.int s), some (.ref M.length), some p, none, none, none, none] M1 = .ok (.bl (!eqT w p)) M1 := by
          simp [ev, sSeq, sAsg, sRet, sRetN, sE, sIf, sNil, sExpr, startE, f2, fVar, fCons, fNil, fTup, fIf, fAnd, fOr, fNot, fChain, gNm, bind_eq, pure_eq, bad_eq, biV, bopV, copV, wdOf, asB_bl, lineOk0, lineOk1, lineOk2, lineOk3, lineOk4, optR_some, tNe, i0, t2]
        show fAnd (ev D__law_bent tNin) (ev D__law_bent tNe) _ M1 = _
        unfold fAnd useT
        rw [bind_eq, n1]
        cases inT w p with
        | true => rfl
        | false => simpa using n2
      generalize hE : ([some (cl w x r), some (.int s), some (.ref M.length), some p, none, none, none, none] : Env) = E at *
      have tb : ∀ M1, (ev D__law_bent (.and_ tNin (.and1 tNe)) E >>= asB) M1 = .ok (useT w p) M1 := fun M1 => by rw [bind_eq, tn]; rfl
      show sIf (ev D__law_bent (.and_ tNin (.and1 tNe))) (ev (k := .b) D__law_bent (.bone _)) sNil E _ = _
      unfold sIf sE
      dsimp only
      rw [tb]
      dsimp only
      cases useT w p with
      | false => simp [sNil]
      | true =>
        simp only [if_true]
        exact ap
    intro e M' ⟨hM, z, he⟩
    subst hM he
    have tk : titles.take (⟨titles, []⟩ : Wk).xs.length = titles := List.take_length
    rw [tk]
    generalize hB : bent1 w x r ++ tits w x r titles = B at *
    have hBl : B.length ≤ 100 := by
      rw [← hB]
      have := tits_len (w := w) (x := x) (r := r) (l := titles)
      have h2 : titles.length = 10 := rfl
      simp [bent1]; omega
    refine seq_nx (e' := [some (cl w x r), some (.int s), some (.ref M.length), z, some (.str x), none, none, none]) (M' := M ++ [.lst B]) ?_ ?_
    · simp [ev, sSeq, sAsg, sRet, sRetN, sE, sIf, sNil, sExpr, startE, f2, fVar, fCons, fNil, fTup, fIf, fAnd, fOr, fNot, fChain, gNm, bind_eq, pure_eq, bad_eq, biV, bopV, copV, wdOf, asB_bl, lineOk0, lineOk1, lineOk2, lineOk3, lineOk4, optR_some, i1]
    refine seq_nx (e' := [some (cl w x r), some (.int s), some (.ref M.length), z, some (.str x), some (.lst ((lines x).take 7)), none, none]) (M' := M ++ [.lst B]) ?_ ?_
    · have q1 := addV_str (a := x) (b := (" " : Str)) (by omega)
      have q2 := addV_str (a := (" " : Str)) (b := x) (by omega)
      have q3 := addV_str (a := x) (b := ("\n" : Str)) (by omega)
      have q4 := addV_str (a := x) (b := ("," : Str)) (by omega)
      have q5 : backW (.str x) = pure (.str (revS x)) := if_pos (szl (by omega))
      have l0 : (("" : Str)).length = 0 := by decide +kernel
      have q6 : replW (":" : Str) ("" : Str) (.str x) = pure (.str (Txt.replace x (":" : Str) ("" : Str))) := if_pos (by unfold replOk; rw [l0]; simp; omega)
      clear i0 i1 c1 c2
      simp [ev, sSeq, sAsg, sRet, sRetN, sE, sIf, sNil, sExpr, startE, f2, fVar, fCons, fNil, fTup, fIf, fAnd, fOr, fNot, fChain, gNm, bind_eq, pure_eq, bad_eq, biV, bopV, copV, wdOf, asB_bl, lineOk0, lineOk1, lineOk2, lineOk3, lineOk4, optR_some, fLst, fApp, lineOk_of, q1, q2, q3, q4, q5, q6, lines]
    refine seq_for (w := ⟨lines x, []⟩) (M0 := M ++ [.lst B]) (fun i e M' => M' = M ++ [.lst (B ++ ((lines x).take i).map (fun y => .tup (.str w :: y :: r)))] ∧ ∃ z2, e = [some (cl w x r), some (.int s), some (.ref M.length), z, some (.str x), some (.lst ((lines x).take 7)), z2, none]) ?_ ⟨by simp, none, rfl⟩ ?_ (fun _ _ _ => Wk.holds0) ?_
    · have q1 := addV_str (a := ("0 " : Str)) (b := x) (by omega)
      have q2 := addW_lst (xs := (lines x).take 7) (ys := [.str (("0 " : Str) ++ x)]) (by simp [lines])
      have q3 : (lines x).take 7 ++ [.str (("0 " : Str) ++ x)] = lines x := rfl
      rw [q3] at q2
      generalize (lines x).take 7 = l7 at *
      generalize lines x = l8 at *
      simp [ev, sSeq, sAsg, sRet, sRetN, sE, sIf, sNil, sExpr, startE, f2, fVar, fCons, fNil, fTup, fIf, fAnd, fOr, fNot, fChain, gNm, bind_eq, pure_eq, bad_eq, biV, bopV, copV, wdOf, asB_bl, lineOk0, lineOk1, lineOk2, lineOk3, lineOk4, optR_some, fLst, lineOk_of, wkOf_lst, q1, q2]
    · intro i y e M' hy ⟨hM, z2, he⟩
      subst hM he
      have hl : (B ++ ((lines x).take i).map (fun y => PV.tup (.str w :: y :: r))).length ≤ 1000 := by
        have : ((lines x).take i).length ≤ 8 := by rw [List.length_take]; exact Nat.min_le_right _ _
        simp at this ⊢; omega
      refine ⟨Wk.holds0, [some (cl w x r), some (.int s), some (.ref M.length), z, some (.str x), some (.lst ((lines x).take 7)), some y, none], _, [some (cl w x r), some (.int s), some (.ref M.length), z, some (.str x), some (.lst ((lines x).take 7)), some y, none], M ++ [.lst (B ++ ((lines x).take (i + 1)).map (fun y => .tup (.str w :: y :: r)))], rfl, ?_, rfl, some y, rfl⟩
      have ad := addW_tup (xs := [.str w, y]) (ys := r) (by simp; omega)
      have sl : sliceW (cl w x r) (some 2) none = pure (.tup r) := by rw [slc_tup, c2]
      have tk : (lines x).take (i + 1) = (lines x).take i ++ [y] := by rw [List.take_add_one, hy]; rfl
      rw [tk, List.map_append, ← List.append_assoc]
      refine app_at rfl ?_ hl
      clear hl tk
      generalize (lines x).take 7 = l7 at *
      simp [ev, sSeq, sAsg, sRet, sRetN, sE, sIf, sNil, sExpr, startE, f2, fVar, fCons, fNil, fTup, fIf, fAnd, fOr, fNot, fChain, gNm, bind_eq, pure_eq, bad_eq, biV, bopV, copV, wdOf, asB_bl, lineOk0, lineOk1, lineOk2, lineOk3, lineOk4, optR_some, fSlice, fNone, fSome, asI_int, sl, ad, i0]
    intro e M' ⟨hM, z2, he⟩
    subst hM he
    have tk2 : (lines x).take (⟨lines x, []⟩ : Wk).xs.length = lines x := List.take_length
    rw [tk2]
    unfold bentV
    rw [hB]
    have hl2 : (B ++ (lines x).map (fun y => PV.tup (.str w :: y :: r))).length + (odds.map (spots w x r s)).length ≤ 1000 := by
      have : odds.length = 31 := rfl
      have h8 : (lines x).length = 8 := rfl
      simp [this, h8]; omega
    refine ret_addR (ys := odds.map (spots w x r s)) rfl ?_ hl2
    clear hl2
    generalize B ++ (lines x).map (fun y => PV.tup (.str w :: y :: r)) = B2 at *
    generalize (lines x).take 7 = l7 at *
    have ho : ∀ M1, F__law_odds [] M1 = .ok (.lst odds) M1 := law_odds_ok
    refine lc_mapP (xs := odds) (fi := ev (k := .i) D__law_bent (.seq (.call 0 .nil))) (vs := [7]) (i := 7) (f := ev D__law_bent (.bin .add (.bin .add (.slc (.var 0) .onone (.osome (.var 1))) (.tup (.cons (.var 7) .nil))) (.slc (.var 0) (.osome (.bin .add (.var 1) (.int 1))) .onone))) (e := [some (cl w x r), some (.int s), some (.ref M.length), z, some (.str x), some (.lst l7), z2, none]) (M := M ++ [.lst B2]) (spots w x r s) ?_ (szl (by decide)) ?_
    · simp [ev, sSeq, sAsg, sRet, sRetN, sE, sIf, sNil, sExpr, startE, f2, fVar, fCons, fNil, fTup, fIf, fAnd, fOr, fNot, fChain, gNm, bind_eq, pure_eq, bad_eq, biV, bopV, copV, wdOf, asB_bl, lineOk0, lineOk1, lineOk2, lineOk3, lineOk4, optR_some, D__law_bent, L__law_bent, ho, wkOf_lst]
    · intro o ho2 M1
      have hod : Da o := by
        have : (∀ o ∈ odds, noRef 0 o = true) := by decide +kernel
        exact this o ho2
      refine ⟨?_, ?_⟩
      · have k1 := cutP_len (cls w x r) none (some s)
        have k2 := cutP_len (cls w x r) (some (s + 1)) none
        have a1 := addW_tup (xs := cutP (cls w x r) none (some s)) (ys := [o]) (by simp at k1 ⊢; omega)
        have a2 := addW_tup (xs := cutP (cls w x r) none (some s) ++ [o]) (ys := cutP (cls w x r) (some (s + 1)) none) (by simp at k1 k2 ⊢; omega)
        have q5 : ∀ i j, sliceW (cl w x r) i j = pure (.tup (cutP (cls w x r) i j)) := fun i j => rfl
        unfold spots
        clear k1 k2
        generalize cutP (cls w x r) = cu at *
        simp [ev, sSeq, sAsg, sRet, sRetN, sE, sIf, sNil, sExpr, startE, f2, fVar, fCons, fNil, fTup, fIf, fAnd, fOr, fNot, fChain, gNm, bind_eq, pure_eq, bad_eq, biV, bopV, copV, wdOf, asB_bl, lineOk0, lineOk1, lineOk2, lineOk3, lineOk4, optR_some, wipeE, fSlice, fNone, fSome, asI_int, addW_int, q5, a1, a2]
      · refine da_tup fun y hy => ?_
        have hc : ∀ i j, ∀ y ∈ cutP (cls w x r) i j, Da y := by
          intro i j y hy
          have h1 : y ∈ cls w x r := List.mem_of_mem_drop (List.mem_of_mem_take hy)
          simp only [cls, List.mem_cons] at h1
          rcases h1 with rfl | rfl | h1
          · rfl
          · rfl
          · exact hd y h1
        simp only [List.mem_append, List.mem_singleton] at hy
        rcases hy with (hy | rfl) | hy
        · exact hc _ _ y hy
        · exact hod
        · exact hc _ _ y hy
  have hcl : ∀ y ∈ cls w x r, Da y := by
    intro y h1
    simp only [cls, List.mem_cons] at h1
    rcases h1 with rfl | rfl | h1
    · rfl
    · rfl
    · exact hd y h1
  have hcu : ∀ i j, ∀ y ∈ cutP (cls w x r) i j, Da y := fun i j y hy => hcl y (List.mem_of_mem_drop (List.mem_of_mem_take hy))
  have hda : Da (.lst (bentV w x r s)) := by
    refine da_lst fun y hy => ?_
    simp only [bentV, bent1, List.mem_append, List.mem_cons, List.not_mem_nil, or_false] at hy
    rcases hy with ((h | h) | h) | h
    · rcases h with rfl | rfl | rfl | rfl | rfl | rfl | rfl
      · exact da_lst hcl
      · exact da_tup (hcu _ _)
      · exact da_tup fun y hy => (List.mem_append.mp hy).elim (hcl y) (hcu _ _ y)
      · exact da_tup fun y hy => (List.mem_append.mp hy).elim (hcl y) fun h => by rw [List.mem_singleton.mp h]; rfl
      · exact da_tup (hcu _ _)
      · exact da_tup fun y hy => by rw [List.mem_singleton.mp hy]; exact da_tup hcl
      · exact da_tup fun y hy => hcl y (List.mem_reverse.mp hy)
    · obtain ⟨p, hp, rfl⟩ := List.mem_map.mp h
      have hp2 : ∀ p ∈ titles, noRef 0 p = true := by decide +kernel
      refine da_tup fun y hy => ?_
      rcases List.mem_cons.mp hy with rfl | hy
      · exact hp2 _ (List.mem_filter.mp hp).1
      · rcases List.mem_cons.mp hy with rfl | hy
        · rfl
        · exact hd y hy
    · obtain ⟨p, hp, rfl⟩ := List.mem_map.mp h
      have hp2 : ∀ p ∈ lines x, Da p := by
        intro p hp
        simp only [lines, List.mem_append, List.mem_cons, List.not_mem_nil, or_false] at hp
        rcases hp with (rfl | rfl | rfl | rfl | rfl | rfl | rfl) | rfl <;> rfl
      refine da_tup fun y hy => ?_
      rcases List.mem_cons.mp hy with rfl | hy
      · rfl
      · rcases List.mem_cons.mp hy with rfl | hy
        · exact hp2 _ hp
        · exact hd y hy
    · obtain ⟨o, ho, rfl⟩ := List.mem_map.mp h
      have ho2 : ∀ o ∈ odds, noRef 0 o = true := by decide +kernel
      refine da_tup fun y hy => ?_
      simp only [List.mem_append, List.mem_singleton] at hy
      rcases hy with (hy | rfl) | hy
      · exact hcu _ _ y hy
      · exact ho2 _ ho
      · exact hcu _ _ y hy
  refine (mk_trim rfl b hda (keeps_app M _)).trans ?_
  rw [List.take_left' rfl]
end R
set_option maxHeartbeats 2000000
namespace R
open PySem PySem.Spec L2 TL
open PyProof.Rows hiding St
/-! P76: k70: what the checker tells of the claims. -/
def accT (o : Option (List Int × List (List Int))) (p : PV) (r : List PV) (c : PV) : Bool := match p, r with
  | .str w, [s] => a3 w o s c
  | .str w, [s, l, b] => a5 w o s l b c
  | _, _ => false
theorem accB_cl (p t : PV) (r : List PV) (c : PV) : accB (.tup (p :: t :: r)) c = accT (tIn t) p r c := by
  match r with
  | [] => cases p <;> rfl
  | [s] => cases p <;> rfl
  | [s, l] => cases p <;> rfl
  | [s, l, b] => cases p <;> rfl
  | s :: l :: b :: d :: e => cases p <;> rfl
theorem accT_n {n : Nat} (h : 1 ≤ n) (p : PV) (r : List PV) (c : PV) : accT (some (lo2 n, wo2)) p r c = accT (some (lo2 1, wo2)) p r c := by
  unfold accT
  split
  · exact a3_n h _ _ _
  · exact a5_n h _ _ _ _ _
  · rfl
theorem accT_none (p : PV) (r : List PV) (c : PV) : accT none p r c = false := by
  unfold accT
  split
  · simp [a3]
  · simp [a5]
  · rfl
abbrev O2 : Option (List Int × List (List Int)) := some (lo2 1, wo2)
def somes (ps : List PV) : List PV := [.lst ps, .tup (ps ++ [.non]), .tup [.tup ps, .non], .lst [.tup ps], .tup (cutP ps none (some (-1)) ++ [.tup [.non]]), .tup (cutP ps (some 1) none)]
def tupsOf : PV → List PV
  | .tup xs => xs
  | _ => []
theorem d_right : ∀ q ∈ rtL, accT O2 (.str q.1) q.2.1 q.2.2 = true := by decide +kernel
theorem d_title : ∀ q ∈ rtL, ∀ p ∈ titles, useT q.1 p = true → accT O2 p q.2.1 q.2.2 = false := by decide +kernel
theorem d_text : ∀ o ∈ odds, (tIn o).isNone = true := by decide +kernel
theorem d_spot : ∀ q ∈ rtL, ∀ j ∈ List.range q.2.1.length, ∀ o ∈ odds, accT O2 (.str q.1) (q.2.1.set j o) q.2.2 = false := by decide +kernel
theorem d_odd : ∀ q ∈ rtL, ∀ o ∈ odds ++ somes (tupsOf q.2.2), accT O2 (.str q.1) q.2.1 o = false := by decide +kernel
theorem d_odd2 : ∀ q ∈ rtL, ∀ o ∈ odds ++ somes (tupsOf q.2.2), accB o q.2.2 = false := by decide +kernel
def flatOk : PV → Bool
  | .str z => decide (z.length ≤ 640)
  | .tup ys => decide (ys.length ≤ 1000)
  | _ => true
def elB (y : PV) : Bool := pl 100 y && flatOk y
def smB (v : PV) : Bool := pl 100 v && (match v with
  | .tup xs => decide (xs.length ≤ 1000) && xs.all flatOk
  | _ => true)
theorem smB_tup {xs : List PV} (h : ∀ y ∈ xs, elB y = true) (hl : xs.length ≤ 1000) : smB (.tup xs) = true := by
  have h1 : pl 100 (.tup xs) = true := by
    show pls 100 xs = true
    refine pls_iff.mpr fun y hy => ?_
    have := h y hy
    unfold elB at this
    rw [Bool.and_eq_true] at this
    exact this.1
  unfold smB
  rw [h1]
  simp only [Bool.true_and, Bool.and_eq_true, decide_eq_true_eq]
  refine ⟨hl, List.all_eq_true.mpr fun y hy => ?_⟩
  have := h y hy
  unfold elB at this
  rw [Bool.and_eq_true] at this
  exact this.2
theorem elB_tup {xs : List PV} (h : ∀ y ∈ xs, pl 100 y = true) (hl : xs.length ≤ 1000) : elB (.tup xs) = true := by
  unfold elB
  rw [Bool.and_eq_true]
  exact ⟨pls_iff.mpr h, decide_eq_true hl⟩
theorem acc_sm {v c : PV} (hv : smB v = true) (hc : smB c = true) (M : Mem) : F_accepts [v, c] M = .ok (.bl (accB v c)) M := by
  unfold smB at hv hc
  rw [Bool.and_eq_true] at hv hc
  refine accepts_any hv.1 hc.1 ?_ ?_ ?_ M (by omega)
  · intro xs t e ht
    subst e
    have := hv.2
    simp only [Bool.and_eq_true, decide_eq_true_eq] at this
    have := List.all_eq_true.mp this.2 _ (List.mem_of_getElem? ht)
    exact of_decide_eq_true this
  · intro xs ys e ht
    subst e
    have := hv.2
    simp only [Bool.and_eq_true, decide_eq_true_eq] at this
    have := List.all_eq_true.mp this.2 _ (List.mem_of_getElem? ht)
    exact of_decide_eq_true this
  · intro xs e
    subst e
    have := hc.2
    simp only [Bool.and_eq_true, decide_eq_true_eq] at this
    exact this.1
end R
set_option maxHeartbeats 2000000
namespace R
open PySem PySem.Spec L2 TL
open PyProof.Rows hiding St
/-! P77: k70: bent claims are none. -/
theorem el_line {n : Nat} (hn : n ≤ 1000000) : PyData.strOk (lineK n) = true ∧ (lineK n).length ≤ 40 := by
  have l1 : (numW n).length ≤ 7 := len_numW (by omega) (Nat.lt_of_lt_of_eq (by omega : n < 10000000) (by decide))
  have l2 : ((" " : Str)).length = 1 := by decide +kernel
  have l3 : ((": " : Str)).length = 2 := by decide +kernel
  have l4 : (("0,1 1" : Str)).length = 5 := by decide +kernel
  refine ⟨?_, ?_⟩
  · refine strOk_iff.mpr fun c hc => ?_
    unfold lineK num2 at hc
    simp only [tl_append, List.mem_append] at hc
    have h1 := strOk_iff.mp (strOk_numW n)
    have h2 := strOk_iff.mp (show PyData.strOk (" " : Str) = true by decide +kernel)
    have h3 := strOk_iff.mp (show PyData.strOk (": " : Str) = true by decide +kernel)
    have h4 := strOk_iff.mp (show PyData.strOk ("0,1 1" : Str) = true by decide +kernel)
    rcases hc with (((hc | hc) | hc) | hc) | hc
    · exact h1 c hc
    · exact h2 c hc
    · exact h1 c hc
    · exact h3 c hc
    · exact h4 c hc
  · unfold lineK num2
    simp only [len_app]
    omega
theorem rtL_ok : ∀ q ∈ rtL, q.1 ∈ words6 ∧ (q.2.1.length = 1 ∨ q.2.1.length = 3) ∧ (∀ y ∈ q.2.1, elB y = true ∧ noRef 0 y = true) ∧ elB (.str q.1) = true ∧ smB q.2.2 = true ∧ (∀ o ∈ odds ++ somes (tupsOf q.2.2), smB o = true) ∧ noRef 0 q.2.2 = true := by decide +kernel
theorem odds_el : ∀ o ∈ odds, elB o = true := by decide +kernel
theorem titles_el : ∀ o ∈ titles, elB o = true := by decide +kernel
theorem strOk_app {a b : Str} (ha : PyData.strOk a = true) (hb : PyData.strOk b = true) : PyData.strOk (a ++ b) = true := strOk_iff.mpr fun c hc => by
  rw [tl_append, List.mem_append] at hc
  exact hc.elim (strOk_iff.mp ha c) (strOk_iff.mp hb c)
theorem el_str {x : Str} (h1 : PyData.strOk x = true) (h2 : x.length ≤ 640) : elB (.str x) = true := by
  unfold elB
  rw [Bool.and_eq_true]
  exact ⟨h1, decide_eq_true h2⟩
theorem lines_ok {n : Nat} (hn : n ≤ 1000000) : ∀ y ∈ lines (lineK n), elB y = true ∧ tIn y = none := by
  obtain ⟨s1, l1⟩ := el_line hn
  have k1 : PyData.strOk (" " : Str) = true ∧ ((" " : Str)).length = 1 := by decide +kernel
  have k2 : PyData.strOk ("\n" : Str) = true ∧ (("\n" : Str)).length = 1 := by decide +kernel
  have k3 : PyData.strOk ("," : Str) = true ∧ (("," : Str)).length = 1 := by decide +kernel
  have k4 : PyData.strOk ("0 " : Str) = true ∧ (("0 " : Str)).length = 2 := by decide +kernel
  intro y hy
  simp only [lines, List.mem_append, List.mem_cons, List.not_mem_nil, or_false] at hy
  rcases hy with (rfl | rfl | rfl | rfl | rfl | rfl | rfl) | rfl
  · exact ⟨el_str (strOk_app s1 k1.1) (by rw [len_app]; omega), bent_sp n⟩
  · exact ⟨el_str (strOk_app k1.1 s1) (by rw [len_app]; omega), bent_s0 n⟩
  · exact ⟨elB_tup (fun y hy => by rw [List.mem_singleton.mp hy]; exact s1) (by simp), rfl⟩
  · exact ⟨el_str (strOk_app s1 k2.1) (by rw [len_app]; omega), bent_nl n⟩
  · refine ⟨el_str (strOk_iff.mpr fun c hc => ?_) ?_, bent_rev n⟩
    · have h2 : c ∈ (tl (lineK n)).reverse := hc
      exact strOk_iff.mp s1 c (List.mem_reverse.mp h2)
    · have e : (revS (lineK n)).length = (lineK n).length := by
        rw [len_tl, len_tl]
        show ((tl (lineK n)).reverse).length = _
        rw [List.length_reverse]
      rw [e]; omega
  · exact ⟨el_str (strOk_app s1 k3.1) (by rw [len_app]; omega), bent_co n⟩
  · have e1 : ((":" : Str)).cps.toList = [58] := by decide +kernel
    have e2 : (("" : Str)).cps.toList = [] := by decide +kernel
    have h : tl (Txt.replace (lineK n) (":" : Str) ("" : Str)) = PySem.StrLaws.replL [58] [] (tl (lineK n)) := by
      have h := PySem.StrLaws.replace_list (x := lineK n) (y := (":" : Str)) (z := ("" : Str)) (by decide +kernel)
      rw [e1, e2] at h
      exact h
    have sub : ∀ l : List Nat, (PySem.StrLaws.replL [58] [] l).length ≤ l.length ∧ ∀ c ∈ PySem.StrLaws.replL [58] [] l, c ∈ l := by
      intro l
      induction l with
      | nil => rw [PySem.StrLaws.replL_nil]; simp
      | cons c r ih =>
        by_cases h : c = 58
        · rw [PySem.StrLaws.replL_hit (by simp) (by simp [h])]
          have e : (c :: r).drop ([58] : List Nat).length = r := rfl
          rw [e]
          exact ⟨by simpa using Nat.le_succ_of_le ih.1, fun d hd => List.mem_cons_of_mem _ (ih.2 d (by simpa using hd))⟩
        · rw [PySem.StrLaws.replL_miss (by simp [h])]
          exact ⟨by simpa using ih.1, fun d hd => by
            rcases List.mem_cons.mp hd with rfl | hd
            · exact List.mem_cons_self
            · exact List.mem_cons_of_mem _ (ih.2 d hd)⟩
    refine ⟨el_str (strOk_iff.mpr fun c hc => ?_) ?_, bent_rep _⟩
    · rw [h] at hc
      exact strOk_iff.mp s1 c ((sub _).2 c hc)
    · have := (sub (tl (lineK n))).1
      rw [len_tl, h]
      rw [len_tl] at l1
      omega
  · exact ⟨el_str (strOk_app k4.1 s1) (by rw [len_app]; omega), bent_0 n⟩
theorem bent1_no : ∀ q ∈ rtL, ∀ x c, ∀ v ∈ bent1 q.1 x q.2.1, accB v c = false := by
  intro q hq x c v hv
  simp only [rtL, rtA, rt1, List.mem_append, List.mem_cons, List.not_mem_nil, or_false] at hq
  simp only [bent1, List.mem_cons, List.not_mem_nil, or_false] at hv
  rcases hq with ((((rfl | rfl) | rfl) | rfl) | rfl) | rfl <;> rcases hv with rfl | rfl | rfl | rfl | rfl | rfl | rfl <;> rfl
theorem spot_eq {w x : Str} {r : List PV} (hr : r.length = 1 ∨ r.length = 3) {s : Int} (h1 : 1 ≤ s) (h2 : s ≤ r.length + 1) (o : PV) : spots w x r s o = .tup (.str w :: o :: r) ∨ ∃ j ∈ List.range r.length, spots w x r s o = .tup (.str w :: .str x :: r.set j o) := by
  rcases hr with hr | hr
  · match r, hr with
    | [a], _ =>
      have : s = 1 ∨ s = 2 := by simp at h2; omega
      rcases this with rfl | rfl
      · exact .inl rfl
      · exact .inr ⟨0, by simp, rfl⟩
  · match r, hr with
    | [a, b, c], _ =>
      have : s = 1 ∨ s = 2 ∨ s = 3 ∨ s = 4 := by simp at h2; omega
      rcases this with rfl | rfl | rfl | rfl
      · exact .inl rfl
      · exact .inr ⟨0, by simp, rfl⟩
      · exact .inr ⟨1, by simp, rfl⟩
      · exact .inr ⟨2, by simp, rfl⟩
theorem bent_all {n : Nat} (h1 : 1 ≤ n) (h2 : n ≤ 1000000) {q : Str × List PV × PV} (hq : q ∈ rtL) {s : Int} (s1 : 1 ≤ s) (s2 : s ≤ q.2.1.length + 1) : ∀ v ∈ bentV q.1 (lineK n) q.2.1 s, smB v = true ∧ accB v q.2.2 = false := by
  obtain ⟨x1, x2⟩ := el_line h2
  have rl := readT_line h1 h2
  have tx : tIn (.str (lineK n)) = some (lo2 n, wo2) := rl
  obtain ⟨g1, g2, g3, g4, g5, g6, g7⟩ := rtL_ok q hq
  have b1 := bent1_no q hq (lineK n) q.2.2
  have b2 := d_title q hq
  have b3 := d_spot q hq
  have ln := lines_ok h2
  have ex : elB (.str (lineK n)) = true := el_str x1 (by omega)
  generalize lineK n = x at *
  have ec : ∀ y ∈ cls q.1 x q.2.1, elB y = true := by
    intro y hy
    simp only [cls, List.mem_cons] at hy
    rcases hy with rfl | rfl | hy
    · exact g4
    · exact ex
    · exact (g3 y hy).1
  have lc : (cls q.1 x q.2.1).length ≤ 5 := by simp; omega
  have ep : ∀ {y}, elB y = true → pl 100 y = true := fun h => by unfold elB at h; rw [Bool.and_eq_true] at h; exact h.1
  have eu : ∀ i j, ∀ y ∈ cutP (cls q.1 x q.2.1) i j, elB y = true := fun i j y hy => ec y (List.mem_of_mem_drop (List.mem_of_mem_take hy))
  have lu : ∀ i j, (cutP (cls q.1 x q.2.1) i j).length ≤ 5 := fun i j => Nat.le_trans (cutP_len _ _ _) lc
  intro v hv
  simp only [bentV, List.mem_append] at hv
  rcases hv with ((hv | hv) | hv) | hv
  · refine ⟨?_, b1 v hv⟩
    simp only [bent1, List.mem_cons, List.not_mem_nil, or_false] at hv
    rcases hv with rfl | rfl | rfl | rfl | rfl | rfl | rfl
    · unfold smB
      rw [Bool.and_eq_true]
      exact ⟨pls_iff.mpr fun y hy => ep (ec y hy), rfl⟩
    · exact smB_tup (eu _ _) (Nat.le_trans (lu _ _) (by omega))
    · exact smB_tup (fun y hy => (List.mem_append.mp hy).elim (ec y) (eu _ _ y)) (by have := lu (some (-1)) none; rw [List.length_append]; omega)
    · exact smB_tup (fun y hy => (List.mem_append.mp hy).elim (ec y) fun h => by rw [List.mem_singleton.mp h]; rfl) (by rw [List.length_append]; simp at lc ⊢; omega)
    · exact smB_tup (eu _ _) (Nat.le_trans (lu _ _) (by omega))
    · exact smB_tup (fun y hy => by rw [List.mem_singleton.mp hy]; exact elB_tup (fun y hy => ep (ec y hy)) (by omega)) (by simp)
    · exact smB_tup (fun y hy => ec y (List.mem_reverse.mp hy)) (by rw [List.length_reverse]; omega)
  · obtain ⟨p, hp, rfl⟩ := List.mem_map.mp hv
    obtain ⟨hp1, hp2⟩ := List.mem_filter.mp hp
    refine ⟨smB_tup (fun y hy => ?_) (by simp at lc ⊢; omega), ?_⟩
    · simp only [List.mem_cons] at hy
      rcases hy with rfl | rfl | hy
      · exact titles_el _ hp1
      · exact ex
      · exact (g3 y hy).1
    · rw [accB_cl, tx, accT_n h1]
      exact b2 p hp1 hp2
  · obtain ⟨p, hp, rfl⟩ := List.mem_map.mp hv
    obtain ⟨l1, l2⟩ := ln p hp
    refine ⟨smB_tup (fun y hy => ?_) (by simp at lc ⊢; omega), ?_⟩
    · simp only [List.mem_cons] at hy
      rcases hy with rfl | rfl | hy
      · exact g4
      · exact l1
      · exact (g3 y hy).1
    · rw [accB_cl, l2, accT_none]
  · obtain ⟨o, ho, rfl⟩ := List.mem_map.mp hv
    have eo := odds_el o ho
    rcases spot_eq (w := q.1) (x := x) g2 s1 s2 o with e | ⟨j, hj, e⟩
    · rw [e]
      refine ⟨smB_tup (fun y hy => ?_) (by simp at lc ⊢; omega), ?_⟩
      · simp only [List.mem_cons] at hy
        rcases hy with rfl | rfl | hy
        · exact g4
        · exact eo
        · exact (g3 y hy).1
      · have := d_text o ho
        rw [Option.isNone_iff_eq_none] at this
        rw [accB_cl, this, accT_none]
    · rw [e]
      refine ⟨smB_tup (fun y hy => ?_) (by simp at lc ⊢; omega), ?_⟩
      · simp only [List.mem_cons] at hy
        rcases hy with rfl | rfl | hy
        · exact g4
        · exact ex
        · rcases List.mem_or_eq_of_mem_set hy with hy | rfl
          · exact (g3 y hy).1
          · exact eo
      · rw [accB_cl, tx, accT_n h1]
        exact b3 j hj o ho
end R
set_option maxHeartbeats 2000000
namespace R
open PySem PySem.Spec L2 TL
open PyProof.Rows hiding St
/-! P78: k70: one number. -/
theorem nis_bl (a b : Bool) : nisW (.bl a) (.bl b) = pure (.bl (!decide (a = b))) := rfl
theorem somes_of {D : Wd} {e : Env} {M : Mem} {ps : List PV} (h : e[3]? = some (some (.tup ps))) (hl : ps.length ≤ 100) : ev D (.lst false (.cons (.bi .list (.cons (.var 3) .nil)) (.cons (.bin .add (.var 3) (.tup (.cons .non .nil))) (.cons (.tup (.cons (.var 3) (.cons .non .nil))) (.cons (.lst false (.cons (.var 3) .nil)) (.cons (.bin .add (.slc (.var 3) .onone (.osome (.neg (.int 1)))) (.tup (.cons (.tup (.cons .non .nil)) .nil))) (.cons (.slc (.var 3) (.osome (.int 1)) .onone) .nil))))))) e M = .ok (.lst (somes ps)) M := by
  have h0 : fVar 3 e = pure (.tup ps) := by unfold fVar; rw [h]
  have k1 := cutP_len ps none (some (-1))
  have a1 := addW_tup (xs := ps) (ys := [.non]) (by simp; omega)
  have a2 := addW_tup (xs := cutP ps none (some (-1))) (ys := [.tup [.non]]) (by simp; omega)
  have q3 : listW [.tup ps] = pure (.lst ps) := rfl
  have q5 : ∀ i j, sliceW (.tup ps) i j = pure (.tup (cutP ps i j)) := fun i j => rfl
  unfold somes
  simp [ev, sSeq, sAsg, sRet, sRetN, sE, sIf, sNil, sExpr, startE, f2, fVar, fCons, fNil, fTup, fIf, fAnd, fOr, fNot, fChain, gNm, bind_eq, pure_eq, bad_eq, biV, bopV, copV, wdOf, asB_bl, lineOk0, lineOk1, lineOk2, lineOk3, lineOk4, optR_some, fLst, h, fSlice, fNone, fSome, asI_int, negW_int, lineOk_of, a1, a2, q3, q5]
theorem for_n {fi : Env → RM Wk} {g : PV → Env → RM Env} {body : SM} {e : Env} {M M0 : Mem} {w : Wk} (P : Nat → Env → Mem → Prop) (Q : SRes → Prop) (hi : fi e M = .ok w M0) (h0 : P 0 e M0)
    (step : ∀ (i : Nat) (x : PV) (e : Env) (M : Mem), w.xs[i]? = some x → P i e M → w.holds M ∧ ∃ e1 M1 e2 M2, g x e M = .ok e1 M1 ∧ body e1 M1 = .nx e2 M2 ∧ P (i + 1) e2 M2)
    (hend : ∀ e M, P w.xs.length e M → w.holds M) (k : ∀ e' M', P w.xs.length e' M' → Q (.nx e' M')) : Q (sFor fi g body e M) := by
  obtain ⟨e', M', h1, h2⟩ := for_end P hi h0 step hend
  rw [h1]
  exact k e' M' h2
theorem pair_step {k q : Nat} {M : Mem} (J : JS k q M) (hq : q + 100 < 2 ^ 60) {n : Nat} (h1 : 1 ≤ n) (h2 : n ≤ 1000000) {u : Str × List PV × PV} (hu : u ∈ rtL) (z4 z5 z6 : Option PV) :
    ∃ M' z4' z5' z6', ev (k := .b) D__law_right (.bcons (.ifs (.or_ (.cmp .nis (.call 2 (.cons (.var 2) (.cons (.var 3) .nil))) (.bl true)) (.or1 (.cmp .nis (.kw2 3 (.var 3) (.var 2)) (.bl true)))) (.bone (.ret (.bl false))) .bnil)
  (.bcons (.for_ (.gnm 4) (.seq (.call 4 (.cons (.var 2) (.cons (.bin .add (.int 1) (.call 0 (.cons (.var 0) (.cons (.bin .sub (.bi .len (.cons (.var 2) .nil)) (.int 1)) .nil)))) .nil)))) (.bone (.ifs (.cmp .nis (.call 2 (.cons (.var 4) (.cons (.var 3) .nil))) (.bl false)) (.bone (.ret (.bl false))) .bnil)))
  (.bcons (.asg (.gnm 5) (.lst false (.cons (.bi .list (.cons (.var 3) .nil)) (.cons (.bin .add (.var 3) (.tup (.cons .non .nil))) (.cons (.tup (.cons (.var 3) (.cons .non .nil))) (.cons (.lst false (.cons (.var 3) .nil)) (.cons (.bin .add (.slc (.var 3) .onone (.osome (.neg (.int 1)))) (.tup (.cons (.tup (.cons .non .nil)) .nil))) (.cons (.slc (.var 3) (.osome (.int 1)) .onone) .nil))))))))
  (.bone (.for_ (.gnm 6) (.seq (.bin .add (.call 5 .nil) (.var 5))) (.bone (.ifs (.or_ (.cmp .nis (.call 2 (.cons (.var 2) (.cons (.var 6) .nil))) (.bl false)) (.or1 (.cmp .nis (.call 2 (.cons (.var 6) (.cons (.var 3) .nil))) (.bl false)))) (.bone (.ret (.bl false))) .bnil)))))))
      [some (.ref k), some (.int (n : Nat)), some (cl u.1 (lineK n) u.2.1), some u.2.2, z4, z5, z6] M = .nx [some (.ref k), some (.int (n : Nat)), some (cl u.1 (lineK n) u.2.1), some u.2.2, z4', z5', z6'] M' ∧ Up k (q + 1) M M' := by
  obtain ⟨g1, g2, g3, g4, g5, g6, g7⟩ := rtL_ok u hu
  obtain ⟨x1, x2⟩ := el_line h2
  have ba : ∀ s : Int, 1 ≤ s → s ≤ (u.2.1.length : Nat) + 1 → ∀ v ∈ bentV u.1 (lineK n) u.2.1 s, smB v = true ∧ accB v u.2.2 = false := fun s a b => bent_all h1 h2 hu a b
  have rl := readT_line h1 h2
  have tx : tIn (.str (lineK n)) = some (lo2 n, wo2) := rl
  have ex : elB (.str (lineK n)) = true := el_str x1 (by omega)
  have dr := d_right u hu
  have do1 := d_odd u hu
  have do2 := d_odd2 u hu
  obtain ⟨ps, hps, hpl⟩ : ∃ ps, u.2.2 = .tup ps ∧ ps.length ≤ 100 := by
    have : ∀ u ∈ rtL, (match u.2.2 with | .tup ps => decide (ps.length ≤ 100) | _ => false) = true := by decide +kernel
    have := this u hu
    split at this
    · exact ⟨_, by assumption, of_decide_eq_true this⟩
    · cases this
  have bo : ∀ (s : Int) (M : Mem), F__law_bent [cl u.1 (lineK n) u.2.1, .int s] M = .ok (.lst (bentV u.1 (lineK n) u.2.1 s)) M := fun s M => bent_ok (w := u.1) (x := lineK n) (r := u.2.1) g1 (by omega) g2 (fun y hy => (g3 y hy).2) s M
  have sc : smB (cl u.1 (lineK n) u.2.1) = true := smB_tup (fun y hy => by
    simp only [List.mem_cons] at hy
    rcases hy with rfl | rfl | hy
    · exact g4
    · exact ex
    · exact (g3 y hy).1) (by simp; omega)
  have acl : ∀ c, accB (cl u.1 (lineK n) u.2.1) c = accT O2 (.str u.1) u.2.1 c := fun c => by rw [accB_cl, tx, accT_n h1]
  have lnc : lenW [cl u.1 (lineK n) u.2.1] = pure (.int ((u.2.1.length : Nat) + 2)) := by
    show lenW [.tup _] = _
    rw [lenW_tup]
    simp [Int.add_assoc]
  generalize hC : cl u.1 (lineK n) u.2.1 = C at *
  rw [hps] at g5 g6 g7 dr do1 do2 ba ⊢
  have tO : tupsOf (.tup ps) = ps := rfl
  rw [tO] at g6 do1 do2
  generalize hP : PV.tup ps = p at *
  have ac1 : ∀ M, F_accepts [C, p] M = .ok (.bl true) M := fun M => by rw [acc_sm sc g5, acl, dr]
  obtain ⟨r, M1, d1, d2, d3, d4⟩ := dip_ok (m := (u.2.1.length : Nat) + 1) J (by omega) (by omega) (by omega)
  have w := ba (1 + r) (by omega) (by omega)
  suffices h : ∀ Q : SRes → Prop, (∀ z4' z5' z6', Q (.nx [some (.ref k), some (.int (n : Nat)), some C, some p, z4', z5', z6'] M1)) → Q (ev (k := .b) D__law_right _ [some (.ref k), some (.int (n : Nat)), some C, some p, z4, z5, z6] M) by
    obtain ⟨z4', z5', z6', h3⟩ := h (fun r => ∃ z4' z5' z6', r = .nx [some (.ref k), some (.int (n : Nat)), some C, some p, z4', z5', z6'] M1) fun a b c => ⟨a, b, c, rfl⟩
    exact ⟨M1, z4', z5', z6', h3, d4⟩
  intro Q hQ
  show Q (sSeq _ (sSeq _ (sSeq _ _)) _ _)
  refine seqP_nx (e' := [some (.ref k), some (.int (n : Nat)), some C, some p, z4, z5, z6]) (M' := M) ?_ ?_
  · have n0 := nis_bl true true
    simp at n0
    simp [ev, sSeq, sAsg, sRet, sRetN, sE, sIf, sNil, sExpr, startE, f2, fVar, fCons, fNil, fTup, fIf, fAnd, fOr, fNot, fChain, gNm, bind_eq, pure_eq, bad_eq, biV, bopV, copV, wdOf, asB_bl, lineOk0, lineOk1, lineOk2, lineOk3, lineOk4, optR_some, D__law_right, L__law_right, ac1, n0]
  refine seqP_for (w := ⟨bentV u.1 (lineK n) u.2.1 (1 + r), []⟩) (M0 := M1) (fun i e M' => M' = M1 ∧ ∃ z, e = [some (.ref k), some (.int (n : Nat)), some C, some p, z, z5, z6]) ?_ ⟨rfl, z4, rfl⟩ ?_ (fun _ _ _ => Wk.holds0) ?_
  · have su : subV (.int (((u.2.1.length : Nat) : Int) + 2)) (.int 1) = pure (.int (((u.2.1.length : Nat) : Int) + 1)) := by
      have e1 : ((u.2.1.length : Nat) : Int) + 2 - 1 = ((u.2.1.length : Nat) : Int) + 1 := by omega
      rw [subV_int, e1]
    have bo1 := bo (1 + r) M1
    generalize bentV u.1 (lineK n) u.2.1 (1 + r) = bv at *
    simp [ev, sSeq, sAsg, sRet, sRetN, sE, sIf, sNil, sExpr, startE, f2, fVar, fCons, fNil, fTup, fIf, fAnd, fOr, fNot, fChain, gNm, bind_eq, pure_eq, bad_eq, biV, bopV, copV, wdOf, asB_bl, lineOk0, lineOk1, lineOk2, lineOk3, lineOk4, optR_some, D__law_right, L__law_right, lnc, su, d1, addW_int, bo1, wkOf_lst]
  · intro i v e M' hv ⟨hM, z, he⟩
    subst hM he
    obtain ⟨v1, v2⟩ := w v (List.mem_of_getElem? hv)
    have av := acc_sm v1 g5 M'
    rw [v2] at av
    refine ⟨Wk.holds0, [some (.ref k), some (.int (n : Nat)), some C, some p, some v, z5, z6], M', [some (.ref k), some (.int (n : Nat)), some C, some p, some v, z5, z6], M', rfl, ?_, rfl, some v, rfl⟩
    have n0 := nis_bl false false
    simp at n0
    simp [ev, sSeq, sAsg, sRet, sRetN, sE, sIf, sNil, sExpr, startE, f2, fVar, fCons, fNil, fTup, fIf, fAnd, fOr, fNot, fChain, gNm, bind_eq, pure_eq, bad_eq, biV, bopV, copV, wdOf, asB_bl, lineOk0, lineOk1, lineOk2, lineOk3, lineOk4, optR_some, D__law_right, L__law_right, av, n0]
  intro e M' ⟨hM, z, he⟩
  subst hM he
  refine seqP_nx (e' := [some (.ref k), some (.int (n : Nat)), some C, some p, z, some (.lst (somes ps)), z6]) (M' := M') ?_ ?_
  · exact asg_at (somes_of (by rw [hP]; rfl) hpl) 5
  refine for_n (w := ⟨odds ++ somes ps, []⟩) (M0 := M') (fun i e M2 => M2 = M' ∧ ∃ z', e = [some (.ref k), some (.int (n : Nat)), some C, some p, z, some (.lst (somes ps)), z']) Q ?_ ⟨rfl, z6, rfl⟩ ?_ (fun _ _ _ => Wk.holds0) ?_
  · have ho := law_odds_ok M'
    have ad := addW_lst (xs := odds) (ys := somes ps) (by
      have h31 : odds.length = 31 := rfl
      have h6 : (somes ps).length = 6 := rfl
      omega)
    generalize odds = od at *
    generalize somes ps = so at *
    simp [ev, sSeq, sAsg, sRet, sRetN, sE, sIf, sNil, sExpr, startE, f2, fVar, fCons, fNil, fTup, fIf, fAnd, fOr, fNot, fChain, gNm, bind_eq, pure_eq, bad_eq, biV, bopV, copV, wdOf, asB_bl, lineOk0, lineOk1, lineOk2, lineOk3, lineOk4, optR_some, D__law_right, L__law_right, ho, ad, wkOf_lst]
  · intro i o e M2 ho ⟨hM, z', he⟩
    subst hM he
    have hm := List.mem_of_getElem? ho
    have o1 := g6 o hm
    have a1 := acc_sm sc o1 M2
    rw [acl, do1 o hm] at a1
    have a2 := acc_sm o1 g5 M2
    rw [do2 o hm] at a2
    refine ⟨Wk.holds0, [some (.ref k), some (.int (n : Nat)), some C, some p, z, some (.lst (somes ps)), some o], M2, [some (.ref k), some (.int (n : Nat)), some C, some p, z, some (.lst (somes ps)), some o], M2, rfl, ?_, rfl, some o, rfl⟩
    have n0 := nis_bl false false
    simp at n0
    simp [ev, sSeq, sAsg, sRet, sRetN, sE, sIf, sNil, sExpr, startE, f2, fVar, fCons, fNil, fTup, fIf, fAnd, fOr, fNot, fChain, gNm, bind_eq, pure_eq, bad_eq, biV, bopV, copV, wdOf, asB_bl, lineOk0, lineOk1, lineOk2, lineOk3, lineOk4, optR_some, D__law_right, L__law_right, a1, a2, n0]
  intro e M2 ⟨hM, z', he⟩
  subst hM he
  exact hQ _ _ _
theorem right_ok {n q : Nat} {M : Mem} (J : JS n q M) (hq : q + 200000 < 2 ^ 60) : ∃ M', F__law_right [.ref n] M = .ok (.bl true) M' ∧ Up n (q + 100000) M M' := by
  have e60 : (2 : Nat) ^ 60 = 1152921504606846976 := by decide
  suffices h : ∀ Q : SRes → Prop, (∀ M', Up n (q + 100000) M M' → Q (.rt (.bl true) M')) → Q (ev (k := .b) D__law_right b__law_right (startE 7 [.ref n]) M) by
    obtain ⟨M', h1, h2⟩ := h (fun r => ∃ M', r = .rt (.bl true) M' ∧ Up n (q + 100000) M M') fun M' hu => ⟨M', rfl, hu⟩
    exact ⟨M', mk_len rfl h1 h2.len, h2⟩
  intro Q hQ
  obtain ⟨r1, M1, a1, a2, a3, a4⟩ := dip_ok (m := 2) J (by omega) (by omega) (by omega)
  obtain ⟨top, ht, ht1, ht2⟩ : ∃ top : Int, idxW (.lst [.int 9, .int 1000000]) (.int r1) = pure (.int top) ∧ 1 ≤ top ∧ top ≤ 1000000 := by
    have : r1 = 0 ∨ r1 = 1 := by omega
    rcases this with h | h <;> subst h
    · exact ⟨9, rfl, by omega, by omega⟩
    · exact ⟨1000000, rfl, by omega, by omega⟩
  obtain ⟨r2, M2, b1, b2, b3, b4⟩ := dip_ok (m := top) a4.jar (by omega) (by omega) (by omega)
  obtain ⟨m, hm⟩ : ∃ m : Nat, (1 : Int) + r2 = (m : Nat) := ⟨(1 + r2).toNat, by omega⟩
  have up2 := a4.trans b4
  show Q (sSeq _ (sSeq _ _) _ _)
  refine seqP_nx (e' := [some (.ref n), some (.int (m : Nat)), none, none, none, none, none]) (M' := M2) ?_ ?_
  · simp [ev, sSeq, sAsg, sRet, sRetN, sE, sIf, sNil, sExpr, startE, f2, fVar, fCons, fNil, fTup, fIf, fAnd, fOr, fNot, fChain, gNm, bind_eq, pure_eq, bad_eq, biV, bopV, copV, wdOf, asB_bl, lineOk0, lineOk1, lineOk2, lineOk3, lineOk4, optR_some, D__law_right, L__law_right, fLst, lineOk_of, pow6, a1, ht, b1, addW_int, hm]
  have hr := law_rights_ok (n := m) (by omega) M2
  refine seqP_for (w := ⟨rtL.map (rtP (lineK m)), []⟩) (M0 := M2) (fun i e M' => Up n (q + 2 + i) M M' ∧ ∃ y2 y3 y4 y5 y6, e = [some (.ref n), some (.int (m : Nat)), y2, y3, y4, y5, y6]) ?_ ⟨up2.mono (by omega), _, _, _, _, _, rfl⟩ ?_ (fun _ _ _ => Wk.holds0) ?_
  · generalize rtL.map (rtP (lineK m)) = rr at *
    simp [ev, sSeq, sAsg, sRet, sRetN, sE, sIf, sNil, sExpr, startE, f2, fVar, fCons, fNil, fTup, fIf, fAnd, fOr, fNot, fChain, gNm, bind_eq, pure_eq, bad_eq, biV, bopV, copV, wdOf, asB_bl, lineOk0, lineOk1, lineOk2, lineOk3, lineOk4, optR_some, D__law_right, L__law_right, hr, wkOf_lst]
  · intro i x e M' hx ⟨hu, y2, y3, y4, y5, y6, he⟩
    subst he
    obtain ⟨u, hu1, rfl⟩ : ∃ u, rtL[i]? = some u ∧ rtP (lineK m) u = x := by
      rw [List.getElem?_map, Option.map_eq_some_iff] at hx
      exact hx
    have hi : i < 6 := (List.getElem?_eq_some_iff.mp hu1).1
    obtain ⟨M3, x4, x5, x6, c1, c2⟩ := pair_step hu.jar (by omega) (n := m) (by omega) (by omega) (List.mem_of_getElem? hu1) y4 y5 y6
    refine ⟨Wk.holds0, [some (.ref n), some (.int (m : Nat)), some (cl u.1 (lineK m) u.2.1), some u.2.2, y4, y5, y6], M', _, M3, ?_, c1, (hu.trans c2).mono (by omega), _, _, _, _, _, rfl⟩
    simp [ev, sSeq, sAsg, sRet, sRetN, sE, sIf, sNil, sExpr, startE, f2, fVar, fCons, fNil, fTup, fIf, fAnd, fOr, fNot, fChain, gNm, bind_eq, pure_eq, bad_eq, biV, bopV, copV, wdOf, asB_bl, lineOk0, lineOk1, lineOk2, lineOk3, lineOk4, optR_some, gSq, gsCons, gsNil, seqW_tup]
  intro e3 M3 ⟨hu, y2, y3, y4, y5, y6, he⟩
  subst he
  have fin : ev (k := .b) D__law_right (.bone (.ret (.bl true))) [some (.ref n), some (.int (m : Nat)), y2, y3, y4, y5, y6] M3 = .rt (.bl true) M3 := by simp [ev, sSeq, sAsg, sRet, sRetN, sE, sIf, sNil, sExpr, startE, f2, fVar, fCons, fNil, fTup, fIf, fAnd, fOr, fNot, fChain, gNm, bind_eq, pure_eq, bad_eq, biV, bopV, copV, wdOf, asB_bl, lineOk0, lineOk1, lineOk2, lineOk3, lineOk4, optR_some]
  show Q (ev (k := .b) D__law_right _ _ _)
  rw [fin]
  have h6 : (⟨rtL.map (rtP (lineK m)), []⟩ : Wk).xs.length = 6 := rfl
  rw [h6] at hu
  exact hQ M3 (hu.mono (by omega))
end R
set_option maxHeartbeats 4000000
namespace R
open PySem PySem.Spec L2 TL
open PyProof.Rows hiding St
/-! P41b: the law, of up to four numbers. -/
theorem pow18 : powV (.int 10) (.int 18) = pure (.int 1000000000000000000) := by
  show (if decide ((0 : Int) ≤ 18) && decide ((18 : Int) ≤ 1000) && decide ((10 : Int).natAbs < 1000) then pure (PV.int ((10 : Int) ^ (18 : Int).toNat)) else RM.bad) = _
  rw [if_pos (by decide)]
  rfl
theorem well_ok (v : Int) (M : Mem) : ∃ a b, F__law_well [.int v] M = .ok (.ref M.length) (M ++ [jarO a b 0]) ∧ 0 ≤ a ∧ 0 ≤ b ∧ b < 2147483587 := by
  have hb := fmodp (a := v) (b := 2147483587) (by omega)
  have fin : ∀ a, ev (k := .b) D__law_well b__law_well (startE 1 [.int v]) M = .rt (.ref M.length) (M ++ [jarO a (v.fmod 2147483587) 0]) → F__law_well [.int v] M = .ok (.ref M.length) (M ++ [jarO a (v.fmod 2147483587) 0]) := by
    intro a h
    unfold F__law_well mkF
    rw [if_pos (show [PV.int v].length = 1 from rfl), h]
    show trim M (.ok (.ref M.length) _) = _
    unfold trim
    dsimp only
    rw [if_neg]
    intro ⟨h, _⟩
    simp [noRef] at h
  have dv := dv1
  by_cases h1 : v < 0
  · refine ⟨(v.natAbs : Nat), v.fmod 2147483587, fin _ ?_, by omega, hb⟩
    simp [ev, sSeq, sAsg, sRet, sRetN, sE, sIf, sNil, sExpr, startE, f2, fVar, fCons, fNil, fTup, fIf, fAnd, fOr, fNot, fChain, gNm, bind_eq, pure_eq, bad_eq, biV, bopV, copV, wdOf, asB_bl, lineOk0, lineOk1, lineOk2, lineOk3, lineOk4, optR_some, b__law_well, fLstM, cmpW_int, h1, absW_eq, intW_int, modV_int, dv, jarO]
  · by_cases h2 : 1000000000000000000 ≤ v
    · refine ⟨(v.natAbs : Nat), v.fmod 2147483587, fin _ ?_, by omega, hb⟩
      simp [ev, sSeq, sAsg, sRet, sRetN, sE, sIf, sNil, sExpr, startE, f2, fVar, fCons, fNil, fTup, fIf, fAnd, fOr, fNot, fChain, gNm, bind_eq, pure_eq, bad_eq, biV, bopV, copV, wdOf, asB_bl, lineOk0, lineOk1, lineOk2, lineOk3, lineOk4, optR_some, b__law_well, fLstM, cmpW_int, h1, h2, pow18, absW_eq, intW_int, modV_int, dv, jarO]
    · refine ⟨0, v.fmod 2147483587, fin _ ?_, by omega, hb⟩
      simp [ev, sSeq, sAsg, sRet, sRetN, sE, sIf, sNil, sExpr, startE, f2, fVar, fCons, fNil, fTup, fIf, fAnd, fOr, fNot, fChain, gNm, bind_eq, pure_eq, bad_eq, biV, bopV, copV, wdOf, asB_bl, lineOk0, lineOk1, lineOk2, lineOk3, lineOk4, optR_some, b__law_well, fLstM, cmpW_int, h1, h2, pow18, intW_int, modV_int, dv, jarO]
theorem cell_ok {ns : List Int} (hb : ∀ z ∈ ns, Builtin.Int.intBits z ≤ 1048576) (hl : ns.length ≤ 63) (k : Nat) (hk : k ≤ 1000) (M : Mem) : ∃ v, F__law_cell [.lst (ns.map PV.int), .int (k : Nat)] M = .ok (.int v) M := by
  have ll : lenW [.lst (ns.map PV.int)] = pure (.int ns.length) := by simp [lenW_lst]
  by_cases h : k < ns.length
  · refine ⟨ns[k], mk_pure rfl ?_ rfl⟩
    have ix : idxW (.lst (ns.map PV.int)) (.int (k : Nat)) = pure (.int ns[k]) := by
      show optR (atI (ns.map PV.int) (k : Nat)) = _
      unfold atI ixN
      rw [if_pos (by omega), if_pos (by rw [List.length_map]; omega)]
      simp [List.getElem?_eq_getElem h, optR]
    show sSeq _ _ _ _ = _
    refine seq_rt ?_
    simp [ev, sSeq, sAsg, sRet, sRetN, sE, sIf, sNil, sExpr, startE, f2, fVar, fCons, fNil, fTup, fIf, fAnd, fOr, fNot, fChain, gNm, bind_eq, pure_eq, bad_eq, biV, bopV, copV, wdOf, asB_bl, lineOk0, lineOk1, lineOk2, lineOk3, lineOk4, optR_some, ll, cmpW_int, h, ix]
  · have dv : divOk 2147483563 = true := by
      have := log2_lt (n := 2147483563) (k := 40) (by decide) (by omega)
      simp [divOk]; omega
    have e40 : (2 : Nat) ^ 40 = 1099511627776 := by decide
    have sl : sliceW (.lst (ns.map PV.int)) none (some 5) = pure (.lst ((ns.take 5).map PV.int)) := by
      show (pure (PV.lst (cutP (ns.map PV.int) none (some 5))) : RM PV) = _
      congr 2
      unfold cutP
      rw [List.map_take]
      simp [HT.sIx]
    have o1 : mulOk 60209 (k : Int) = true := mulOk_of (k := 40) (l := 40) (by omega) (by omega) (by omega)
    suffices hs : ∀ Q : SRes → Prop, (∀ v : Int, Q (.rt (.int v) M)) → Q (ev (k := .b) D__law_cell b__law_cell (startE 4 [.lst (ns.map PV.int), .int (k : Nat)]) M) by
      obtain ⟨v, h1⟩ := hs (fun r => ∃ v, r = .rt (.int v) M) fun v => ⟨v, rfl⟩
      exact ⟨v, mk_pure rfl h1 rfl⟩
    intro Q hQ
    show Q (sSeq _ _ _ _)
    refine seqP_nx (e' := [some (.lst (ns.map PV.int)), some (.int (k : Nat)), none, none]) (M' := M) ?_ ?_
    · simp [ev, sSeq, sAsg, sRet, sRetN, sE, sIf, sNil, sExpr, startE, f2, fVar, fCons, fNil, fTup, fIf, fAnd, fOr, fNot, fChain, gNm, bind_eq, pure_eq, bad_eq, biV, bopV, copV, wdOf, asB_bl, lineOk0, lineOk1, lineOk2, lineOk3, lineOk4, optR_some, ll, cmpW_int, h]
    refine seqP_nx (e' := [some (.lst (ns.map PV.int)), some (.int (k : Nat)), some (.int (480587 + 60209 * (k : Int))), none]) (M' := M) ?_ ?_
    · simp [ev, sSeq, sAsg, sRet, sRetN, sE, sIf, sNil, sExpr, startE, f2, fVar, fCons, fNil, fTup, fIf, fAnd, fOr, fNot, fChain, gNm, bind_eq, pure_eq, bad_eq, biV, bopV, copV, wdOf, asB_bl, lineOk0, lineOk1, lineOk2, lineOk3, lineOk4, optR_some, mulV_int, o1, addW_int]
    refine seqP_for (w := ⟨(ns.take 5).map PV.int, []⟩) (M0 := M) (fun i e M' => M' = M ∧ ∃ v z3, 0 ≤ v ∧ v < 2 ^ 40 ∧ e = [some (.lst (ns.map PV.int)), some (.int (k : Nat)), some (.int v), z3]) ?_ ⟨rfl, _, _, by omega, by omega, rfl⟩ ?_ (fun _ _ _ => Wk.holds0) ?_
    · simp [ev, sSeq, sAsg, sRet, sRetN, sE, sIf, sNil, sExpr, startE, f2, fVar, fCons, fNil, fTup, fIf, fAnd, fOr, fNot, fChain, gNm, bind_eq, pure_eq, bad_eq, biV, bopV, copV, wdOf, asB_bl, lineOk0, lineOk1, lineOk2, lineOk3, lineOk4, optR_some, fSlice, fNone, fSome, asI_int, sl, wkOf_lst]
    · intro i x e M' hx ⟨hM, v, z3, v0, v1, he⟩
      subst hM he
      obtain ⟨z, hz, rfl⟩ : ∃ z, (ns.take 5)[i]? = some z ∧ PV.int z = x := by
        rw [List.getElem?_map, Option.map_eq_some_iff] at hx
        exact hx
      have hzb := hb z (List.mem_of_mem_take (List.mem_of_getElem? hz))
      have zl : z.natAbs < 2 ^ 1048577 := by
        unfold Builtin.Int.intBits at hzb
        by_cases z0 : z = 0
        · subst z0; exact Nat.two_pow_pos _
        · rw [if_neg (by simpa using z0)] at hzb
          have := (Nat.log2_lt (n := z.natAbs) (k := 1048577) (by omega)).mp (by omega)
          exact this
      have o2 : mulOk v 63029 = true := mulOk_of (k := 40) (l := 40) (by omega) (by omega) (by omega)
      have o3 : mulOk z 1009 = true := mulOk_of (k := 1048577) (l := 40) zl (by omega) (by omega)
      have hm := fmodp (a := v * 63029 + z * 1009 + (k : Int)) (b := 2147483563) (by omega)
      refine ⟨Wk.holds0, [some (.lst (ns.map PV.int)), some (.int (k : Nat)), some (.int v), some (.int z)], M', [some (.lst (ns.map PV.int)), some (.int (k : Nat)), some (.int ((v * 63029 + z * 1009 + (k : Int)).fmod 2147483563)), some (.int z)], M', rfl, ?_, rfl, _, _, hm.1, by omega, rfl⟩
      simp [ev, sSeq, sAsg, sRet, sRetN, sE, sIf, sNil, sExpr, startE, f2, fVar, fCons, fNil, fTup, fIf, fAnd, fOr, fNot, fChain, gNm, bind_eq, pure_eq, bad_eq, biV, bopV, copV, wdOf, asB_bl, lineOk0, lineOk1, lineOk2, lineOk3, lineOk4, optR_some, mulV_int, o2, o3, addW_int, intW_int, modV_int, dv]
    · intro e M' ⟨hM, v, z3, v0, v1, he⟩
      subst hM he
      have fin : ev (k := .b) D__law_cell (.bone (.ret (.var 2))) [some (.lst (ns.map PV.int)), some (.int (k : Nat)), some (.int v), z3] M' = .rt (.int v) M' := by simp [ev, sSeq, sAsg, sRet, sRetN, sE, sIf, sNil, sExpr, startE, f2, fVar, fCons, fNil, fTup, fIf, fAnd, fOr, fNot, fChain, gNm, bind_eq, pure_eq, bad_eq, biV, bopV, copV, wdOf, asB_bl, lineOk0, lineOk1, lineOk2, lineOk3, lineOk4, optR_some]
      show Q (ev (k := .b) D__law_cell _ _ _)
      rw [fin]
      exact hQ v
theorem law_plain (ns : List Int) (hl : ns.length ≤ 63) (hb : ∀ z ∈ ns, Builtin.Int.intBits z ≤ 1048576) : ∃ M, mkF 1 2 b_law D_law [.lst (ns.map PV.int)] [] = .ok (.bl true) M := by
  have ll : lenW [.lst (ns.map PV.int)] = pure (.int ns.length) := by simp [lenW_lst]
  obtain ⟨m, hm, hm2⟩ : ∃ m : Nat, m ≤ 4 ∧ ev D_law (.bi .max (.cons (.int 2) (.cons (.bi .min (.cons (.bi .len (.cons (.var 0) .nil)) (.cons (.int 4) .nil))) .nil))) [some (.lst (ns.map PV.int)), none] [] = .ok (.int (m : Nat)) [] := by
    have h1 : minW [.int ns.length, .int 4] = pure (.int (if (4 : Int) < ns.length then 4 else ns.length)) := rfl
    have h2 : ∀ j : Int, maxW [.int 2, .int j] = pure (.int (if j > 2 then j else 2)) := fun _ => rfl
    refine ⟨(if (if (4 : Int) < ns.length then 4 else (ns.length : Int)) > 2 then (if (4 : Int) < ns.length then 4 else (ns.length : Int)) else 2).toNat, ?_, ?_⟩
    · split <;> split <;> omega
    · have e : ((if (if (4 : Int) < ns.length then 4 else (ns.length : Int)) > 2 then (if (4 : Int) < ns.length then 4 else (ns.length : Int)) else 2).toNat : Int) = (if (if (4 : Int) < ns.length then 4 else (ns.length : Int)) > 2 then (if (4 : Int) < ns.length then 4 else (ns.length : Int)) else 2) := by
        refine Int.toNat_of_nonneg ?_
        split <;> split <;> omega
      rw [e]
      simp only [ev, sSeq, sAsg, sRet, sRetN, sE, sIf, sNil, sExpr, startE, f2, fVar, fCons, fNil, fTup, fIf, fAnd, fOr, fNot, fChain, gNm, bind_eq, pure_eq, bad_eq, biV, bopV, copV, wdOf, asB_bl, lineOk0, lineOk1, lineOk2, lineOk3, lineOk4, optR_some, ll, h1, h2, List.getElem?_cons_zero]
  have hi := range1_hi (fx := ev D_law (.bi .max (.cons (.int 2) (.cons (.bi .min (.cons (.bi .len (.cons (.var 0) .nil)) (.cons (.int 4) .nil))) .nil)))) (e := [some (.lst (ns.map PV.int)), none]) (M := []) (M' := []) (j := m) hm2 (by omega)
  have hc : fLc (ev D_law (.range1 (.bi .max (.cons (.int 2) (.cons (.bi .min (.cons (.bi .len (.cons (.var 0) .nil)) (.cons (.int 4) .nil))) .nil))))) [1] (gNm 1) (ev D_law (.tst (.not_ (.call 0 (.cons (.call 1 (.cons (.call 2 (.cons (.var 0) (.cons (.var 1) .nil))) .nil)) .nil))))) (fVar 1) [some (.lst (ns.map PV.int)), none] [] = .ok (.lst []) [] := by
    obtain ⟨acc, M', h1, h2, h3⟩ := lc_inv (w := ⟨(List.range m).map fun i => PV.int (i : Nat), []⟩) (g := gNm 1) (t := ev D_law (.tst (.not_ (.call 0 (.cons (.call 1 (.cons (.call 2 (.cons (.var 0) (.cons (.var 1) .nil))) .nil)) .nil))))) (f := fVar 1) (n := 0) (e0 := [some (.lst (ns.map PV.int)), none]) (xs := (List.range m).map fun i => PV.int (i : Nat))
      (fun i acc M' => acc = [] ∧ M'[0]? = some (.lst []))
      (fun i x acc M' hx ⟨ha, h0⟩ => by
        obtain ⟨hi, rfl⟩ := map_getI hx
        obtain ⟨v, c1⟩ := cell_ok hb hl i (by omega) M'
        obtain ⟨a, b, w1, w2, w3, w4⟩ := well_ok v M'
        obtain ⟨M3, r1, r2⟩ := right_ok (n := M'.length) (q := 0) (M := M' ++ [jarO a b 0]) ⟨a, b, 0, by simp, w2, w3, w4, by omega, by omega⟩ (by omega)
        refine ⟨Wk.holds0, [some (.lst (ns.map PV.int)), some (.int (i : Nat))], M', false, M3, rfl, ?_, fun _ => ⟨ha, ?_⟩, fun h => by cases h⟩
        · simp [ev, sSeq, sAsg, sRet, sRetN, sE, sIf, sNil, sExpr, startE, f2, fVar, fCons, fNil, fTup, fIf, fAnd, fOr, fNot, fChain, gNm, bind_eq, pure_eq, bad_eq, biV, bopV, copV, wdOf, asB_bl, lineOk0, lineOk1, lineOk2, lineOk3, lineOk4, optR_some, D_law, L_law, c1, w1, r1]
        · have hlt := (List.getElem?_eq_some_iff.mp h0).1
          rw [r2.oth 0 (by omega), List.getElem?_append_left hlt]; exact h0)
      (fun _ _ _ => Wk.holds0) _ 0 [] [.lst []] rfl (Nat.zero_le _) ⟨rfl, rfl⟩
    unfold fLc
    rw [bind_eq]
    have hi' : ev D_law (.range1 (.bi .max (.cons (.int 2) (.cons (.bi .min (.cons (.bi .len (.cons (.var 0) .nil)) (.cons (.int 4) .nil))) .nil)))) [some (.lst (ns.map PV.int)), none] [] = .ok ⟨(List.range m).map fun i => PV.int (i : Nat), []⟩ [] := hi
    rw [hi']
    dsimp only
    have h1' : lcL ⟨(List.range m).map fun i => PV.int (i : Nat), []⟩ (gNm 1) (ev D_law (.tst (.not_ (.call 0 (.cons (.call 1 (.cons (.call 2 (.cons (.var 0) (.cons (.var 1) .nil))) .nil)) .nil))))) (fVar 1) ([] : Mem).length (wipeE [some (.lst (ns.map PV.int)), none] [1]) ((List.range m).map fun i => PV.int (i : Nat)) ([] ++ [MO.lst []]) = .ok () M' := h1
    rw [h1']
    dsimp only
    have h3' : M'[([] : Mem).length]? = some (.lst []) := h3
    rw [h3']
    dsimp only
    have hk : Keeps [] M' := ⟨Nat.zero_le _, fun i o h => by simp at h⟩
    rw [if_pos ⟨rfl, hk⟩]
    rfl
  refine ⟨[], mk_pure rfl ?_ rfl⟩
  have e := eqX_lst_nil []
  simp only [List.isEmpty_nil] at e
  generalize hri : ev D_law (.range1 (.bi .max (.cons (.int 2) (.cons (.bi .min (.cons (.bi .len (.cons (.var 0) .nil)) (.cons (.int 4) .nil))) .nil)))) = ri at *
  show sE (f2 eqX (fLc (ev D_law (.range1 (.bi .max (.cons (.int 2) (.cons (.bi .min (.cons (.bi .len (.cons (.var 0) .nil)) (.cons (.int 4) .nil))) .nil))))) [1] (gNm 1) (ev D_law (.tst (.not_ (.call 0 (.cons (.call 1 (.cons (.call 2 (.cons (.var 0) (.cons (.var 1) .nil))) .nil)) .nil))))) (fVar 1)) (fLst fNil)) (fun x _ M => SRes.rt x M) [some (.lst (ns.map PV.int)), none] [] = _
  rw [hri]
  simp only [sE, f2, fLst, fNil, bind_eq, pure_eq, hc]
  rw [if_pos lineOk0]
  simp only [pure_eq, e]
end R
set_option maxHeartbeats 0
namespace R
open PySem PySem.Spec L2
open PyProof.Rows hiding St
theorem ob_eq (s : PySem.W.SharedT) : ob s = hk.obs s.abs := obsRG_eq (HandSHeadRun.getT_eq s)
end R
open PySem PySem.W PySem.Calls PyProof.Rows
theorem PySem.Challenge.cw_tellerhabits_k70_claims_that_are_none_holds : PySem.Challenge.rw_tellerhabits_k70_claims_that_are_none.Holds := by
  w_on; o_law
  refine HandSHeadRun.head_any (r := R.Rw) (q := view R.Rw.prog [68]) (H := R.hk) (ob := R.ob) (M := 6000) (loose := R.loose) (d := HandSHeadRun.topDef R.Rw.prog 68) (kwd := []) R.ob_eq
    (by kernel_rfl) (fun s => by kernel_rfl) R.run (by kernel_rfl) (by kernel_rfl) (by kernel_rfl) (by rfl) (by first | assumption | decide +kernel) (by decide +kernel) ⟨rfl, rfl, rfl, rfl, rfl, by decide +kernel⟩ ?hw ?hc
  case hw => w_witness2
  case hc =>
    refine R.walk_R (l := PySem.Challenge.rw_tellerhabits_k70_claims_that_are_none) R.E_law 49 27 R.D_law (x := "_law_cells") rfl (by kernel_rfl) ?room rfl rfl rfl (fun K => ?ad) (fun w Kf K => ?glo) (fun w mg h K X G c base X2 G2 => ?F) R.law_plain
    case room => exact ⟨⟨rfl, by decide, by decide⟩, rfl⟩
    case ad =>
      have e : (HandSHeadRun.topDef R.Rw.prog 68).name = ("law" : PySem.Str) := by kernel_rfl
      rw [e]; rfl
    case glo =>
      have e : (HandSHeadRun.topDef R.Rw.prog 68).name = ("law" : PySem.Str) := by kernel_rfl
      rw [e]; exact R.says_fa K 68
    case F => exact R.Fc_law X G c
