import PyProof.Rows.All
import Wide.All
import OpenK.AllK
import Wide.FinOn
import HandS.ForMost
import HandS.ForExc
import HandS.Defaults
import HandS.CallSlots
import HandS.IsInst
import HandS.Wide
import HandS.FStr
import HandS.Flow
import HandS.NoneIn
import HandS.TupAny
import HandS.Style
import PyProof.ReprRoads
import HandS.RaiseMore
import HandS.Star
import HandS.More
import KE.GoesEnum
import HandS.Iter
import HandS.HeadEnd
import HandS.HeadHook3
import HandS.Head0
import HandS.Head1
import HandS.Head2
import HandS.Codes
import PySem.Challenge.RW_turnflags_k79_texts_written_and_parsed
import Wide.Once
set_option Elab.async false
set_option linter.all false
set_option maxRecDepth 100000
set_option exponentiation.threshold 100000
namespace TF
open PySem PySem.Spec PyProof.Rows L2

/-! values by content -/
inductive D where
  | non | bl (b : Bool) | int (i : Int) | str (s : Str)
  | tup (l : List D) | lst (l : List D) | kst (l : List D) | dct (ks : List Str) (vs : List D)
  | ref (n : Nat)
  | ty (n : String) | cls (c : Nat) | fn (f : Nat) | tab (t : Nat)
  deriving Inhabited

/-- a thing that may change -/
inductive MO where
  | dead
  | lst (l : List D)
  | ins (c : Nat) (fs : List (Str × D))
  deriving Inhabited

/-- an error in flight -/
structure Exn where
  cls : Nat
  fs : List (Str × D)

inductive R (α : Type) where
  | ok (a : α) (M : List MO)
  | err (x : Exn) (M : List MO)
  | bad
def R.bind {α β : Type} (r : R α) (g : α → List MO → R β) : R β :=
  match r with
  | .ok a M => g a M
  | .err x M => .err x M
  | .bad => .bad
abbrev Ev := List (Option D)
/-- how a statement ends -/
inductive O where
  | nx (e : Ev) (M : List MO)
  | ret (d : D) (M : List MO)
  | brk (e : Ev) (M : List MO)
  | cont (e : Ev) (M : List MO)
  | err (x : Exn) (e : Ev) (M : List MO)
  | bad
def O.seq (o : O) (g : Ev → List MO → O) : O :=
  match o with
  | .nx e M => g e M
  | o => o

/-- where the module's things stand -/
structure Tb where
  K : PySem.W.Frag
  ca : Nat → Addr
  fa : Nat → Addr
  ta : Nat → Addr
  cv : Nat → Value

section
variable (T : Tb)
def FzT (Φ : Addr → Prop) (H : Hp) (a : Addr) (vs : List V) : Prop :=
  (Rd H a (.tup vs) ∧ ¬ Φ a) ∨ ∃ (o : Obj) (its : Array Value) (n : Nat), T.K.lookup a = some o ∧ o.cls = .type "tuple" ∧ o.data = .seq its n ∧ its.size ≤ sizeLine ∧ Vals vs its.toList
def FzL (Φ : Addr → Prop) (H : Hp) (a : Addr) (vs : List V) : Prop := H a = some (.lst vs) ∧ ¬ Φ a
/-- a list that is read alone -/
def KzL (Φ : Addr → Prop) (H : Hp) (a : Addr) (vs : List V) : Prop :=
  (Rd H a (.lst vs) ∧ ¬ Φ a) ∨ ∃ (o : Obj) (its : Array Value) (n : Nat), T.K.lookup a = some o ∧ o.cls = .type "list" ∧ o.dict = none ∧ o.data = .seq its n ∧ its.size ≤ sizeLine ∧ Vals vs its.toList
mutual
def Rep (Φ : Addr → Prop) (ι : List Addr) (H : Hp) : D → V → Prop
  | .non, v => v = .non
  | .bl b, v => v = .bl b
  | .int i, v => v = .int i
  | .str s, v => v = .str s
  | .tup l, v => ∃ a vs, v = .ref a ∧ FzT T Φ H a vs ∧ RepL Φ ι H l vs
  | .lst l, v => ∃ a vs, v = .ref a ∧ FzL Φ H a vs ∧ RepL Φ ι H l vs
  | .kst l, v => ∃ a vs, v = .ref a ∧ KzL T Φ H a vs ∧ RepL Φ ι H l vs
  | .dct ks l, v => ∃ a vs, v = .ref a ∧ Rd H a (.dK ((ks.map Sum.inr).zip vs)) ∧ ks.length = vs.length ∧ ¬ Φ a ∧ RepL Φ ι H l vs
  | .ref n, v => ∃ a, ι[n]? = some a ∧ v = .ref a
  | .ty n, v => v = .ty n
  | .cls c, v => v = .ref (T.ca c)
  | .fn f, v => v = .ref (T.fa f)
  | .tab t, v => v = .ref (T.ta t)
def RepL (Φ : Addr → Prop) (ι : List Addr) (H : Hp) : List D → List V → Prop
  | [], vs => vs = []
  | d :: ds, vs => ∃ v r, vs = v :: r ∧ Rep Φ ι H d v ∧ RepL Φ ι H ds r
end
/-- one thing that may change, at its address -/
def MOk (Φ : Addr → Prop) (ι : List Addr) (H : Hp) (a : Addr) : MO → Prop
  | .dead => True
  | .lst l => Φ a ∧ ∃ vs, H a = some (.lst vs) ∧ RepL T Φ ι H l vs
  | .ins c fs => Φ a ∧ ∃ dx vs, H a = some (.ins (T.ca c) dx ((fs.map (·.1)).zip vs)) ∧ vs.length = fs.length ∧ RepL T Φ ι H (fs.map (·.2)) vs
structure HR (Φ : Addr → Prop) (ι : List Addr) (H : Hp) (M : List MO) : Prop where
  len : ι.length = M.length
  nd : ι.Nodup
  obj : ∀ (n : Nat) (a : Addr) (mo : MO), ι[n]? = some a → M[n]? = some mo → MOk T Φ ι H a mo
  phi : ∀ a, Φ a → ∃ o, H a = some o
  inn : ∀ a, a ∈ ι → ∃ o, H a = some o
end
/-- what code may do to the heap: only the live own things change -/
structure Grow (Φ : Addr → Prop) (ι : List Addr) (H : Hp) (Φ' : Addr → Prop) (ι' : List Addr) (H' : Hp) : Prop where
  keep : ∀ a o, H a = some o → (¬ Φ a ∨ a ∉ ι) → H' a = some o
  fz : ∀ a o, H a = some o → ¬ Φ a → ¬ Φ' a
  own : ∀ a o, H a = some o → Φ a → a ∉ ι → Φ' a
  pre : ∃ ν, ι' = ι ++ ν ∧ ∀ p ∈ ν, H p = none
  there : ∀ a o, H a = some o → ∃ o', H' a = some o'
section
variable {Φ Φ1 Φ2 : Addr → Prop} {ι ι1 ι2 : List Addr} {H H1 H2 : Hp}
theorem Grow.refl : Grow Φ ι H Φ ι H := ⟨fun _ _ e _ => e, fun _ _ _ n => n, fun _ _ _ p _ => p, ⟨[], by simp, by simp⟩, fun _ o e => ⟨o, e⟩⟩
theorem Grow.notin (g : Grow Φ ι H Φ1 ι1 H1) {a : Addr} {o : HO} (e : H a = some o) (h : a ∉ ι) : a ∉ ι1 := by
  obtain ⟨ν, rfl, hν⟩ := g.pre
  intro hm
  rcases List.mem_append.mp hm with z | z
  · exact h z
  · rw [hν a z] at e; cases e
theorem Grow.trans (g : Grow Φ ι H Φ1 ι1 H1) (k : Grow Φ1 ι1 H1 Φ2 ι2 H2) : Grow Φ ι H Φ2 ι2 H2 := by
  refine ⟨fun a o e h => ?_, fun a o e n => ?_, fun a o e p n => ?_, ?_, fun a o e => ?_⟩
  · have e1 := g.keep a o e h
    refine k.keep a o e1 ?_
    by_cases p : Φ a
    · rcases h with h | h
      · exact absurd p h
      · exact .inr (g.notin e h)
    · exact .inl (g.fz a o e p)
  · obtain ⟨o', e1⟩ := g.there a o e
    exact k.fz a o' e1 (g.fz a o e n)
  · obtain ⟨o', e1⟩ := g.there a o e
    exact k.own a o' e1 (g.own a o e p n) (g.notin e n)
  · obtain ⟨ν, rfl, hν⟩ := g.pre
    obtain ⟨μ, rfl, hμ⟩ := k.pre
    refine ⟨ν ++ μ, by simp, fun p hp => ?_⟩
    rcases List.mem_append.mp hp with z | z
    · exact hν p z
    · cases q : H p with
      | none => rfl
      | some o =>
        obtain ⟨o', e1⟩ := g.there p o q
        rw [hμ p z] at e1; cases e1
  · obtain ⟨o', e1⟩ := g.there a o e
    exact k.there a o' e1
theorem Grow.ix (g : Grow Φ ι H Φ1 ι1 H1) {n : Nat} {a : Addr} (h : ι[n]? = some a) : ι1[n]? = some a := by
  obtain ⟨ν, rfl, _⟩ := g.pre
  rw [List.getElem?_append_left (List.getElem?_eq_some_iff.mp h).1]
  exact h
theorem Grow.rd (g : Grow Φ ι H Φ1 ι1 H1) {a : Addr} {u : HO} (h : Rd H a u) (n : ¬ Φ a) : Rd H1 a u ∧ ¬ Φ1 a := by
  rcases h with h | ⟨o, h⟩
  · exact ⟨.inl (g.keep a _ h (.inl n)), g.fz a _ h n⟩
  · exact ⟨.inr ⟨o, g.keep a _ h (.inl n)⟩, g.fz a _ h n⟩
/-- what a pure callee does, seen from its caller -/
theorem Grow.pure (g : Grow Φ [] H Φ1 ι1 H1) : Grow Φ ι H Φ ι H1 :=
  ⟨fun a o e _ => g.keep a o e (.inr (by simp)), fun _ _ _ n => n, fun _ _ _ p _ => p, ⟨[], by simp, by simp⟩, g.there⟩
end
section
variable {T : Tb} {Φ Φ1 : Addr → Prop} {ι ι1 : List Addr} {H H1 : Hp}
theorem FzT.grow (g : Grow Φ ι H Φ1 ι1 H1) {a : Addr} {vs : List V} (h : FzT T Φ H a vs) : FzT T Φ1 H1 a vs := by
  rcases h with ⟨h, n⟩ | h
  · exact .inl (g.rd h n)
  · exact .inr h
theorem FzL.grow (g : Grow Φ ι H Φ1 ι1 H1) {a : Addr} {vs : List V} (h : FzL Φ H a vs) : FzL Φ1 H1 a vs := ⟨g.keep a _ h.1 (.inl h.2), g.fz a _ h.1 h.2⟩
theorem KzL.grow (g : Grow Φ ι H Φ1 ι1 H1) {a : Addr} {vs : List V} (h : KzL T Φ H a vs) : KzL T Φ1 H1 a vs := by
  rcases h with ⟨h, n⟩ | h
  · exact .inl (g.rd h n)
  · exact .inr h
theorem FzT.sq {a : Addr} {vs : List V} (h : FzT T Φ H a vs) : SqT T.K H a vs := by
  rcases h with ⟨h, n⟩ | h
  · exact .inl h
  · exact .inr h
theorem FzL.sq {a : Addr} {vs : List V} (h : FzL Φ H a vs) : SqL T.K H a vs := .inl (.inl h.1)
theorem KzL.sq {a : Addr} {vs : List V} (h : KzL T Φ H a vs) : SqL T.K H a vs := by
  rcases h with ⟨h, n⟩ | h
  · exact .inl h
  · exact .inr h
mutual
theorem Rep.grow (g : Grow Φ ι H Φ1 ι1 H1) : ∀ (d : D) (v : V), Rep T Φ ι H d v → Rep T Φ1 ι1 H1 d v
  | .non, _, h => h
  | .bl _, _, h => h
  | .int _, _, h => h
  | .str _, _, h => h
  | .tup l, _, h => by
    obtain ⟨a, vs, e, f, r⟩ := h
    exact ⟨a, vs, e, f.grow g, RepL.grow g l vs r⟩
  | .lst l, _, h => by
    obtain ⟨a, vs, e, f, r⟩ := h
    exact ⟨a, vs, e, f.grow g, RepL.grow g l vs r⟩
  | .kst l, _, h => by
    obtain ⟨a, vs, e, f, r⟩ := h
    exact ⟨a, vs, e, f.grow g, RepL.grow g l vs r⟩
  | .dct ks l, _, h => by
    obtain ⟨a, vs, e, f, q, n, r⟩ := h
    obtain ⟨f', n'⟩ := g.rd f n
    exact ⟨a, vs, e, f', q, n', RepL.grow g l vs r⟩
  | .ref n, _, h => by
    obtain ⟨a, e, q⟩ := h
    exact ⟨a, g.ix e, q⟩
  | .ty _, _, h => h
  | .cls _, _, h => h
  | .fn _, _, h => h
  | .tab _, _, h => h
theorem RepL.grow (g : Grow Φ ι H Φ1 ι1 H1) : ∀ (l : List D) (vs : List V), RepL T Φ ι H l vs → RepL T Φ1 ι1 H1 l vs
  | [], _, h => h
  | d :: ds, _, h => by
    obtain ⟨v, r, e, h1, h2⟩ := h
    exact ⟨v, r, e, Rep.grow g d v h1, RepL.grow g ds r h2⟩
end
/-! pure values -/
mutual
def D.pure : D → Bool
  | .tup l => pureL l
  | .lst l => pureL l
  | .kst l => pureL l
  | .dct _ l => pureL l
  | .ref _ => false
  | _ => true
def pureL : List D → Bool
  | [] => true
  | d :: ds => d.pure && pureL ds
end
/-! seen with fewer own things -/
mutual
theorem Rep.unpure (k : ∀ a, Φ a → Φ1 a) : ∀ (d : D) (v : V), d.pure = true → Rep T Φ1 ι1 H d v → Rep T Φ ι H d v
  | .non, _, _, h => h
  | .bl _, _, _, h => h
  | .int _, _, _, h => h
  | .str _, _, _, h => h
  | .tup l, _, p, h => by
    obtain ⟨a, vs, e, f, r⟩ := h
    refine ⟨a, vs, e, ?_, RepL.unpure k l vs p r⟩
    rcases f with ⟨f, n⟩ | f
    · exact .inl ⟨f, fun z => n (k a z)⟩
    · exact .inr f
  | .lst l, _, p, h => by
    obtain ⟨a, vs, e, f, r⟩ := h
    exact ⟨a, vs, e, ⟨f.1, fun z => f.2 (k a z)⟩, RepL.unpure k l vs p r⟩
  | .kst l, _, p, h => by
    obtain ⟨a, vs, e, f, r⟩ := h
    refine ⟨a, vs, e, ?_, RepL.unpure k l vs p r⟩
    rcases f with ⟨f, n⟩ | f
    · exact .inl ⟨f, fun z => n (k a z)⟩
    · exact .inr f
  | .dct ks l, _, p, h => by
    obtain ⟨a, vs, e, f, q, n, r⟩ := h
    exact ⟨a, vs, e, f, q, fun z => n (k a z), RepL.unpure k l vs p r⟩
  | .ref n, _, p, h => by cases p
  | .ty _, _, _, h => h
  | .cls _, _, _, h => h
  | .fn _, _, _, h => h
  | .tab _, _, _, h => h
theorem RepL.unpure (k : ∀ a, Φ a → Φ1 a) : ∀ (l : List D) (vs : List V), pureL l = true → RepL T Φ1 ι1 H l vs → RepL T Φ ι H l vs
  | [], _, _, h => h
  | d :: ds, _, p, h => by
    obtain ⟨v, r, e, h1, h2⟩ := h
    have p' : d.pure = true ∧ pureL ds = true := by simpa [pureL] using p
    exact ⟨v, r, e, Rep.unpure k d v p'.1 h1, RepL.unpure k ds r p'.2 h2⟩
end
theorem RepL.length : ∀ {l : List D} {vs : List V}, RepL T Φ ι H l vs → vs.length = l.length
  | [], _, h => by cases h; rfl
  | d :: ds, _, h => by
    obtain ⟨v, r, rfl, h1, h2⟩ := h
    simp [RepL.length h2]
theorem RepL.get : ∀ {l : List D} {vs : List V} {i : Nat} {d : D}, RepL T Φ ι H l vs → l[i]? = some d → ∃ v, vs[i]? = some v ∧ Rep T Φ ι H d v
  | [], _, i, d, h, e => by simp at e
  | x :: ds, _, 0, d, h, e => by
    obtain ⟨v, r, rfl, h1, h2⟩ := h
    simp at e; subst e
    exact ⟨v, by simp, h1⟩
  | x :: ds, _, i + 1, d, h, e => by
    obtain ⟨v, r, rfl, h1, h2⟩ := h
    obtain ⟨u, e1, r1⟩ := RepL.get (i := i) h2 (by simpa using e)
    exact ⟨u, by simpa using e1, r1⟩
theorem RepL.geti {l : List D} {vs : List V} {i : Nat} {v : V} (h : RepL T Φ ι H l vs) (e : vs[i]? = some v) : ∃ d, l[i]? = some d ∧ Rep T Φ ι H d v := by
  have hl := h.length
  have hi : i < l.length := by rw [← hl]; exact (List.getElem?_eq_some_iff.mp e).1
  obtain ⟨u, e1, r⟩ := h.get (List.getElem?_eq_getElem hi)
  rw [e] at e1; cases e1
  exact ⟨_, List.getElem?_eq_getElem hi, r⟩
theorem RepL.app : ∀ {l m : List D} {vs ws : List V}, RepL T Φ ι H l vs → RepL T Φ ι H m ws → RepL T Φ ι H (l ++ m) (vs ++ ws)
  | [], m, _, ws, h, k => by cases h; exact k
  | d :: ds, m, _, ws, h, k => by
    obtain ⟨v, r, rfl, h1, h2⟩ := h
    exact ⟨v, r ++ ws, rfl, h1, RepL.app h2 k⟩
theorem RepL.one {d : D} {v : V} (h : Rep T Φ ι H d v) : RepL T Φ ι H [d] [v] := ⟨v, [], rfl, h, rfl⟩
theorem RepL.take : ∀ {l : List D} {vs : List V} (n : Nat), RepL T Φ ι H l vs → RepL T Φ ι H (l.take n) (vs.take n)
  | _, _, 0, _ => by simp [RepL]
  | [], _, n + 1, h => by cases h; simp [RepL]
  | d :: ds, _, n + 1, h => by
    obtain ⟨v, r, rfl, h1, h2⟩ := h
    exact ⟨v, r.take n, rfl, h1, RepL.take n h2⟩
theorem RepL.drop : ∀ {l : List D} {vs : List V} (n : Nat), RepL T Φ ι H l vs → RepL T Φ ι H (l.drop n) (vs.drop n)
  | _, _, 0, h => h
  | [], _, n + 1, h => by cases h; simp [RepL]
  | d :: ds, _, n + 1, h => by
    obtain ⟨v, r, rfl, h1, h2⟩ := h
    exact RepL.drop (l := ds) (vs := r) n h2
theorem RepL.rev : ∀ {l : List D} {vs : List V}, RepL T Φ ι H l vs → RepL T Φ ι H l.reverse vs.reverse
  | [], _, h => by cases h; simp [RepL]
  | d :: ds, _, h => by
    obtain ⟨v, r, rfl, h1, h2⟩ := h
    simp only [List.reverse_cons]
    exact (RepL.rev h2).app (RepL.one h1)
theorem RepL.set : ∀ {l : List D} {vs : List V} {d : D} {v : V} (i : Nat), RepL T Φ ι H l vs → Rep T Φ ι H d v → RepL T Φ ι H (l.set i d) (vs.set i v)
  | [], _, d, v, i, h, k => by cases h; simp [RepL]
  | x :: ds, _, d, v, 0, h, k => by
    obtain ⟨u, r, rfl, h1, h2⟩ := h
    exact ⟨v, r, rfl, k, h2⟩
  | x :: ds, _, d, v, i + 1, h, k => by
    obtain ⟨u, r, rfl, h1, h2⟩ := h
    exact ⟨u, r.set i v, rfl, h1, RepL.set i h2 k⟩
theorem MOk.grow (g : Grow Φ ι H Φ1 ι1 H1) {a : Addr} (he : ∀ o, H a = some o → H1 a = some o) (hp : Φ a → Φ1 a) : ∀ {mo : MO}, MOk T Φ ι H a mo → MOk T Φ1 ι1 H1 a mo
  | .dead, _ => trivial
  | .lst l, h => by
    obtain ⟨p, vs, e, r⟩ := h
    exact ⟨hp p, vs, he _ e, RepL.grow g _ _ r⟩
  | .ins c fs, h => by
    obtain ⟨p, dx, vs, e, q, r⟩ := h
    exact ⟨hp p, dx, vs, he _ e, q, RepL.grow g _ _ r⟩
/-- behind a pure callee -/
theorem HR.pure {M : List MO} (r : HR T Φ ι H M) (g : Grow Φ [] H Φ1 ι1 H1) : HR T Φ ι H1 M :=
  ⟨r.len, r.nd, fun n a mo e1 e2 => (r.obj n a mo e1 e2).grow (g.pure (ι := ι)) (fun o e => g.keep a o e (.inr (by simp))) (fun p => p), fun a p => by
    obtain ⟨o, e⟩ := r.phi a p
    exact g.there a o e, fun a p => by
    obtain ⟨o, e⟩ := r.inn a p
    exact g.there a o e⟩
theorem HR.nil (hp : ∀ a, Φ a → ∃ o, H a = some o) : HR T Φ [] H [] := ⟨rfl, by simp, fun n a mo e => by simp at e, hp, by simp⟩
/-- a new thing that never changes -/
theorem Grow.new {p : Addr} {u : HO} (hn : H p = none) : Grow Φ ι H Φ ι (upd H p u) :=
  ⟨fun a o e _ => by rw [upd_ne (ne_of_none e hn)]; exact e, fun _ _ _ n => n, fun _ _ _ p _ => p, ⟨[], by simp, by simp⟩, fun a o e => ⟨o, by rw [upd_ne (ne_of_none e hn)]; exact e⟩⟩
theorem HR.new {M : List MO} {p : Addr} {u : HO} (r : HR T Φ ι H M) (hn : H p = none) : HR T Φ ι (upd H p u) M :=
  ⟨r.len, r.nd, fun n a mo e1 e2 => (r.obj n a mo e1 e2).grow (Grow.new hn) (fun o e => by rw [upd_ne (ne_of_none e hn)]; exact e) (fun p => p), fun a q => by
    obtain ⟨o, e⟩ := r.phi a q
    exact ⟨o, by rw [upd_ne (ne_of_none e hn)]; exact e⟩, fun a q => by
    obtain ⟨o, e⟩ := r.inn a q
    exact ⟨o, by rw [upd_ne (ne_of_none e hn)]; exact e⟩⟩
theorem HR.notin {M : List MO} {p : Addr} (r : HR T Φ ι H M) (hn : H p = none) : p ∉ ι := fun z => by
  obtain ⟨o, e⟩ := r.inn p z
  rw [hn] at e; cases e
theorem HR.nophi {M : List MO} {p : Addr} (r : HR T Φ ι H M) (hn : H p = none) : ¬ Φ p := fun z => by
  obtain ⟨o, e⟩ := r.phi p z
  rw [hn] at e; cases e
theorem Rep.newT {M : List MO} {p : Addr} {l : List D} {vs : List V} (r : HR T Φ ι H M) (hn : H p = none) (h : RepL T Φ ι H l vs) : Rep T Φ ι (upd H p (.tup vs)) (.tup l) (.ref p) :=
  ⟨p, vs, rfl, .inl ⟨.inl upd_same, r.nophi hn⟩, RepL.grow (Grow.new hn) _ _ h⟩
theorem Rep.newL {M : List MO} {p : Addr} {l : List D} {vs : List V} (r : HR T Φ ι H M) (hn : H p = none) (h : RepL T Φ ι H l vs) : Rep T Φ ι (upd H p (.lst vs)) (.lst l) (.ref p) :=
  ⟨p, vs, rfl, ⟨upd_same, r.nophi hn⟩, RepL.grow (Grow.new hn) _ _ h⟩
/-- a new thing of ours that may change -/
def addP (Φ : Addr → Prop) (p : Addr) : Addr → Prop := fun a => Φ a ∨ a = p
def subP (Φ : Addr → Prop) (p : Addr) : Addr → Prop := fun a => Φ a ∧ a ≠ p
theorem Grow.own1 {M : List MO} {p : Addr} {u : HO} (r : HR T Φ ι H M) (hn : H p = none) : Grow Φ ι H (addP Φ p) (ι ++ [p]) (upd H p u) :=
  ⟨fun a o e _ => by rw [upd_ne (ne_of_none e hn)]; exact e, fun a o e n z => z.elim n (ne_of_none e hn), fun _ _ _ p _ => .inl p, ⟨[p], rfl, by simpa using hn⟩, fun a o e => ⟨o, by rw [upd_ne (ne_of_none e hn)]; exact e⟩⟩
theorem HR.own1 {M : List MO} {p : Addr} {u : HO} {mo : MO} (r : HR T Φ ι H M) (hn : H p = none) (h : MOk T (addP Φ p) (ι ++ [p]) (upd H p u) p mo) : HR T (addP Φ p) (ι ++ [p]) (upd H p u) (M ++ [mo]) := by
  have hi := r.notin hn
  refine ⟨by simp [r.len], ?_, fun n a m e1 e2 => ?_, fun a q => ?_, fun a q => ?_⟩
  · rw [List.nodup_append]
    refine ⟨r.nd, by simp, fun a ha b hb => ?_⟩
    simp at hb; subst hb
    intro z; subst z; exact hi ha
  · by_cases hlt : n < ι.length
    · rw [List.getElem?_append_left hlt] at e1
      rw [List.getElem?_append_left (by rw [← r.len]; exact hlt)] at e2
      exact (r.obj n a m e1 e2).grow (Grow.own1 r hn) (fun o e => by rw [upd_ne (ne_of_none e hn)]; exact e) (fun p => .inl p)
    · have hn1 : n < (ι ++ [p]).length := (List.getElem?_eq_some_iff.mp e1).1
      have hn2 : n = ι.length := by simp at hn1; omega
      subst hn2
      rw [List.getElem?_append_right (Nat.le_refl _)] at e1
      simp at e1
      rw [r.len, List.getElem?_append_right (Nat.le_refl _)] at e2
      simp at e2
      subst e1; subst e2
      exact h
  · rcases q with q | q
    · obtain ⟨o, e⟩ := r.phi a q
      exact ⟨o, by rw [upd_ne (ne_of_none e hn)]; exact e⟩
    · subst q; exact ⟨_, upd_same⟩
  · rcases List.mem_append.mp q with q | q
    · obtain ⟨o, e⟩ := r.inn a q
      exact ⟨o, by rw [upd_ne (ne_of_none e hn)]; exact e⟩
    · simp at q; subst q; exact ⟨_, upd_same⟩
/-- an own thing changes -/
theorem Grow.mut {a : Addr} {u : HO} {n : Nat} (hi : ι[n]? = some a) (hp : Φ a) : Grow Φ ι H Φ ι (upd H a u) :=
  ⟨fun b o e h => by
    rw [upd_ne]; exact e
    rintro rfl
    rcases h with h | h
    · exact h hp
    · exact h (List.mem_of_getElem? hi), fun _ _ _ n => n, fun _ _ _ p _ => p, ⟨[], by simp, by simp⟩, fun b o e => by
    by_cases z : b = a
    · subst z; exact ⟨_, upd_same⟩
    · exact ⟨o, by rw [upd_ne z]; exact e⟩⟩
theorem HR.mut {M : List MO} {a : Addr} {u : HO} {n : Nat} {mo : MO} (r : HR T Φ ι H M) (hi : ι[n]? = some a) (hp : Φ a) (h : MOk T Φ ι (upd H a u) a mo) : HR T Φ ι (upd H a u) (M.set n mo) := by
  refine ⟨by simp [r.len], r.nd, fun m b x e1 e2 => ?_, fun b q => ?_, fun b q => ?_⟩
  · by_cases z : n = m
    · subst z
      rw [hi] at e1; cases e1
      have hlt : n < M.length := by rw [← r.len]; exact (List.getElem?_eq_some_iff.mp hi).1
      rw [List.getElem?_set_self hlt] at e2
      cases e2
      exact h
    · rw [List.getElem?_set_ne z] at e2
      have hne : b ≠ a := fun e => z (nodup_ix' r.nd hi (e ▸ e1))
      exact (r.obj m b x e1 e2).grow (Grow.mut hi hp) (fun o e => by rw [upd_ne hne]; exact e) (fun p => p)
  · by_cases z : b = a
    · subst z; exact ⟨_, upd_same⟩
    · obtain ⟨o, e⟩ := r.phi b q
      exact ⟨o, by rw [upd_ne z]; exact e⟩
  · by_cases z : b = a
    · subst z; exact ⟨_, upd_same⟩
    · obtain ⟨o, e⟩ := r.inn b q
      exact ⟨o, by rw [upd_ne z]; exact e⟩
where
  nodup_ix' {N : List Addr} (hN : N.Nodup) {i j : Nat} {x : Addr} (a : N[i]? = some x) (b : N[j]? = some x) : i = j := by
    obtain ⟨h1, e1⟩ := List.getElem?_eq_some_iff.mp a
    obtain ⟨h2, e2⟩ := List.getElem?_eq_some_iff.mp b
    exact (List.getElem_inj hN).mp (e1.trans e2.symm)
/-- an own list is let go: it never changes from here on -/
theorem Grow.freeze {a : Addr} {n : Nat} (hi : ι[n]? = some a) : Grow Φ ι H (subP Φ a) ι H :=
  ⟨fun _ _ e _ => e, fun b o e h z => h z.1, fun b o e p h => ⟨p, fun z => h (z ▸ List.mem_of_getElem? hi)⟩, ⟨[], by simp, by simp⟩, fun _ o e => ⟨o, e⟩⟩
theorem HR.freeze {M : List MO} {a : Addr} {n : Nat} (r : HR T Φ ι H M) (hi : ι[n]? = some a) : HR T (subP Φ a) ι H (M.set n .dead) := by
  refine ⟨by simp [r.len], r.nd, fun m b x e1 e2 => ?_, fun b q => r.phi b q.1, r.inn⟩
  by_cases z : n = m
  · subst z
    have hlt : n < M.length := by rw [← r.len]; exact (List.getElem?_eq_some_iff.mp hi).1
    rw [List.getElem?_set_self hlt] at e2
    cases e2
    trivial
  · rw [List.getElem?_set_ne z] at e2
    have hne : b ≠ a := fun e => z (HR.mut.nodup_ix' r.nd hi (e ▸ e1))
    exact (r.obj m b x e1 e2).grow (Grow.freeze hi) (fun o e => e) (fun p => ⟨p, hne⟩)
end
end TF

/-! The small language: its terms, what they are worth. -/
namespace TF
open PySem PySem.Spec PyProof.Rows L2

inductive Op where
  | add | sub | mul | div | mod | pow | shl
  deriving DecidableEq
inductive Cm where
  | eq | ne | lt | le | gt | ge | isin | notin | is | isnot
  deriving DecidableEq
inductive Cn where
  | non | bl (b : Bool) | int (i : Int) | str (s : Str)
  deriving DecidableEq
def Cn.d : Cn → D
  | .non => .non
  | .bl b => .bl b
  | .int i => .int i
  | .str s => .str s
/-- built-in functions -/
inductive Bi where
  | len | abs | max | min | int | str | sum | any | all | tuple | list | repr | bool
  deriving DecidableEq
/-- built-in methods that change nothing -/
inductive Mt where
  | split | join
  deriving DecidableEq
/-- built-in methods that change a list of ours -/
inductive Mm where
  | append | pop | popat | extend
  deriving DecidableEq
mutual
inductive RE where
  | v (i : Nat)
  | c (c : Cn)
  | neg (a : RE)
  | g (x : Str) (c : Cn)
  | op (o : Op) (a b : RE)
  | cmp (o : Cm) (a b : RE)
  | chain (o o' : Cm) (a b c : RE)
  | bnd (es : REs)
  | bor (es : REs)
  | nt (a : RE)
  | ife (c a b : RE)
  | tup (es : RSq)
  | lst (es : RSq)
  | newl (es : REs)
  | ix (a i : RE)
  | tix (x : Str) (t : Nat) (i : RE)
  | tin (neg : Bool) (a : RE) (x : Str) (t : Nat)
  | sl (a : RE) (lo hi : RO)
  | rv (a : RE)
  | call (f : Nat) (es : REs)
  | hcall (f : Nat) (es : REs)
  | bi (b : Bi) (es : REs)
  | isi (a : RE) (t : String)
  | mt (m : Mt) (a : RE) (es : REs)
  | mm (m : Mm) (a : RE) (es : REs)
  | lc (mu : Bool) (own : List Nat) (g : RG) (it : RI) (cond : RO) (e : RE)
  | fs (es : REs)
  | fmt (a : RE)
  | fz (a : RE)
inductive REs where
  | nil
  | cons (e : RE) (es : REs)
inductive RSq where
  | nil
  | cons (star : Bool) (e : RE) (es : RSq)
inductive RO where
  | none
  | some (e : RE)
/-- what a for walks -/
inductive RI where
  | it (e : RE)
  | rng1 (a : RE)
  | rng2 (a b : RE)
  | enum (e : RE)
/-- targets -/
inductive RG where
  | nm (i : Nat)
  | tp (gs : RGs)
  | ix (a i : RE)
inductive RGs where
  | nil
  | cons (g : RG) (gs : RGs)
end
mutual
inductive RS where
  | set (g : RG) (e : RE)
  | setlc (i : Nat) (e : RE)
  | par (is : List Nat) (es : REs)
  | aug (i : Nat) (o : Op) (e : RE)
  | ex (e : RE)
  | ret (e : RE)
  | retn
  | ite (c : RE) (a b : RSs)
  | forr (g : RG) (it : RI) (b : RSs)
  | wh (c : RE) (b : RSs)
  | brk
  | cont
  | pass
  | never
inductive RSs where
  | nil
  | cons (s : RS) (ss : RSs)
end

/-- tables of the module: texts to values -/
structure Gm where
  hf : Nat → List D → List MO → R D
  tab : Nat → List (Str × Cn)
  w : Nat

def seqV (M : List MO) : D → Option (Bool × List D)
  | .tup l => some (false, l)
  | .lst l => some (true, l)
  | .kst l => some (true, l)
  | .ref n => match M[n]? with
    | some (.lst l) => some (true, l)
    | _ => none
  | _ => none
/-- a list, no tuple -/
def lstV (M : List MO) : D → Option (List D)
  | .lst l => some l
  | .ref n => match M[n]? with
    | some (.lst l) => some l
    | _ => none
  | _ => none
mutual
def D.eqv : D → D → Bool
  | .non, d => match d with | .non => true | _ => false
  | .bl a, d => match d with | .bl b => a == b | .int j => (if a then 1 else 0) == j | _ => false
  | .int i, d => match d with | .bl b => i == (if b then 1 else 0) | .int j => i == j | _ => false
  | .str x, d => match d with | .str y => x == y | _ => false
  | .tup l, d => match d with | .tup m => eqvL l m | _ => false
  | .lst l, d => match d with | .lst m => eqvL l m | .kst m => eqvL l m | _ => false
  | .kst l, d => match d with | .lst m => eqvL l m | .kst m => eqvL l m | _ => false
  | _, _ => false
def eqvL : List D → List D → Bool
  | [], m => match m with | [] => true | _ => false
  | d :: ds, m => match m with | [] => false | e :: es => d.eqv e && eqvL ds es
end
def okStr (s : Str) : Bool := s.cps.all (· < 0x110000)
/-! data without dicts, of a depth -/
mutual
def D.flat : Nat → D → Bool
  | _, .non => true
  | _, .bl _ => true
  | _, .int _ => true
  | _, .str s => okStr s
  | 0, _ => false
  | n + 1, .tup l => flatL n l
  | n + 1, .lst l => flatL n l
  | n + 1, .kst l => flatL n l
  | _, _ => false
def flatL : Nat → List D → Bool
  | _, [] => true
  | n, d :: ds => d.flat n && flatL n ds
end
/-- a list of ours by its items -/
def viewV (M : List MO) : D → D
  | .ref n => match M[n]? with
    | some (.lst l) => .lst l
    | _ => .ref n
  | d => d
def scalar : D → Bool
  | .non => true
  | .bl _ => true
  | .int _ => true
  | .str _ => true
  | _ => false
def b2z (b : Bool) : Int := if b then 1 else 0
def R.of {α : Type} (o : Option α) (M : List MO) : R α :=
  match o with
  | some a => .ok a M
  | none => .bad
def R.when {α : Type} (c : Bool) (r : R α) : R α := if c then r else .bad
def smallB (i : Int) : Bool := decide (i.natAbs < 2 ^ 64)
def wideB (i : Int) : Bool := decide (i.natAbs < 2 ^ 8000)
def asInt : D → Option Int
  | .int i => some i
  | _ => none
def asStr : D → Option Str
  | .str i => some i
  | _ => none
def asBl : D → Option Bool
  | .bl i => some i
  | _ => none
def asTup : D → Option (List D)
  | .tup l => some l
  | .lst l => some l
  | .kst l => some l
  | _ => none
def asLst : D → Option (List D)
  | .lst l => some l
  | _ => none
def isNon : D → Bool
  | .non => true
  | _ => false
/-- a list of ours: its number, its items -/
def asRef (M : List MO) : D → Option (Nat × List D)
  | .ref n => match M[n]? with
    | some (.lst l) => some (n, l)
    | _ => none
  | _ => none
def evOp (o : Op) (x y : D) (M : List MO) : R D :=
  match o with
  | .add => match asInt x, asInt y with
    | some i, some j => .ok (.int (i + j)) M
    | _, _ => match asStr x, asStr y with
      | some a, some b => R.when (decide (a.length + b.length ≤ sizeLine)) (.ok (.str (a ++ b)) M)
      | _, _ => match lstV M x, lstV M y with
        | some l, some m => R.when (decide (l.length + m.length ≤ sizeLine)) (.ok (.lst (l ++ m)) M)
        | _, _ => .bad
  | .sub => match asInt x, asInt y with
    | some i, some j => .ok (.int (i - j)) M
    | _, _ => .bad
  | .mul => match asInt x, asInt y with
    | some i, some j => R.when ((smallB i || smallB j) || (wideB i && wideB j)) (.ok (.int (i * j)) M)
    | _, _ => match asLst x, asInt y with
      | some l, some j => R.when (decide (-(2 ^ 63) ≤ j) && (decide (j < 2 ^ 63) && decide (l.length * j.toNat ≤ sizeLine))) (.ok (.lst (List.replicate j.toNat l).flatten) M)
      | _, _ => .bad
  | .div => match asInt x, asInt y with
    | some i, some j => R.when (decide (0 < j) && wideB j) (.ok (.int (i / j)) M)
    | _, _ => .bad
  | .mod => match asInt x, asInt y with
    | some i, some j => R.when (decide (0 < j)) (.ok (.int (i % j)) M)
    | _, _ => .bad
  | .pow => match asInt x, asInt y with
    | some i, some j => R.when (decide (0 ≤ j) && (decide (j ≤ 1000000) && smallB i)) (.ok (.int (i ^ j.toNat)) M)
    | _, _ => .bad
  | .shl => match asInt x, asInt y with
    | some i, some j => R.when (decide (0 ≤ j) && (decide (j ≤ 1000000) && smallB i)) (.ok (.int (i * 2 ^ j.toNat)) M)
    | _, _ => .bad
/-- op= of whole numbers -/
def evAug (o : Op) (x y : D) (M : List MO) : R D :=
  match asInt x, asInt y with
  | some i, some j => match o with
    | .add => .ok (.int (i + j)) M
    | .sub => .ok (.int (i - j)) M
    | _ => .bad
  | _, _ => .bad
def inB (x : D) (l : List D) : Bool := l.any fun y => y.eqv x
def evIn (neg : Bool) (x y : D) (M : List MO) : R D :=
  match asStr x, asStr y with
  | some a, some b => match a.cps.toList with
    | [c] => .ok (.bl (neg != decide (c ∈ b.cps.toList))) M
    | _ => .bad
  | _, _ => match seqV M y with
    | some (_, l) => R.when (scalar x && l.all scalar) (.ok (.bl (neg != inB x l)) M)
    | none => .bad
def evOrd (f : Int → Int → Bool) (x y : D) (M : List MO) : R D :=
  match asInt x, asInt y with
  | some i, some j => .ok (.bl (f i j)) M
  | _, _ => .bad
def bothStr (x y : D) : Bool := (asStr x).isSome && (asStr y).isSome
def evCmp (o : Cm) (x y : D) (M : List MO) : R D :=
  match o with
  | .eq => R.when (bothStr x y || ((viewV M x).flat 60 && (viewV M y).flat 60)) (.ok (.bl ((viewV M x).eqv (viewV M y))) M)
  | .ne => R.when (bothStr x y || ((viewV M x).flat 60 && (viewV M y).flat 60)) (.ok (.bl (!(viewV M x).eqv (viewV M y))) M)
  | .lt => evOrd (fun i j => decide (i < j)) x y M
  | .le => evOrd (fun i j => decide (i ≤ j)) x y M
  | .gt => evOrd (fun i j => decide (j < i)) x y M
  | .ge => evOrd (fun i j => decide (j ≤ i)) x y M
  | .isin => evIn false x y M
  | .notin => evIn true x y M
  | .is => R.when (isNon y) (.ok (.bl (isNon x)) M)
  | .isnot => R.when (isNon y) (.ok (.bl (!isNon x)) M)
/-- truth -/
def trB (M : List MO) (d : D) : Option Bool :=
  match d with
  | .non => some false
  | .bl b => some b
  | .int i => some (i != 0)
  | .str s => if s.length ≤ sizeLine then some ((s.length : Int) != 0) else none
  | d => match seqV M d with
    | some (_, l) => some (!l.isEmpty)
    | none => none
def evIx (x i : D) (M : List MO) : R D :=
  match asInt i with
  | some j => match asStr x with
    | some z => R.when (decide (z.length ≤ sizeLine)) (R.of ((atI z.cps.toList j).map fun c => D.str ⟨#[c]⟩) M)
    | none => match seqV M x with
      | some (_, l) => R.of (atI l j) M
      | none => .bad
  | none => .bad
def cutD (xs : List D) (lo hi : Option Int) : List D := (xs.drop (HT.sIx xs.length 0 lo)).take (HT.sIx xs.length xs.length hi - HT.sIx xs.length 0 lo)
def evSl (x : D) (lo hi : Option Int) (M : List MO) : R D :=
  match asStr x with
  | some z => R.when (decide (z.length ≤ sizeLine)) (.ok (.str (cutS z lo hi)) M)
  | none => match seqV M x with
    | some (true, l) => .ok (.lst (cutD l lo hi)) M
    | some (false, l) => .ok (.tup (cutD l lo hi)) M
    | none => .bad
def evRv (x : D) (M : List MO) : R D :=
  match seqV M x with
  | some (true, l) => .ok (.lst l.reverse) M
  | some (false, l) => .ok (.tup l.reverse) M
  | none => .bad
def intsOf : List D → Option (List Int)
  | [] => some []
  | d :: r => match asInt d, intsOf r with
    | some i, some l => some (i :: l)
    | _, _ => none
def boolsOf : List D → Option (List Bool)
  | [] => some []
  | d :: r => match asBl d, boolsOf r with
    | some i, some l => some (i :: l)
    | _, _ => none
def strsOf : List D → Option (List Str)
  | [] => some []
  | d :: r => match asStr d, strsOf r with
    | some i, some l => some (i :: l)
    | _, _ => none
/-! as the library's data -/
mutual
def D.py : D → PyData
  | .non => .none
  | .bl b => .bool b
  | .int i => .int i
  | .str s => .str s
  | .tup l => .tuple (pyL l)
  | .lst l => .list (pyL l)
  | .kst l => .list (pyL l)
  | _ => .none
def pyL : List D → List PyData
  | [] => []
  | d :: ds => d.py :: pyL ds
end
def isSeqD : D → Bool
  | .tup _ => true
  | .lst _ => true
  | .kst _ => true
  | .int _ => true
  | _ => false
def reprB (d : D) : Bool := isSeqD d && (d.flat 60 && (d.py.showable && decide (d.py.shown.length ≤ sizeLine)))
def evBi1 (b : Bi) (x : D) (M : List MO) : R D :=
  match b with
  | .len => match asStr x with
    | some s => R.when (decide (s.length ≤ sizeLine)) (.ok (.int s.length) M)
    | none => match seqV M x with
      | some (_, l) => .ok (.int l.length) M
      | none => .bad
  | .abs => match asInt x with
    | some i => .ok (.int (if i < 0 then -i else i)) M
    | none => .bad
  | .int => match asInt x with
    | some i => .ok (.int i) M
    | none => match asBl x with
      | some k => .ok (.int (if k then 1 else 0)) M
      | none => match asStr x with
        | some s => match PySem.intText? s with
          | some n => R.when (decide (s.length ≤ 640)) (.ok (.int n) M)
          | none => .bad
        | none => .bad
  | .str => match asInt x with
    | some i => R.when (decide (i.natAbs < 2 ^ 1900)) (.ok (.str (toString i)) M)
    | none => .bad
  | .sum => match seqV M x with
    | some (true, l) => match intsOf l with
      | some ns => .ok (.int ns.sum) M
      | none => .bad
    | _ => .bad
  | .any => match seqV M x with
    | some (true, l) => match boolsOf l with
      | some bs => .ok (.bl (bs.any id)) M
      | none => .bad
    | _ => .bad
  | .all => match seqV M x with
    | some (true, l) => match boolsOf l with
      | some bs => .ok (.bl (bs.all id)) M
      | none => .bad
    | _ => .bad
  | .tuple => match seqV M x with
    | some (_, l) => .ok (.tup l) M
    | none => .bad
  | .list => match seqV M x with
    | some (_, l) => .ok (.lst l) M
    | none => .bad
  | .repr => R.when (reprB (viewV M x)) (.ok (.str (viewV M x).py.shown) M)
  | _ => .bad
def evBi2 (b : Bi) (x y : D) (M : List MO) : R D :=
  match b with
  | .max => match asInt x, asInt y with
    | some i, some j => .ok (.int (if j > i then j else i)) M
    | _, _ => .bad
  | .min => match asInt x, asInt y with
    | some i, some j => .ok (.int (if j < i then j else i)) M
    | _, _ => .bad
  | _ => .bad
def evBi (b : Bi) (xs : List D) (M : List MO) : R D :=
  match xs with
  | [x] => evBi1 b x M
  | [x, y] => evBi2 b x y M
  | _ => .bad
/-- is it of this built-in class? -/
def tyB (a t : String) : Option Bool :=
  if t = "int" then some (a == "int" || a == "bool") else if t = "bool" then some (a == "bool") else if t = "str" then some (a == "str") else if t = "tuple" then some (a == "tuple") else if t = "list" then some (a == "list") else if t = "dict" then some (a == "dict") else none
def tyD (M : List MO) : D → Option String
  | .non => some "NoneType"
  | .bl _ => some "bool"
  | .int _ => some "int"
  | .str _ => some "str"
  | .tup _ => some "tuple"
  | .lst _ => some "list"
  | .kst _ => some "list"
  | .dct _ _ => some "dict"
  | .ref n => match M[n]? with
    | some (.lst _) => some "list"
    | _ => none
  | _ => none
def isT (M : List MO) (t : String) (d : D) : Option Bool := match tyD M d with
  | some a => tyB a t
  | none => none
def evMt (m : Mt) (x : D) (xs : List D) (M : List MO) : R D :=
  match xs with
  | [y] => match asStr x with
    | some a => match m with
      | .split => match asStr y with
        | some b => R.when (!(b.length == 0) && decide (a.length + 2 ≤ sizeLine)) (.ok (.lst ((Txt.split a b).map D.str)) M)
        | none => .bad
      | .join => match seqV M y with
        | some (_, l) => match strsOf l with
          | some ys => R.when (decide ((ys.map (·.length)).sum + ys.length * a.length ≤ 16777216)) (.ok (.str (Txt.join a ys)) M)
          | none => .bad
        | none => .bad
    | none => .bad
  | _ => .bad
def evMm (m : Mm) (x : D) (xs : List D) (M : List MO) : R D :=
  match asRef M x with
  | some (n, l) => match m with
    | .append => match xs with
      | [y] => R.when (decide (l.length < sizeLine)) (.ok .non (M.set n (.lst (l ++ [y]))))
      | _ => .bad
    | .pop => match xs with
      | [] => match l[l.length - 1]? with
        | some y => .ok y (M.set n (.lst l.dropLast))
        | none => .bad
      | _ => .bad
    | .popat => match xs with
      | [i] => match asInt i with
        | some j => R.when (decide (-(2 ^ 63) ≤ j) && decide (j < 2 ^ 63)) (match seqIndex? j l.length with
          | some k => match l[k]? with
            | some y => .ok y (M.set n (.lst (l.eraseIdx k)))
            | none => .bad
          | none => .bad)
        | none => .bad
      | _ => .bad
    | .extend => match xs with
      | [y] => match lstV M y with
        | some m => R.when (decide (l.length + m.length ≤ sizeLine)) (.ok .non (M.set n (.lst (l ++ m))))
        | none => .bad
      | _ => .bad
  | none => .bad
def wipeE (e : Ev) : List Nat → Ev
  | [] => e
  | v :: vs => (wipeE e vs).set v none
/-- no error comes out -/
def R.calm {α : Type} (r : R α) : R α :=
  match r with
  | .ok a M => .ok a M
  | _ => .bad
/-- the list that is walked: its items; of a list of ours its number too -/
abbrev Walkd := Option (Nat × List D) × List D
mutual
def D.same : D → D → Bool
  | .non, d => match d with | .non => true | _ => false
  | .bl a, d => match d with | .bl b => a == b | _ => false
  | .int i, d => match d with | .int j => i == j | _ => false
  | .str x, d => match d with | .str y => x == y | _ => false
  | .tup l, d => match d with | .tup m => sameL l m | _ => false
  | .lst l, d => match d with | .lst m => sameL l m | _ => false
  | .kst l, d => match d with | .kst m => sameL l m | _ => false
  | .dct ks l, d => match d with | .dct js m => ks == js && sameL l m | _ => false
  | .ref n, d => match d with | .ref m => n == m | _ => false
  | .ty n, d => match d with | .ty m => n == m | _ => false
  | .cls n, d => match d with | .cls m => n == m | _ => false
  | .fn n, d => match d with | .fn m => n == m | _ => false
  | .tab n, d => match d with | .tab m => n == m | _ => false
def sameL : List D → List D → Bool
  | [], m => match m with | [] => true | _ => false
  | d :: ds, m => match m with | [] => false | e :: es => d.same e && sameL ds es
end
def okGuard (g : Option (Nat × List D)) (M : List MO) : Bool :=
  match g with
  | none => true
  | some (n, l) => match M[n]? with
    | some (.lst m) => sameL m l
    | _ => false
def rngD (lo : Int) : Nat → Nat → List D
  | _, 0 => []
  | k, n + 1 => .int (lo + k) :: rngD lo (k + 1) n
def enumD : Nat → List D → List D
  | _, [] => []
  | k, d :: ds => .tup [.int k, d] :: enumD (k + 1) ds
def walkOf (d : D) (M : List MO) : R Walkd :=
  match asRef M d with
  | some (n, l) => .ok (some (n, l), l) M
  | none => match d with
    | .ref _ => .bad
    | d => match seqV M d with
      | some (_, l) => .ok (none, l) M
      | none => .bad
/-- a str: its signs -/
def signsD (z : Str) : List D := z.cps.toList.map fun c => D.str ⟨#[c]⟩
def walkIt (d : D) (M : List MO) : R Walkd :=
  match asStr d with
  | some z => .ok (none, signsD z) M
  | none => walkOf d M
def rngOk (i : Int) : Bool := decide (-(2 ^ 62) ≤ i) && decide (i < 2 ^ 62)
/-- assignment ends like an expression, with new slots -/
def evSetIx (x i y : D) (M : List MO) : R Unit :=
  match asRef M x, asInt i with
  | some (n, l), some j => match ixN l.length j with
    | some k => .ok () (M.set n (.lst (l.set k y)))
    | none => .bad
  | _, _ => .bad
/-- the loop of a comprehension -/
def lcEnd (mu : Bool) (acc : List D) (M : List MO) : R D := if mu then .ok (.ref M.length) (M ++ [.lst acc]) else .ok (.lst acc) M
def lcLoop (mu : Bool) (g : Option (Nat × List D)) (turn : D → List MO → R (Option D)) : List D → List D → List MO → R D
  | [], acc, M => R.when (okGuard g M) (lcEnd mu acc M)
  | x :: xs, acc, M => R.when (okGuard g M && decide (acc.length < sizeLine)) ((turn x M).bind fun o M1 => match o with
    | some y => lcLoop mu g turn xs (acc ++ [y]) M1
    | none => lcLoop mu g turn xs acc M1)
/-- a call that sees nothing of ours -/
def pcall (r : R D) (l : List D) (M : List MO) : R D := R.when (pureL l) (match r with
  | .ok d _ => R.when d.pure (.ok d M)
  | .err x _ => R.when (pureL (x.fs.map (·.2))) (.err x M)
  | .bad => .bad)
section
variable (γ : Gm)
mutual
def ev : RE → Ev → List MO → R D
  | .v i, e, M => match e[i]? with
    | some (some d) => .ok d M
    | _ => .bad
  | .c c, _, M => .ok c.d M
  | .neg a, e, M => (ev a e M).bind fun d M => match asInt d with
    | some i => .ok (.int (-i)) M
    | none => .bad
  | .g _ c, _, M => .ok c.d M
  | .op o a b, e, M => (ev a e M).bind fun x M => (ev b e M).bind fun y M => evOp o x y M
  | .cmp o a b, e, M => (ev a e M).bind fun x M => (ev b e M).bind fun y M => evCmp o x y M
  | .chain o o' a b c, e, M => (ev a e M).bind fun x M => (ev b e M).bind fun y M => (evCmp o x y M).bind fun k M => match asBl k with
    | some k => if k then (ev c e M).bind fun z M => evCmp o' y z M else .ok (.bl false) M
    | none => .bad
  | .bnd es, e, M => evAnd es e M
  | .bor es, e, M => evOr es e M
  | .nt a, e, M => (ev a e M).bind fun d M => (R.of (trB M d) M).bind fun k M => .ok (.bl (!k)) M
  | .ife c a b, e, M => (ev c e M).bind fun d M => (R.of (trB M d) M).bind fun k M => if k then ev a e M else ev b e M
  | .tup es, e, M => (evSq es e M).bind fun l M => R.when (decide (l.length ≤ sizeLine)) (.ok (.tup l) M)
  | .lst es, e, M => (evSq es e M).bind fun l M => R.when (decide (l.length ≤ sizeLine)) (.ok (.lst l) M)
  | .newl es, e, M => (evs es e M).bind fun l M => R.when (decide (l.length ≤ sizeLine)) (.ok (.ref M.length) (M ++ [.lst l]))
  | .ix a i, e, M => (ev a e M).bind fun x M => (ev i e M).bind fun y M => evIx x y M
  | .tix _ t i, e, M => (ev i e M).bind fun y M => match asStr y with
    | some z => match (γ.tab t).lookup z with
      | some c => .ok c.d M
      | none => .bad
    | none => .bad
  | .tin n a _ t, e, M => (ev a e M).bind fun y M => match asStr y with
    | some z => .ok (.bl (n != ((γ.tab t).lookup z).isSome)) M
    | none => .bad
  | .sl a lo hi, e, M => (ev a e M).bind fun x M => (evO lo e M).bind fun l M => (evO hi e M).bind fun h M => evSl x l h M
  | .rv a, e, M => (ev a e M).bind fun x M => evRv x M
  | .call f es, e, M => (evs es e M).bind fun l M => pcall (γ.hf f l []) l M
  | .hcall f es, e, M => (evs es e M).bind fun l M => γ.hf f l M
  | .bi b es, e, M => (evs es e M).bind fun l M => evBi b l M
  | .isi a t, e, M => (ev a e M).bind fun x M => (R.of (isT M t x) M).bind fun k M => .ok (.bl k) M
  | .mt m a es, e, M => (ev a e M).bind fun x M => R.when (asStr x).isSome ((evs es e M).bind fun l M => evMt m x l M)
  | .mm m a es, e, M => (ev a e M).bind fun x M => R.when (asRef M x).isSome ((evs es e M).bind fun l M => evMm m x l M)
  | .lc mu own g it cond elt, e, M => (evI it e M).bind fun w M => lcLoop mu w.1 (fun x M => ((asg g x (wipeE e own) M).bind fun e1 M => (evC cond e1 M).bind fun k M => if k then (ev elt e1 M).bind fun d M => .ok (some d) M else .ok none M).calm) w.2 [] M
  | .fs es, e, M => evF es Str.empty e M
  | .fmt a, e, M => (ev a e M).bind fun x M => match asStr x with
    | some y => R.when (decide (y.length ≤ sizeLine)) (.ok (.str y) M)
    | none => match asInt x with
      | some i => R.when (decide (i.natAbs < 2 ^ 1900)) (.ok (.str (toString i)) M)
      | none => .bad
  | .fz a, e, M => (ev a e M).bind fun x M => match asRef M x with
    | some (n, l) => .ok (.lst l) (M.set n .dead)
    | none => .bad
def evs : REs → Ev → List MO → R (List D)
  | .nil, _, M => .ok [] M
  | .cons a es, e, M => (ev a e M).bind fun d M => (evs es e M).bind fun l M => .ok (d :: l) M
def evSq : RSq → Ev → List MO → R (List D)
  | .nil, _, M => .ok [] M
  | .cons star a es, e, M => (ev a e M).bind fun d M => (R.of (if star then (seqV M d).map (·.2) else some [d]) M).bind fun h M => (evSq es e M).bind fun l M => .ok (h ++ l) M
def evAnd : REs → Ev → List MO → R D
  | .nil, _, _ => .bad
  | .cons a .nil, e, M => ev a e M
  | .cons a (.cons b es), e, M => (ev a e M).bind fun d M => (R.of (trB M d) M).bind fun k M => if k then evAnd (.cons b es) e M else .ok d M
def evOr : REs → Ev → List MO → R D
  | .nil, _, _ => .bad
  | .cons a .nil, e, M => ev a e M
  | .cons a (.cons b es), e, M => (ev a e M).bind fun d M => (R.of (trB M d) M).bind fun k M => if k then .ok d M else evOr (.cons b es) e M
def evF : REs → Str → Ev → List MO → R D
  | .nil, acc, _, M => .ok (.str acc) M
  | .cons a es, acc, e, M => (ev a e M).bind fun d M => match asStr d with
    | some y => R.when (decide ((acc ++ y).length ≤ sizeLine)) (evF es (acc ++ y) e M)
    | none => .bad
def evO : RO → Ev → List MO → R (Option Int)
  | .none, _, M => .ok none M
  | .some a, e, M => (ev a e M).bind fun d M => match asInt d with
    | some i => .ok (some i) M
    | none => .bad
/-- the test of a comprehension -/
def evC : RO → Ev → List MO → R Bool
  | .none, _, M => .ok true M
  | .some c, e, M => (ev c e M).bind fun d M => R.of (trB M d) M
def evI : RI → Ev → List MO → R Walkd
  | .it a, e, M => (ev a e M).bind fun d M => walkIt d M
  | .rng1 a, e, M => (ev a e M).bind fun d M => match asInt d with
    | some j => R.when (rngOk j && decide (j ≤ sizeLine)) (.ok (none, rngD 0 0 j.toNat) M)
    | none => .bad
  | .rng2 a b, e, M => (ev a e M).bind fun d M => (ev b e M).bind fun d' M => match asInt d, asInt d' with
    | some i, some j => R.when (rngOk i && (rngOk j && decide (j - i ≤ sizeLine))) (.ok (none, rngD i 0 (j - i).toNat) M)
    | _, _ => .bad
  | .enum a, e, M => (ev a e M).bind fun d M => (walkOf d M).bind fun w M => .ok (w.1, enumD 0 w.2) M
/-- an assignment: the new slots -/
def asg : RG → D → Ev → List MO → R Ev
  | .nm i, d, e, M => .ok (e.set i (some d)) M
  | .tp gs, d, e, M => match asTup d with
    | some l => (asgs gs l e M).calm
    | none => .bad
  | .ix a i, d, e, M => (ev a e M).bind fun x M => (ev i e M).bind fun y M => (evSetIx x y d M).bind fun _ M => .ok e M
def asgs : RGs → List D → Ev → List MO → R Ev
  | .nil, l, e, M => match l with
    | [] => .ok e M
    | _ => .bad
  | .cons g gs, l, e, M => match l with
    | d :: ds => (asg g d e M).bind fun e M => asgs gs ds e M
    | [] => .bad
end
/-- a test -/
def evT (r : RE) (e : Ev) (M : List MO) : R Bool := (ev γ r e M).bind fun d M => R.of (trB M d) M
def parSet (e : Ev) : List Nat → List D → Ev
  | i :: is, d :: ds => parSet (e.set i (some d)) is ds
  | _, _ => e
/-- the loop of a for -/
def forLoop (g : Option (Nat × List D)) (turn : D → Ev → List MO → O) : List D → Ev → List MO → O
  | [], e, M => if okGuard g M then .nx e M else .bad
  | x :: xs, e, M => if okGuard g M then (match turn x e M with
    | .nx e M => forLoop g turn xs e M
    | .cont e M => forLoop g turn xs e M
    | .brk e M => .nx e M
    | .ret d M => .ret d M
    | .err x e M => .err x e M
    | .bad => .bad) else .bad
def whLoop (c : Ev → List MO → R Bool) (body : Ev → List MO → O) : Nat → Ev → List MO → O
  | 0, _, _ => .bad
  | n + 1, e, M => match c e M with
    | .ok true M => (match body e M with
      | .nx e M => whLoop c body n e M
      | .cont e M => whLoop c body n e M
      | .brk e M => .nx e M
      | .ret d M => .ret d M
      | .err x e M => .err x e M
      | .bad => .bad)
    | .ok false M => .nx e M
    | .err x M => .err x e M
    | .bad => .bad
/-- an expression, then a statement's end -/
def exS {α : Type} (r : R α) (e : Ev) (g : α → List MO → O) : O :=
  match r with
  | .ok a M1 => g a M1
  | .err x M1 => .err x e M1
  | .bad => .bad
mutual
def ex : RS → Ev → List MO → O
  | .set g a, e, M => exS (ev γ a e M) e fun d M => exS (asg γ g d e M) e fun e M => .nx e M
  | .setlc i a, e, M => exS (ev γ a e M) e fun d M => .nx (e.set i (some d)) M
  | .par is es, e, M => exS (evs γ es e M) e fun l M => if l.length == is.length then .nx (parSet e is l) M else .bad
  | .aug i o a, e, M => match e[i]? with
    | some (some x) => exS (ev γ a e M) e fun y M => exS (evAug o x y M) e fun z M => .nx (e.set i (some z)) M
    | _ => .bad
  | .ex a, e, M => exS (ev γ a e M) e fun _ M => .nx e M
  | .ret a, e, M => exS (ev γ a e M) e fun d M => .ret d M
  | .retn, _, M => .ret .non M
  | .ite c a b, e, M => exS (evT γ c e M) e fun k M => if k then exs a e M else exs b e M
  | .forr g it b, e, M => exS (evI γ it e M) e fun w M => forLoop w.1 (fun x e M => exS (asg γ g x e M) e fun e M => exs b e M) w.2 e M
  | .wh c b, e, M => whLoop (evT γ c) (exs b) γ.w e M
  | .brk, e, M => .brk e M
  | .cont, e, M => .cont e M
  | .pass, e, M => .nx e M
  | .never, _, _ => .bad
def exs : RSs → Ev → List MO → O
  | .nil, e, M => .nx e M
  | .cons s ss, e, M => (ex s e M).seq fun e M => exs ss e M
end
end
/-- a def: its body, the number of its slots -/
structure Fd where
  body : RSs
  n : Nat
def startE (n : Nat) (ds : List D) : Ev := ds.map some ++ List.replicate (n - ds.length) none
/-- calls, to a depth -/
def callF (tab : Nat → List (Str × Cn)) (fs : Nat → Option (Fd × Nat)) (w : Nat) : Nat → Nat → List D → List MO → R D
  | 0, _, _, _ => .bad
  | n + 1, f, ds, M => match fs f with
    | some (d, k) => if ds.length == k then (match exs ⟨callF tab fs w n, tab, w⟩ d.body (startE d.n ds) M with
      | .ret v M => .ok v M
      | .nx _ M => .ok .non M
      | .err x _ M => .err x M
      | _ => .bad) else .bad
    | none => .bad
end TF

namespace TF
open PySem PySem.Spec PyProof.Rows L2

abbrev REP (α β : Type) := (Addr → Prop) → List Addr → Hp → α → β → Prop
section
variable (T : Tb)
def ExnOk (Φ : Addr → Prop) (ι : List Addr) (H : Hp) (x : Exn) (c : Value) (dx : Option Addr) : Prop :=
  c = T.cv x.cls ∧ ((x.fs = [] ∧ dx = none) ∨ ∃ d vs, dx = some d ∧ ¬ Φ d ∧ H d = some (.xd ((x.fs.map (·.1)).zip vs)) ∧ RepL T Φ ι H (x.fs.map (·.2)) vs)
/-- the slots' values -/
def EnvOk (Φ : Addr → Prop) (ι : List Addr) (σ : L2.St) (H : Hp) (env : Ev) : Prop :=
  ∀ (i : Nat) (d : D), env[i]? = some (some d) → ∃ v, σ[i]? = some (some v) ∧ Rep T Φ ι H d v
structure Agree (Φ : Addr → Prop) (ι : List Addr) (σ : L2.St) (H : Hp) (env : Ev) (M : List MO) : Prop where
  hr : HR T Φ ι H M
  ev : EnvOk T Φ ι σ H env
  len : env.length = σ.length
/-- what is wanted of a result -/
def Post {α β : Type} (rep : REP α β) (W : WX) (Φ : Addr → Prop) (ι : List Addr) (σ : L2.St) (H : Hp) (Q : β → Hp → Prop) : R α → Prop
  | .ok a M => ∀ b Φ' ι' H', Grow Φ ι H Φ' ι' H' → HR T Φ' ι' H' M → rep Φ' ι' H' a b → Q b H'
  | .err x M => ∀ c dx Φ' ι' H', Grow Φ ι H Φ' ι' H' → HR T Φ' ι' H' M → ExnOk T Φ' ι' H' x c dx → W c dx σ H'
  | .bad => False
abbrev repD : REP D V := Rep T
abbrev repL : REP (List D) (List V) := RepL T
abbrev repB : REP Bool Bool := fun _ _ _ a b => a = b
abbrev repU : REP Unit Unit := fun _ _ _ _ _ => True
/-- values that are held meanwhile -/
def Held (Φ : Addr → Prop) (ι : List Addr) (H : Hp) (ps : List (D × V)) : Prop := ∀ p ∈ ps, Rep T Φ ι H p.1 p.2
def Hold {α β : Type} (rep : REP α β) (W : WX) (ps : List (D × V)) (c : Ev → List MO → R α) (env : Ev) (σ : L2.St) (H : Hp) (Q : β → Hp → Prop) : Prop :=
  ∃ Φ ι M, Agree T Φ ι σ H env M ∧ Held T Φ ι H ps ∧ Post T rep W Φ ι σ H Q (c env M)
abbrev EV (α : Type) := Ev → List MO → R α
def tE (W : WX) (c : EV D) : TE := fun σ H Q => ∃ env, Hold T (repD T) W [] c env σ H Q
def tA (W : WX) (c : EV (List D)) : TA := fun σ H Q => ∃ env, Hold T (repL T) W [] c env σ H Q
def tT (W : WX) (c : EV Bool) : TT := fun σ H Q => ∃ env, Hold T repB W [] c env σ H Q
/-- statements -/
def PostS (W : WX) (Φ : Addr → Prop) (ι : List Addr) (H : Hp) (E : Ends) : O → Prop
  | .nx e M => ∀ σ' Φ' ι' H', Grow Φ ι H Φ' ι' H' → Agree T Φ' ι' σ' H' e M → E.nx σ' H'
  | .ret d M => ∀ v Φ' ι' H', Grow Φ ι H Φ' ι' H' → HR T Φ' ι' H' M → Rep T Φ' ι' H' d v → E.rt v H'
  | .brk e M => ∀ σ' Φ' ι' H', Grow Φ ι H Φ' ι' H' → Agree T Φ' ι' σ' H' e M → E.bk σ' H'
  | .cont e M => ∀ σ' Φ' ι' H', Grow Φ ι H Φ' ι' H' → Agree T Φ' ι' σ' H' e M → E.ct σ' H'
  | .err x e M => ∀ c dx σ' Φ' ι' H', Grow Φ ι H Φ' ι' H' → Agree T Φ' ι' σ' H' e M → ExnOk T Φ' ι' H' x c dx → W c dx σ' H'
  | .bad => False
abbrev SV := Ev → List MO → O
def tS (W : WX) (c : SV) : TS := fun E σ H => ∃ Φ ι M env, Agree T Φ ι σ H env M ∧ PostS T W Φ ι H E (c env M)
end
section
variable {T : Tb} {W : WX} {Φ Φ1 : Addr → Prop} {ι ι1 : List Addr} {σ σ1 : L2.St} {H H1 : Hp} {env : Ev} {M M1 : List MO} {α β γ δ : Type} {rep : REP α β} {rep2 : REP γ δ}
theorem EnvOk.grow (g : Grow Φ ι H Φ1 ι1 H1) (h : EnvOk T Φ ι σ H env) : EnvOk T Φ1 ι1 σ H1 env := fun i d e => by
  obtain ⟨v, e1, r⟩ := h i d e
  exact ⟨v, e1, r.grow g⟩
theorem Agree.grow (a : Agree T Φ ι σ H env M) (g : Grow Φ ι H Φ1 ι1 H1) (r : HR T Φ1 ι1 H1 M1) : Agree T Φ1 ι1 σ H1 env M1 := ⟨r, a.ev.grow g, a.len⟩
theorem Held.grow {ps : List (D × V)} (g : Grow Φ ι H Φ1 ι1 H1) (h : Held T Φ ι H ps) : Held T Φ1 ι1 H1 ps := fun p hp => (h p hp).grow g
theorem Held.nil : Held T Φ ι H [] := fun p hp => by cases hp
theorem Held.cons {ps : List (D × V)} {d : D} {v : V} (r : Rep T Φ ι H d v) (h : Held T Φ ι H ps) : Held T Φ ι H ((d, v) :: ps) := fun p hp => by
  rcases List.mem_cons.mp hp with rfl | hp
  · exact r
  · exact h p hp
theorem Held.hd {ps : List (D × V)} {d : D} {v : V} (h : Held T Φ ι H ((d, v) :: ps)) : Rep T Φ ι H d v := h (d, v) (List.mem_cons_self ..)
theorem Held.tl {ps : List (D × V)} {p : D × V} (h : Held T Φ ι H (p :: ps)) : Held T Φ ι H ps := fun q hq => h q (List.mem_cons_of_mem _ hq)
/-- seen from a later state -/
theorem Post.later {Q : β → Hp → Prop} (g : Grow Φ ι H Φ1 ι1 H1) : ∀ {r : R α}, Post T rep W Φ ι σ H Q r → Post T rep W Φ1 ι1 σ H1 Q r
  | .ok a M, h => fun b Φ' ι' H' k => h b Φ' ι' H' (g.trans k)
  | .err x M, h => fun c dx Φ' ι' H' k => h c dx Φ' ι' H' (g.trans k)
  | .bad, h => h
theorem PostS.later {E : Ends} (g : Grow Φ ι H Φ1 ι1 H1) : ∀ {r : O}, PostS T W Φ ι H E r → PostS T W Φ1 ι1 H1 E r
  | .nx e M, h => fun σ' Φ' ι' H' k => h σ' Φ' ι' H' (g.trans k)
  | .ret d M, h => fun v Φ' ι' H' k => h v Φ' ι' H' (g.trans k)
  | .brk e M, h => fun σ' Φ' ι' H' k => h σ' Φ' ι' H' (g.trans k)
  | .cont e M, h => fun σ' Φ' ι' H' k => h σ' Φ' ι' H' (g.trans k)
  | .err x e M, h => fun c dx σ' Φ' ι' H' k => h c dx σ' Φ' ι' H' (g.trans k)
  | .bad, h => h
theorem Post.mono {Q Q' : β → Hp → Prop} : ∀ {r : R α}, Post T rep W Φ ι σ H Q r → (∀ b H, Q b H → Q' b H) → Post T rep W Φ ι σ H Q' r
  | .ok a M, h, k => fun b Φ' ι' H' g r p => k _ _ (h b Φ' ι' H' g r p)
  | .err x M, h, k => h
  | .bad, h, k => h
theorem Hold.mono {ps : List (D × V)} {c : EV α} {Q Q' : β → Hp → Prop} (h : Hold T rep W ps c env σ H Q) (k : ∀ b H, Q b H → Q' b H) : Hold T rep W ps c env σ H Q' := by
  obtain ⟨Φ, ι, M, a, hp, p⟩ := h
  exact ⟨Φ, ι, M, a, hp, p.mono k⟩
/-- THE SPLIT: the first part is run, then what is behind it -/
theorem Hold.bind {ps : List (D × V)} {c : EV α} {g : α → EV γ} {Q : δ → Hp → Prop} (h : Hold T rep2 W ps (fun env M => (c env M).bind fun a M1 => g a env M1) env σ H Q) :
    Hold T rep W [] c env σ H (fun b H1 => ∃ a Φ ι M, Agree T Φ ι σ H1 env M ∧ Held T Φ ι H1 ps ∧ rep Φ ι H1 a b ∧ Post T rep2 W Φ ι σ H1 Q (g a env M)) := by
  obtain ⟨Φ, ι, M, a, hp, p⟩ := h
  refine ⟨Φ, ι, M, a, Held.nil, ?_⟩
  have p : Post T rep2 W Φ ι σ H Q ((c env M).bind fun a M1 => g a env M1) := p
  cases q : c env M with
  | ok x M1 =>
    rw [q] at p
    intro b Φ' ι' H' g' r' e'
    exact ⟨x, Φ', ι', M1, a.grow g' r', hp.grow g', e', p.later g'⟩
  | err x M1 =>
    rw [q] at p
    exact p
  | bad =>
    rw [q] at p
    exact p
/-- the same for values -/
theorem Hold.bindD {ps : List (D × V)} {c : EV D} {g : D → EV γ} {Q : δ → Hp → Prop} (h : Hold T rep2 W ps (fun env M => (c env M).bind fun a M1 => g a env M1) env σ H Q) :
    tE T W c σ H (fun v H1 => ∃ d, Hold T rep2 W ((d, v) :: ps) (g d) env σ H1 Q) :=
  ⟨env, (Hold.bind (rep := repD T) h).mono fun b H1 ⟨a, Φ, ι, M, ag, hp, r, p⟩ => ⟨a, Φ, ι, M, ag, Held.cons r hp, p⟩⟩
theorem tE.mono {c : EV D} {Q Q' : V → Hp → Prop} (h : tE T W c σ H Q) (k : ∀ b H, Q b H → Q' b H) : tE T W c σ H Q' := by
  obtain ⟨env, h⟩ := h
  exact ⟨env, h.mono k⟩
theorem tA.mono {c : EV (List D)} {Q Q' : List V → Hp → Prop} (h : tA T W c σ H Q) (k : ∀ b H, Q b H → Q' b H) : tA T W c σ H Q' := by
  obtain ⟨env, h⟩ := h
  exact ⟨env, h.mono k⟩
theorem tT.mono {c : EV Bool} {Q Q' : Bool → Hp → Prop} (h : tT T W c σ H Q) (k : ∀ b H, Q b H → Q' b H) : tT T W c σ H Q' := by
  obtain ⟨env, h⟩ := h
  exact ⟨env, h.mono k⟩
theorem Hold.bindL {ps : List (D × V)} {c : EV (List D)} {g : List D → EV γ} {Q : δ → Hp → Prop} (h : Hold T rep2 W ps (fun env M => (c env M).bind fun a M1 => g a env M1) env σ H Q) :
    tA T W c σ H (fun vs H1 => ∃ ds Φ ι M, Agree T Φ ι σ H1 env M ∧ Held T Φ ι H1 ps ∧ RepL T Φ ι H1 ds vs ∧ Post T rep2 W Φ ι σ H1 Q (g ds env M)) :=
  ⟨env, Hold.bind (rep := repL T) h⟩
theorem Hold.bindB {ps : List (D × V)} {c : EV Bool} {g : Bool → EV γ} {Q : δ → Hp → Prop} (h : Hold T rep2 W ps (fun env M => (c env M).bind fun a M1 => g a env M1) env σ H Q) :
    tT T W c σ H (fun b H1 => Hold T rep2 W ps (g b) env σ H1 Q) :=
  ⟨env, (Hold.bind (rep := repB) h).mono fun b H1 ⟨a, Φ, ι, M, ag, hp, r, p⟩ => by
    subst r
    exact ⟨Φ, ι, M, ag, hp, p⟩⟩
/-- a judgement may be read more narrowly -/
theorem rdE {X : Cx} {e : Expr} {t t' : TE} (h : PE X e t) (k : ∀ σ H Q, t' σ H Q → t σ H Q) : PE X e t' := ⟨fun pins s σ H Q I q => h.run pins s σ H Q I (k σ H Q q)⟩
theorem rdT {X : Cx} {e : Expr} {t t' : TT} (h : PT X e t) (k : ∀ σ H Q, t' σ H Q → t σ H Q) : PT X e t' := ⟨fun pins s σ H Q I q => h.run pins s σ H Q I (k σ H Q q)⟩
theorem rdW {X : Cx} {e : Expr} {t t' : TT} (h : PW X e t) (k : ∀ σ H Q, t' σ H Q → t σ H Q) : PW X e t' := ⟨fun whole pins s σ H Q I q => h.run whole pins s σ H Q I (k σ H Q q)⟩
theorem rdA {X : Cx} {e : List Expr} {t t' : TA} (h : PA X e t) (k : ∀ σ H Q, t' σ H Q → t σ H Q) : PA X e t' := ⟨fun pos pins s σ H Q I q => h.run pos pins s σ H Q I (k σ H Q q)⟩
theorem rdS {X : Cx} {e : Stmt} {t t' : TS} (h : PS X e t) (k : ∀ D σ H, t' D σ H → t D σ H) : PS X e t' := ⟨fun pins s σ H D I q => h.run pins s σ H D I (k D σ H q)⟩
theorem rdSs {X : Cx} {e : List Stmt} {t t' : TS} (h : PSs X e t) (k : ∀ D σ H, t' D σ H → t D σ H) : PSs X e t' := ⟨fun pins s σ H D I q => h.run pins s σ H D I (k D σ H q)⟩
/-- the end of a value -/
theorem Post.fin {Q : β → Hp → Prop} {a : α} {b : β} (p : Post T rep W Φ ι σ H Q (.ok a M)) (g : Grow Φ ι H Φ1 ι1 H1) (r : HR T Φ1 ι1 H1 M) (h : rep Φ1 ι1 H1 a b) : Q b H1 := p b Φ1 ι1 H1 g r h
theorem Post.fin0 {Q : β → Hp → Prop} {a : α} {b : β} (p : Post T rep W Φ ι σ H Q (.ok a M)) (r : HR T Φ ι H M) (h : rep Φ ι H a b) : Q b H := p b Φ ι H Grow.refl r h
/-- a new tuple, a new list -/
theorem Post.newT {Q : V → Hp → Prop} {l : List D} {vs : List V} (p : Post T (repD T) W Φ ι σ H Q (.ok (.tup l) M)) (r : HR T Φ ι H M) (h : RepL T Φ ι H l vs) : ∀ p, H p = none → Q (.ref p) (upd H p (.tup vs)) :=
  fun q hn => p.fin (Grow.new hn) (r.new hn) (Rep.newT r hn h)
theorem Post.newL {Q : V → Hp → Prop} {l : List D} {vs : List V} (p : Post T (repD T) W Φ ι σ H Q (.ok (.lst l) M)) (r : HR T Φ ι H M) (h : RepL T Φ ι H l vs) : ∀ p, H p = none → Q (.ref p) (upd H p (.lst vs)) :=
  fun q hn => p.fin (Grow.new hn) (r.new hn) (Rep.newL r hn h)
/-- statements in a row -/
theorem tS.seq {c d : SV} {E : Ends} (h : tS T W (fun env M => (c env M).seq d) E σ H) : tSeq (tS T W c) (tS T W d) E σ H := by
  obtain ⟨Φ, ι, M, env, a, p⟩ := h
  refine ⟨Φ, ι, M, env, a, ?_⟩
  have p : PostS T W Φ ι H E ((c env M).seq d) := p
  cases q : c env M with
  | nx e M1 =>
    rw [q] at p
    intro σ' Φ' ι' H' g ag
    exact ⟨Φ', ι', M1, e, ag, PostS.later g p⟩
  | ret d M1 => rw [q] at p; exact p
  | brk e M1 => rw [q] at p; exact p
  | cont e M1 => rw [q] at p; exact p
  | err x e M1 => rw [q] at p; exact p
  | bad => rw [q] at p; exact p
theorem tS.bind {c : EV α} {g : α → SV} {E : Ends} (h : tS T W (fun env M => exS (c env M) env fun a M => g a env M) E σ H) : ∃ env, Hold T rep W [] c env σ H (fun b H1 => ∃ a Φ ι M, Agree T Φ ι σ H1 env M ∧ rep Φ ι H1 a b ∧ PostS T W Φ ι H1 E (g a env M)) := by
  obtain ⟨Φ, ι, M, env, ag, p⟩ := h
  refine ⟨env, Φ, ι, M, ag, Held.nil, ?_⟩
  have p : PostS T W Φ ι H E (exS (c env M) env fun a M => g a env M) := p
  unfold exS at p
  cases q : c env M with
  | ok x M1 =>
    rw [q] at p
    intro b Φ' ι' H' g' r' e'
    exact ⟨x, Φ', ι', M1, ag.grow g' r', e', PostS.later g' p⟩
  | err x M1 =>
    rw [q] at p
    intro c dx Φ' ι' H' g' r' e'
    exact p c dx σ Φ' ι' H' g' (ag.grow g' r') e'
  | bad => rw [q] at p; exact p
end
end TF

/-! Calls, where it is known that no repr runs around. -/
namespace TF
open PySem PySem.Spec PyProof.Rows L2

structure RoomG (k : Nat) (A : Around) : Prop where
  r : Room k A
  g : A.guards = some []
theorem RoomG.mono {j k : Nat} {A : Around} (h : RoomG k A) (l : j ≤ k) : RoomG j A := ⟨h.r.mono l, h.g⟩
theorem RoomG.deeper {k : Nat} {A : Around} (h : RoomG (k + 1) A) (env : Env) : RoomG k (A.deeper env) := ⟨h.r.deeper env, h.g⟩
/-- a def's promise under such room -/
structure FnG (P : Program) (w : World) (K : PySem.W.Frag) (mg : Str → Option Value) (base : Heap) (CX : CXT) (k : Nat) (f : Addr) (fd : FuncData) (ps : List Str) (sp : Sp) : Prop where
  len : ∀ vs H Q E, sp vs H Q E → vs.length = ps.length
  run : ∀ (A : Around) (outer : List Env) (s : Shared) (H : Hp) (args : Args) (us : List Value) (vs : List V) (Q : VK) (E : XK), RoomG k A → Env0 P w K mg base A outer s H →
    BindsTo s fd args (ps.zip us) → Vals vs us → sp vs H Q E → codeAny (model P w) A (.call (.ref f) args) (CR CX outer P w H s Q E) s
section
variable {P : Program} {w : World} {K : PySem.W.Frag} {mg : Str → Option Value} {base : Heap} {CX : CXT} {k : Nat} {f : Addr} {fd : FuncData} {ps : List Str} {sp : Sp}
theorem FnG.mono {j : Nat} (F : FnG P w K mg base CX j f fd ps sp) (h : j ≤ k) : FnG P w K mg base CX k f fd ps sp :=
  ⟨F.len, fun A outer s H args us vs Q E hr => F.run A outer s H args us vs Q E (hr.mono h)⟩
theorem FnG.never (h : ∀ vs H Q E, ¬ sp vs H Q E) : FnG P w K mg base CX k f fd ps sp :=
  ⟨fun vs H Q E q => (h vs H Q E q).elim, fun _ _ _ _ _ _ _ _ _ _ _ _ _ q => (h _ _ _ _ q).elim⟩
/-- a def of the text by its body -/
theorem fnG_of {name qual : Str} {params : Arguments} {body : List Stmt} {scope : Scope} {dvs : List V} {kws : List (Str × V)} {N : List Str} (F : FunD K name qual params body scope dvs kws f fd) (S : FnScope N ps scope)
    (len : ∀ vs H Q E, sp vs H Q E → vs.length = ps.length)
    (hb : ∀ (cdv : Value) (A : Around) (outer : List Env) (s : Shared) (H : Hp) (vs : List V) (Q : VK) (E : XK), RoomG k (A.deeper (envOfC qual scope s.heap.objs.size f cdv)) → sp vs H Q E →
      ∃ t, PSs (cxOf CX P w K mg base N qual scope f cdv A outer s H E) body t ∧ t { nx := fun _ H' => Q .non H', rt := Q } (start N vs) H) : FnG P w K mg base CX (k + 1) f fd ps sp := by
  obtain ⟨oc, od, dV, kV, doc, pm, an, cdv, ct, osl, e0, lk, hcd, _, _⟩ := F.ex
  subst e0
  refine ⟨len, ?_⟩
  intro A outer s H args us vs Q E room en bnd rv want
  have hlen := len _ _ _ _ want
  have kIn : K.In s.heap := en.mod.kin.keeps fun b o e => (en.bs b o e).1
  have noLim : s.heap.NoLimit := en.mod.nolimit.keeps fun b o e => (en.bs b o e).1
  refine codeAny_call_function room.r.depth (kIn _ _ lk) rfl S.co S.gen rfl (PySem.W.codeRec_of kIn hcd) (bnd _ _ _ _ ?_)
  refine wpAny_newFunctionEnv_cells S.kind (fun y hy => ?_) fun env he s1 x => ?_
  · rcases S.par y.1 (List.of_mem_zip (show (y.1, y.2) ∈ ps.zip us from hy)).1 with q | q
    · exact .inl q
    · exact .inr ⟨q, PySem.W.cellsFrom_some _ _ _ (.inl q)⟩
  · subst he
    obtain ⟨t, ht, hq⟩ := hb cdv A outer s H vs Q E (room.deeper _) want
    have I := inv_start (CX := CX) (P := P) (mg := mg) (base := base) (E := E) S room.r.hd en hlen rv x
    refine ⟨noLim.keeps x.toInCall.keep, codeAny_func (wpAny_mono (ht.run [] s1 (start N vs) H _ I hq) (fun fl s' hs => ?_) fun e s' hs => hs)⟩
    have done : ∀ {σ' : L2.St} {H' : Hp} {v : V} {u : Value}, Inv (cxOf CX P w K mg base N qual scope f cdv A outer s H E) [] σ' H' s' → RelV v u → Q v H' → CE outer P w H s Q u s' :=
      fun {σ' H' v u} J rv q => ⟨v, H', J.os, J.bare, J.base, J.hok, rv, q⟩
    cases fl with
    | ret u => exact let ⟨v, σ', H', J, r1, q⟩ := hs; done J r1 q
    | next => exact let ⟨σ', H', J, q⟩ := hs; done (v := V.non) (u := Value.none) J rfl q
    | brk => exact let ⟨_, _, _, q⟩ := hs; q.elim
    | cont => exact let ⟨_, _, _, q⟩ := hs; q.elim
end
section
variable {X : Cx} {CX : CXT} {k : Nat} {f C : Addr} {fd : FuncData} {ps : List Str} {sp : Sp} {dvs : List V} {ds : List Value} {E : L2.St → XK} {x m : Str} {p pos apos : Pos} {e o : Expr} {es : List Expr} {ta : TE} {t : TA}
/-- the callee runs -/
theorem runG {pins : List (Addr × Obj)} {σ : L2.St} {H : Hp} {s : Shared} {Q : VK} {us : List Value} {vs : List V} (F : FnG X.prog X.w X.K X.mg X.base CX k f fd ps sp) (hr : RoomG k X.A) (hb : Binds X.K fd ps ds) (hd : Vals dvs ds)
    (hx : PassesAt CX X σ (E σ)) (I : Inv X pins σ H s) (r : Vals vs us) (h : sp (vs ++ dvs) H Q (E σ)) : wpAny (model X.prog X.w) X.A (call (.ref f) us) (EP X pins σ Q) X.xe s := by
  have both : Vals (vs ++ dvs) (us ++ ds) := r.append hd
  have hlen : (us ++ ds).length = ps.length := both.length.symm.trans (F.len _ _ _ _ h)
  refine wpAny_call (codeAny_mono (F.run X.A X.stack s H ⟨us, []⟩ (us ++ ds) (vs ++ dvs) Q (E σ) hr I.env0 (hb s us I.kIn hlen) both h) ?_)
  intro res s' hres
  match res, hres with
  | .error e, z => exact hx pins H s e s' I z
  | .ok (.ret u), z => exact I.after z
/-- f(e, ..) -/
theorem pe_callG (F : FnG X.prog X.w X.K X.mg X.base CX k f fd ps sp) (hr : RoomG k X.A) (hg : Gl X x) (hm : X.mg x = some (.ref f)) (hk : PySem.W.keepIn X.K (.ref f) = true) (hb : Binds X.K fd ps ds) (hd : Vals dvs ds)
    (hx : ∀ σ, PassesAt CX X σ (E σ)) (ha : PA X (e :: es) t) (hdb : (x == ("__debug__" : Str)) = false) (he : starEach (e :: es) X.env = (false, eval e X.env) :: starEach es X.env)
    (hpl : (backTo pos (starEach es X.env)).any (·.1) = false) : PE X (.Call (.Name x p) (e :: es) [] pos) (tCallSD sp dvs E t) :=
  ⟨fun pins s σ H Q I h => wpAny_Call_Name_kw (ld_glob I hg hm (PySem.W.callWith_K (h₀ := X.base) I.ok.mod.kin hk (thn (ha.run pos pins s σ H _ I h) fun us s1 ⟨vs, H1, I1, r, q⟩ => ⟨I1.kIn, runG F hr hb hd (hx σ) I1 r q⟩) he hpl) hdb)⟩
theorem pe_callG0 (F : FnG X.prog X.w X.K X.mg X.base CX k f fd ps sp) (hr : RoomG k X.A) (hg : Gl X x) (hm : X.mg x = some (.ref f)) (hk : PySem.W.keepIn X.K (.ref f) = true) (hb : Binds X.K fd ps ds) (hd : Vals dvs ds)
    (hx : ∀ σ, PassesAt CX X σ (E σ)) (hdb : (x == ("__debug__" : Str)) = false) : PE X (.Call (.Name x p) [] [] pos) (tCallSD sp dvs E tNil) :=
  ⟨fun pins s σ H Q I h => wpAny_Call_Name_kw (ld_glob I hg hm (PySem.W.callWith_K0 I.kIn hk (runG (us := []) F hr hb hd (hx σ) I .nil h)) hdb)⟩
end
end TF

/-! Is a term of the small language a reading of a piece of the text? -/
namespace TF
open PySem PySem.Spec PyProof.Rows L2

/-- the module: its functions, constants, tables, the built-ins that it leaves free -/
structure Md where
  fns : List Str
  cns : List (Str × Cn)
  tabs : List (Str × List (Str × Cn))
  free : List Str

def xName : Expr → Option Str
  | .Name x _ => some x
  | _ => none
theorem xName_eq {e : Expr} {x : Str} (h : xName e = some x) : ∃ p, e = .Name x p := by
  cases e <;> simp [xName] at h
  subst h; exact ⟨_, rfl⟩
def xCon : Expr → Option Const
  | .Constant c _ _ => some c
  | _ => none
theorem xCon_eq {e : Expr} {x : Const} (h : xCon e = some x) : ∃ k p, e = .Constant x k p := by
  cases e <;> simp [xCon] at h
  subst h; exact ⟨_, _, rfl⟩
def xUn : Expr → Option (UnaryOp × Expr)
  | .UnaryOp o a _ => some (o, a)
  | _ => none
theorem xUn_eq {e : Expr} {o : UnaryOp} {a : Expr} (h : xUn e = some (o, a)) : ∃ p, e = .UnaryOp o a p := by
  cases e <;> simp [xUn] at h
  obtain ⟨rfl, rfl⟩ := h; exact ⟨_, rfl⟩
def xBin : Expr → Option (Expr × Operator × Expr)
  | .BinOp a o b _ => some (a, o, b)
  | _ => none
theorem xBin_eq {e a b : Expr} {o : Operator} (h : xBin e = some (a, o, b)) : ∃ p, e = .BinOp a o b p := by
  cases e <;> simp [xBin] at h
  obtain ⟨rfl, rfl, rfl⟩ := h; exact ⟨_, rfl⟩
def xCmp : Expr → Option (Expr × CmpOp × Expr)
  | .Compare a [o] [b] _ => some (a, o, b)
  | _ => none
theorem xCmp_eq {e a b : Expr} {o : CmpOp} (h : xCmp e = some (a, o, b)) : ∃ p, e = .Compare a [o] [b] p := by
  unfold xCmp at h
  split at h
  · simp at h
    obtain ⟨rfl, rfl, rfl⟩ := h; exact ⟨_, rfl⟩
  · cases h
def xCmp2 : Expr → Option (Expr × CmpOp × Expr × CmpOp × Expr)
  | .Compare a [o, o'] [b, c] _ => some (a, o, b, o', c)
  | _ => none
theorem xCmp2_eq {e a b c : Expr} {o o' : CmpOp} (h : xCmp2 e = some (a, o, b, o', c)) : ∃ p, e = .Compare a [o, o'] [b, c] p := by
  unfold xCmp2 at h
  split at h
  · simp at h
    obtain ⟨rfl, rfl, rfl, rfl, rfl⟩ := h; exact ⟨_, rfl⟩
  · cases h
def xBool : Expr → Option (BoolOp × List Expr)
  | .BoolOp o es _ => some (o, es)
  | _ => none
theorem xBool_eq {e : Expr} {o : BoolOp} {es : List Expr} (h : xBool e = some (o, es)) : ∃ p, e = .BoolOp o es p := by
  cases e <;> simp [xBool] at h
  obtain ⟨rfl, rfl⟩ := h; exact ⟨_, rfl⟩
def xIf : Expr → Option (Expr × Expr × Expr)
  | .IfExp c a b _ => some (c, a, b)
  | _ => none
theorem xIf_eq {e c a b : Expr} (h : xIf e = some (c, a, b)) : ∃ p, e = .IfExp c a b p := by
  cases e <;> simp [xIf] at h
  obtain ⟨rfl, rfl, rfl⟩ := h; exact ⟨_, rfl⟩
def xTup : Expr → Option (List Expr)
  | .Tuple es _ _ => some es
  | _ => none
theorem xTup_eq {e : Expr} {es : List Expr} (h : xTup e = some es) : ∃ k p, e = .Tuple es k p := by
  cases e <;> simp [xTup] at h
  subst h; exact ⟨_, _, rfl⟩
def xLst : Expr → Option (List Expr)
  | .List es _ => some es
  | _ => none
theorem xLst_eq {e : Expr} {es : List Expr} (h : xLst e = some es) : ∃ p, e = .List es p := by
  cases e <;> simp [xLst] at h
  subst h; exact ⟨_, rfl⟩
def xSub : Expr → Option (Expr × Expr)
  | .Subscript a i _ => some (a, i)
  | _ => none
theorem xSub_eq {e a i : Expr} (h : xSub e = some (a, i)) : ∃ p, e = .Subscript a i p := by
  cases e <;> simp [xSub] at h
  obtain ⟨rfl, rfl⟩ := h; exact ⟨_, rfl⟩
def xSlice : Expr → Option (Option Expr × Option Expr × Option Expr)
  | .Slice a b c _ => some (a, b, c)
  | _ => none
theorem xSlice_eq {e : Expr} {a b c : Option Expr} (h : xSlice e = some (a, b, c)) : ∃ p, e = .Slice a b c p := by
  cases e <;> simp [xSlice] at h
  obtain ⟨rfl, rfl, rfl⟩ := h; exact ⟨_, rfl⟩
def isSlice : Expr → Bool
  | .Slice _ _ _ _ => true
  | _ => false
/-- f(args) -/
def xCall : Expr → Option (Str × List Expr)
  | .Call (.Name f _) es [] _ => some (f, es)
  | _ => none
theorem xCall_eq {e : Expr} {f : Str} {es : List Expr} (h : xCall e = some (f, es)) : ∃ p q, e = .Call (.Name f p) es [] q := by
  unfold xCall at h
  split at h
  · simp at h
    obtain ⟨rfl, rfl⟩ := h; exact ⟨_, _, rfl⟩
  · cases h
/-- o.m(args), on one line -/
def xMeth : Expr → Option (Expr × Str × List Expr)
  | .Call (.Attribute o m p) es [] q => if p.endLine == q.line then some (o, m, es) else none
  | _ => none
theorem xMeth_eq {e o : Expr} {m : Str} {es : List Expr} (h : xMeth e = some (o, m, es)) : ∃ p q, e = .Call (.Attribute o m p) es [] q ∧ (p.endLine == q.line) = true := by
  unfold xMeth at h
  split at h
  · split at h
    · rename_i h1
      simp at h
      obtain ⟨rfl, rfl, rfl⟩ := h; exact ⟨_, _, rfl, h1⟩
    · cases h
  · cases h
def xLc : Expr → Option (Expr × Expr × Expr × List Expr × Scope)
  | .ListComp e [⟨tg, it, ifs, 0⟩] sc _ => some (e, tg, it, ifs, sc)
  | _ => none
theorem xLc_eq {e elt tg it : Expr} {ifs : List Expr} {sc : Scope} (h : xLc e = some (elt, tg, it, ifs, sc)) : ∃ p, e = .ListComp elt [⟨tg, it, ifs, 0⟩] sc p := by
  unfold xLc at h
  split at h
  · simp at h
    obtain ⟨rfl, rfl, rfl, rfl, rfl⟩ := h; exact ⟨_, rfl⟩
  · cases h
def xFs : Expr → Option (List Expr)
  | .JoinedStr es _ => some es
  | _ => none
theorem xFs_eq {e : Expr} {es : List Expr} (h : xFs e = some es) : ∃ p, e = .JoinedStr es p := by
  cases e <;> simp [xFs] at h
  subst h; exact ⟨_, rfl⟩
def xFmt : Expr → Option Expr
  | .FormattedValue e c none _ => if c = -1 then some e else none
  | _ => none
theorem xFmt_eq {e a : Expr} (h : xFmt e = some a) : ∃ p, e = .FormattedValue a (-1) none p := by
  unfold xFmt at h
  split at h
  · split at h
    · rename_i h1
      simp at h
      subst h; subst h1; exact ⟨_, rfl⟩
    · cases h
  · cases h
def isStar : Expr → Bool
  | .Starred _ _ => true
  | _ => false
def xStar : Expr → Option Expr
  | .Starred e _ => some e
  | _ => none
theorem xStar_eq {e a : Expr} (h : xStar e = some a) : ∃ p, e = .Starred a p := by
  cases e <;> simp [xStar] at h
  subst h; exact ⟨_, rfl⟩
def isSetD : Expr → Bool
  | .Set _ _ _ => true
  | _ => false
def isComp : Expr → Bool
  | .ListComp .. => true
  | .SetComp .. => true
  | .DictComp .. => true
  | _ => false
/-- tests that are read by their parts -/
def isParts : Expr → Bool
  | .UnaryOp .Not _ _ => true
  | .BoolOp .. => true
  | .IfExp .. => true
  | .Compare .. => true
  | _ => false

def Op.of : Op → Operator
  | .add => .Add
  | .sub => .Sub
  | .mul => .Mult
  | .div => .FloorDiv
  | .mod => .Mod
  | .pow => .Pow
  | .shl => .LShift
def Cm.of : Cm → CmpOp
  | .eq => .Eq
  | .ne => .NotEq
  | .lt => .Lt
  | .le => .LtE
  | .gt => .Gt
  | .ge => .GtE
  | .isin => .In
  | .notin => .NotIn
  | .is => .Is
  | .isnot => .IsNot
def Cn.of : Cn → Const
  | .non => .none
  | .bl b => .bool b
  | .int i => .int i
  | .str s => .str s
def Bi.of : Bi → Str
  | .len => "len"
  | .abs => "abs"
  | .max => "max"
  | .min => "min"
  | .int => "int"
  | .str => "str"
  | .sum => "sum"
  | .any => "any"
  | .all => "all"
  | .tuple => "tuple"
  | .list => "list"
  | .repr => "repr"
  | .bool => "bool"
def Mt.of : Mt → Str
  | .split => "split"
  | .join => "join"
def Mm.of : Mm → Str
  | .append => "append"
  | .pop => "pop"
  | .popat => "pop"
  | .extend => "extend"
abbrev Sc := List (Str × NameKind)
def okId (x : Str) : Bool := !(x == ("__debug__" : Str)) && (!(x == ("__classdict__" : Str)) && !(x == ("__name__" : Str)))
def visB (sc : Sc) (x : Str) : Bool := match sc.lookup x with
  | some .local => true
  | some .cell => true
  | some .free => true
  | _ => false
def isVar (N : List Str) (sc : Sc) (i : Nat) (x : Str) : Bool := decide (N[i]? = some x) && (visB sc x && okId x)
def isGlo (sc : Sc) (x : Str) : Bool := decide (sc.lookup x = some .globalImplicit) && okId x
/-- a name that is stored -/
def isLoc (N : List Str) (sc : Sc) (blk : Bool) (i : Nat) (x : Str) : Bool := decide (N[i]? = some x) && (decide (sc.lookup x = some .local) || (!blk && decide (sc.lookup x = some .cell)))
/-- the names of a comprehension's block, seen from the def -/
def relab (sc names : Sc) : Sc := names.map fun (n, k) => if k == .free && sc.lookup n == some .cell then (n, .cell) else (n, k)
def ownOf (N : List Str) (own : List Nat) : List (Str × Nat) := own.filterMap fun i => (N[i]?).map fun x => (x, i)
/-- f() of a bare name -/
def isNC : Expr → Bool
  | .Call (.Name _ _) [] [] _ => true
  | _ => false
/-! a target of the block's own names alone -/
mutual
def gIn (own : List Nat) : RG → Bool
  | .nm i => decide (i ∈ own)
  | .tp gs => gsIn own gs
  | .ix _ _ => false
def gsIn (own : List Nat) : RGs → Bool
  | .nil => true
  | .cons g gs => gIn own g && gsIn own gs
end
section
variable (md : Md) (N : List Str)
mutual
def ck : RE → Sc → Expr → Bool
  | .v i, sc, e => match xName e with
    | some x => isVar N sc i x
    | none => false
  | .c c, _, e => match xCon e with
    | some k => decide (k = c.of)
    | none => false
  | .neg a, sc, e => match xUn e with
    | some (.USub, b) => ck a sc b
    | _ => false
  | .g x c, sc, e => match xName e with
    | some y => decide (y = x) && (isGlo sc x && decide (md.cns.lookup x = some c))
    | none => false
  | .op o a b, sc, e => match xBin e with
    | some (l, p, r) => decide (p = o.of) && (ck a sc l && ck b sc r)
    | none => false
  | .cmp o a b, sc, e => match xCmp e with
    | some (l, p, r) => decide (p = o.of) && (!isSetD r && (ck a sc l && ck b sc r))
    | none => false
  | .chain o o' a b c, sc, e => match xCmp2 e with
    | some (l, p, m, p', r) => decide (p = o.of) && (decide (p' = o'.of) && (!isSetD r && (ck a sc l && (ck b sc m && ck c sc r))))
    | none => false
  | .bnd es, sc, e => match xBool e with
    | some (.And, l) => cks es sc l
    | _ => false
  | .bor es, sc, e => match xBool e with
    | some (.Or, l) => cks es sc l
    | _ => false
  | .nt a, sc, e => match xUn e with
    | some (.Not, b) => ck a sc b
    | _ => false
  | .ife c a b, sc, e => match xIf e with
    | some (x, y, z) => ck c sc x && (ck a sc y && ck b sc z)
    | none => false
  | .tup es, sc, e => match xTup e with
    | some l => ckq es sc l
    | none => false
  | .lst es, sc, e => match xLst e with
    | some l => ckq es sc l
    | none => false
  | .newl es, sc, e => match xLst e with
    | some l => cks es sc l && !l.any isStar
    | none => false
  | .ix a i, sc, e => match xSub e with
    | some (l, r) => !isSlice r && (ck a sc l && ck i sc r)
    | none => false
  | .tix x t i, sc, e => match xSub e with
    | some (l, r) => decide (xName l = some x) && (isGlo sc x && (decide ((md.tabs[t]?).map (·.1) = some x) && (!isSlice r && ck i sc r)))
    | none => false
  | .tin n a x t, sc, e => match xCmp e with
    | some (l, p, r) => decide (p = if n then CmpOp.NotIn else CmpOp.In) && (decide (xName r = some x) && (isGlo sc x && (decide ((md.tabs[t]?).map (·.1) = some x) && ck a sc l)))
    | none => false
  | .sl a lo hi, sc, e => match xSub e with
    | some (l, r) => (match xSlice r with
      | some (x, y, none) => ck a sc l && (cko lo sc x && cko hi sc y)
      | _ => false)
    | none => false
  | .rv a, sc, e => match xSub e with
    | some (l, r) => (match xSlice r with
      | some (none, none, some s) => (match xUn s with
        | some (.USub, o) => decide (xCon o = some (.int 1)) && ck a sc l
        | _ => false)
      | _ => false)
    | none => false
  | .call f es, sc, e => match xCall e with
    | some (x, l) => decide (md.fns[f]? = some x) && (isGlo sc x && (cks es sc l && !l.any isStar))
    | none => false
  | .hcall f es, sc, e => match xCall e with
    | some (x, l) => decide (md.fns[f]? = some x) && (isGlo sc x && (cks es sc l && !l.any isStar))
    | none => false
  | .bi b es, sc, e => match xCall e with
    | some (x, l) => decide (x = b.of) && (isGlo sc x && (decide (x ∈ md.free) && (cks es sc l && (!l.any isStar && !l.isEmpty))))
    | none => false
  | .isi a t, sc, e => match xCall e with
    | some (x, [l, r]) => decide (x = "isinstance") && (isGlo sc x && (decide (x ∈ md.free) && (ck a sc l && (!isStar l && (decide (xName r = some (Str.ofString t)) && (isGlo sc (Str.ofString t) && (decide (Str.ofString t ∈ md.free) && decide (t ∈ ["int", "bool", "str", "tuple", "list", "dict"]))))))))
    | _ => false
  | .mt m a es, sc, e => match xMeth e with
    | some (o, x, l) => decide (x = m.of) && (!isNC o && (decide (l.length = 1) && (ck a sc o && (cks es sc l && !l.any isStar))))
    | none => false
  | .mm m a es, sc, e => match xMeth e with
    | some (o, x, l) => decide (x = m.of) && (!isNC o && (decide (l.length < 20) && (ck a sc o && (cks es sc l && !l.any isStar))))
    | none => false
  | .lc _ own g it cond elt, sc, e => match xLc e with
    | some (x, tg, iter, ifs, s) => blkC N ⟨.function, sc, false, false, []⟩ s (ownOf N own) && (decide ((ownOf N own).map (·.2) = own) && (ckI it sc tg iter && (!isSetD iter && (gIn own g && (ckg g (relab sc s.names) true tg && ((match cond, ifs with
      | .none, [] => true
      | .some c, [y] => ck c (relab sc s.names) y
      | _, _ => false) && ck elt (relab sc s.names) x))))))
    | none => false
  | .fs es, sc, e => match xFs e with
    | some (a :: b :: l) => cks es sc (a :: b :: l)
    | _ => false
  | .fmt a, sc, e => match xFmt e with
    | some x => ck a sc x
    | none => false
  | .fz a, sc, e => !isParts e && ck a sc e
def cks : REs → Sc → List Expr → Bool
  | .nil, _, l => l.isEmpty
  | .cons a es, sc, l => match l with
    | x :: xs => ck a sc x && cks es sc xs
    | [] => false
def ckq : RSq → Sc → List Expr → Bool
  | .nil, _, l => l.isEmpty
  | .cons star a es, sc, l => match l with
    | x :: xs => (if star then (match xStar x with
      | some y => ck a sc y
      | none => false) else !isStar x && ck a sc x) && ckq es sc xs
    | [] => false
def cko : RO → Sc → Option Expr → Bool
  | .none, _, o => o.isNone
  | .some a, sc, o => match o with
    | some x => ck a sc x
    | none => false
def ckI : RI → Sc → Expr → Expr → Bool
  | .it a, sc, _, e => !isSetD e && ck a sc e
  | .rng1 a, sc, _, e => match xCall e with
    | some (x, [l]) => decide (x = "range") && (isGlo sc x && (decide (x ∈ md.free) && (!isStar l && ck a sc l)))
    | _ => false
  | .rng2 a b, sc, _, e => match xCall e with
    | some (x, [l, r]) => decide (x = "range") && (isGlo sc x && (decide (x ∈ md.free) && (!isStar l && (!isStar r && (ck a sc l && ck b sc r)))))
    | _ => false
  | .enum a, sc, tg, e => match xCall e with
    | some (x, [l]) => decide (x = "enumerate") && (isGlo sc x && (decide (x ∈ md.free) && (!isStar l && ((xTup tg).isSome && ck a sc l))))
    | _ => false
def ckg : RG → Sc → Bool → Expr → Bool
  | .nm i, sc, blk, e => match xName e with
    | some x => isLoc N sc blk i x
    | none => false
  | .tp gs, sc, blk, e => match xTup e with
    | some l => ckgs gs sc blk l && !l.any isStar
    | none => false
  | .ix a i, sc, _, e => match xSub e with
    | some (l, r) => !isSlice r && (ck a sc l && ck i sc r)
    | none => false
def ckgs : RGs → Sc → Bool → List Expr → Bool
  | .nil, _, _, l => l.isEmpty
  | .cons g gs, sc, blk, l => match l with
    | x :: xs => ckg g sc blk x && ckgs gs sc blk xs
    | [] => false
end
/-- does the value of a comprehension go straight to its name? -/
def swapB (sc : Sc) (v : Expr) (t : Str) (p : Pos) : Bool :=
  match v with
  | .ListComp _ _ s q => decide (sc.lookup t = some .local) && ((p.line == q.line) && !(s.names.any fun (n, k) => n == t && (k == .local || k == .cell)))
  | _ => false
def namesIn (N : List Str) (sc : Sc) (line : Nat) : List Nat → List Expr → Bool
  | [], l => l.isEmpty
  | i :: is, .Name x p :: l => decide (N[i]? = some x) && (decide (sc.lookup x = some .local) && (p.line == line && namesIn N sc line is l))
  | _, _ => false
mutual
def ckS : RS → Sc → Stmt → Bool
  | .set g a, sc, s => match s with
    | .Assign [t] v _ => ck md N a sc v && (ckg md N g sc false t && ((match t with
      | .Name y p => !swapB sc v y p && (!isComp v || (xLc v).isSome)
      | .Tuple _ _ _ => (xTup v).isNone && !isComp v
      | _ => !isComp v)))
    | _ => false
  | .setlc i a, sc, s => match s with
    | .Assign [.Name y p] v _ => decide (N[i]? = some y) && (swapB sc v y p && ((match a with
      | .lc .. => true
      | _ => false) && ck md N a sc v))
    | _ => false
  | .par is es, sc, s => match s with
    | .Assign [.Tuple ts _ _] (.Tuple vs _ _) _ => (match ts with
      | .Name _ p :: _ => namesIn N sc p.line is ts
      | _ => false) && (decide is.Nodup && ((ts.length == 2 || ts.length == 3) && (ts.length == vs.length && (cks md N es sc vs && (!vs.any isStar && (!vs.all (foldedForSure 8) && !vs.all (constantsAlone 8)))))))
    | _ => false
  | .aug i o a, sc, s => match s with
    | .AugAssign (.Name x _) p v _ => isLoc N sc false i x && (isVar N sc i x && (decide (p = o.of) && ck md N a sc v))
    | _ => false
  | .ex a, sc, s => match s with
    | .Expr v _ => !isComp v && ck md N a sc v
    | _ => false
  | .ret a, sc, s => match s with
    | .Return (some v) _ => ck md N a sc v
    | _ => false
  | .retn, _, s => match s with
    | .Return none _ => true
    | _ => false
  | .ite c a b, sc, s => match s with
    | .If x y z _ => ck md N c sc x && (ckSs a sc y && ckSs b sc z)
    | _ => false
  | .forr g it b, sc, s => match s with
    | .For t i y [] _ => ckI md N it sc t i && (!isSetD i && (ckg md N g sc false t && ckSs b sc y))
    | _ => false
  | .wh c b, sc, s => match s with
    | .While x y [] _ => ck md N c sc x && ckSs b sc y
    | _ => false
  | .brk, _, s => match s with
    | .Break _ => true
    | _ => false
  | .cont, _, s => match s with
    | .Continue _ => true
    | _ => false
  | .pass, _, s => match s with
    | .Pass _ => true
    | _ => false
  | .never, _, _ => true
def ckSs : RSs → Sc → List Stmt → Bool
  | .nil, _, l => l.isEmpty
  | .cons s ss, sc, l => match l with
    | x :: xs => ckS s sc x && ckSs ss sc xs
    | [] => false
end
end
end TF

/-! The small language is right: by values. -/
namespace TF
open PySem PySem.Spec PyProof.Rows L2

theorem asInt_eq {d : D} {i : Int} (h : asInt d = some i) : d = .int i := by cases d <;> simp [asInt] at h; subst h; rfl
theorem asStr_eq {d : D} {i : Str} (h : asStr d = some i) : d = .str i := by cases d <;> simp [asStr] at h; subst h; rfl
theorem asBl_eq {d : D} {i : Bool} (h : asBl d = some i) : d = .bl i := by cases d <;> simp [asBl] at h; subst h; rfl
theorem asTup_eq {d : D} {i : List D} (h : asTup d = some i) : d = .tup i ∨ d = .lst i ∨ d = .kst i := by cases d <;> simp [asTup] at h <;> subst h <;> simp
theorem asLst_eq {d : D} {i : List D} (h : asLst d = some i) : d = .lst i := by cases d <;> simp [asLst] at h; subst h; rfl
theorem isNon_eq {d : D} (h : isNon d = true) : d = .non := by cases d <;> simp [isNon] at h; rfl
theorem asRef_eq {M : List MO} {d : D} {n : Nat} {l : List D} (h : asRef M d = some (n, l)) : d = .ref n ∧ M[n]? = some (.lst l) := by
  cases d <;> simp [asRef] at h
  split at h
  · rename_i e
    simp at h
    obtain ⟨rfl, rfl⟩ := h
    exact ⟨rfl, e⟩
  · cases h
section
variable {T : Tb} {W : WX} {Φ : Addr → Prop} {ι : List Addr} {σ : L2.St} {H : Hp} {M : List MO} {α β : Type} {rep : REP α β}
/-- a list of ours -/
theorem HR.lst (r : HR T Φ ι H M) {n : Nat} {l : List D} {v : V} (hv : Rep T Φ ι H (.ref n) v) (h : M[n]? = some (.lst l)) : ∃ a vs, ι[n]? = some a ∧ v = .ref a ∧ Φ a ∧ H a = some (.lst vs) ∧ RepL T Φ ι H l vs := by
  obtain ⟨a, e, rfl⟩ := hv
  obtain ⟨p, vs, e2, r2⟩ := r.obj n a _ e h
  exact ⟨a, vs, e, rfl, p, e2, r2⟩
theorem HR.ref (r : HR T Φ ι H M) {d : D} {n : Nat} {l : List D} {v : V} (hv : Rep T Φ ι H d v) (h : asRef M d = some (n, l)) : ∃ a vs, ι[n]? = some a ∧ v = .ref a ∧ Φ a ∧ H a = some (.lst vs) ∧ RepL T Φ ι H l vs := by
  obtain ⟨rfl, h2⟩ := asRef_eq h
  exact r.lst hv h2
/-- an own list changes -/
theorem HR.putL (r : HR T Φ ι H M) {n : Nat} {a : Addr} {m : List D} {ws : List V} (e : ι[n]? = some a) (p : Φ a) (h : RepL T Φ ι H m ws) : HR T Φ ι (upd H a (.lst ws)) (M.set n (.lst m)) :=
  r.mut e p ⟨p, ws, upd_same, RepL.grow (Grow.mut e p) _ _ h⟩
theorem HR.seq (r : HR T Φ ι H M) {d : D} {k : Bool} {l : List D} {v : V} (hv : Rep T Φ ι H d v) (h : seqV M d = some (k, l)) : ∃ a vs, v = .ref a ∧ (k = true → SqL T.K H a vs) ∧ (k = false → SqT T.K H a vs) ∧ RepL T Φ ι H l vs := by
  cases d with
  | tup m =>
    simp [seqV] at h
    obtain ⟨rfl, rfl⟩ := h
    obtain ⟨a, vs, e, f, q⟩ := hv
    exact ⟨a, vs, e, fun z => Bool.noConfusion z, fun _ => f.sq, q⟩
  | lst m =>
    simp [seqV] at h
    obtain ⟨rfl, rfl⟩ := h
    obtain ⟨a, vs, e, f, q⟩ := hv
    exact ⟨a, vs, e, fun _ => f.sq, fun z => Bool.noConfusion z, q⟩
  | kst m =>
    simp [seqV] at h
    obtain ⟨rfl, rfl⟩ := h
    obtain ⟨a, vs, e, f, q⟩ := hv
    exact ⟨a, vs, e, fun _ => f.sq, fun z => Bool.noConfusion z, q⟩
  | ref n =>
    simp only [seqV] at h
    split at h
    · rename_i m e
      simp at h
      obtain ⟨rfl, rfl⟩ := h
      obtain ⟨a, vs, _, e2, _, e3, q⟩ := r.lst hv e
      exact ⟨a, vs, e2, fun _ => SqL.of e3, fun z => Bool.noConfusion z, q⟩
    · cases h
  | _ => cases h
theorem HR.sq (r : HR T Φ ι H M) {d : D} {k : Bool} {l : List D} {v : V} (hv : Rep T Φ ι H d v) (h : seqV M d = some (k, l)) : ∃ a vs, v = .ref a ∧ (SqL T.K H a vs ∨ SqT T.K H a vs) ∧ RepL T Φ ι H l vs := by
  obtain ⟨a, vs, e, h1, h2, q⟩ := r.seq hv h
  refine ⟨a, vs, e, ?_, q⟩
  cases k with
  | true => exact .inl (h1 rfl)
  | false => exact .inr (h2 rfl)
theorem HR.lsts (r : HR T Φ ι H M) {d : D} {l : List D} {v : V} (hv : Rep T Φ ι H d v) (h : lstV M d = some l) : ∃ a vs, v = .ref a ∧ H a = some (.lst vs) ∧ RepL T Φ ι H l vs := by
  cases d with
  | lst m =>
    simp [lstV] at h
    subst h
    obtain ⟨a, vs, e, f, q⟩ := hv
    exact ⟨a, vs, e, f.1, q⟩
  | ref n =>
    simp only [lstV] at h
    split at h
    · rename_i m e
      simp at h
      subst h
      obtain ⟨a, vs, _, e2, _, e3, q⟩ := r.lst hv e
      exact ⟨a, vs, e2, e3, q⟩
    · cases h
  | _ => cases h
/-- flat data, as the library reads it -/
theorem view_seq (d : D) : viewV M d = d ∨ ∃ n l, d = .ref n ∧ M[n]? = some (.lst l) ∧ viewV M d = .lst l := by
  cases d with
  | ref n =>
    unfold viewV
    dsimp only
    split
    · rename_i l e
      exact .inr ⟨n, l, rfl, e, rfl⟩
    · exact .inl rfl
  | _ => exact .inl rfl
mutual
theorem flat_dp : ∀ (n : Nat) (d : D) (v : V), d.flat n = true → Rep T Φ ι H d v → Dp T.K H v d.py
  | n, .non, v, _, h => by cases h; exact .non
  | n, .bl b, v, _, h => by cases h; exact .bl b
  | n, .int i, v, _, h => by cases h; exact .int i
  | n, .str s, v, _, h => by cases h; exact .str s
  | 0, .tup l, v, q, h => by simp [D.flat] at q
  | n + 1, .tup l, v, q, h => by
    obtain ⟨a, vs, rfl, f, r⟩ := h
    exact .tup f.sq (flatL_dp n l vs q r)
  | 0, .lst l, v, q, h => by simp [D.flat] at q
  | n + 1, .lst l, v, q, h => by
    obtain ⟨a, vs, rfl, f, r⟩ := h
    exact .lst f.sq (flatL_dp n l vs q r)
  | 0, .kst l, v, q, h => by simp [D.flat] at q
  | n + 1, .kst l, v, q, h => by
    obtain ⟨a, vs, rfl, f, r⟩ := h
    exact .lst f.sq (flatL_dp n l vs q r)
  | n, .dct _ _, v, q, h => by cases n <;> simp [D.flat] at q
  | n, .ref _, v, q, h => by cases n <;> simp [D.flat] at q
  | n, .ty _, v, q, h => by cases n <;> simp [D.flat] at q
  | n, .cls _, v, q, h => by cases n <;> simp [D.flat] at q
  | n, .fn _, v, q, h => by cases n <;> simp [D.flat] at q
  | n, .tab _, v, q, h => by cases n <;> simp [D.flat] at q
theorem flatL_dp : ∀ (n : Nat) (l : List D) (vs : List V), flatL n l = true → RepL T Φ ι H l vs → DpAll T.K H vs (pyL l)
  | n, [], vs, _, h => by cases h; exact .nil
  | n, d :: ds, vs, q, h => by
    obtain ⟨v, r, rfl, h1, h2⟩ := h
    simp only [flatL, Bool.and_eq_true] at q
    exact .cons (flat_dp n d v q.1 h1) (flatL_dp n ds r q.2 h2)
end
mutual
theorem eqv_py : ∀ (n m : Nat) (d e : D), d.flat n = true → e.flat m = true → PyData.eqv d.py e.py = d.eqv e
  | n, m, d, e, h, k => by
    cases d with
    | non => cases e <;> first | rfl | (cases m <;> simp [D.flat] at k)
    | bl a => cases e <;> first | rfl | (cases m <;> simp [D.flat] at k)
    | int a => cases e <;> first | rfl | (cases m <;> simp [D.flat] at k)
    | str a => cases e <;> first | rfl | (cases m <;> simp [D.flat] at k)
    | tup l =>
      cases n with
      | zero => simp [D.flat] at h
      | succ n =>
        cases e with
        | tup l' =>
          cases m with
          | zero => simp [D.flat] at k
          | succ m => exact eqvL_py n m l l' h k
        | _ => first | rfl | (cases m <;> simp [D.flat] at k)
    | lst l =>
      cases n with
      | zero => simp [D.flat] at h
      | succ n =>
        cases e with
        | lst l' =>
          cases m with
          | zero => simp [D.flat] at k
          | succ m => exact eqvL_py n m l l' h k
        | kst l' =>
          cases m with
          | zero => simp [D.flat] at k
          | succ m => exact eqvL_py n m l l' h k
        | _ => first | rfl | (cases m <;> simp [D.flat] at k)
    | kst l =>
      cases n with
      | zero => simp [D.flat] at h
      | succ n =>
        cases e with
        | lst l' =>
          cases m with
          | zero => simp [D.flat] at k
          | succ m => exact eqvL_py n m l l' h k
        | kst l' =>
          cases m with
          | zero => simp [D.flat] at k
          | succ m => exact eqvL_py n m l l' h k
        | _ => first | rfl | (cases m <;> simp [D.flat] at k)
    | _ => cases n <;> simp [D.flat] at h
theorem eqvL_py : ∀ (n m : Nat) (l l' : List D), flatL n l = true → flatL m l' = true → PyData.eqvAll (pyL l) (pyL l') = eqvL l l'
  | n, m, [], [], _, _ => rfl
  | n, m, [], _ :: _, _, _ => rfl
  | n, m, _ :: _, [], _, _ => rfl
  | n, m, d :: ds, e :: es, h, k => by
    simp only [flatL, Bool.and_eq_true] at h k
    show (PyData.eqv d.py e.py && PyData.eqvAll (pyL ds) (pyL es)) = (d.eqv e && eqvL ds es)
    rw [eqv_py n m d e h.1 k.1, eqvL_py n m ds es h.2 k.2]
end
mutual
theorem flat_lay : ∀ (n : Nat) (d : D), d.flat n = true → d.py.canLay0 = true ∧ d.py.depth ≤ n
  | n, .non, _ => ⟨rfl, Nat.zero_le _⟩
  | n, .bl b, _ => ⟨rfl, Nat.zero_le _⟩
  | n, .int i, _ => ⟨rfl, Nat.zero_le _⟩
  | n, .str s, h => ⟨by cases n <;> exact h, Nat.zero_le _⟩
  | 0, .tup l, q => by simp [D.flat] at q
  | n + 1, .tup l, q => by
    obtain ⟨h1, h2⟩ := flatL_lay n l q
    exact ⟨h1, Nat.succ_le_succ h2⟩
  | 0, .lst l, q => by simp [D.flat] at q
  | n + 1, .lst l, q => by
    obtain ⟨h1, h2⟩ := flatL_lay n l q
    exact ⟨h1, Nat.succ_le_succ h2⟩
  | 0, .kst l, q => by simp [D.flat] at q
  | n + 1, .kst l, q => by
    obtain ⟨h1, h2⟩ := flatL_lay n l q
    exact ⟨h1, Nat.succ_le_succ h2⟩
  | n, .dct _ _, q => by cases n <;> simp [D.flat] at q
  | n, .ref _, q => by cases n <;> simp [D.flat] at q
  | n, .ty _, q => by cases n <;> simp [D.flat] at q
  | n, .cls _, q => by cases n <;> simp [D.flat] at q
  | n, .fn _, q => by cases n <;> simp [D.flat] at q
  | n, .tab _, q => by cases n <;> simp [D.flat] at q
theorem flatL_lay : ∀ (n : Nat) (l : List D), flatL n l = true → PyData.canLayAll0 (pyL l) = true ∧ PyData.depthAll (pyL l) ≤ n
  | n, [], _ => ⟨rfl, Nat.zero_le _⟩
  | n, d :: ds, q => by
    simp only [flatL, Bool.and_eq_true] at q
    obtain ⟨h1, h2⟩ := flat_lay n d q.1
    obtain ⟨h3, h4⟩ := flatL_lay n ds q.2
    refine ⟨?_, Nat.max_le.mpr ⟨h2, h4⟩⟩
    show (d.py.canLay0 && PyData.canLayAll0 (pyL ds)) = true
    rw [h1, h3]
    rfl
end
theorem flat_shaped {d : D} (h : d.flat 60 = true) : SeqAt.shaped d.py = true := by
  obtain ⟨h1, h2⟩ := flat_lay 60 d h
  unfold SeqAt.shaped
  rw [h1, decide_eq_true (show d.py.depth ≤ 64 by omega)]
  rfl
theorem view_dp (r : HR T Φ ι H M) {d : D} {v : V} (hv : Rep T Φ ι H d v) (h : (viewV M d).flat 60 = true) : Dp T.K H v (viewV M d).py := by
  rcases view_seq (M := M) d with e | ⟨n, l, rfl, e, e2⟩
  · rw [e] at h ⊢
    exact flat_dp 60 d v h hv
  · rw [e2] at h ⊢
    obtain ⟨a, vs, _, rfl, _, e3, q⟩ := r.lst hv e
    exact .lst (SqL.of e3) (flatL_dp 59 l vs h q)
end
end TF

/-! Operators of the small language by values. -/
namespace TF
open PySem PySem.Spec PyProof.Rows L2
/-- two values, then an operation on them -/
def rBin (T : Tb) (W : WX) (f : D → D → List MO → R D) : R2 := fun x y H Q => ∃ Φ ι M a b σ, HR T Φ ι H M ∧ Rep T Φ ι H a x ∧ Rep T Φ ι H b y ∧ Post T (repD T) W Φ ι σ H Q (f a b M)
theorem smallB_ok {i j : Int} (h : (smallB i || smallB j) = true) : CMul i j := by
  simp only [smallB, Bool.or_eq_true, decide_eq_true_eq] at h
  unfold CMul
  omega
theorem wideB_ok {i j : Int} (h : (wideB i && wideB j) = true) : CMulW i j := by
  simp only [wideB, Bool.and_eq_true, decide_eq_true_eq] at h
  exact wide_mul h.1 h.2 (by decide) (by decide) (by decide)
theorem pow64 {i : Int} (h : smallB i = true) : i.natAbs < 2 ^ 64 := by simpa [smallB] using h
section
variable {T : Tb} {W : WX} {X : Cx}
theorem op_snd (hK : T.K = X.K) (o : Op) : OpR X (binaryOp o.of) (rBin T W (evOp o)) := by
  intro pins s σ H x y v u Q I rx ry h
  obtain ⟨Φ, ι, M, a, b, σ', hr, ha, hb, p⟩ := h
  cases o with
  | add =>
    simp only [evOp] at p
    split at p
    · rename_i i j e1 e2
      rw [asInt_eq e1] at ha
      rw [asInt_eq e2] at hb
      exact op_add pins s σ H x y v u Q I rx ry ⟨i, j, ha, hb, p.fin0 hr rfl⟩
    · split at p
      · rename_i i j e1 e2
        rw [asStr_eq e1] at ha
        rw [asStr_eq e2] at hb
        unfold R.when at p
        split at p
        · rename_i hc
          exact op_add_str pins s σ H x y v u Q I rx ry ⟨i, j, ha, hb, of_decide_eq_true hc, p.fin0 hr rfl⟩
        · exact p.elim
      · split at p
        · rename_i l m e1 e2
          unfold R.when at p
          split at p
          · rename_i hc
            obtain ⟨a1, vs, rfl, h1, r1⟩ := hr.lsts ha e1
            obtain ⟨a2, ws, rfl, h2, r2⟩ := hr.lsts hb e2
            refine op_cat pins s σ H _ _ v u Q I rx ry ⟨a1, a2, vs, ws, rfl, rfl, h1, h2, ?_, p.newL hr (r1.app r2)⟩
            rw [r1.length, r2.length]
            exact of_decide_eq_true hc
          · exact p.elim
        · exact p.elim
  | sub =>
    simp only [evOp] at p
    split at p
    · rename_i i j e1 e2
      rw [asInt_eq e1] at ha
      rw [asInt_eq e2] at hb
      exact op_sub pins s σ H x y v u Q I rx ry ⟨i, j, ha, hb, p.fin0 hr rfl⟩
    · exact p.elim
  | mul =>
    simp only [evOp] at p
    split at p
    · rename_i i j e1 e2
      rw [asInt_eq e1] at ha
      rw [asInt_eq e2] at hb
      unfold R.when at p
      split at p
      · rename_i hc
        cases hs : (smallB i || smallB j) with
        | true => exact op_mul pins s σ H x y v u Q I rx ry ⟨i, j, ha, hb, smallB_ok hs, p.fin0 hr rfl⟩
        | false =>
          rw [hs, Bool.false_or] at hc
          exact op_mulW pins s σ H x y v u Q I rx ry ⟨i, j, ha, hb, wideB_ok hc, p.fin0 hr rfl⟩
      · exact p.elim
    · split at p
      · rename_i l j e1 e2
        rw [asLst_eq e1] at ha
        rw [asInt_eq e2] at hb
        unfold R.when at p
        split at p
        · rename_i hc
          simp only [Bool.and_eq_true, decide_eq_true_eq] at hc
          obtain ⟨a1, vs, rfl, f, r⟩ := ha
          refine op_rep pins s σ H _ _ v u Q I rx ry ⟨a1, j, vs, rfl, hb, f.1, hc.1, hc.2.1, by rw [r.length]; exact hc.2.2, p.newL hr ?_⟩
          clear hc p hb
          generalize j.toNat = n
          induction n with
          | zero => exact rfl
          | succ n ih =>
            rw [List.replicate_succ, List.flatten_cons, List.replicate_succ, List.flatten_cons]
            exact r.app ih
        · exact p.elim
      · exact p.elim
  | div =>
    simp only [evOp] at p
    split at p
    · rename_i i j e1 e2
      rw [asInt_eq e1] at ha
      rw [asInt_eq e2] at hb
      unfold R.when at p
      split at p
      · rename_i hc
        simp only [Bool.and_eq_true, decide_eq_true_eq, wideB] at hc
        exact op_fdivW pins s σ H x y v u Q I rx ry ⟨i, j, ha, hb, wide_div hc.1 hc.2 (by decide) (by decide), p.fin0 hr rfl⟩
      · exact p.elim
    · exact p.elim
  | mod =>
    simp only [evOp] at p
    split at p
    · rename_i i j e1 e2
      rw [asInt_eq e1] at ha
      rw [asInt_eq e2] at hb
      unfold R.when at p
      split at p
      · rename_i hc
        exact op_mod pins s σ H x y v u Q I rx ry ⟨i, j, ha, hb, of_decide_eq_true hc, p.fin0 hr rfl⟩
      · exact p.elim
    · exact p.elim
  | pow =>
    simp only [evOp] at p
    split at p
    · rename_i i j e1 e2
      rw [asInt_eq e1] at ha
      rw [asInt_eq e2] at hb
      unfold R.when at p
      split at p
      · rename_i hc
        simp only [Bool.and_eq_true, decide_eq_true_eq] at hc
        exact op_pow pins s σ H x y v u Q I rx ry ⟨i, j, ha, hb, ⟨hc.1, hc.2.1, pow64 hc.2.2⟩, p.fin0 hr rfl⟩
      · exact p.elim
    · exact p.elim
  | shl =>
    simp only [evOp] at p
    split at p
    · rename_i i j e1 e2
      rw [asInt_eq e1] at ha
      rw [asInt_eq e2] at hb
      unfold R.when at p
      split at p
      · rename_i hc
        simp only [Bool.and_eq_true, decide_eq_true_eq] at hc
        exact op_shl pins s σ H x y v u Q I rx ry ⟨i, j, ha, hb, ⟨hc.1, hc.2.1, pow64 hc.2.2⟩, p.fin0 hr rfl⟩
      · exact p.elim
    · exact p.elim
/-- op= -/
theorem aug_snd (o : Op) : PIp X o.of (fun x y H Q => rBin T W (evAug o) x y H Q) := by
  intro pins s σ H x y v u Q I rx ry h
  obtain ⟨Φ, ι, M, a, b, σ', hr, ha, hb, p⟩ := h
  unfold evAug at p
  split at p
  · rename_i i j e1 e2
    rw [asInt_eq e1] at ha
    rw [asInt_eq e2] at hb
    cases o with
    | add => exact ip_add pins s σ H x y v u Q I rx ry ⟨i, j, ha, hb, p.fin0 hr rfl⟩
    | sub => exact ip_sub pins s σ H x y v u Q I rx ry ⟨i, j, ha, hb, p.fin0 hr rfl⟩
    | _ => exact p.elim
  · exact p.elim
/-! comparisons -/
theorem ord_snd {c : CmpOp} {f : Int → Int → Bool} (hf : OpR X (compareOp c) (rI0 fun i j => .bl (f i j))) : OpR X (compareOp c) (rBin T W (evOrd f)) := by
  intro pins s σ H x y v u Q I rx ry h
  obtain ⟨Φ, ι, M, a, b, σ', hr, ha, hb, p⟩ := h
  unfold evOrd at p
  split at p
  · rename_i i j e1 e2
    rw [asInt_eq e1] at ha
    rw [asInt_eq e2] at hb
    exact hf pins s σ H x y v u Q I rx ry ⟨i, j, ha, hb, p.fin0 hr rfl⟩
  · exact p.elim
theorem scalar_flat {Φ : Addr → Prop} {ι : List Addr} {H : Hp} {d : D} {v : V} (h : scalar d = true) (r : Rep T Φ ι H d v) : flatV v = true := by
  cases d <;> first | (cases r; rfl) | (simp [scalar] at h)
theorem scalar_eq {Φ : Addr → Prop} {ι : List Addr} {H : Hp} {d e : D} {v w : V} (h : scalar d = true) (k : scalar e = true) (r : Rep T Φ ι H d v) (q : Rep T Φ ι H e w) : eqV v w = d.eqv e := by
  cases d <;> first | (simp [scalar] at h; done) | (cases r; cases e <;> first | (simp [scalar] at k; done) | (cases q; rfl))
theorem scalar_in {Φ : Addr → Prop} {ι : List Addr} {H : Hp} {d : D} {v : V} (h : scalar d = true) (r : Rep T Φ ι H d v) : ∀ {l : List D} {vs : List V}, RepL T Φ ι H l vs → l.all scalar = true → vs.all flatV = true ∧ inV v vs = inB d l
  | [], _, q, _ => by cases q; exact ⟨rfl, rfl⟩
  | e :: es, _, q, k => by
    obtain ⟨w, ws, rfl, q1, q2⟩ := q
    simp only [List.all_cons, Bool.and_eq_true] at k
    obtain ⟨h1, h2⟩ := scalar_in h r q2 k.2
    refine ⟨by simp only [List.all_cons, scalar_flat k.1 q1, h1, Bool.and_self], ?_⟩
    show (eqV w v || inV v ws) = (e.eqv d || inB d es)
    rw [scalar_eq k.1 h q1 r, h2]
theorem str_sign {a : Str} {c : Nat} (h : a.cps.toList = [c]) : a = ⟨#[c]⟩ := by
  obtain ⟨l⟩ := a
  have : l = #[c] := by
    apply Array.ext'
    simpa using h
  rw [this]
theorem in_snd (hK : T.K = X.K) : OpR X (compareOp .In) (rBin T W (evIn false)) := by
  intro pins s σ H x y v u Q I rx ry h
  obtain ⟨Φ, ι, M, a, b, σ', hr, ha, hb, p⟩ := h
  unfold evIn at p
  split at p
  · rename_i z w e1 e2
    rw [asStr_eq e1] at ha
    rw [asStr_eq e2] at hb
    split at p
    · rename_i c e3
      exact op_in_sign pins s σ H x y v u Q I rx ry ⟨c, w, by rw [← str_sign e3]; exact ha, hb, p.fin0 hr (by simp [repD, Rep])⟩
    · exact p.elim
  · split at p
    · rename_i k l e3
      unfold R.when at p
      split at p
      · rename_i hc
        simp only [Bool.and_eq_true] at hc
        obtain ⟨a1, vs, rfl, h1, r1⟩ := hr.sq hb e3
        obtain ⟨h2, h3⟩ := scalar_in hc.1 ha r1 hc.2
        exact op_in_seq pins s σ H x _ v u Q I rx ry ⟨a1, vs, rfl, by rw [← hK]; exact h1, scalar_flat hc.1 ha, h2, p.fin0 hr (by simp [repD, Rep, h3])⟩
      · exact p.elim
    · exact p.elim
theorem notin_snd (hK : T.K = X.K) : OpR X (compareOp .NotIn) (rBin T W (evIn true)) := by
  intro pins s σ H x y v u Q I rx ry h
  obtain ⟨Φ, ι, M, a, b, σ', hr, ha, hb, p⟩ := h
  unfold evIn at p
  split at p
  · rename_i z w e1 e2
    rw [asStr_eq e1] at ha
    rw [asStr_eq e2] at hb
    split at p
    · rename_i c e3
      exact op_notIn_sign pins s σ H x y v u Q I rx ry ⟨c, w, by rw [← str_sign e3]; exact ha, hb, p.fin0 hr (by simp [repD, Rep])⟩
    · exact p.elim
  · split at p
    · rename_i k l e3
      unfold R.when at p
      split at p
      · rename_i hc
        simp only [Bool.and_eq_true] at hc
        obtain ⟨a1, vs, rfl, h1, r1⟩ := hr.sq hb e3
        obtain ⟨h2, h3⟩ := scalar_in hc.1 ha r1 hc.2
        exact op_notIn_seq pins s σ H x _ v u Q I rx ry ⟨a1, vs, rfl, by rw [← hK]; exact h1, scalar_flat hc.1 ha, h2, p.fin0 hr (by simp [repD, Rep, h3])⟩
      · exact p.elim
    · exact p.elim
theorem rep_non {Φ : Addr → Prop} {ι : List Addr} {H : Hp} {d : D} {v : V} (r : Rep T Φ ι H d v) : decide (v = .non) = isNon d := by
  cases d with
  | tup l => obtain ⟨a, vs, rfl, _⟩ := r; rfl
  | lst l => obtain ⟨a, vs, rfl, _⟩ := r; rfl
  | kst l => obtain ⟨a, vs, rfl, _⟩ := r; rfl
  | dct l k => obtain ⟨a, vs, rfl, _⟩ := r; rfl
  | ref n => obtain ⟨a, _, rfl⟩ := r; rfl
  | _ => cases r; rfl
theorem cmp_snd (hK : T.K = X.K) (hu : X.A.units + 64 < cLine) (o : Cm) : OpR X (compareOp o.of) (rBin T W (evCmp o)) := by
  cases o with
  | lt => exact ord_snd op_lt
  | le => exact ord_snd op_le
  | gt => exact ord_snd op_gt
  | ge => exact ord_snd op_ge
  | isin => exact in_snd hK
  | notin => exact notin_snd hK
  | eq =>
    intro pins s σ H x y v u Q I rx ry h
    obtain ⟨Φ, ι, M, a, b, σ', hr, ha, hb, p⟩ := h
    simp only [evCmp, R.when] at p
    split at p
    · rename_i hc
      cases hs : bothStr a b with
      | true =>
        simp only [bothStr, Bool.and_eq_true, Option.isSome_iff_exists] at hs
        obtain ⟨⟨z, e1⟩, w, e2⟩ := hs
        rw [asStr_eq e1] at ha p
        rw [asStr_eq e2] at hb p
        cases ha; cases hb
        refine op_eq pins s σ H _ _ v u Q I rx ry ⟨rfl, p.fin0 hr ?_⟩
        show V.bl (decide (V.str z = V.str w)) = .bl (z == w)
        rw [dec_str]
      | false =>
        rw [hs, Bool.false_or, Bool.and_eq_true] at hc
        refine op_eqD hu pins s σ H x y v u Q I rx ry ⟨_, _, by rw [← hK]; exact view_dp hr ha hc.1, by rw [← hK]; exact view_dp hr hb hc.2, flat_shaped hc.1, flat_shaped hc.2, p.fin0 hr ?_⟩
        show V.bl _ = .bl _
        rw [eqv_py 60 60 _ _ hc.1 hc.2]
    · exact p.elim
  | ne =>
    intro pins s σ H x y v u Q I rx ry h
    obtain ⟨Φ, ι, M, a, b, σ', hr, ha, hb, p⟩ := h
    simp only [evCmp, R.when] at p
    split at p
    · rename_i hc
      cases hs : bothStr a b with
      | true =>
        simp only [bothStr, Bool.and_eq_true, Option.isSome_iff_exists] at hs
        obtain ⟨⟨z, e1⟩, w, e2⟩ := hs
        rw [asStr_eq e1] at ha p
        rw [asStr_eq e2] at hb p
        cases ha; cases hb
        refine op_ne pins s σ H _ _ v u Q I rx ry ⟨rfl, p.fin0 hr ?_⟩
        show V.bl (!decide (V.str z = V.str w)) = .bl (!(z == w))
        rw [dec_str]
      | false =>
        rw [hs, Bool.false_or, Bool.and_eq_true] at hc
        refine op_neD hu pins s σ H x y v u Q I rx ry ⟨_, _, by rw [← hK]; exact view_dp hr ha hc.1, by rw [← hK]; exact view_dp hr hb hc.2, flat_shaped hc.1, flat_shaped hc.2, p.fin0 hr ?_⟩
        show V.bl _ = .bl _
        rw [eqv_py 60 60 _ _ hc.1 hc.2]
    · exact p.elim
  | is =>
    intro pins s σ H x y v u Q I rx ry h
    obtain ⟨Φ, ι, M, a, b, σ', hr, ha, hb, p⟩ := h
    simp only [evCmp, R.when] at p
    split at p
    · rename_i hc
      rw [isNon_eq hc] at hb
      exact op_isN pins s σ H x y v u Q I rx ry ⟨hb, p.fin0 hr (by rw [rep_non ha]; rfl)⟩
    · exact p.elim
  | isnot =>
    intro pins s σ H x y v u Q I rx ry h
    obtain ⟨Φ, ι, M, a, b, σ', hr, ha, hb, p⟩ := h
    simp only [evCmp, R.when] at p
    split at p
    · rename_i hc
      rw [isNon_eq hc] at hb
      exact op_notN pins s σ H x y v u Q I rx ry ⟨hb, p.fin0 hr (by rw [rep_non ha]; rfl)⟩
    · exact p.elim
/-! places, parts -/
theorem RepL.at {Φ : Addr → Prop} {ι : List Addr} {H : Hp} {l : List D} {vs : List V} {i : Int} {d : D} (r : RepL T Φ ι H l vs) (h : atI l i = some d) : ∃ v, atI vs i = some v ∧ Rep T Φ ι H d v := by
  unfold atI at h ⊢
  rw [r.length]
  cases e : ixN l.length i with
  | none => rw [e] at h; cases h
  | some j =>
    rw [e] at h
    exact r.get h
theorem ix_snd (hK : T.K = X.K) : IxR X (rBin T W evIx) := by
  intro value slice pins s σ H x y v u Q I rx ry h hs
  obtain ⟨Φ, ι, M, a, b, σ', hr, ha, hb, p⟩ := h
  unfold evIx at p
  split at p
  · rename_i j e1
    rw [asInt_eq e1] at hb
    split at p
    · rename_i z e2
      rw [asStr_eq e2] at ha
      unfold R.when at p
      split at p
      · rename_i hc
        cases e : atI z.cps.toList j with
        | none => rw [e] at p; exact p.elim
        | some c =>
          rw [e] at p
          exact ix_str value slice pins s σ H x y v u Q I rx ry ⟨z, j, c, ha, hb, of_decide_eq_true hc, e, p.fin0 hr rfl⟩ hs
      · exact p.elim
    · split at p
      · rename_i k l e2
        cases e : atI l j with
        | none => rw [e] at p; exact p.elim
        | some d =>
          rw [e] at p
          obtain ⟨a1, vs, rfl, h1, r1⟩ := hr.sq ha e2
          obtain ⟨w, ew, rw'⟩ := r1.at e
          rw [hK] at h1
          rcases h1 with h1 | h1
          · exact ix_list value slice pins s σ H _ y v u Q I rx ry ⟨a1, vs, j, w, rfl, hb, h1, ew, p.fin0 hr rw'⟩ hs
          · exact ix_tup value slice pins s σ H _ y v u Q I rx ry ⟨a1, vs, j, w, rfl, hb, h1, ew, p.fin0 hr rw'⟩ hs
      · exact p.elim
  · exact p.elim
def rPart (T : Tb) (W : WX) : V → Option Int → Option Int → Hp → VK → Prop := fun x lo hi H Q => ∃ Φ ι M a σ, HR T Φ ι H M ∧ Rep T Φ ι H a x ∧ Post T (repD T) W Φ ι σ H Q (evSl a lo hi M)
theorem RepL.cut {Φ : Addr → Prop} {ι : List Addr} {H : Hp} {l : List D} {vs : List V} (r : RepL T Φ ι H l vs) (lo hi : Option Int) : RepL T Φ ι H (cutD l lo hi) (cutV vs lo hi) := by
  unfold cutD cutV
  rw [r.length]
  exact RepL.take _ (RepL.drop _ r)
end
end TF

/-! t[::-1] of a tuple, at the library's level. -/
namespace TF
open PySem PySem.Spec PyProof.Rows L2 HT
section
variable {prog : Program} {w : World} {A : Around} {E : Value → Shared → Prop} {s : Shared}
theorem sliceApplied_rev {sl : Addr} {vl vu vs : Value} {n : Nat} {Q : Int × Int × Nat → Shared → Prop} (hs : s.heap.IsSliceOf sl vl vu vs) (pl : IsPart vl none) (pu : IsPart vu none) (ps : IsPart vs (some (-1)))
    (h : Q ((n : Int) - 1, -1, n) s) : wpAny (model prog w) A (Builtin.Slice.sliceApplied (.ref sl) (pure (n : Int))) Q E s := by
  obtain ⟨os, hos, hcs, hds⟩ := id hs
  unfold Builtin.Slice.sliceApplied Builtin.Slice.sliceFields
  refine wpAny_bind (wpAny_bind (wpAny_field hos hds (x := vl) rfl (wpAny_bind (wpAny_field hos hds (x := vu) rfl (wpAny_bind (wpAny_field hos hds (x := vs) rfl (wpAny_pure ?_)))))))
  refine wpAny_bind (slicePart_ ps ?_)
  show wpAny _ _ (if ((-1 : Int) == 0) = true then _ else _) _ _ s
  rw [if_neg (by decide)]
  refine wpAny_bind (slicePart_ pl (wpAny_bind (slicePart_ pu (wpAny_bind (wpAny_pure ?_)))))
  show wpAny _ _ (match Builtin.Slice.sliceAdjust none none (-1) (n : Int) with | (lo, hi) => pure (lo, (-1 : Int), Builtin.Slice.slicePlaces lo hi (-1))) _ _ s
  have e1 : Builtin.Slice.sliceAdjust none none (-1) (n : Int) = ((n : Int) - 1, -1) := by
    unfold Builtin.Slice.sliceAdjust
    simp
  have e2 : Builtin.Slice.slicePlaces ((n : Int) - 1) (-1) (-1) = n := by
    unfold Builtin.Slice.slicePlaces
    rw [if_neg (by decide)]
    split
    · rw [show -(-1 : Int) = 1 from rfl, Int.ediv_one]; omega
    · omega
  rw [e1]
  show wpAny _ _ (pure ((n : Int) - 1, (-1 : Int), Builtin.Slice.slicePlaces ((n : Int) - 1) (-1) (-1))) _ _ s
  rw [e2]
  exact wpAny_pure h
theorem pick_rev (xs : Array Value) : ((List.range xs.size).filterMap fun (k : Nat) => xs[((xs.size : Int) - 1 + (k : Int) * (-1)).toNat]?).toArray = xs.toList.reverse.toArray := by
  have e : (fun (k : Nat) => xs[((xs.size : Int) - 1 + (k : Int) * (-1)).toNat]?) = (fun i => xs[i]?) ∘ fun k => xs.size - 1 - k := by
    funext k
    show xs[((xs.size : Int) - 1 + (k : Int) * (-1)).toNat]? = xs[xs.size - 1 - k]?
    have : ((xs.size : Int) - 1 + (k : Int) * (-1)).toNat = xs.size - 1 - k := by omega
    rw [this]
  rw [e, ← List.filterMap_map, PySem.W.krv_range, List.filterMap_reverse, PySem.W.krv_all]
theorem getItem_tuple_rev {t sl : Addr} {items : Array Value} {vl vu vs : Value} {Q : Value → Shared → Prop} (ht : IsTup s.heap t items) (hs : s.heap.IsSliceOf sl vl vu vs) (pl : IsPart vl none) (pu : IsPart vu none) (ps : IsPart vs (some (-1)))
    (h : Q (.ref s.heap.objs.size) { s with heap := s.heap.push { cls := .type "tuple", data := .seq items.toList.reverse.toArray } })
    (hsz : items.size ≤ sizeLine) : wpAny (model prog w) A (getItem (.ref t) (.ref sl)) Q E s := by
  have htake : sizeOk (.seq items.toList.reverse.toArray) := by
    show items.toList.reverse.toArray.size ≤ sizeLine
    rw [List.size_toArray, List.length_reverse, Array.length_toList]
    omega
  obtain ⟨os, hos, hcs, hds⟩ := id hs
  have hTs : s.TypeIs (.ref sl) "slice" := ⟨os, hos, hcs⟩
  unfold getItem
  try with_reducible refine wpAny_holding ?_
  first | refine wpAny_bind (wpAny_pure ?_) | skip
  refine wpAny_bind (wpAny_sequenceKey ht.typeIs (by decide) ?_)
  refine wpAny_bind (wpAny_callSpecial?_slot (name := Str.ofString "__getitem__") ht.typeIs PyProof.Rows.slot_tuple_getitem
    (wpAny_call_entry PyProof.Rows.slot_tuple_getitem ht.typeIs entry_tuple_getitem ?_ (args_tuple_getitem _ _)))
  show wpAny _ _ (Builtin.Tuple.tupleItemsOf (.ref t) >>= _) _ _ s
  refine wpAny_bind (tupleItemsOf_ ht ?_)
  refine wpAny_bind (wpAny_typeOf hTs ?_)
  rw [if_pos (by decide)]
  refine wpAny_bind (sliceApplied_rev hs pl pu ps ?_)
  have hno : ¬ (((items.size : Int) - 1 == 0 && (-1 : Int) == 1 && items.size == items.size) = true) := by
    intro q
    rw [Bool.and_eq_true, Bool.and_eq_true] at q
    exact absurd (eq_of_beq q.1.2) (by decide)
  show wpAny _ _ (if ((items.size : Int) - 1 == 0 && (-1 : Int) == 1 && items.size == items.size) = true then _ else _) _ _ s
  rw [if_neg hno, pick_rev]
  first
    | exact wpAny_bind (m := Builtin.Tuple.tupleExact _) (wpAny_newObj_type (wpAny_pure ⟨_, rfl, wpAny_pure h⟩) htake)
    | exact wpAny_bind (m := Builtin.Tuple.tupleExact _) (wpAny_newObj_type (wpAny_bind (wpAny_pure (wpAny_pure ⟨_, rfl, wpAny_pure h⟩))) htake)
    | exact wpAny_bind (wpAny_bind (m := Builtin.Tuple.tupleExact _) (wpAny_newObj_type (wpAny_pure (wpAny_pure ⟨_, rfl, wpAny_pure h⟩)) htake))
    | exact wpAny_bind (wpAny_bind (m := Builtin.Tuple.tupleExact _) (wpAny_newObj_type (wpAny_pure ⟨_, rfl, wpAny_pure h⟩) htake))
end
section
variable {T : Tb} {W : WX} {X : Cx}
theorem sl_snd (hK : T.K = X.K) : SlR X (rPart T W) := by
  intro pins s σ H x v vl vu lo hi sl Q I rx hs pl pu h
  obtain ⟨Φ, ι, M, a, σ', hr, ha, p⟩ := h
  unfold evSl at p
  split at p
  · rename_i z e
    rw [asStr_eq e] at ha
    unfold R.when at p
    split at p
    · rename_i hc
      exact sl_str pins s σ H x v vl vu lo hi sl Q I rx hs pl pu ⟨z, ha, of_decide_eq_true hc, p.fin0 hr rfl⟩
    · exact p.elim
  · split at p
    · rename_i l e
      obtain ⟨a1, vs, rfl, h1, _, r1⟩ := hr.seq ha e
      exact sl_list pins s σ H _ v vl vu lo hi sl Q I rx hs pl pu ⟨a1, vs, rfl, hK ▸ h1 rfl, p.newL hr (r1.cut lo hi)⟩
    · rename_i l e
      obtain ⟨a1, vs, e1, _, h1, r1⟩ := hr.seq ha e
      subst e1
      refine sl_tupA pins s σ H _ v vl vu lo hi sl Q I rx hs pl pu ⟨a1, vs, rfl, hK ▸ h1 rfl, fun hw => ?_, fun _ => p.newT hr (r1.cut lo hi)⟩
      have e2 : cutD l lo hi = l := by
        unfold cutD
        rw [← r1.length, hw.1, hw.2, List.drop_zero, Nat.sub_zero, r1.length, List.take_length]
      rw [e2] at p
      refine p.fin0 hr ?_
      cases a with
      | tup m =>
        have e3 : m = l := by simpa [seqV] using e
        subst e3
        exact ha
      | ref n =>
        simp only [seqV] at e
        split at e <;> simp at e
      | _ => simp [seqV] at e
    · exact p.elim
/-- a reading of one value -/
def rUn (T : Tb) (W : WX) (f : D → List MO → R D) : V → Hp → VK → Prop := fun x H Q => ∃ Φ ι M a σ, HR T Φ ι H M ∧ Rep T Φ ι H a x ∧ Post T (repD T) W Φ ι σ H Q (f a M)
theorem pe_rev (hK : T.K = X.K) {e : Expr} {te : TE} {k : Nat} {p1 p2 p3 pos : Pos} (he : PE X e te) :
    PE X (.Subscript e (.Slice none none (some (.UnaryOp .USub (.Constant (.int 1) k p1) p2)) p3) pos) (fun σ H Q => te σ H fun x H1 => rUn T W evRv x H1 Q) := by
  refine ⟨fun pins s σ H Q I h => ?_⟩
  refine Subscript_ (thn (he.run pins s σ H _ I h) fun v s1 ⟨x, H1, I1, r1, q1⟩ => ?_)
  obtain ⟨Φ, ι, M, a, σ', hr, ha, p⟩ := q1
  have hst : PO X (some (.UnaryOp .USub (.Constant (.int 1) k p1) p2)) (tPart (tUn (rU fun i => .int (-i)) (tC (.int 1)))) := po_some (pe_un un_neg pe_int)
  refine wpAny_Slice (thn (po_none.run pins s1 σ H1 (fun o H2 => o = none ∧ H2 = H1) I1 ⟨rfl, rfl⟩) fun vl s2 ⟨l, H2, I2, pl, el, e2⟩ => ?_)
  subst el e2
  refine thn (po_none.run pins s2 σ H2 (fun o H3 => o = none ∧ H3 = H2) I2 ⟨rfl, rfl⟩) fun vu s3 ⟨u, H3, I3, pu, eu, e3⟩ => ?_
  subst eu e3
  refine thn (hst.run pins s3 σ H3 (fun o H4 => o = some (-1) ∧ H4 = H3) I3 ⟨1, rfl, -1, rfl, rfl, rfl⟩) fun vs s4 ⟨o, H4, I4, ps, eo, e4⟩ => ?_
  subst eo e4
  have I5 : Inv X pins σ H4 { s4 with heap := s4.heap.push { cls := .type "slice", data := .fields #[vl, vu, vs] } } := I4.kept (t' := s4.toks) fun b ob q => Heap.get?_push_of_some _ q
  show wpAny (model X.prog X.w) X.A (subscriptTail e (.Slice none none (some (.UnaryOp .USub (.Constant (.int 1) k p1) p2)) p3) v (.ref s4.heap.objs.size)) (EP X pins σ Q) X.xe { s4 with heap := s4.heap.push { cls := .type "slice", data := .fields #[vl, vu, vs] } }
  unfold evRv at p
  split at p
  · rename_i m e
    obtain ⟨b, xs, ex, hx, _, r2⟩ := hr.seq ha e
    subst ex
    cases r1
    obtain ⟨its, r, ht, hz⟩ := I5.list (hK ▸ hx rfl)
    have hlen := r.length
    refine tail_any (ops := [.ref b, .ref s4.heap.objs.size]) ht.isList.typeIs (PySem.slot_list_getitem.lookup) ?_ (by with_unfolding_all rfl)
    refine wpAny_getItem_list_slice ht.isList (Heap.IsSliceOf.new _ vl vu vs) pl pu ps (by decide) ?_ (by rw [List.size_toArray]; omega)
    rw [PySem.W.krv_pick]
    refine ⟨.ref _, _, I5.laid (t' := s4.toks) (o := .lst xs.reverse) (fun b ob q => Heap.get?_push_of_some _ q) (Nat.le_refl _) ?_, rfl, p.newL hr r2.rev _ (I5.hok.fresh (Nat.le_refl _))⟩
    exact ⟨by rw [List.length_reverse]; exact hz, _, 0, r.reverse, Heap.get?_push_size _ rfl⟩
  · rename_i m e
    obtain ⟨b, xs, ex, _, hx, r2⟩ := hr.seq ha e
    subst ex
    cases r1
    obtain ⟨its, r, ht, hz⟩ := I5.tuple (hK ▸ hx rfl)
    have hlen := r.length
    refine tail_any (ops := [.ref b, .ref s4.heap.objs.size]) ht.typeIs (PyProof.Rows.slot_tuple_getitem.lookup) ?_ (by with_unfolding_all rfl)
    refine getItem_tuple_rev ht (Heap.IsSliceOf.new _ vl vu vs) pl pu ps ?_ (by rw [List.size_toArray]; omega)
    refine ⟨.ref _, _, I5.laid (t' := s4.toks) (o := .tup xs.reverse) (fun b ob q => Heap.get?_push_of_some _ q) (Nat.le_refl _) ?_, rfl, p.newT hr r2.rev _ (I5.hok.fresh (Nat.le_refl _))⟩
    exact ⟨by rw [List.length_reverse]; exact hz, _, r.reverse, ⟨_, Heap.get?_push_size _ rfl, rfl, _, rfl⟩⟩
  · exact p.elim
end
end TF

/-! Built-in functions of the small language by values. -/
namespace TF
open PySem PySem.Spec PyProof.Rows L2
def rArgs (T : Tb) (W : WX) (f : List D → List MO → R D) : List V → Hp → VK → Prop := fun xs H Q => ∃ Φ ι M ds σ, HR T Φ ι H M ∧ RepL T Φ ι H ds xs ∧ Post T (repD T) W Φ ι σ H Q (f ds M)
section
variable {T : Tb} {W : WX} {X : Cx} {Φ : Addr → Prop} {ι : List Addr} {H : Hp}
theorem RepL.one' {ds : List D} {x : D} {xs : List V} (h : RepL T Φ ι H [x] xs) : ∃ v, xs = [v] ∧ Rep T Φ ι H x v := by
  obtain ⟨v, r, rfl, h1, h2⟩ := h
  cases h2
  exact ⟨v, rfl, h1⟩
theorem RepL.two' {x y : D} {xs : List V} (h : RepL T Φ ι H [x, y] xs) : ∃ v w, xs = [v, w] ∧ Rep T Φ ι H x v ∧ Rep T Φ ι H y w := by
  obtain ⟨v, r, rfl, h1, h2⟩ := h
  obtain ⟨w, r, rfl, h3, h4⟩ := h2
  cases h4
  exact ⟨v, w, rfl, h1, h3⟩
theorem ints_rep : ∀ {l : List D} {ns : List Int} {vs : List V}, intsOf l = some ns → RepL T Φ ι H l vs → vs = ns.map V.int
  | [], ns, vs, h, r => by
    simp [intsOf] at h
    subst h
    cases r
    rfl
  | d :: l, ns, vs, h, r => by
    obtain ⟨v, ws, rfl, r1, r2⟩ := r
    simp only [intsOf] at h
    split at h
    · rename_i i m e1 e2
      cases h
      rw [asInt_eq e1] at r1
      cases r1
      rw [ints_rep e2 r2]
      rfl
    · cases h
theorem bools_rep : ∀ {l : List D} {ns : List Bool} {vs : List V}, boolsOf l = some ns → RepL T Φ ι H l vs → vs = ns.map V.bl
  | [], ns, vs, h, r => by
    simp [boolsOf] at h
    subst h
    cases r
    rfl
  | d :: l, ns, vs, h, r => by
    obtain ⟨v, ws, rfl, r1, r2⟩ := r
    simp only [boolsOf] at h
    split at h
    · rename_i i m e1 e2
      cases h
      rw [asBl_eq e1] at r1
      cases r1
      rw [bools_rep e2 r2]
      rfl
    · cases h
theorem strs_rep : ∀ {l : List D} {ns : List Str} {vs : List V}, strsOf l = some ns → RepL T Φ ι H l vs → vs = ns.map V.str
  | [], ns, vs, h, r => by
    simp [strsOf] at h
    subst h
    cases r
    rfl
  | d :: l, ns, vs, h, r => by
    obtain ⟨v, ws, rfl, r1, r2⟩ := r
    simp only [strsOf] at h
    split at h
    · rename_i i m e1 e2
      cases h
      rw [asStr_eq e1] at r1
      cases r1
      rw [strs_rep e2 r2]
      rfl
    · cases h
theorem when_ok {α β : Type} {rep : REP α β} {σ : L2.St} {Q : β → Hp → Prop} {c : Bool} {r : R α} (p : Post T rep W Φ ι σ H Q (R.when c r)) : c = true ∧ Post T rep W Φ ι σ H Q r := by
  unfold R.when at p
  split at p
  · rename_i h
    exact ⟨h, p⟩
  · exact p.elim
theorem of_ok {α β : Type} {rep : REP α β} {σ : L2.St} {M : List MO} {Q : β → Hp → Prop} {o : Option α} (p : Post T rep W Φ ι σ H Q (R.of o M)) : ∃ a, o = some a ∧ Post T rep W Φ ι σ H Q (.ok a M) := by
  cases o with
  | none => exact p.elim
  | some a => exact ⟨a, rfl, p⟩
theorem seqV_tup {M : List MO} {d : D} {l : List D} (h : seqV M d = some (false, l)) : d = .tup l := by
  cases d with
  | tup m =>
    have e3 : m = l := by simpa [seqV] using h
    rw [e3]
  | ref n =>
    simp only [seqV] at h
    split at h <;> simp at h
  | _ => simp [seqV] at h
theorem log_small {i : Int} (h : i.natAbs < 2 ^ 1900) : i.natAbs.log2 < 1920 := Nat.lt_of_lt_of_le (PySem.Flt.log2_lt_of (by decide : 0 < 1900) h) (by decide)
def Bi.val : Bi → Value
  | .len => .builtin "len"
  | .abs => .builtin "abs"
  | .max => .builtin "max"
  | .min => .builtin "min"
  | .int => .type "int"
  | .str => .type "str"
  | .sum => .builtin "sum"
  | .any => .builtin "any"
  | .all => .builtin "all"
  | .tuple => .type "tuple"
  | .list => .type "list"
  | .repr => .builtin "repr"
  | .bool => .type "bool"
theorem bi_boot (b : Bi) : bootBuiltins b.of = some b.val := by cases b <;> decide +kernel
/-- repr of data -/
theorem repr_dp {d : PyData} (hu : X.A.units + 66 < cLine) (hg : X.A.guards = some []) (hsh : SeqAt.shaped d = true) (hs : d.showable = true) (hz : d.shown.length ≤ sizeLine) {pins : List (Addr × Obj)} {s : Shared} {σ : L2.St} {a : Addr} {Q : VK} (I : Inv X pins σ H s) (h : Dp X.K H (.ref a) d)
    (q : Q (.str d.shown) H) : wpAny (model X.prog X.w) X.A (call (.builtin "repr") [.ref a]) (EP X pins σ Q) X.xe s := by
  obtain ⟨as, r1⟩ := Dp.reads I d _ _ h (show RelV (.ref a) (.ref a) from rfl)
  have hc : d.canLay0 = true ∧ d.depth ≤ 64 := by
    unfold SeqAt.shaped at hsh
    simpa using hsh
  refine repr_of_reads' r1 hs (PyData.noDict_hsm (PyData.hasDict_of_canLay d hc.1)) hg (by omega) (fun _ _ e => e) (fun h' u tk hk => ?_) hz
  exact ⟨.str d.shown, H, I.kept hk, ⟨_, rfl⟩, q⟩
theorem bi_snd (hK : T.K = X.K) (hc : X.calm = true) (hu : X.A.units + 66 < cLine) (hg : X.A.guards = some []) (b : Bi) : CallR X b.val (rArgs T W (evBi b)) := by
  intro pins s σ H xs us Q I r h
  obtain ⟨Φ, ι, M, ds, σ', hr, hl, p⟩ := h
  unfold evBi at p
  split at p
  · rename_i x
    obtain ⟨v, rfl, rx⟩ := RepL.one' (ds := [x]) hl
    cases b with
    | len =>
      simp only [evBi1] at p
      split at p
      · rename_i z e
        rw [asStr_eq e] at rx
        obtain ⟨h1, p⟩ := when_ok p
        cases rx
        exact call_len_str pins s σ H _ us Q I r ⟨z, rfl, of_decide_eq_true h1, p.fin0 hr rfl⟩
      · split at p
        · rename_i k l e
          obtain ⟨a, vs, rfl, h1, r1⟩ := hr.sq rx e
          refine call_len_seq pins s σ H _ us Q I r ⟨a, vs, rfl, hK ▸ h1, p.fin0 hr ?_⟩
          show V.int vs.length = .int l.length
          rw [r1.length]
        · exact p.elim
    | abs =>
      simp only [evBi1] at p
      split at p
      · rename_i i e
        rw [asInt_eq e] at rx
        cases rx
        exact call_abs pins s σ H _ us Q I r ⟨i, rfl, p.fin0 hr rfl⟩
      · exact p.elim
    | int =>
      simp only [evBi1] at p
      split at p
      · rename_i i e
        rw [asInt_eq e] at rx
        cases rx
        exact call_int1 pins s σ H _ us Q I r (.inl ⟨i, rfl, p.fin0 hr rfl⟩)
      · split at p
        · rename_i k e
          rw [asBl_eq e] at rx
          cases rx
          exact call_int1 pins s σ H _ us Q I r (.inr ⟨k, rfl, p.fin0 hr rfl⟩)
        · split at p
          · rename_i z e
            rw [asStr_eq e] at rx
            cases rx
            split at p
            · rename_i n e2
              obtain ⟨h1, p⟩ := when_ok p
              exact call_int_str pins s σ H _ us Q I r ⟨z, n, rfl, e2, of_decide_eq_true h1, p.fin0 hr rfl⟩
            · exact p.elim
          · exact p.elim
    | str =>
      simp only [evBi1] at p
      split at p
      · rename_i i e
        rw [asInt_eq e] at rx
        cases rx
        obtain ⟨h1, p⟩ := when_ok p
        exact call_str_int pins s σ H _ us Q I r ⟨i, rfl, log_small (of_decide_eq_true h1), p.fin0 hr rfl⟩
      · exact p.elim
    | sum =>
      simp only [evBi1] at p
      split at p
      · rename_i l e
        split at p
        · rename_i ns e2
          obtain ⟨a, vs, rfl, h1, _, r1⟩ := hr.seq rx e
          refine cr_sum hc pins s σ H _ us Q I r ⟨a, ns, rfl, ?_, p.fin0 hr rfl⟩
          rw [← ints_rep e2 r1, ← hK]
          exact h1 rfl
        · exact p.elim
      · exact p.elim
    | any =>
      simp only [evBi1] at p
      split at p
      · rename_i l e
        split at p
        · rename_i ns e2
          obtain ⟨a, vs, rfl, h1, _, r1⟩ := hr.seq rx e
          refine cr_any hc pins s σ H _ us Q I r ⟨a, ns, rfl, ?_, p.fin0 hr rfl⟩
          rw [← bools_rep e2 r1, ← hK]
          exact h1 rfl
        · exact p.elim
      · exact p.elim
    | all =>
      simp only [evBi1] at p
      split at p
      · rename_i l e
        split at p
        · rename_i ns e2
          obtain ⟨a, vs, rfl, h1, _, r1⟩ := hr.seq rx e
          refine cr_all hc pins s σ H _ us Q I r ⟨a, ns, rfl, ?_, p.fin0 hr rfl⟩
          rw [← bools_rep e2 r1, ← hK]
          exact h1 rfl
        · exact p.elim
      · exact p.elim
    | tuple =>
      simp only [evBi1] at p
      split at p
      · rename_i k l e
        obtain ⟨a, vs, rfl, h1, h2, r1⟩ := hr.seq rx e
        cases k with
        | true => exact call_tuple_of pins s σ H _ us Q I r ⟨a, vs, rfl, .inl ⟨hK ▸ h1 rfl, p.newT hr r1⟩⟩
        | false =>
          have e2 := seqV_tup e
          subst e2
          exact call_tuple_of pins s σ H _ us Q I r ⟨a, vs, rfl, .inr ⟨hK ▸ h2 rfl, p.fin0 hr rx⟩⟩
      · exact p.elim
    | list =>
      simp only [evBi1] at p
      split at p
      · rename_i k l e
        obtain ⟨a, vs, rfl, h1, r1⟩ := hr.sq rx e
        exact call_list_of pins s σ H _ us Q I r ⟨a, vs, rfl, hK ▸ h1, p.newL hr r1⟩
      · exact p.elim
    | repr =>
      simp only [evBi1] at p
      obtain ⟨h1, p⟩ := when_ok p
      unfold reprB at h1
      simp only [Bool.and_eq_true, decide_eq_true_eq] at h1
      obtain ⟨h0, hf, hs, hz⟩ := h1
      have hd := view_dp hr rx hf
      rw [hK] at hd
      have hq : Q (.str (viewV M x).py.shown) H := p.fin0 hr rfl
      have hsh := flat_shaped hf
      generalize hvw : viewV M x = y at *
      cases y with
      | int i =>
        cases hd
        obtain ⟨u, rfl, t, rfl⟩ := vals1 r
        exact PySem.P.repr_of_int (of_decide_eq_true hs) ⟨.str _, H, I.tok _, ⟨_, rfl⟩, hq⟩
      | tup l =>
        cases v with
        | ref a =>
          obtain ⟨u, rfl, ru⟩ := vals1 r
          cases ru
          exact repr_dp hu hg hsh hs hz I hd hq
        | _ => cases hd
      | lst l =>
        cases v with
        | ref a =>
          obtain ⟨u, rfl, ru⟩ := vals1 r
          cases ru
          exact repr_dp hu hg hsh hs hz I hd hq
        | _ => cases hd
      | kst l =>
        cases v with
        | ref a =>
          obtain ⟨u, rfl, ru⟩ := vals1 r
          cases ru
          exact repr_dp hu hg hsh hs hz I hd hq
        | _ => cases hd
      | _ => cases h0
    | _ => exact p.elim
  · rename_i x y
    obtain ⟨v, w, rfl, rx, ry⟩ := RepL.two' hl
    cases b with
    | max =>
      simp only [evBi2] at p
      split at p
      · rename_i i j e1 e2
        rw [asInt_eq e1] at rx
        rw [asInt_eq e2] at ry
        cases rx; cases ry
        exact call_max2 hc pins s σ H _ us Q I r ⟨i, j, rfl, p.fin0 hr rfl⟩
      · exact p.elim
    | min =>
      simp only [evBi2] at p
      split at p
      · rename_i i j e1 e2
        rw [asInt_eq e1] at rx
        rw [asInt_eq e2] at ry
        cases rx; cases ry
        exact call_min2 hc pins s σ H _ us Q I r ⟨i, j, rfl, p.fin0 hr rfl⟩
      · exact p.elim
    | _ => exact p.elim
  · exact p.elim
/-! isinstance -/
theorem tyB_ok {a t : String} {r : Bool} (ha : a ∈ ["NoneType", "bool", "int", "str", "tuple", "list", "dict"]) (h : tyB a t = some r) : kitB a t = some r := by
  unfold tyB at h
  simp only [List.mem_cons, List.not_mem_nil, or_false] at ha
  repeat' (split at h)
  all_goals first | (rename_i e; subst e; cases h; rcases ha with rfl | rfl | rfl | rfl | rfl | rfl | rfl <;> decide +kernel) | cases h
theorem tyD_ok (hK : T.K = X.K) {M : List MO} (hr : HR T Φ ι H M) {d : D} {a : String} {v : V} (h : tyD M d = some a) (r : Rep T Φ ι H d v) : a ∈ ["NoneType", "bool", "int", "str", "tuple", "list", "dict"] ∧ TyX X.K H v (.type a) := by
  cases d with
  | non => cases h; cases r; exact ⟨by decide, .base .non⟩
  | bl b => cases h; cases r; exact ⟨by decide, .base (.bl b)⟩
  | int b => cases h; cases r; exact ⟨by decide, .base (.int b)⟩
  | str b => cases h; cases r; exact ⟨by decide, .base (.str b)⟩
  | tup l =>
    cases h
    obtain ⟨p, vs, rfl, f, _⟩ := r
    refine ⟨by decide, ?_⟩
    rcases f with ⟨e | ⟨o, e⟩, _⟩ | ⟨o, its, n, e, e2, _⟩
    · exact .base (.tup e)
    · exact .fTuple e
    · exact .kTuple (hK ▸ e) e2
  | lst l =>
    cases h
    obtain ⟨p, vs, rfl, f, _⟩ := r
    exact ⟨by decide, .base (.lst f.1)⟩
  | kst l =>
    cases h
    obtain ⟨p, vs, rfl, f, _⟩ := r
    refine ⟨by decide, ?_⟩
    rcases f with ⟨e | ⟨o, e⟩, _⟩ | ⟨o, its, n, e, e2, _⟩
    · exact .base (.lst e)
    · exact .base (.frz e)
    · exact .kList (hK ▸ e) e2
  | dct ks l =>
    cases h
    obtain ⟨p, vs, rfl, f, _⟩ := r
    refine ⟨by decide, ?_⟩
    rcases f with e | ⟨o, e⟩
    · exact .base (.dK e)
    · exact .fDict e
  | ref n =>
    simp only [tyD] at h
    split at h
    · rename_i l e
      cases h
      obtain ⟨p, vs, _, rfl, _, e2, _⟩ := hr.lst r e
      exact ⟨by decide, .base (.lst e2)⟩
    · cases h
  | _ => cases h
end
end TF

/-! Expressions of the small language, one rule each. -/
namespace TF
open PySem PySem.Spec PyProof.Rows L2
def Cn.v : Cn → V
  | .non => .non
  | .bl b => .bl b
  | .int i => .int i
  | .str s => .str s
/-- what a call of h is to do -/
def spG (T : Tb) (h : List D → List MO → R D) : Sp := fun vs H Q E => ∃ Φ ι ds M, HR T Φ ι H M ∧ RepL T Φ ι H ds vs ∧ Post T (repD T) (fun c dx _ H' => E c dx H') Φ ι [] H Q (h ds M)
/-- the module -/
structure Mds (P : Program) (w : World) (K : PySem.W.Frag) (mg : Str → Option Value) (base : Heap) (T : Tb) (md : Md) (γ : Gm) (k : Nat) : Prop where
  cns : ∀ x c, md.cns.lookup x = some c → ∃ u, mg x = some u ∧ RelV c.v u
  free : ∀ x, x ∈ md.free → mg x = none
  tabs : ∀ t x, (md.tabs[t]?).map (·.1) = some x → ∃ a es n, mg x = some (.ref a) ∧ KDict K w a es n ∧ ∀ z : Str, ∃ r, PySem.W.nsIn K a z = some r ∧ (match (γ.tab t).lookup z with
    | some c => ∃ u, r = some u ∧ RelV c.v u
    | none => r = none)
  fns : ∀ f x, md.fns[f]? = some x → ∃ a fd ps, mg x = some (.ref a) ∧ PySem.W.keepIn K (.ref a) = true ∧ Binds K fd ps [] ∧ FnG P w K mg base (L2.CX P w) k a fd ps (spG T (γ.hf f))
/-- where a piece of code stands -/
structure Cok (T : Tb) (md : Md) (N : List Str) (γ : Gm) (k : Nat) (W : WX) (sc : Sc) (blk : Bool) (X : Cx) : Prop where
  n : X.N = N
  nd : N.Nodup
  sc : X.env.scope.names = sc
  kind : X.env.scope.kind = .function
  fn : blk = false → ∀ x, X.fn x = true
  calm : X.calm = true
  K : T.K = X.K
  room : RoomG k X.A
  ms : Mds X.prog X.w X.K X.mg X.base T md γ k
  pass : ∀ σ, PassesAt (L2.CX X.prog X.w) X σ (WE W σ)
section
variable {T : Tb} {md : Md} {N : List Str} {γ : Gm} {k : Nat} {W : WX} {sc : Sc} {blk : Bool} {X : Cx}
theorem Cok.hu (h : Cok T md N γ k W sc blk X) : X.A.units + 200 < cLine := by
  have := h.room.r.un
  omega
theorem okId1 {x : Str} (h : okId x = true) : (x == ("__debug__" : Str)) = false ∧ (x == ("__classdict__" : Str)) = false ∧ x ≠ "__name__" := by
  unfold okId at h
  simp only [Bool.and_eq_true, Bool.not_eq_true'] at h
  refine ⟨h.1, h.2.1, fun e => ?_⟩
  subst e
  exact absurd h.2.2 (by decide)
theorem Cok.gl (h : Cok T md N γ k W sc blk X) {x : Str} (g : isGlo sc x = true) : Gl X x ∧ (x == ("__debug__" : Str)) = false ∧ x ≠ "__name__" := by
  unfold isGlo at g
  simp only [Bool.and_eq_true, decide_eq_true_eq] at g
  refine ⟨?_, (okId1 g.2).1, (okId1 g.2).2.2⟩
  show X.env.scope.names.lookup x = some .globalImplicit
  rw [h.sc]
  exact g.1
theorem starEach_cons {e : Expr} {es : List Expr} {env : Env} (h : isStar e = false) : starEach (e :: es) env = (false, eval e env) :: starEach es env := by
  cases e <;> first | rfl | cases h
theorem star_none {env : Env} {pos : Pos} : ∀ {es : List Expr}, es.any isStar = false → (backTo pos (starEach es env)).any (·.1) = false
  | [], _ => rfl
  | e :: es, h => by
    simp only [List.any_cons, Bool.or_eq_false_iff] at h
    rw [starEach_cons h.1]
    show (false || (backTo pos (starEach es env)).any (·.1)) = false
    rw [star_none h.2]
    rfl
theorem star_all {env : Env} {pos : Pos} : ∀ {es : List Expr}, es.any isStar = false → (backTo pos (starEach es env)).all (fun x => !x.1) = true
  | [], _ => rfl
  | e :: es, h => by
    simp only [List.any_cons, Bool.or_eq_false_iff] at h
    rw [starEach_cons h.1]
    show (true && (backTo pos (starEach es env)).all (fun x => !x.1)) = true
    rw [star_all h.2]
    rfl
theorem base_plain {o : Expr} {m : Str} {env : Env} {whole : Sem Value} (h : isNC o = false) : attributeBase o m env whole = whole := by
  unfold attributeBase
  split
  · cases h
  · rfl
theorem ix_plain {b : Expr} (h : isSlice b = false) : PlainIx b := by
  intro o i
  cases b <;> first | rfl | cases h
theorem marks_none {op : CmpOp} {e : Expr} (h : isSetD e = false) : behindInMarks op e = false := by
  cases e <;> first | rfl | cases h
theorem fold_none {e : Expr} {env : Env} {x : Value} (h : isSetD e = false) : foldedSetIterable e env x = pure x := by
  cases e <;> first | rfl | cases h
theorem parts_none {a : Expr} {env : Env} (h : isParts a = false) : ∀ whole, isTrue a env whole = (do let v ← whole; standAt a.pos; holding [v] (truthy v)) := by
  intro whole
  cases a with
  | UnaryOp o b p => cases o <;> first | rfl | cases h
  | _ => first | rfl | cases h
/-! readings -/
variable {σ : L2.St} {H : Hp} {Q : VK}
theorem tE.bin {ca cb : EV D} {f : D → D → List MO → R D} (h : tE T W (fun e M => (ca e M).bind fun x M => (cb e M).bind fun y M => f x y M) σ H Q) : tOp (rBin T W f) (tE T W ca) (tE T W cb) σ H Q := by
  obtain ⟨env, h⟩ := h
  refine (Hold.bindD (g := fun x e M => (cb e M).bind fun y M => f x y M) h).mono fun x H1 ⟨a, h1⟩ => ?_
  refine (Hold.bindD (g := fun y e M => f a y M) h1).mono fun y H2 ⟨b, Φ, ι, M, ag, hp, p⟩ => ?_
  exact ⟨Φ, ι, M, a, b, σ, ag.hr, hp.tl.hd, hp.hd, p⟩
theorem tE.un {ca : EV D} {f : D → List MO → R D} (h : tE T W (fun e M => (ca e M).bind fun x M => f x M) σ H Q) : tE T W ca σ H fun x H1 => rUn T W f x H1 Q := by
  obtain ⟨env, h⟩ := h
  refine (Hold.bindD (g := fun x e M => f x M) h).mono fun x H1 ⟨a, Φ, ι, M, ag, hp, p⟩ => ?_
  exact ⟨Φ, ι, M, a, σ, ag.hr, hp.hd, p⟩
theorem tE.args {ca : EV (List D)} {f : List D → List MO → R D} (h : tE T W (fun e M => (ca e M).bind fun x M => f x M) σ H Q) : tA T W ca σ H fun xs H1 => rArgs T W f xs H1 Q := by
  obtain ⟨env, h⟩ := h
  refine (Hold.bindL (g := fun x e M => f x M) h).mono fun x H1 ⟨a, Φ, ι, M, ag, hp, r, p⟩ => ?_
  exact ⟨Φ, ι, M, a, σ, ag.hr, r, p⟩
/-! names, constants -/
theorem x_var (h : Cok T md N γ k W sc blk X) {i : Nat} {x : Str} {pos : Pos} (hv : isVar N sc i x = true) : PE X (.Name x pos) (tE T W (ev γ (.v i))) := by
  unfold isVar visB at hv
  simp only [Bool.and_eq_true, decide_eq_true_eq] at hv
  have vis : Vis X.env.scope x := by
    unfold Vis
    rw [h.sc]
    have hv1 := hv.2.1
    split at hv1
    · rename_i e; exact .inl e
    · rename_i e; exact .inr (.inl e)
    · rename_i e; exact .inr (.inr e)
    · cases hv1
  refine rdE (pe_var (i := i) (by rw [h.n]; exact hv.1) vis (okId1 hv.2.2).1 (okId1 hv.2.2).2.1) fun σ H Q q => ?_
  obtain ⟨env, Φ, ι, M, ag, _, p⟩ := q
  simp only [ev] at p
  split at p
  · rename_i d e
    obtain ⟨v, e1, r⟩ := ag.ev i d e
    exact ⟨v, e1, p.fin0 ag.hr r⟩
  · exact p.elim
theorem rep_cn {Φ : Addr → Prop} {ι : List Addr} {H : Hp} {c : Cn} : Rep T Φ ι H c.d c.v := by cases c <;> rfl
theorem tC_of {c : Cn} {f : EV D} (hf : ∀ e M, f e M = .ok c.d M) {σ : L2.St} {H : Hp} {Q : VK} (q : tE T W f σ H Q) : tC c.v σ H Q := by
  obtain ⟨env, Φ, ι, M, ag, _, p⟩ := q
  rw [hf] at p
  exact p.fin0 ag.hr rep_cn
theorem x_con {c : Cn} {j : Option Str} {pos : Pos} : ∀ {kd}, PE X (.Constant c.of kd pos) (tE T W (ev γ (.c c))) := by
  intro kd
  cases c with
  | non => exact rdE pe_non fun σ H Q q => tC_of (c := .non) (fun _ _ => rfl) q
  | bl b => exact rdE pe_bl fun σ H Q q => tC_of (c := .bl b) (fun _ _ => rfl) q
  | int i => exact rdE pe_int fun σ H Q q => tC_of (c := .int i) (fun _ _ => rfl) q
  | str s => exact rdE pe_str fun σ H Q q => tC_of (c := .str s) (fun _ _ => rfl) q
theorem x_glo (h : Cok T md N γ k W sc blk X) {x : Str} {c : Cn} {pos : Pos} (hg : isGlo sc x = true) (hc : md.cns.lookup x = some c) : PE X (.Name x pos) (tE T W (ev γ (.g x c))) := by
  obtain ⟨u, hm, r⟩ := h.ms.cns x c hc
  obtain ⟨g, hd, _⟩ := h.gl hg
  exact rdE (pe_glob g hm r hd) fun σ H Q q => tC_of (c := c) (fun _ _ => rfl) q
variable {a b c : Expr} {ca cb cc : EV D} {pos : Pos}
theorem x_neg (ha : PE X a (tE T W ca)) : PE X (.UnaryOp .USub a pos) (tE T W fun e M => (ca e M).bind fun d M => match asInt d with
    | some i => .ok (.int (-i)) M
    | none => .bad) :=
  rdE (pe_un un_neg ha) fun σ H Q q => (tE.un (f := fun d M => match asInt d with
    | some i => .ok (.int (-i)) M
    | none => .bad) q).mono fun x H1 ⟨Φ, ι, M, a, σ', hr, ra, p⟩ => by
      dsimp only at p
      split at p
      · rename_i i e
        rw [asInt_eq e] at ra
        exact ⟨i, ra, p.fin0 hr rfl⟩
      · exact p.elim
theorem x_op (h : Cok T md N γ k W sc blk X) (o : Op) (ha : PE X a (tE T W ca)) (hb : PE X b (tE T W cb)) : PE X (.BinOp a o.of b pos) (tE T W fun e M => (ca e M).bind fun x M => (cb e M).bind fun y M => evOp o x y M) :=
  rdE (pe_op (op_snd h.K o) ha hb) fun σ H Q q => tE.bin q
theorem x_cmp (h : Cok T md N γ k W sc blk X) (o : Cm) (ha : PE X a (tE T W ca)) (hb : PE X b (tE T W cb)) (hm : isSetD b = false) : PE X (.Compare a [o.of] [b] pos) (tE T W fun e M => (ca e M).bind fun x M => (cb e M).bind fun y M => evCmp o x y M) :=
  rdE (pe_cmpR (cmp_snd h.K (by have := h.hu; omega) o) ha hb (marks_none hm)) fun σ H Q q => tE.bin q
theorem evCmp_bl {o : Cm} {x y : D} {M : List MO} : (∃ b, evCmp o x y M = .ok (.bl b) M) ∨ evCmp o x y M = .bad := by
  cases o <;> simp only [evCmp, evOrd, evIn, R.when] <;> (repeat' split) <;> first | exact .inl ⟨_, rfl⟩ | exact .inr rfl
/-- a chain -/
theorem tE.chain {o o' : Cm} (q : tE T W (fun e M => (ca e M).bind fun x M => (cb e M).bind fun y M => (evCmp o x y M).bind fun k M => match asBl k with
    | some k => if k then (cc e M).bind fun z M => evCmp o' y z M else .ok (.bl false) M
    | none => .bad) σ H Q) : tChain (rBin T W (evCmp o)) (rBin T W (evCmp o')) (tE T W ca) (tE T W cb) (tE T W cc) σ H Q := by
  obtain ⟨env, q⟩ := q
  refine (Hold.bindD q).mono fun x H1 ⟨a, h1⟩ => ?_
  refine (Hold.bindD h1).mono fun y H2 ⟨b, Φ, ι, M, ag, hp, p⟩ => ?_
  refine ⟨Φ, ι, M, a, b, σ, ag.hr, hp.tl.hd, hp.hd, ?_⟩
  dsimp only at p
  rcases evCmp_bl (o := o) (x := a) (y := b) (M := M) with ⟨k, e⟩ | e
  · rw [e] at p ⊢
    intro z Φ' ι' H' g r rz
    cases rz
    refine ⟨k, rfl, ?_⟩
    have p2 : Post T (repD T) W Φ ι σ H2 Q (if k then (cc env M).bind fun z M => evCmp o' b z M else .ok (.bl false) M) := p
    have p3 := p2.later g
    cases k with
    | false =>
      rw [if_neg Bool.false_ne_true] at p3 ⊢
      exact p3.fin0 r rfl
    | true =>
      rw [if_pos rfl] at p3 ⊢
      have h2 : Hold T (repD T) W [(b, y)] (fun e M => (cc e M).bind fun z M => evCmp o' b z M) env σ H' Q := ⟨Φ', ι', M, ag.grow g r, Held.cons (hp.hd.grow g) Held.nil, p3⟩
      refine (Hold.bindD (g := fun z e M => evCmp o' b z M) h2).mono fun w H3 ⟨c, Φ3, ι3, M3, ag3, hp3, p4⟩ => ?_
      exact ⟨Φ3, ι3, M3, b, c, σ, ag3.hr, hp3.tl.hd, hp3.hd, p4⟩
  · rw [e] at p
    exact p.elim
theorem x_chain (h : Cok T md N γ k W sc blk X) (o o' : Cm) (ha : PE X a (tE T W ca)) (hb : PE X b (tE T W cb)) (hc : PE X c (tE T W cc)) (hm : isSetD c = false) : PE X (.Compare a [o.of, o'.of] [b, c] pos)
    (tE T W fun e M => (ca e M).bind fun x M => (cb e M).bind fun y M => (evCmp o x y M).bind fun k M => match asBl k with
    | some k => if k then (cc e M).bind fun z M => evCmp o' y z M else .ok (.bl false) M
    | none => .bad) :=
  rdE (pe_chain (cmp_snd h.K (by have := h.hu; omega) o) (cmp_snd h.K (by have := h.hu; omega) o') ha hb hc (by show behindInMarks _ c = false; exact marks_none hm)) fun σ H Q q => tE.chain q
/-! truth -/
theorem tru_rep (hK : T.K = X.K) {Φ : Addr → Prop} {ι : List Addr} {M : List MO} (hr : HR T Φ ι H M) {d : D} {v : V} {k : Bool} (r : Rep T Φ ι H d v) (h : trB M d = some k) : TruV X.K v H k := by
  unfold trB at h
  split at h
  · cases h; cases r; rfl
  · cases h; cases r; rfl
  · cases h; cases r; rfl
  · split at h
    · rename_i hz
      cases h
      cases r
      exact ⟨hz, rfl⟩
    · cases h
  · split at h
    · rename_i k' l e
      cases h
      obtain ⟨a, vs, rfl, h1, h2, r1⟩ := hr.seq r e
      have e2 : l.isEmpty = vs.isEmpty := by
        have := r1.length
        cases l <;> cases vs <;> first | rfl | simp at this
      rw [e2]
      cases k' with
      | true => exact .inl ⟨vs, hK ▸ h1 rfl, rfl⟩
      | false => exact .inr (.inl ⟨vs, hK ▸ h2 rfl, rfl⟩)
    · cases h
/-- a value, then its truth -/
theorem tE.tru (hK : T.K = X.K) {α β : Type} {rep : REP α β} {Q : β → Hp → Prop} {env : Ev} {g : D → Bool → EV α} (h : Hold T rep W [] (fun e M => (ca e M).bind fun d M => (R.of (trB M d) M).bind fun k M => g d k e M) env σ H Q) :
    tE T W ca σ H fun x H1 => ∃ k, TruV X.K x H1 k ∧ ∃ d, Hold T rep W [(d, x)] (g d k) env σ H1 Q := by
  refine (Hold.bindD h).mono fun x H1 ⟨d, Φ, ι, M, ag, hp, p⟩ => ?_
  have p : Post T rep W Φ ι σ H1 Q ((R.of (trB M d) M).bind fun k M => g d k env M) := p
  cases e : trB M d with
  | none => rw [e] at p; exact p.elim
  | some k =>
    rw [e] at p
    exact ⟨k, tru_rep hK ag.hr hp.hd e, d, Φ, ι, M, ag, hp, p⟩
theorem Hold.drop {α β : Type} {rep : REP α β} {Q : β → Hp → Prop} {env : Ev} {ps : List (D × V)} {c : EV α} (h : Hold T rep W ps c env σ H Q) : Hold T rep W [] c env σ H Q := by
  obtain ⟨Φ, ι, M, ag, hp, p⟩ := h
  exact ⟨Φ, ι, M, ag, Held.nil, p⟩
theorem Hold.rd {α β : Type} {rep : REP α β} {Q : β → Hp → Prop} {env : Ev} {ps : List (D × V)} {c c' : EV α} (h : Hold T rep W ps c env σ H Q) (e : ∀ e M, c e M = c' e M) : Hold T rep W ps c' env σ H Q := by
  obtain ⟨Φ, ι, M, ag, hp, p⟩ := h
  exact ⟨Φ, ι, M, ag, hp, by rw [← e]; exact p⟩
theorem x_nt (h : Cok T md N γ k W sc blk X) (ha : PE X a (tE T W ca)) : PE X (.UnaryOp .Not a pos) (tE T W fun e M => (ca e M).bind fun d M => (R.of (trB M d) M).bind fun k M => .ok (.bl (!k)) M) :=
  rdE (pe_notT ha) fun σ H Q ⟨env, q⟩ => (tE.tru h.K (rep := repD T) (g := fun _ k _ M => (.ok (.bl (!k)) M : R D)) q).mono fun x H1 ⟨k, t, d, Φ, ι, M, ag, hp, p⟩ => ⟨k, t, p.fin0 ag.hr rfl⟩
theorem x_ife (h : Cok T md N γ k W sc blk X) (hc : PT X c (tT T W fun e M => (cc e M).bind fun d M => R.of (trB M d) M)) (ha : PE X a (tE T W ca)) (hb : PE X b (tE T W cb)) :
    PE X (.IfExp c a b pos) (tE T W fun e M => (cc e M).bind fun d M => (R.of (trB M d) M).bind fun k M => if k then ca e M else cb e M) :=
  rdE (pe_ifExp hc ha hb) fun σ H Q ⟨env, q⟩ => by
    have q2 : Hold T (repD T) W [] (fun e M => ((cc e M).bind fun d M => R.of (trB M d) M).bind fun k M => if k then ca e M else cb e M) env σ H Q := q.rd fun e M => by
      cases cc e M <;> rfl
    refine (Hold.bindB (g := fun k e M => if k then ca e M else cb e M) q2).mono fun k H1 q3 => ?_
    cases k with
    | true => exact ⟨env, q3⟩
    | false => exact ⟨env, q3⟩
/-! tests -/
theorem t_val (h : Cok T md N γ k W sc blk X) (ha : PE X a (tE T W ca)) (hp : isParts a = false) : PT X a (tT T W fun e M => (ca e M).bind fun d M => R.of (trB M d) M) :=
  rdT (pt_truth ha (parts_none hp)) fun σ H Q ⟨env, q⟩ => by
    have q2 : Hold T repB W [] (fun e M => (ca e M).bind fun d M => (R.of (trB M d) M).bind fun k M => .ok k M) env σ H Q := q.rd fun e M => by
      cases ca e M with
      | ok d M1 =>
        show R.of (trB M1 d) M1 = (R.of (trB M1 d) M1).bind fun k M => .ok k M
        cases trB M1 d <;> rfl
      | err => rfl
      | bad => rfl
    exact (tE.tru h.K (g := fun _ k _ M => .ok k M) q2).mono fun x H1 ⟨k, t, d, Φ, ι, M, ag, hp, p⟩ => ⟨k, t, p.fin0 ag.hr rfl⟩
theorem R.bind_assoc {α β γ : Type} {r : R α} {f : α → List MO → R β} {g : β → List MO → R γ} : (r.bind f).bind g = r.bind fun a M => (f a M).bind g := by cases r <;> rfl
/-- a comparison as a test -/
theorem tE.binB {f : D → D → List MO → R D} (hf : ∀ x y M, (∃ b, f x y M = .ok (.bl b) M) ∨ f x y M = .bad) {Q : Bool → Hp → Prop} (q : tT T W (fun e M => ((ca e M).bind fun x M => (cb e M).bind fun y M => f x y M).bind fun d M => R.of (trB M d) M) σ H Q) :
    tTest (tOp (rBin T W f) (tE T W ca) (tE T W cb)) σ H Q := by
  obtain ⟨env, q⟩ := q
  have q2 : Hold T repB W [] (fun e M => (ca e M).bind fun x M => (cb e M).bind fun y M => (f x y M).bind fun d M => R.of (trB M d) M) env σ H Q := q.rd fun e M => by
    rw [R.bind_assoc]
    cases ca e M with
    | ok x M1 =>
      show ((cb e M1).bind fun y M => f x y M).bind _ = _
      rw [R.bind_assoc]
      rfl
    | err => rfl
    | bad => rfl
  refine (Hold.bindD q2).mono fun x H1 ⟨a, h1⟩ => ?_
  refine (Hold.bindD h1).mono fun y H2 ⟨b, Φ, ι, M, ag, hp, p⟩ => ?_
  refine ⟨Φ, ι, M, a, b, σ, ag.hr, hp.tl.hd, hp.hd, ?_⟩
  dsimp only at p
  rcases hf a b M with ⟨k, e⟩ | e
  · rw [e] at p ⊢
    intro z Φ' ι' H' g r rz
    cases rz
    exact ⟨k, rfl, (show Post T repB W Φ ι σ H2 Q (.ok k M) from p).fin g r rfl⟩
  · rw [e] at p
    exact p.elim
theorem t_cmp (h : Cok T md N γ k W sc blk X) (o : Cm) (ha : PE X a (tE T W ca)) (hb : PE X b (tE T W cb)) (hm : isSetD b = false) : PT X (.Compare a [o.of] [b] pos) (tT T W fun e M => ((ca e M).bind fun x M => (cb e M).bind fun y M => evCmp o x y M).bind fun d M => R.of (trB M d) M) :=
  rdT (pt_cmpR (cmp_snd h.K (by have := h.hu; omega) o) ha hb (marks_none hm)) fun σ H Q q => tE.binB (fun _ _ _ => evCmp_bl) q
end
end TF

/-! More expressions of the small language. -/
namespace TF
open PySem PySem.Spec PyProof.Rows L2
section
variable {T : Tb} {md : Md} {N : List Str} {γ : Gm} {k : Nat} {W : WX} {sc : Sc} {blk : Bool} {X : Cx} {σ : L2.St} {H : Hp} {Q : VK} {a b c : Expr} {ca cb cc : EV D} {pos : Pos}
def isBlR : R D → Prop
  | .ok d _ => ∃ b, d = .bl b
  | _ => True
theorem blT {cv : EV D} {env : Ev} {ps : List (D × V)} {Q : Bool → Hp → Prop} (hb : ∀ e M, isBlR (cv e M)) (q : Hold T repB W ps (fun e M => (cv e M).bind fun d M => R.of (trB M d) M) env σ H Q) :
    Hold T (repD T) W ps cv env σ H (fun x H' => ∃ k, x = .bl k ∧ Q k H') := by
  obtain ⟨Φ, ι, M, ag, hp, p⟩ := q
  refine ⟨Φ, ι, M, ag, hp, ?_⟩
  dsimp only at p
  have h1 := hb env M
  cases e : cv env M with
  | ok d M1 =>
    rw [e] at h1 p
    obtain ⟨b, rfl⟩ := h1
    intro z Φ' ι' H' g r rz
    cases rz
    exact ⟨b, rfl, (show Post T repB W Φ ι σ H Q (.ok b M1) from p).fin g r rfl⟩
  | err x M1 => rw [e] at p; exact p
  | bad => rw [e] at p; exact p.elim
theorem isBlR_bind {α : Type} {r : R α} {f : α → List MO → R D} (h : ∀ a M, isBlR (f a M)) : isBlR (r.bind f) := by
  cases r with
  | ok a M => exact h a M
  | _ => trivial
theorem isBlR_cmp {o : Cm} {x y : D} {M : List MO} : isBlR (evCmp o x y M) := by
  rcases evCmp_bl (o := o) (x := x) (y := y) (M := M) with ⟨k, e1⟩ | e1
  · rw [e1]; exact ⟨k, rfl⟩
  · rw [e1]; trivial
theorem chain_bl {o o' : Cm} (e : Ev) (M : List MO) : isBlR ((fun e M => (ca e M).bind fun x M => (cb e M).bind fun y M => (evCmp o x y M).bind fun k M => match asBl k with
    | some k => if k then (cc e M).bind fun z M => evCmp o' y z M else .ok (.bl false) M
    | none => .bad) e M) := by
  refine isBlR_bind fun x M => isBlR_bind fun y M => isBlR_bind fun k M => ?_
  split
  · split
    · exact isBlR_bind fun z M => isBlR_cmp
    · exact ⟨false, rfl⟩
  · trivial
theorem t_chain (h : Cok T md N γ k W sc blk X) (o o' : Cm) (ha : PE X a (tE T W ca)) (hb : PE X b (tE T W cb)) (hc : PE X c (tE T W cc)) (hm : isSetD c = false) : PT X (.Compare a [o.of, o'.of] [b, c] pos)
    (tT T W fun e M => ((ca e M).bind fun x M => (cb e M).bind fun y M => (evCmp o x y M).bind fun k M => match asBl k with
    | some k => if k then (cc e M).bind fun z M => evCmp o' y z M else .ok (.bl false) M
    | none => .bad).bind fun d M => R.of (trB M d) M) :=
  rdT (pt_chain (cmp_snd h.K (by have := h.hu; omega) o) (cmp_snd h.K (by have := h.hu; omega) o') ha hb hc (by show behindInMarks _ c = false; exact marks_none hm)) fun σ H Q ⟨env, q⟩ =>
    tE.chain ⟨env, blT chain_bl q⟩
theorem t_nt (ha : PT X a (tT T W fun e M => (ca e M).bind fun d M => R.of (trB M d) M)) : PT X (.UnaryOp .Not a pos) (tT T W fun e M => ((ca e M).bind fun d M => (R.of (trB M d) M).bind fun k M => .ok (.bl (!k)) M).bind fun d M => R.of (trB M d) M) :=
  rdT (pt_not ha) fun σ H Q ⟨env, q⟩ => by
    have q2 : Hold T repB W [] (fun e M => ((ca e M).bind fun d M => R.of (trB M d) M).bind fun k M => (.ok (!k) M : R Bool)) env σ H Q := q.rd fun e M => by
      cases ca e M with
      | ok d M1 =>
        show ((R.of (trB M1 d) M1).bind fun k M => R.ok (D.bl (!k)) M).bind _ = (R.of (trB M1 d) M1).bind _
        cases trB M1 d <;> rfl
      | _ => rfl
    exact ⟨env, (Hold.bindB (g := fun k e M => (.ok (!k) M : R Bool)) q2).elim fun env' h => by
      obtain ⟨Φ, ι, M, ag, hp, p⟩ := (Hold.bind (rep := repB) (g := fun k e M => (.ok (!k) M : R Bool)) q2)
      refine ⟨Φ, ι, M, ag, hp, p.mono fun b H1 ⟨a, Φ, ι, M, ag, hp, r, p⟩ => ?_⟩
      cases r
      exact p.fin0 ag.hr rfl⟩
theorem t_ife (hc : PT X c (tT T W fun e M => (cc e M).bind fun d M => R.of (trB M d) M)) (ha : PT X a (tT T W fun e M => (ca e M).bind fun d M => R.of (trB M d) M)) (hb : PT X b (tT T W fun e M => (cb e M).bind fun d M => R.of (trB M d) M)) :
    PT X (.IfExp c a b pos) (tT T W fun e M => ((cc e M).bind fun d M => (R.of (trB M d) M).bind fun k M => if k then ca e M else cb e M).bind fun d M => R.of (trB M d) M) := by
  refine ⟨fun pins s σ H Q I ⟨env, q⟩ => ?_⟩
  have q2 : Hold T repB W [] (fun e M => ((cc e M).bind fun d M => R.of (trB M d) M).bind fun k M => if k then (ca e M).bind fun d M => R.of (trB M d) M else (cb e M).bind fun d M => R.of (trB M d) M) env σ H Q := q.rd fun e M => by
    cases cc e M with
    | ok d M1 =>
      show ((R.of (trB M1 d) M1).bind fun k M => if k then ca e M else cb e M).bind _ = (R.of (trB M1 d) M1).bind _
      cases trB M1 d with
      | none => rfl
      | some k => cases k <;> rfl
    | _ => rfl
  refine isTrue_IfExp (thn (hc.run pins s σ H _ I ⟨env, Hold.bind (rep := repB) (g := fun k e M => if k then (ca e M).bind fun d M => R.of (trB M d) M else (cb e M).bind fun d M => R.of (trB M d) M) q2⟩) fun d s1 ⟨H1, I1, x, Φ, ι, M, ag, hp, r, p⟩ => ?_)
  cases r
  cases d with
  | true => exact ha.run pins s1 σ H1 Q I1 ⟨env, Φ, ι, M, ag, Held.nil, p⟩
  | false => exact hb.run pins s1 σ H1 Q I1 ⟨env, Φ, ι, M, ag, Held.nil, p⟩
/-! and, or -/
variable {rest : List Expr}
theorem x_and (h : Cok T md N γ k W sc blk X) (ha : PE X a (tE T W ca)) (hb : PE X (.BoolOp .And (b :: rest) pos) (tE T W cb)) : PE X (.BoolOp .And (a :: b :: rest) pos) (tE T W fun e M => (ca e M).bind fun d M => (R.of (trB M d) M).bind fun k M => if k then cb e M else .ok d M) :=
  rdE (pe_andT ha hb) fun σ H Q ⟨env, q⟩ => (tE.tru h.K (rep := repD T) (g := fun d k e M => if k then cb e M else .ok d M) q).mono fun x H1 ⟨k, t, d, q2⟩ => by
    refine ⟨k, t, ?_⟩
    cases k with
    | true => exact ⟨env, q2.drop⟩
    | false =>
      obtain ⟨Φ, ι, M, ag, hp, p⟩ := q2
      exact (show Post T (repD T) W Φ ι σ H1 Q (.ok d M) from p).fin0 ag.hr hp.hd
theorem x_or (h : Cok T md N γ k W sc blk X) (ha : PE X a (tE T W ca)) (hb : PE X (.BoolOp .Or (b :: rest) pos) (tE T W cb)) : PE X (.BoolOp .Or (a :: b :: rest) pos) (tE T W fun e M => (ca e M).bind fun d M => (R.of (trB M d) M).bind fun k M => if k then .ok d M else cb e M) :=
  rdE (pe_orT ha hb) fun σ H Q ⟨env, q⟩ => (tE.tru h.K (rep := repD T) (g := fun d k e M => if k then .ok d M else cb e M) q).mono fun x H1 ⟨k, t, d, q2⟩ => by
    refine ⟨k, t, ?_⟩
    cases k with
    | false => exact ⟨env, q2.drop⟩
    | true =>
      obtain ⟨Φ, ι, M, ag, hp, p⟩ := q2
      exact (show Post T (repD T) W Φ ι σ H1 Q (.ok d M) from p).fin0 ag.hr hp.hd
theorem w_and (ha : PT X a (tT T W fun e M => (ca e M).bind fun d M => R.of (trB M d) M)) (hb : PW X (.BoolOp .And (b :: rest) pos) (tT T W fun e M => (cb e M).bind fun d M => R.of (trB M d) M)) :
    PW X (.BoolOp .And (a :: b :: rest) pos) (tT T W fun e M => ((ca e M).bind fun d M => (R.of (trB M d) M).bind fun k M => if k then cb e M else .ok d M).bind fun d M => R.of (trB M d) M) :=
  rdW (pw_and ha hb) fun σ H Q ⟨env, q⟩ => by
    have q2 : Hold T repB W [] (fun e M => ((ca e M).bind fun d M => R.of (trB M d) M).bind fun k M => if k then (cb e M).bind fun d M => R.of (trB M d) M else .ok false M) env σ H Q := q.rd fun e M => by
      cases ca e M with
      | ok d M1 =>
        show ((R.of (trB M1 d) M1).bind fun k M => if k then cb e M else .ok d M).bind _ = (R.of (trB M1 d) M1).bind _
        cases e2 : trB M1 d with
        | none => rfl
        | some k =>
          cases k with
          | true => rfl
          | false =>
            show R.of (trB M1 d) M1 = _
            rw [e2]
            rfl
      | _ => rfl
    refine ⟨env, (Hold.bind (rep := repB) (g := fun k e M => if k then (cb e M).bind fun d M => R.of (trB M d) M else .ok false M) q2).mono fun c H1 ⟨x, Φ, ι, M, ag, hp, r, p⟩ => ?_⟩
    cases r
    cases c with
    | true => exact ⟨env, Φ, ι, M, ag, Held.nil, p⟩
    | false => exact (show Post T repB W Φ ι σ H1 Q (.ok false M) from p).fin0 ag.hr rfl
theorem w_or (ha : PT X a (tT T W fun e M => (ca e M).bind fun d M => R.of (trB M d) M)) (hb : PW X (.BoolOp .Or (b :: rest) pos) (tT T W fun e M => (cb e M).bind fun d M => R.of (trB M d) M)) :
    PW X (.BoolOp .Or (a :: b :: rest) pos) (tT T W fun e M => ((ca e M).bind fun d M => (R.of (trB M d) M).bind fun k M => if k then .ok d M else cb e M).bind fun d M => R.of (trB M d) M) :=
  rdW (pw_or ha hb) fun σ H Q ⟨env, q⟩ => by
    have q2 : Hold T repB W [] (fun e M => ((ca e M).bind fun d M => R.of (trB M d) M).bind fun k M => if k then .ok true M else (cb e M).bind fun d M => R.of (trB M d) M) env σ H Q := q.rd fun e M => by
      cases ca e M with
      | ok d M1 =>
        show ((R.of (trB M1 d) M1).bind fun k M => if k then .ok d M else cb e M).bind _ = (R.of (trB M1 d) M1).bind _
        cases e2 : trB M1 d with
        | none => rfl
        | some k =>
          cases k with
          | false => rfl
          | true =>
            show R.of (trB M1 d) M1 = _
            rw [e2]
            rfl
      | _ => rfl
    refine ⟨env, (Hold.bind (rep := repB) (g := fun k e M => if k then .ok true M else (cb e M).bind fun d M => R.of (trB M d) M) q2).mono fun c H1 ⟨x, Φ, ι, M, ag, hp, r, p⟩ => ?_⟩
    cases r
    cases c with
    | false => exact ⟨env, Φ, ι, M, ag, Held.nil, p⟩
    | true => exact (show Post T repB W Φ ι σ H1 Q (.ok true M) from p).fin0 ag.hr rfl
theorem w_and1 (ha : PT X a (tT T W fun e M => (ca e M).bind fun d M => R.of (trB M d) M)) : PW X (.BoolOp .And [a] pos) (tT T W fun e M => (ca e M).bind fun d M => R.of (trB M d) M) := pw_and1 ha
theorem w_or1 (ha : PT X a (tT T W fun e M => (ca e M).bind fun d M => R.of (trB M d) M)) : PW X (.BoolOp .Or [a] pos) (tT T W fun e M => (ca e M).bind fun d M => R.of (trB M d) M) := pw_or1 ha
/-! argument lists -/
variable {es : List Expr} {cs : EV (List D)}
theorem a_nil : PA X [] (tA T W fun _ M => .ok [] M) := rdA pa_nil fun σ H Q ⟨env, Φ, ι, M, ag, _, p⟩ => p.fin0 ag.hr rfl
theorem a_cons (hs : isStar a = false) (ha : PE X a (tE T W ca)) (hr : PA X es (tA T W cs)) : PA X (a :: es) (tA T W fun e M => (ca e M).bind fun d M => (cs e M).bind fun l M => .ok (d :: l) M) :=
  rdA (pa_cons ha hr (starEach_cons hs)) fun σ H Q ⟨env, q⟩ => (Hold.bindD q).mono fun x H1 ⟨d, h1⟩ =>
    (Hold.bindL (g := fun l e M => .ok (d :: l) M) h1).mono fun xs H2 ⟨ds, Φ, ι, M, ag, hp, r, p⟩ => (show Post T (repL T) W Φ ι σ H2 Q (.ok (d :: ds) M) from p).fin0 ag.hr ⟨x, xs, rfl, hp.hd, r⟩
theorem RepL.held {Φ : Addr → Prop} {ι : List Addr} : ∀ {l : List D} {vs : List V}, RepL T Φ ι H l vs → Held T Φ ι H (l.zip vs)
  | [], _, h => by cases h; exact Held.nil
  | d :: l, _, h => by
    obtain ⟨v, r, rfl, h1, h2⟩ := h
    exact Held.cons h1 (RepL.held h2)
theorem RepL.back {Φ : Addr → Prop} {ι : List Addr} : ∀ {l : List D} {vs : List V}, vs.length = l.length → Held T Φ ι H (l.zip vs) → RepL T Φ ι H l vs
  | [], [], _, h => rfl
  | d :: l, v :: vs, e, h => ⟨v, vs, rfl, h.hd, RepL.back (by simpa using e) h.tl⟩
theorem a_star {p0 : Pos} (h : Cok T md N γ k W sc blk X) (ha : PE X a (tE T W ca)) (hr : PA X es (tA T W cs)) : PA X (.Starred a p0 :: es) (tA T W fun e M => (ca e M).bind fun d M => (R.of ((seqV M d).map (·.2)) M).bind fun h M => (cs e M).bind fun l M => .ok (h ++ l) M) :=
  rdA (StX.pa_star ha hr) fun σ H Q ⟨env, q⟩ => (Hold.bindD q).mono fun x H1 ⟨d, Φ, ι, M, ag, hp, p⟩ => by
    dsimp only at p
    cases e : seqV M d with
    | none => rw [e] at p; exact p.elim
    | some kl =>
      obtain ⟨k, l⟩ := kl
      rw [e] at p
      obtain ⟨a, vs, rfl, h1, r1⟩ := ag.hr.sq hp.hd e
      refine ⟨a, vs, rfl, by rw [← h.K]; exact h1.symm, ?_⟩
      have h2 : Hold T (repL T) W (l.zip vs) (fun e M => (cs e M).bind fun l2 M => .ok (l ++ l2) M) env σ H1 Q := ⟨Φ, ι, M, ag, r1.held, p⟩
      have hl := r1.length
      refine (Hold.bindL (g := fun l2 e M => .ok (l ++ l2) M) h2).mono fun ys H2 ⟨ds, Φ2, ι2, M2, ag2, hp2, r2, p2⟩ => ?_
      exact (show Post T (repL T) W Φ2 ι2 σ H2 Q (.ok (l ++ ds) M2) from p2).fin0 ag2.hr ((RepL.back hl hp2).app r2)
theorem a_plain (hs : isStar a = false) (ha : PE X a (tE T W ca)) (hr : PA X es (tA T W cs)) : PA X (a :: es) (tA T W fun e M => (ca e M).bind fun d M => (R.of (some [d]) M).bind fun h M => (cs e M).bind fun l M => .ok (h ++ l) M) := a_cons hs ha hr
/-! displays -/
theorem x_tup {kk : Nat} (ha : PA X es (tA T W cs)) : PE X (.Tuple es kk pos) (tE T W fun e M => (cs e M).bind fun l M => R.when (decide (l.length ≤ sizeLine)) (.ok (.tup l) M)) :=
  rdE (pe_tup ha) fun σ H Q q => (tE.args (f := fun l M => R.when (decide (l.length ≤ sizeLine)) (.ok (.tup l) M)) q).mono fun xs H1 ⟨Φ, ι, M, ds, σ', hr, r, p⟩ => by
    obtain ⟨h1, p⟩ := when_ok p
    exact ⟨by rw [r.length]; exact of_decide_eq_true h1, p.newT hr r⟩
theorem x_lst (ha : PA X es (tA T W cs)) : PE X (.List es pos) (tE T W fun e M => (cs e M).bind fun l M => R.when (decide (l.length ≤ sizeLine)) (.ok (.lst l) M)) :=
  rdE (pe_lst ha) fun σ H Q q => (tE.args (f := fun l M => R.when (decide (l.length ≤ sizeLine)) (.ok (.lst l) M)) q).mono fun xs H1 ⟨Φ, ι, M, ds, σ', hr, r, p⟩ => by
    obtain ⟨h1, p⟩ := when_ok p
    exact ⟨by rw [r.length]; exact of_decide_eq_true h1, p.newL hr r⟩
theorem Post.own {Q : VK} {Φ : Addr → Prop} {ι : List Addr} {M : List MO} {l : List D} {vs : List V} (p : Post T (repD T) W Φ ι σ H Q (.ok (.ref M.length) (M ++ [.lst l]))) (r : HR T Φ ι H M) (h : RepL T Φ ι H l vs) : ∀ q, H q = none → Q (.ref q) (upd H q (.lst vs)) := by
  intro q hn
  have g := Grow.own1 (u := .lst vs) r hn
  refine p.fin g (r.own1 hn ⟨.inr rfl, vs, upd_same, RepL.grow g _ _ h⟩) ⟨q, ?_, rfl⟩
  rw [← r.len, List.getElem?_append_right (Nat.le_refl _), Nat.sub_self]
  rfl
theorem x_newl (ha : PA X es (tA T W cs)) : PE X (.List es pos) (tE T W fun e M => (cs e M).bind fun l M => R.when (decide (l.length ≤ sizeLine)) (.ok (.ref M.length) (M ++ [.lst l]))) :=
  rdE (pe_lst ha) fun σ H Q q => (tE.args (f := fun l M => R.when (decide (l.length ≤ sizeLine)) (.ok (.ref M.length) (M ++ [.lst l]))) q).mono fun xs H1 ⟨Φ, ι, M, ds, σ', hr, r, p⟩ => by
    obtain ⟨h1, p⟩ := when_ok p
    exact ⟨by rw [r.length]; exact of_decide_eq_true h1, p.own hr r⟩
theorem x_fz (ha : PE X a (tE T W ca)) : PE X a (tE T W fun e M => (ca e M).bind fun x M => match asRef M x with
    | some (n, l) => .ok (.lst l) (M.set n .dead)
    | none => .bad) :=
  rdE ha fun σ H Q ⟨env, Φ, ι, M, ag, hp, p⟩ => by
    refine ⟨env, Φ, ι, M, ag, hp, ?_⟩
    dsimp only at p
    cases e : ca env M with
    | ok d M1 =>
      rw [e] at p
      have p : Post T (repD T) W Φ ι σ H Q (match asRef M1 d with
        | some (n, l) => .ok (.lst l) (M1.set n .dead)
        | none => .bad) := p
      intro v Φ' ι' H' g r rv
      split at p
      · rename_i n l e1
        obtain ⟨b, vs, hi, rfl, hΦ, hH, rl⟩ := r.ref rv e1
        have g2 := Grow.freeze (Φ := Φ') (H := H') hi
        exact p.fin (g.trans g2) (r.freeze hi) ⟨b, vs, rfl, ⟨hH, fun z => z.2 rfl⟩, RepL.grow g2 _ _ rl⟩
      · exact p.elim
    | err x M1 => rw [e] at p; exact p
    | bad => rw [e] at p; exact p
/-! subscripts -/
theorem x_ix (h : Cok T md N γ k W sc blk X) (ha : PE X a (tE T W ca)) (hb : PE X b (tE T W cb)) (hs : isSlice b = false) : PE X (.Subscript a b pos) (tE T W fun e M => (ca e M).bind fun x M => (cb e M).bind fun y M => evIx x y M) :=
  rdE (pe_ix (ix_snd h.K) ha hb (ix_plain hs)) fun σ H Q q => tE.bin q
theorem x_rv (h : Cok T md N γ k W sc blk X) {kd : Option Str} {p1 p2 p3 : Pos} {kk : Nat} (ha : PE X a (tE T W ca)) : PE X (.Subscript a (.Slice none none (some (.UnaryOp .USub (.Constant (.int 1) kk p1) p2)) p3) pos) (tE T W fun e M => (ca e M).bind fun x M => evRv x M) :=
  rdE (pe_rev h.K ha) fun σ H Q q => tE.un q
def tO (T : Tb) (W : WX) (c : EV (Option Int)) : TO := fun σ H Q => ∃ env, Hold T (fun _ _ _ a b => a = b) W [] c env σ H Q
theorem o_none : PO X none (tO T W fun _ M => .ok none M) := ⟨fun pins s σ H Q I ⟨env, Φ, ι, M, ag, _, p⟩ => po_none.run pins s σ H Q I (p.fin0 ag.hr rfl)⟩
theorem o_some (ha : PE X a (tE T W ca)) : PO X (some a) (tO T W fun e M => (ca e M).bind fun d M => match asInt d with
    | some i => .ok (some i) M
    | none => .bad) :=
  ⟨fun pins s σ H Q I ⟨env, q⟩ => (po_some ha).run pins s σ H Q I ((Hold.bindD q).mono fun x H1 ⟨d, Φ, ι, M, ag, hp, p⟩ => by
    dsimp only at p
    split at p
    · rename_i i e
      have r := hp.hd
      rw [asInt_eq e] at r
      exact ⟨i, r, p.fin0 ag.hr rfl⟩
    · exact p.elim)⟩
theorem x_sl (h : Cok T md N γ k W sc blk X) {lo hi : Option Expr} {cl ch : EV (Option Int)} {p2 : Pos} (ha : PE X a (tE T W ca)) (hl : PO X lo (tO T W cl)) (hh : PO X hi (tO T W ch)) :
    PE X (.Subscript a (.Slice lo hi none p2) pos) (tE T W fun e M => (ca e M).bind fun x M => (cl e M).bind fun l M => (ch e M).bind fun h M => evSl x l h M) :=
  rdE (pe_slice (sl_snd (T := T) (W := W) h.K) ha hl hh) fun σ H Q ⟨env, q⟩ => (Hold.bindD q).mono fun x H1 ⟨d, h1⟩ =>
    ⟨env, (Hold.bind h1).mono fun l H2 ⟨l', Φ, ι, M, ag, hp, r, p⟩ => by
      subst r
      have h2 : Hold T (repD T) W [(d, x)] (fun e M => (ch e M).bind fun h M => evSl d l' h M) env σ H2 Q := ⟨Φ, ι, M, ag, hp, p⟩
      refine ⟨env, (Hold.bind (g := fun h e M => evSl d l' h M) h2).mono fun u H3 ⟨u', Φ, ι, M, ag, hp, r, p⟩ => ?_⟩
      subst r
      exact ⟨Φ, ι, M, d, σ, ag.hr, hp.hd, p⟩⟩
end
end TF

/-! Calls, methods, texts of the small language. -/
namespace TF
open PySem PySem.Spec PyProof.Rows L2
section
variable {T : Tb} {md : Md} {N : List Str} {γ : Gm} {k : Nat} {W : WX} {sc : Sc} {blk : Bool} {X : Cx} {σ : L2.St} {H : Hp} {Q : VK} {a b c e0 : Expr} {es : List Expr} {ca cb cc : EV D} {cs : EV (List D)} {pos p0 apos : Pos}
/-! tables -/
theorem x_tix (h : Cok T md N γ k W sc blk X) {x : Str} {t : Nat} (hg : isGlo sc x = true) (ht : (md.tabs[t]?).map (·.1) = some x) (hb : PE X b (tE T W cb)) (hs : isSlice b = false) :
    PE X (.Subscript (.Name x p0) b pos) (tE T W fun e M => (cb e M).bind fun y M => match asStr y with
    | some z => match (γ.tab t).lookup z with
      | some c => .ok c.d M
      | none => .bad
    | none => .bad) := by
  obtain ⟨d, es, n, hm, D, hz⟩ := h.ms.tabs t x ht
  obtain ⟨g, hd, _⟩ := h.gl hg
  have hI : IxR X (fun x y H Q => ∃ (z : Str) (u0 : Value) (v0 : V), x = .ref d ∧ y = .str z ∧ PySem.W.nsIn X.K d z = some (some u0) ∧ RelV v0 u0 ∧ Q v0 H) := by
    intro value slice pins s σ H x y v u Q I rx ry q hsub
    have q' := q
    obtain ⟨z, u0, v0, rfl, _⟩ := q'
    have rx' := rx
    cases rx'
    exact tail_any (kd_type D I) slot_dict_getitem.lookup (op_item_kd D pins s σ H _ y _ u Q I rx ry q) hsub
  refine rdE (pe_ix hI (pe_glob g hm (v := .ref d) rfl hd) hb (ix_plain hs)) fun σ H Q ⟨env, q⟩ => ?_
  refine (Hold.bindD q).mono fun y H1 ⟨dy, Φ, ι, M, ag, hp, p⟩ => ?_
  dsimp only at p
  split at p
  · rename_i z ez
    have r := hp.hd
    rw [asStr_eq ez] at r
    obtain ⟨r0, e1, e2⟩ := hz z
    split at p
    · rename_i c0 ec
      rw [ec] at e2
      obtain ⟨u, rfl, ru⟩ := e2
      exact ⟨z, u, c0.v, rfl, r, e1, ru, p.fin0 ag.hr rep_cn⟩
    · exact p.elim
  · exact p.elim
theorem x_tin (h : Cok T md N γ k W sc blk X) {x : Str} {t : Nat} (neg : Bool) (hg : isGlo sc x = true) (ht : (md.tabs[t]?).map (·.1) = some x) (ha : PE X a (tE T W ca)) :
    PE X (.Compare a [if neg then CmpOp.NotIn else CmpOp.In] [.Name x p0] pos) (tE T W fun e M => (ca e M).bind fun y M => match asStr y with
    | some z => .ok (.bl (neg != ((γ.tab t).lookup z).isSome)) M
    | none => .bad) := by
  obtain ⟨d, es, n, hm, D, hz⟩ := h.ms.tabs t x ht
  obtain ⟨g, hd, _⟩ := h.gl hg
  have hk : ∀ z r, PySem.W.nsIn X.K d z = some r → ((γ.tab t).lookup z).isSome = r.isSome := fun z r e => by
    obtain ⟨r0, e1, e2⟩ := hz z
    rw [e] at e1
    cases e1
    cases q : (γ.tab t).lookup z with
    | none => rw [q] at e2; rw [e2]; rfl
    | some c =>
      rw [q] at e2
      obtain ⟨u, rfl, _⟩ := e2
      rfl
  cases neg with
  | false =>
    refine rdE (pe_cmpR (op_in_kd D) ha (pe_glob g hm (v := .ref d) rfl hd) rfl) fun σ H Q ⟨env, q⟩ => ?_
    refine (Hold.bindD q).mono fun y H1 ⟨dy, Φ, ι, M, ag, hp, p⟩ => ?_
    dsimp only at p
    split at p
    · rename_i z ez
      have r := hp.hd
      rw [asStr_eq ez] at r
      obtain ⟨r0, e1, _⟩ := hz z
      refine ⟨z, r0, r, rfl, e1, p.fin0 ag.hr ?_⟩
      rw [hk z r0 e1]
      cases r0 <;> rfl
    · exact p.elim
  | true =>
    refine rdE (pe_cmpR (op_notIn_kd D) ha (pe_glob g hm (v := .ref d) rfl hd) rfl) fun σ H Q ⟨env, q⟩ => ?_
    refine (Hold.bindD q).mono fun y H1 ⟨dy, Φ, ι, M, ag, hp, p⟩ => ?_
    dsimp only at p
    split at p
    · rename_i z ez
      have r := hp.hd
      rw [asStr_eq ez] at r
      obtain ⟨r0, e1, _⟩ := hz z
      refine ⟨z, r0, r, rfl, e1, p.fin0 ag.hr ?_⟩
      rw [hk z r0 e1]
      cases r0 <;> rfl
    · exact p.elim
theorem t_tin (h : Cok T md N γ k W sc blk X) {x : Str} {t : Nat} (neg : Bool) (hg : isGlo sc x = true) (ht : (md.tabs[t]?).map (·.1) = some x) (ha : PE X a (tE T W ca)) :
    PT X (.Compare a [if neg then CmpOp.NotIn else CmpOp.In] [.Name x p0] pos) (tT T W fun e M => ((ca e M).bind fun y M => match asStr y with
    | some z => .ok (.bl (neg != ((γ.tab t).lookup z).isSome)) M
    | none => .bad).bind fun d M => R.of (trB M d) M) := by
  refine ⟨fun pins s σ H Q I q => ?_⟩
  have hE := x_tin (γ := γ) (p0 := p0) (pos := pos) h neg hg ht ha
  have hbl : ∀ e M, isBlR ((fun e M => (ca e M).bind fun y M => match asStr y with
    | some z => .ok (.bl (neg != ((γ.tab t).lookup z).isSome)) M
    | none => .bad) e M) := fun e M => isBlR_bind fun y M => by
      split
      · exact ⟨_, rfl⟩
      · trivial
  obtain ⟨env, q⟩ := q
  have q2 := blT hbl q
  obtain ⟨d, es, n, hm, D, hz⟩ := h.ms.tabs t x ht
  obtain ⟨g, hd, _⟩ := h.gl hg
  have hk : ∀ z r, PySem.W.nsIn X.K d z = some r → ((γ.tab t).lookup z).isSome = r.isSome := fun z r e => by
    obtain ⟨r0, e1, e2⟩ := hz z
    rw [e] at e1
    cases e1
    cases q : (γ.tab t).lookup z with
    | none => rw [q] at e2; rw [e2]; rfl
    | some c =>
      rw [q] at e2
      obtain ⟨u, rfl, _⟩ := e2
      rfl
  cases neg with
  | false =>
    refine (rdT (pt_cmpR (op_in_kd D) ha (pe_glob g hm (v := .ref d) rfl hd) rfl) (t' := fun σ H Q => Hold T (repD T) W [] (fun e M => (ca e M).bind fun y M => match asStr y with
      | some z => .ok (.bl (false != ((γ.tab t).lookup z).isSome)) M
      | none => .bad) env σ H (fun x H' => ∃ k, x = .bl k ∧ Q k H')) fun σ H Q q => ?_).run pins s σ H Q I q2
    refine (Hold.bindD q).mono fun y H1 ⟨dy, Φ, ι, M, ag, hp, p⟩ => ?_
    dsimp only at p
    split at p
    · rename_i z ez
      have r := hp.hd
      rw [asStr_eq ez] at r
      obtain ⟨r0, e1, _⟩ := hz z
      refine ⟨z, r0, r, rfl, e1, p.fin0 ag.hr ?_⟩
      rw [hk z r0 e1]
      cases r0 <;> rfl
    · exact p.elim
  | true =>
    refine (rdT (pt_cmpR (op_notIn_kd D) ha (pe_glob g hm (v := .ref d) rfl hd) rfl) (t' := fun σ H Q => Hold T (repD T) W [] (fun e M => (ca e M).bind fun y M => match asStr y with
      | some z => .ok (.bl (true != ((γ.tab t).lookup z).isSome)) M
      | none => .bad) env σ H (fun x H' => ∃ k, x = .bl k ∧ Q k H')) fun σ H Q q => ?_).run pins s σ H Q I q2
    refine (Hold.bindD q).mono fun y H1 ⟨dy, Φ, ι, M, ag, hp, p⟩ => ?_
    dsimp only at p
    split at p
    · rename_i z ez
      have r := hp.hd
      rw [asStr_eq ez] at r
      obtain ⟨r0, e1, _⟩ := hz z
      refine ⟨z, r0, r, rfl, e1, p.fin0 ag.hr ?_⟩
      rw [hk z r0 e1]
      cases r0 <;> rfl
    · exact p.elim
/-! calls of the module's functions -/
theorem Post.shift {α β : Type} {rep : REP α β} {Q : β → Hp → Prop} {Φ : Addr → Prop} {ι : List Addr} : ∀ {r : R α}, Post T rep W Φ ι σ H Q r → Post T rep (fun c dx _ H' => W c dx σ H') Φ ι [] H Q r
  | .ok _ _, p => p
  | .err _ _, p => p
  | .bad, p => p
theorem ExnOk.unpure {Φ Φ1 : Addr → Prop} {ι ι1 : List Addr} {x : Exn} {c : Value} {dx : Option Addr} (k : ∀ a, Φ a → Φ1 a) (hp : pureL (x.fs.map (·.2)) = true) (h : ExnOk T Φ1 ι1 H x c dx) : ExnOk T Φ ι H x c dx := by
  obtain ⟨h1, h2⟩ := h
  refine ⟨h1, ?_⟩
  rcases h2 with h2 | ⟨d, vs, e, hd, e2, r⟩
  · exact .inl h2
  · exact .inr ⟨d, vs, e, fun z => hd (k d z), e2, RepL.unpure k _ _ hp r⟩
theorem Grow.sub {Φ Φ1 : Addr → Prop} {ι1 : List Addr} {H H1 : Hp} (hp : ∀ a, Φ a → ∃ o, H a = some o) (g : Grow Φ [] H Φ1 ι1 H1) : ∀ a, Φ a → Φ1 a := fun a z => by
  obtain ⟨o, e⟩ := hp a z
  exact g.own a o e z (by simp)
theorem spG_call {h : List D → List MO → R D} {Φ : Addr → Prop} {ι : List Addr} {M : List MO} {ds : List D} {vs : List V} (hr : HR T Φ ι H M) (r : RepL T Φ ι H ds vs) (p : Post T (repD T) W Φ ι σ H Q (pcall (h ds []) ds M)) : spG T h vs H Q (WE W σ) := by
  unfold pcall at p
  obtain ⟨hpu, p⟩ := when_ok p
  refine ⟨Φ, [], ds, [], HR.nil hr.phi, RepL.unpure (fun _ z => z) _ _ hpu r, ?_⟩
  cases e : h ds [] with
  | ok d M1 =>
    rw [e] at p
    obtain ⟨hd, p⟩ := when_ok p
    intro v Φ' ι' H' g r' rv
    exact p.fin g.pure (hr.pure g) (Rep.unpure (g.sub hr.phi) _ _ hd rv)
  | err x M1 =>
    rw [e] at p
    obtain ⟨hd, p⟩ := when_ok p
    intro c dx Φ' ι' H' g r' rv
    exact p c dx Φ ι H' g.pure (hr.pure g) (rv.unpure (g.sub hr.phi) hd)
  | bad => rw [e] at p; exact p.elim
theorem x_fn0 (h : Cok T md N γ k W sc blk X) {f : Nat} {x : Str} (hg : isGlo sc x = true) (hf : md.fns[f]? = some x) :
    PE X (.Call (.Name x p0) [] [] pos) (tCallSD (spG T (γ.hf f)) [] (WE W) (tA T W fun _ M => .ok [] M)) := by
  obtain ⟨fa, fd, ps, hm, hk, hb, F⟩ := h.ms.fns f x hf
  obtain ⟨g, hd, _⟩ := h.gl hg
  exact rdE (pe_callG0 (pos := pos) (p := p0) (CX := L2.CX X.prog X.w) (E := WE W) F h.room g hm hk hb .nil h.pass hd) fun σ H Q ⟨env, Φ, ι, M, ag, hp, p⟩ => p.fin0 ag.hr rfl
theorem x_fn (h : Cok T md N γ k W sc blk X) {f : Nat} {x : Str} {e : Expr} (hg : isGlo sc x = true) (hf : md.fns[f]? = some x) (hs : (e :: es).any isStar = false) (ha : PA X (e :: es) (tA T W cs)) :
    PE X (.Call (.Name x p0) (e :: es) [] pos) (tCallSD (spG T (γ.hf f)) [] (WE W) (tA T W cs)) := by
  obtain ⟨fa, fd, ps, hm, hk, hb, F⟩ := h.ms.fns f x hf
  obtain ⟨g, hd, _⟩ := h.gl hg
  have hs' : isStar e = false ∧ es.any isStar = false := by simpa using hs
  exact pe_callG F h.room g hm hk hb .nil h.pass ha hd (starEach_cons hs'.1) (star_none hs'.2)
theorem fn_call {f : Nat} (q : tE T W (fun e M => (cs e M).bind fun l M => pcall (γ.hf f l []) l M) σ H Q) : tCallSD (spG T (γ.hf f)) [] (WE W) (tA T W cs) σ H Q := by
  obtain ⟨env, q⟩ := q
  refine (Hold.bindL q).mono fun vs H1 ⟨ds, Φ, ι, M, ag, hp, r, p⟩ => ?_
  rw [List.append_nil]
  exact spG_call ag.hr r p
theorem fn_hcall {f : Nat} (q : tE T W (fun e M => (cs e M).bind fun l M => γ.hf f l M) σ H Q) : tCallSD (spG T (γ.hf f)) [] (WE W) (tA T W cs) σ H Q := by
  obtain ⟨env, q⟩ := q
  refine (Hold.bindL q).mono fun vs H1 ⟨ds, Φ, ι, M, ag, hp, r, p⟩ => ?_
  rw [List.append_nil]
  exact ⟨Φ, ι, ds, M, ag.hr, r, p.shift⟩
/-! built-in functions -/
theorem x_bi (h : Cok T md N γ k W sc blk X) (b : Bi) {e : Expr} (hg : isGlo sc b.of = true) (hf : b.of ∈ md.free) (hs : (e :: es).any isStar = false) (ha : PA X (e :: es) (tA T W cs)) :
    PE X (.Call (.Name b.of p0) (e :: es) [] pos) (tE T W fun e M => (cs e M).bind fun l M => evBi b l M) := by
  obtain ⟨g, hd, hn⟩ := h.gl hg
  have hm := h.ms.free _ hf
  have hs' : isStar e = false ∧ es.any isStar = false := by simpa using hs
  have hb := bi_snd (T := T) (W := W) h.K h.calm (by have := h.hu; omega) h.room.g b
  have hv := bi_boot b
  refine rdE (t := tCB (rArgs T W (evBi b)) (tA T W cs)) ?_ fun σ H Q q => tE.args q
  have he := starEach_cons (es := es) (env := X.env) hs'.1
  have hpl := star_none (env := X.env) (pos := pos) hs'.2
  cases b <;> first | exact pe_callB hb g hm hv ha hn hd he hpl | exact pe_callTy hb g hm hv ha hn hd he hpl
theorem boot_isi : bootBuiltins "isinstance" = some (.builtin "isinstance") := by decide +kernel
theorem ty_boot {t : String} (h : t ∈ ["int", "bool", "str", "tuple", "list", "dict"]) : bootBuiltins (Str.ofString t) = some (.type t) := by
  simp only [List.mem_cons, List.not_mem_nil, or_false] at h
  rcases h with rfl | rfl | rfl | rfl | rfl | rfl <;> decide +kernel
theorem x_isi (h : Cok T md N γ k W sc blk X) {t : String} {p1 : Pos} (hg : isGlo sc "isinstance" = true) (hf : ("isinstance" : Str) ∈ md.free) (hs : isStar a = false) (ha : PE X a (tE T W ca)) (hg2 : isGlo sc (Str.ofString t) = true) (hf2 : Str.ofString t ∈ md.free)
    (ht : t ∈ ["int", "bool", "str", "tuple", "list", "dict"]) : PE X (.Call (.Name "isinstance" p0) [a, .Name (Str.ofString t) p1] [] pos) (tE T W fun e M => (ca e M).bind fun x M => (R.of (isT M t x) M).bind fun k M => .ok (.bl k) M) := by
  obtain ⟨g, hd, hn⟩ := h.gl hg
  obtain ⟨g2, hd2, hn2⟩ := h.gl hg2
  have hm := h.ms.free _ hf
  have hm2 := h.ms.free _ hf2
  have hty : PE X (.Name (Str.ofString t) p1) (tC (.ty t)) := pe_bltn g2 hm2 (ty_boot ht) rfl hn2 hd2
  refine rdE (pe_callB call_isi g hm boot_isi (pa_cons ha (pa_cons hty pa_nil rfl) (starEach_cons hs)) hn hd (starEach_cons hs) rfl) fun σ H Q ⟨env, q⟩ => ?_
  refine (Hold.bindD q).mono fun x H1 ⟨d, Φ, ι, M, ag, hp, p⟩ => ?_
  dsimp only at p
  cases e : isT M t d with
  | none => rw [e] at p; exact p.elim
  | some k =>
    rw [e] at p
    unfold isT at e
    split at e
    · rename_i an ea
      obtain ⟨h1, h2⟩ := tyD_ok h.K ag.hr ea hp.hd
      exact ⟨x, .ty t, _, _, k, rfl, .ty t, h2, kit_ty (tyB_ok h1 e), (show Post T (repD T) W Φ ι σ H1 Q (.ok (.bl k) M) from p).fin0 ag.hr rfl⟩
    · cases e
/-! methods -/
def rMth (T : Tb) (W : WX) (f : D → List D → List MO → R D) : V → List V → Hp → VK → Prop := fun x xs H Q => ∃ Φ ι M d ds σ, HR T Φ ι H M ∧ Rep T Φ ι H d x ∧ RepL T Φ ι H ds xs ∧ Post T (repD T) W Φ ι σ H Q (f d ds M)
theorem strs_list {Φ : Addr → Prop} {ι : List Addr} : ∀ ys : List Str, RepL T Φ ι H (ys.map D.str) (ys.map V.str)
  | [] => rfl
  | y :: ys => ⟨.str y, ys.map V.str, rfl, rfl, strs_list ys⟩
theorem mt_snd (hK : T.K = X.K) (m : Mt) : MtR X (match m with | .split => "str.split" | .join => "str.join") (rMth T W (evMt m)) := by
  intro pins s σ H x xs v us Q I rx rs h
  obtain ⟨Φ, ι, M, d, ds, σ', hr, rd, rl, p⟩ := h
  unfold evMt at p
  split at p
  · rename_i y
    obtain ⟨w, rfl, rw'⟩ := RepL.one' (ds := [y]) rl
    split at p
    · rename_i z ez
      rw [asStr_eq ez] at rd
      cases m with
      | split =>
        dsimp only at p
        split at p
        · rename_i z2 ez2
          rw [asStr_eq ez2] at rw'
          obtain ⟨h1, p⟩ := when_ok p
          simp only [Bool.and_eq_true, Bool.not_eq_true', decide_eq_true_eq] at h1
          exact mt_split pins s σ H x _ v us Q I rx rs ⟨z, z2, rd, by rw [rw'], h1.1, h1.2, p.newL hr (strs_list _)⟩
        · exact p.elim
      | join =>
        dsimp only at p
        split at p
        · rename_i k l el
          split at p
          · rename_i ys ey
            obtain ⟨h1, p⟩ := when_ok p
            obtain ⟨a, vs, rfl, hq, r1⟩ := hr.sq rw' el
            rw [strs_rep ey r1, hK] at hq
            exact mt_join pins s σ H x _ v us Q I rx rs ⟨z, a, ys, rd, rfl, hq, of_decide_eq_true h1, p.fin0 hr rfl⟩
          · exact p.elim
        · exact p.elim
    · exact p.elim
  · exact p.elim
theorem x_mt (h : Cok T md N γ k W sc blk X) (m : Mt) (hN : isNC a = false) (hl : (apos.endLine == pos.line) = true) (hs : isStar b = false) (ha : PE X a (tE T W ca)) (hb : PE X b (tE T W cb)) :
    PE X (.Call (.Attribute a m.of apos) [b] [] pos) (tE T W fun e M => (ca e M).bind fun x M => R.when (asStr x).isSome (((cb e M).bind fun d M => (.ok [d] M)).bind fun l M => evMt m x l M)) := by
  have hm := mt_snd (T := T) (W := W) h.K m
  refine rdE (t := tM1 (rMth T W (evMt m)) (tE T W ca) (tE T W cb)) ?_ fun σ H Q ⟨env, q⟩ => ?_
  · have h1 := starEach_cons (es := []) (env := X.env) hs
    cases m with
    | split => exact pe_m1 F.slot_str_split F.type_str_split hm ha hb h1 (base_plain hN) hl
    | join => exact pe_m1 F.slot_str_join F.type_str_join hm ha hb h1 (base_plain hN) hl
  · refine (Hold.bindD q).mono fun x H1 ⟨d, Φ, ι, M, ag, hp, p⟩ => ?_
    obtain ⟨h1, p⟩ := when_ok p
    obtain ⟨z, hz⟩ := Option.isSome_iff_exists.mp h1
    have r := hp.hd
    rw [asStr_eq hz] at r
    refine ⟨⟨z, r⟩, ?_⟩
    have h2 : Hold T (repD T) W [(d, x)] (fun e M => (cb e M).bind fun y M => evMt m d [y] M) env σ H1 Q := by
      refine ⟨Φ, ι, M, ag, hp, ?_⟩
      rw [R.bind_assoc] at p
      exact p
    exact (Hold.bindD (g := fun y e M => evMt m d [y] M) h2).mono fun y H2 ⟨d2, Φ, ι, M, ag, hp, p⟩ => ⟨Φ, ι, M, d, [d2], σ, ag.hr, hp.tl.hd, ⟨y, [], rfl, hp.hd, rfl⟩, p⟩
def Mm.id : Mm → String
  | .append => "list.append"
  | .pop => "list.pop"
  | .popat => "list.pop"
  | .extend => "list.extend"
theorem RepL.dropLast {Φ : Addr → Prop} {ι : List Addr} {l : List D} {vs : List V} (h : RepL T Φ ι H l vs) : RepL T Φ ι H l.dropLast vs.dropLast := by
  rw [List.dropLast_eq_take, List.dropLast_eq_take, h.length]
  exact h.take _
theorem RepL.erase {Φ : Addr → Prop} {ι : List Addr} {l : List D} {vs : List V} (i : Nat) (h : RepL T Φ ι H l vs) : RepL T Φ ι H (l.eraseIdx i) (vs.eraseIdx i) := by
  rw [List.eraseIdx_eq_take_drop_succ, List.eraseIdx_eq_take_drop_succ]
  exact (h.take _).app (h.drop _)
theorem mm_snd (hK : T.K = X.K) (m : Mm) : MtR X m.id (rMth T W (evMm m)) := by
  intro pins s σ H x xs v us Q I rx rs h
  obtain ⟨Φ, ι, M, d, ds, σ', hr, rd, rl, p⟩ := h
  unfold evMm at p
  split at p
  · rename_i n l e
    obtain ⟨a, vs, hi, rfl, hΦ, hH, r1⟩ := hr.ref rd e
    have hl := r1.length
    cases m with
    | append =>
      dsimp only at p
      split at p
      · rename_i y
        obtain ⟨w, rfl, rw'⟩ := RepL.one' (ds := [y]) rl
        obtain ⟨h1, p⟩ := when_ok p
        exact mt_append pins s σ H _ _ v us Q I rx rs ⟨a, vs, w, rfl, rfl, hH, by rw [hl]; exact of_decide_eq_true h1, p.fin (Grow.mut hi hΦ) (hr.putL hi hΦ (r1.app (RepL.one rw'))) rfl⟩
      · exact p.elim
    | pop =>
      dsimp only at p
      split at p
      · cases rl
        split at p
        · rename_i y ey
          rw [← hl] at ey
          obtain ⟨w, ew, rw'⟩ := r1.get ey
          exact mt_pop pins s σ H _ _ v us Q I rx rs ⟨a, vs, w, rfl, rfl, hH, ew, p.fin (Grow.mut hi hΦ) (hr.putL hi hΦ r1.dropLast) (rw'.grow (Grow.mut hi hΦ))⟩
        · exact p.elim
      · exact p.elim
    | popat =>
      dsimp only at p
      split at p
      · rename_i y
        obtain ⟨w, rfl, rw'⟩ := RepL.one' (ds := [y]) rl
        split at p
        · rename_i j ej
          rw [asInt_eq ej] at rw'
          cases rw'
          obtain ⟨h1, p⟩ := when_ok p
          simp only [Bool.and_eq_true, decide_eq_true_eq] at h1
          split at p
          · rename_i kk ek
            split at p
            · rename_i y ey
              obtain ⟨w, ew, rw'⟩ := r1.get ey
              exact mt_popAt pins s σ H _ _ v us Q I rx rs ⟨a, vs, j, kk, w, rfl, rfl, hH, h1.1, h1.2, by rw [hl]; exact ek, ew, p.fin (Grow.mut hi hΦ) (hr.putL hi hΦ (r1.erase kk)) (rw'.grow (Grow.mut hi hΦ))⟩
            · exact p.elim
          · exact p.elim
        · exact p.elim
      · exact p.elim
    | extend =>
      dsimp only at p
      split at p
      · rename_i y
        obtain ⟨w, rfl, rw'⟩ := RepL.one' (ds := [y]) rl
        split at p
        · rename_i m em
          obtain ⟨b, ws, rfl, hB, r2⟩ := hr.lsts rw' em
          obtain ⟨h1, p⟩ := when_ok p
          exact mt_extend pins s σ H _ _ v us Q I rx rs ⟨a, b, vs, ws, rfl, rfl, hH, hB, by rw [hl, r2.length]; exact of_decide_eq_true h1, p.fin (Grow.mut hi hΦ) (hr.putL hi hΦ (r1.app r2)) rfl⟩
        · exact p.elim
      · exact p.elim
  · exact p.elim
theorem mm_ty {Φ : Addr → Prop} {ι : List Addr} {M : List MO} {d : D} {v : V} (hr : HR T Φ ι H M) (r : Rep T Φ ι H d v) (h : (asRef M d).isSome = true) : tyV X.K "list" v H := by
  obtain ⟨⟨n, l⟩, e⟩ := Option.isSome_iff_exists.mp h
  obtain ⟨a, vs, _, rfl, _, hH, _⟩ := hr.ref r e
  exact .inl ⟨rfl, vs, SqL.of hH⟩
theorem x_mm0 (h : Cok T md N γ k W sc blk X) (m : Mm) (hN : isNC a = false) (hl : (apos.endLine == pos.line) = true) (ha : PE X a (tE T W ca)) :
    PE X (.Call (.Attribute a m.of apos) [] [] pos) (tE T W fun e M => (ca e M).bind fun x M => R.when (asRef M x).isSome (evMm m x [] M)) := by
  have hm := mm_snd (T := T) (W := W) h.K m
  refine rdE (t := tBM0 X.K "list" (rMth T W (evMm m)) (tE T W ca)) ?_ fun σ H Q ⟨env, q⟩ => ?_
  · cases m with
    | append => exact pe_bm0 F.plainAttrs_list F.slot_list_append F.type_list_append hm ha (base_plain hN) hl
    | pop => exact pe_bm0 F.plainAttrs_list F.slot_list_pop F.type_list_pop hm ha (base_plain hN) hl
    | popat => exact pe_bm0 F.plainAttrs_list F.slot_list_pop F.type_list_pop hm ha (base_plain hN) hl
    | extend => exact pe_bm0 F.plainAttrs_list F.slot_list_extend F.type_list_extend hm ha (base_plain hN) hl
  · refine (Hold.bindD q).mono fun x H1 ⟨d, Φ, ι, M, ag, hp, p⟩ => ?_
    obtain ⟨h1, p⟩ := when_ok p
    exact ⟨mm_ty ag.hr hp.hd h1, Φ, ι, M, d, [], σ, ag.hr, hp.hd, rfl, p⟩
theorem few_ok {env : Env} {e : Expr} (hs : (e :: es).any isStar = false) (hl : (e :: es).length < 20) : ((backTo pos (starEach (e :: es) env)).all (fun x => !x.1) && (backToKw pos (keywordEach [] env)).all (fun x => x.1.isSome)
      && decide ((e :: es).length + ([] : List Keyword).length + (if ([] : List Keyword).isEmpty then 0 else 1) < 30)) = true := by
  rw [star_all hs]
  have : (e :: es).length + ([] : List Keyword).length + (if ([] : List Keyword).isEmpty then 0 else 1) < 30 := by
    show (e :: es).length + 0 + 0 < 30
    omega
  rw [decide_eq_true this]
  rfl
theorem x_mm (h : Cok T md N γ k W sc blk X) (m : Mm) {e : Expr} (hN : isNC a = false) (hl : (apos.endLine == pos.line) = true) (hs : (e :: es).any isStar = false) (hn : (e :: es).length < 20) (ha : PE X a (tE T W ca)) (hb : PA X (e :: es) (tA T W cs)) :
    PE X (.Call (.Attribute a m.of apos) (e :: es) [] pos) (tE T W fun e M => (ca e M).bind fun x M => R.when (asRef M x).isSome ((cs e M).bind fun l M => evMm m x l M)) := by
  have hm := mm_snd (T := T) (W := W) h.K m
  have hs' : isStar e = false ∧ es.any isStar = false := by simpa using hs
  refine rdE (t := tBM X.K "list" (rMth T W (evMm m)) (tE T W ca) (tA T W cs)) ?_ fun σ H Q ⟨env, q⟩ => ?_
  · have h1 := starEach_cons (es := es) (env := X.env) hs'.1
    have h2 := star_none (env := X.env) (pos := pos) hs'.2
    cases m with
    | append => exact pe_bm F.plainAttrs_list F.slot_list_append F.type_list_append hm ha hb (base_plain hN) (few_ok hs hn) hl h1 h2
    | pop => exact pe_bm F.plainAttrs_list F.slot_list_pop F.type_list_pop hm ha hb (base_plain hN) (few_ok hs hn) hl h1 h2
    | popat => exact pe_bm F.plainAttrs_list F.slot_list_pop F.type_list_pop hm ha hb (base_plain hN) (few_ok hs hn) hl h1 h2
    | extend => exact pe_bm F.plainAttrs_list F.slot_list_extend F.type_list_extend hm ha hb (base_plain hN) (few_ok hs hn) hl h1 h2
  · refine (Hold.bindD q).mono fun x H1 ⟨d, Φ, ι, M, ag, hp, p⟩ => ?_
    obtain ⟨h1, p⟩ := when_ok p
    refine ⟨mm_ty ag.hr hp.hd h1, ?_⟩
    have h2 : Hold T (repD T) W [(d, x)] (fun e M => (cs e M).bind fun l M => evMm m d l M) env σ H1 Q := ⟨Φ, ι, M, ag, hp, p⟩
    exact (Hold.bindL (g := fun l e M => evMm m d l M) h2).mono fun ys H2 ⟨ds, Φ, ι, M, ag, hp, r, p⟩ => ⟨Φ, ι, M, d, ds, σ, ag.hr, hp.hd, r, p⟩
/-! texts -/
theorem x_fmt (ha : PE X a (tE T W ca)) : PE X (.FormattedValue a (-1) none pos) (tE T W fun e M => (ca e M).bind fun x M => match asStr x with
    | some y => R.when (decide (y.length ≤ sizeLine)) (.ok (.str y) M)
    | none => match asInt x with
      | some i => R.when (decide (i.natAbs < 2 ^ 1900)) (.ok (.str (toString i)) M)
      | none => .bad) :=
  rdE (pe_fmt ha) fun σ H Q ⟨env, q⟩ => (Hold.bindD q).mono fun x H1 ⟨d, Φ, ι, M, ag, hp, p⟩ => by
    dsimp only at p
    have r := hp.hd
    split at p
    · rename_i y e
      rw [asStr_eq e] at r
      obtain ⟨h1, p⟩ := when_ok p
      exact .inl ⟨y, r, of_decide_eq_true h1, p.fin0 ag.hr rfl⟩
    · split at p
      · rename_i i e
        rw [asInt_eq e] at r
        obtain ⟨h1, p⟩ := when_ok p
        exact .inr ⟨i, r, log_small (of_decide_eq_true h1), p.fin0 ag.hr rfl⟩
      · exact p.elim
def tsOf (T : Tb) (W : WX) (γ : Gm) : REs → List TE
  | .nil => []
  | .cons a es => tE T W (ev γ a) :: tsOf T W γ es
theorem js_of : ∀ (es : REs) (acc : Str) {σ : L2.St} {H : Hp} {Q : VK}, tE T W (evF γ es acc) σ H Q → tJs (tsOf T W γ es) acc σ H fun out H1 => Q (.str out) H1
  | .nil, acc, σ, H, Q, ⟨env, Φ, ι, M, ag, hp, p⟩ => (show Post T (repD T) W Φ ι σ H Q (.ok (.str acc) M) from p).fin0 ag.hr rfl
  | .cons a es, acc, σ, H, Q, ⟨env, q⟩ => by
    refine (Hold.bindD q).mono fun x H1 ⟨d, Φ, ι, M, ag, hp, p⟩ => ?_
    dsimp only at p
    have r := hp.hd
    split at p
    · rename_i y e
      rw [asStr_eq e] at r
      obtain ⟨h1, p⟩ := when_ok p
      exact ⟨y, r, of_decide_eq_true h1, js_of es (acc ++ y) ⟨env, Φ, ι, M, ag, Held.nil, p⟩⟩
    · exact p.elim
theorem x_fs {e1 e2 : Expr} {rs : REs} (h : PJ X (e1 :: e2 :: es) (tsOf T W γ rs)) : PE X (.JoinedStr (e1 :: e2 :: es) pos) (tE T W (evF γ rs Str.empty)) :=
  rdE (pe_joined h) fun σ H Q q => js_of rs Str.empty q
end
end TF

/-! enumerate(t), t a tuple. -/
namespace TF
open PySem PySem.Spec PyProof.Rows L2
set_option maxHeartbeats 1000000 in
theorem enum_new1 {v : Value} {o : Obj} {Hd : Heap → Prop} (B : Begins v o Hd) :
    Meets (Builtin.«enumerate.__new__» ⟨[.type "enumerate", v], []⟩) (fun _ R s => Hd s.heap ∧
      R (.ok (.ret (.ref (s.heap.push o).objs.size))) { s with heap := (s.heap.push o).push { cls := .type "enumerate", data := .fields #[.none, .bool false, .ref s.heap.objs.size, rawInt 0, .none, .none] } }) :=
  .of_wp fun prog w A R s h => by
    obtain ⟨hp, g, d, tk, os⟩ := s
    obtain ⟨h1, h⟩ := h
    have hsub := sub_enumerate
    have q1 : ∀ {A' : Around} {E : Value → Shared → Prop} {Q : Value → Shared → Prop}, Q (.ref hp.objs.size) ⟨hp.push o, g, d, tk, os⟩ → wpAny (model prog w) A' (pyIter v) Q E ⟨hp, g, d, tk, os⟩ :=
      fun q => B.iter prog w _ _ ⟨hp, g, d, tk, os⟩ _ h1 q
    wp_walk using q1
    refine wpAny_stack_any fun st => wpAny_pure ?_
    split
    · rename_i c _ _ _ _ _
      cases (c == Value.type "enumerate")
      · wp_walk using q1
        exact ⟨_, rfl, h⟩
      · wp_walk using q1
        exact ⟨_, rfl, h⟩
    · wp_walk using q1
      exact ⟨_, rfl, h⟩
section
variable {prog : Program} {w : World} {A : Around} {E : Value → Shared → Prop} {s : Shared}
theorem call_enum1 {v : Value} {o : Obj} {Hd : Heap → Prop} {Q : Value → Shared → Prop} (B : Begins v o Hd) (h1 : Hd s.heap)
    (h : ∀ h', IsEnum h' (s.heap.objs.size + 1) s.heap.objs.size 0 .none → h'.get? s.heap.objs.size = some o → h'.objs.size = s.heap.objs.size + 2 →
      (∀ b o, s.heap.get? b = some o → h'.get? b = some o) → Q (.ref (s.heap.objs.size + 1)) { s with heap := h' }) :
    wpAny (model prog w) A (call (.type "enumerate") [v]) Q E s := by
  refine callType_new F.called_enumerate (by decide) (F.typeCall_enumerate_1 _) (F.newCall_enumerate_1 _) (fun obj => F.args_object_init_2 obj _) F.entry_enumerate_new (enum_new1 B) ⟨h1, ?_⟩
  have hz : (s.heap.push o).objs.size = s.heap.objs.size + 1 := Heap.size_push ..
  show _ ∧ _
  rw [hz]
  have he : IsEnum ((s.heap.push o).push { cls := .type "enumerate", data := .fields #[.none, .bool false, .ref s.heap.objs.size, rawInt 0, .none, .none] }) (s.heap.objs.size + 1) s.heap.objs.size 0 .none := by
    have := Heap.get?_push_size (s.heap.push o) (o := { cls := .type "enumerate", data := .fields #[.none, .bool false, .ref s.heap.objs.size, rawInt 0, .none, .none] }) rfl
    rw [hz] at this
    exact this
  exact ⟨⟨_, he, rfl⟩, h _ he (Heap.get?_push_of_some _ (Heap.get?_push_size _ B.free)) (by rw [Heap.size_push, hz]) fun b o x => Heap.get?_push_of_some _ (Heap.get?_push_of_some _ x)⟩
end
/-- the tuple at a, each item in a new pair -/
def IteT (K : PySem.W.Frag) (a : Addr) : It :=
  ⟨fun i H => ∃ (xs : List V) (x : V), SqT K H a xs ∧ xs[i]? = some x, fun i H v H' => ∃ T x, v = .ref T ∧ H T = none ∧ H' = upd H T (.tup [.int (i : Nat), x]) ∧ ∀ xs, SqT K H a xs → xs[i]? = some x, fun i H => ∃ xs : List V, SqT K H a xs ∧ xs.length = i⟩
theorem turn_enumT {P : Program} {w : World} {K : PySem.W.Frag} {elts : List Expr} {kk : Nat} {tpos : Pos} (a e it : Addr) :
    Turn P w K (.Tuple elts kk tpos) (IteT K a) [e, it] e (fun i h => (∃ old, IsEnum h e it ((i : Nat) : Int) old) ∧ h.IsTupleIter it a i ∧ e ≠ it ∧ a ≠ it ∧ a ≠ e) where
  mem := by simp
  obj := fun i h st b hb => by
    obtain ⟨⟨old, he⟩, ⟨o, ho, hc, hd⟩, _⟩ := st
    have e' : b = e ∨ b = it := by simpa using hb
    rcases e' with z | z
    · rw [z]; exact ⟨_, he, fun v q => nomatch q⟩
    · rw [z]; exact ⟨o, ho, fun v q => by rw [hd] at q; cases q⟩
  keep := fun i h h' st k => let ⟨⟨old, he⟩, hi, hne⟩ := st; ⟨⟨old, k e (by simp) _ he⟩, hi.at fun o q => k it (by simp) o q, hne⟩
  item := by
    intro X hP hw hK hc i pins s σ H E I hf st hg
    subst hP hw hK
    obtain ⟨⟨old, he⟩, hit, hne, hna, hnb⟩ := st
    obtain ⟨xs, x, hq, hx⟩ := hg
    obtain ⟨its, rv, p, hz⟩ := I.tuple hq
    obtain ⟨u, hu, ru⟩ := rv.get hx
    have hel : e < s.heap.objs.size := Heap.lt_size he
    have hil : it < s.heap.objs.size := by obtain ⟨_, q, _⟩ := hit; exact Heap.lt_size q
    have hi : i < its.toArray.size := by rw [List.size_toArray]; exact (List.getElem?_eq_some_iff.mp hu).1
    have D := Draws.tuple (prog := X.prog) (w := X.w) (A := X.A.in1) (I.ok.hd hc) it a hna its.toArray
    have hef : e ∉ [it, a] := by
      intro z
      simp only [List.mem_cons, List.not_mem_nil, or_false] at z
      rcases z with z | z
      · exact hne z
      · exact hnb z.symm
    refine wpAny_pyNext_enum_itemD D he ⟨hit, (show s.heap.IsTuple a its.toArray from p)⟩ hi hne hef fun y h' tk hy ho hst' hT hsz hk => ?_
    have ey : y = u := by
      have : some y = some u := by rw [← hy, ← hu]; simp
      exact Option.some.inj this
    subst ey
    refine ⟨_, rfl, wpAny_letOwnedTupleGo_enum (s := { s with heap := h', toks := tk + 1 }) ho fun h'' he' sb => ?_⟩
    have hT2 : h''.get? s.heap.objs.size = some { cls := .type "tuple", data := .seq #[.int i tk, y] } := (sb.2 _ (Nat.ne_of_gt hel)).trans hT
    have new : ObjOk X.prog X.w (upd H s.heap.objs.size (.tup [.int (i : Nat), x])) h'' s.heap.objs.size (.tup [.int (i : Nat), x]) :=
      ⟨by show 2 ≤ sizeLine; decide, [.int i tk, y], .cons ⟨_, rfl⟩ (.cons ru .nil), ⟨_, hT2, rfl, _, rfl⟩⟩
    have I1 : Inv X pins σ (upd H s.heap.objs.size (.tup [.int (i : Nat), x])) { s with heap := h'', toks := tk + 1 } :=
      I.turnedNew (ch := [e, it]) (fun b ob hb q => (sb.2 b (fun z => hb (by simp [z]))).trans (hk b ob (fun z => hb (by simp [z])) (fun z => hb (by simp [z])) q)) hf (Nat.le_refl _) new
    refine ⟨.ref s.heap.objs.size, _, I1, rfl, ⟨_, x, rfl, I.hok.fresh (Nat.le_refl _), rfl, fun ys hy => by rw [I.tuple_inj hy hq]; exact hx⟩, ⟨⟨y, ?_⟩, hst'.1.at fun o q => (sb.2 it (Ne.symm hne)).trans q, hne, hna, hnb⟩, fun b hb => ?_⟩
    · have e1 : ((i + 1 : Nat) : Int) = (i : Int) + 1 := by omega
      rw [e1]
      exact he'
    · have hb' : b < s.heap.objs.size := by
        have e' : b = e ∨ b = it := by simpa using hb
        rcases e' with z | z
        · rw [z]; exact hel
        · rw [z]; exact hil
      rw [upd_ne (Nat.ne_of_lt hb')]
      exact (hf b hb).1
  done := by
    intro X hP hw hK hc i pins s σ H E I hf st hg
    subst hP hw hK
    obtain ⟨⟨old, he⟩, hit, hne, hna, hnb⟩ := st
    obtain ⟨xs, hq, hx⟩ := hg
    obtain ⟨its, rv, p, hz⟩ := I.tuple hq
    obtain ⟨f0, f1, f2, f3, f4, f5⟩ := hf it (by simp)
    have hl := rv.length
    have D := Draws.tuple (prog := X.prog) (w := X.w) (A := X.A.in1) (I.ok.hd hc) it a hna its.toArray
    have hn : i = its.toArray.size := by rw [List.size_toArray]; omega
    refine wpAny_pyNext_enum_endD D he (show s.heap.IsTupleIter it a its.toArray.size ∧ s.heap.IsTuple a its.toArray from ⟨by rw [← hn]; exact hit, p⟩) fun h' eb => ⟨rfl, I.turned (t' := s.toks) (fun b o hb q => eb b o hb q) f0 f1 f3 f4 f5⟩
  self := fun A i s Q E st h => let ⟨⟨_, he⟩, _⟩ := st; wpAny_pyIter_enum he h
def iEnumT (K : PySem.W.Frag) (ta : TA) : TI := fun σ H R => ta σ H fun vs H1 => ∃ a xs, vs = [.ref a] ∧ SqT K H1 a xs ∧ R (IteT K a) H1
theorem pi_enumT {X : Cx} {e : Expr} {ta : TA} {p pos tpos : Pos} {elts : List Expr} {kk : Nat} (hg : Gl X "enumerate") (hm : X.mg "enumerate" = none) (ha : PA X [e] ta) (hs : starEach [e] X.env = [(false, eval e X.env)]) :
    PI X (.Tuple elts kk tpos) (.Call (.Name "enumerate" p) [e] [] pos) (iEnumT X.K ta) := by
  refine ⟨fun pins s σ H R I h => ?_⟩
  refine Call_ (ld_blt I hg hm boot_enumerate (PyProof.Rows.callWith_type1 (thn (ha.run pos pins s σ H _ I h) fun us s1 ⟨vs, H1, I1, r1, q1⟩ => ?_) hs rfl))
  obtain ⟨a, xs, ex, hq, q⟩ := q1
  subst ex
  cases r1 with
  | cons r rr =>
    cases rr
    cases r
    obtain ⟨its, rv, p', hz⟩ := I1.tuple hq
    have hT : s1.heap.IsTuple a its.toArray := p'
    have hal : a < s1.heap.objs.size := by obtain ⟨o, ho, _⟩ := hT; exact Heap.lt_size ho
    refine call_enum1 (begins_tuple a its.toArray) hT fun h' he hit hsz hk => wpAny_pyIter_enum he ?_
    have I2 : Inv X pins σ H1 { s1 with heap := h' } := I1.kept (t' := s1.toks) hk
    refine ⟨s1.heap.objs.size + 1, [s1.heap.objs.size + 1, s1.heap.objs.size], _, _, H1, rfl, I2, turn_enumT a (s1.heap.objs.size + 1) s1.heap.objs.size, ⟨⟨.none, he⟩, ⟨_, hit, rfl, rfl⟩, Nat.succ_ne_self _, Nat.ne_of_lt hal, Nat.ne_of_lt (Nat.lt_succ_of_lt hal)⟩, fun b hb => ?_, q⟩
    have e' : b = s1.heap.objs.size + 1 ∨ b = s1.heap.objs.size := by simpa using hb
    have hle : s1.heap.objs.size ≤ b := by
      rcases e' with z | z
      · rw [z]; exact Nat.le_add_right _ _
      · rw [z]; exact Nat.le_refl _
    exact I1.fpOk hle (I1.hok.fresh hle)
end TF

/-! What a for, a comprehension walks. -/
namespace TF
open PySem PySem.Spec PyProof.Rows L2
mutual
theorem same_eq : ∀ (d e : D), d.same e = true → d = e
  | .non, e, h => by cases e <;> simp [D.same] at h; rfl
  | .bl _, e, h => by cases e <;> simp [D.same] at h; rw [h]
  | .int _, e, h => by cases e <;> simp [D.same] at h; rw [h]
  | .str x, e, h => by
    cases e <;> first | (simp [D.same] at h; done) | skip
    rename_i y
    have h : (x == y) = true := h
    rw [eq_of_beq h]
  | .tup l, e, h => by
    cases e <;> first | (simp [D.same] at h; done) | skip
    rename_i m
    rw [sameL_eq l m h]
  | .lst l, e, h => by
    cases e <;> first | (simp [D.same] at h; done) | skip
    rename_i m
    rw [sameL_eq l m h]
  | .kst l, e, h => by
    cases e <;> first | (simp [D.same] at h; done) | skip
    rename_i m
    rw [sameL_eq l m h]
  | .dct ks l, e, h => by
    cases e <;> first | (simp [D.same] at h; done) | skip
    rename_i js m
    have h : (ks == js && sameL l m) = true := h
    rw [Bool.and_eq_true] at h
    rw [eq_of_beq h.1, sameL_eq l m h.2]
  | .ref _, e, h => by cases e <;> simp [D.same] at h; rw [h]
  | .ty _, e, h => by cases e <;> simp [D.same] at h; rw [h]
  | .cls _, e, h => by cases e <;> simp [D.same] at h; rw [h]
  | .fn _, e, h => by cases e <;> simp [D.same] at h; rw [h]
  | .tab _, e, h => by cases e <;> simp [D.same] at h; rw [h]
theorem sameL_eq : ∀ (l m : List D), sameL l m = true → l = m
  | [], [], _ => rfl
  | [], _ :: _, h => by simp [sameL] at h
  | _ :: _, [], h => by simp [sameL] at h
  | d :: ds, e :: es, h => by
    have h : (d.same e && sameL ds es) = true := h
    rw [Bool.and_eq_true] at h
    rw [same_eq d e h.1, sameL_eq ds es h.2]
end
mutual
theorem same_refl1 : ∀ d : D, d.same d = true
  | .non => rfl
  | .bl _ => by simp [D.same]
  | .int _ => by simp [D.same]
  | .str _ => by simp [D.same]
  | .tup l => same_refl l
  | .lst l => same_refl l
  | .kst l => same_refl l
  | .dct ks l => by
    show (ks == ks && sameL l l) = true
    rw [same_refl l]
    simp
  | .ref _ => by simp [D.same]
  | .ty _ => by simp [D.same]
  | .cls _ => by simp [D.same]
  | .fn _ => by simp [D.same]
  | .tab _ => by simp [D.same]
theorem same_refl : ∀ l : List D, sameL l l = true
  | [] => rfl
  | d :: l => by
    show (d.same d && sameL l l) = true
    rw [same_refl1 d, same_refl l]
    rfl
end
/-- the walk goes as told, from here on -/
structure WalkOk (T : Tb) (Φ : Addr → Prop) (ι : List Addr) (H : Hp) (J : It) (w : Walkd) : Prop where
  go : ∀ Φ' ι' H' M' i d, Grow Φ ι H Φ' ι' H' → HR T Φ' ι' H' M' → okGuard w.1 M' = true → w.2[i]? = some d → J.go i H' ∧ ∀ x H'', J.yld i H' x H'' → Grow Φ' ι' H' Φ' ι' H'' ∧ HR T Φ' ι' H'' M' ∧ Rep T Φ' ι' H'' d x
  stop : ∀ Φ' ι' H' M', Grow Φ ι H Φ' ι' H' → HR T Φ' ι' H' M' → okGuard w.1 M' = true → J.stop w.2.length H'
abbrev repI (T : Tb) : REP Walkd It := fun Φ ι H w J => WalkOk T Φ ι H J w
def iG (T : Tb) (W : WX) (c : EV Walkd) : TI := fun σ H R => ∃ env, Hold T (repI T) W [] c env σ H R
/-- a sequence that stays -/
def Stays (T : Tb) (Φ : Addr → Prop) (ι : List Addr) (H : Hp) (g : Option (Nat × List D)) (k : Bool) (a : Addr) (l : List D) : Prop :=
  ∀ Φ' ι' H' M', Grow Φ ι H Φ' ι' H' → HR T Φ' ι' H' M' → okGuard g M' = true → ∃ vs, (k = true → SqL T.K H' a vs) ∧ (k = false → SqT T.K H' a vs) ∧ RepL T Φ' ι' H' l vs
def kindD : D → Bool
  | .tup _ => false
  | _ => true
section
variable {T : Tb} {W : WX} {Φ : Addr → Prop} {ι : List Addr} {H : Hp} {M M1 : List MO}
theorem stays_of (hr : HR T Φ ι H M) {d : D} {v : V} {w : Walkd} (r : Rep T Φ ι H d v) (h : walkOf d M = .ok w M1) : M1 = M ∧ ∃ a, v = .ref a ∧ Stays T Φ ι H w.1 (kindD d) a w.2 := by
  unfold walkOf at h
  split at h
  · rename_i n l e
    cases h
    obtain ⟨a, vs, hi, rfl, _, _, _⟩ := hr.ref r e
    obtain ⟨rfl, _⟩ := asRef_eq e
    refine ⟨rfl, a, rfl, fun Φ' ι' H' M' g r' ok => ?_⟩
    dsimp only [okGuard] at ok
    split at ok
    · rename_i m em
      have em2 := sameL_eq _ _ ok
      subst em2
      obtain ⟨_, vs, e2, r2⟩ := r'.obj n a _ (g.ix hi) em
      exact ⟨vs, fun _ => SqL.of e2, fun z => Bool.noConfusion z, r2⟩
    · cases ok
  · cases d with
    | ref n => cases h
    | tup l =>
      cases h
      obtain ⟨a, vs, rfl, f, q⟩ := r
      exact ⟨rfl, a, rfl, fun Φ' ι' H' M' g r' ok => ⟨vs, fun z => Bool.noConfusion z, fun _ => (f.grow g).sq, RepL.grow g _ _ q⟩⟩
    | lst l =>
      cases h
      obtain ⟨a, vs, rfl, f, q⟩ := r
      exact ⟨rfl, a, rfl, fun Φ' ι' H' M' g r' ok => ⟨vs, fun _ => (f.grow g).sq, fun z => Bool.noConfusion z, RepL.grow g _ _ q⟩⟩
    | kst l =>
      cases h
      obtain ⟨a, vs, rfl, f, q⟩ := r
      exact ⟨rfl, a, rfl, fun Φ' ι' H' M' g r' ok => ⟨vs, fun _ => (f.grow g).sq, fun z => Bool.noConfusion z, RepL.grow g _ _ q⟩⟩
    | _ => cases h
theorem walk_list {K : PySem.W.Frag} (hK : T.K = K) {a : Addr} {w : Walkd} (h : Stays T Φ ι H w.1 true a w.2) : WalkOk T Φ ι H (Itl K a) w where
  go := fun Φ' ι' H' M' i d g r ok e => by
    obtain ⟨vs, h1, _, r1⟩ := h Φ' ι' H' M' g r ok
    have h1 := h1 rfl
    rw [hK] at h1
    obtain ⟨v, ev, rv⟩ := r1.get e
    refine ⟨⟨vs, v, h1, ev⟩, fun x H'' ⟨e1, e2⟩ => ?_⟩
    subst e1
    have e3 := e2 vs h1
    rw [ev] at e3
    cases e3
    exact ⟨Grow.refl, r, rv⟩
  stop := fun Φ' ι' H' M' g r ok => by
    obtain ⟨vs, h1, _, r1⟩ := h Φ' ι' H' M' g r ok
    have h1 := h1 rfl
    rw [hK] at h1
    exact ⟨vs, h1, Nat.le_of_eq r1.length⟩
theorem walk_tup {K : PySem.W.Frag} (hK : T.K = K) {a : Addr} {w : Walkd} (h : Stays T Φ ι H w.1 false a w.2) : WalkOk T Φ ι H (Itt K a) w where
  go := fun Φ' ι' H' M' i d g r ok e => by
    obtain ⟨vs, _, h1, r1⟩ := h Φ' ι' H' M' g r ok
    have h1 := h1 rfl
    rw [hK] at h1
    obtain ⟨v, ev, rv⟩ := r1.get e
    refine ⟨⟨vs, v, h1, ev⟩, fun x H'' ⟨e1, e2⟩ => ?_⟩
    subst e1
    have e3 := e2 vs h1
    rw [ev] at e3
    cases e3
    exact ⟨Grow.refl, r, rv⟩
  stop := fun Φ' ι' H' M' g r ok => by
    obtain ⟨vs, _, h1, r1⟩ := h Φ' ι' H' M' g r ok
    have h1 := h1 rfl
    rw [hK] at h1
    exact ⟨vs, h1, Nat.le_of_eq r1.length⟩
theorem enumD_get : ∀ (l : List D) (k i : Nat), (enumD k l)[i]? = (l[i]?).map fun d => D.tup [.int (k + i : Nat), d]
  | [], k, i => by simp [enumD]
  | d :: l, k, 0 => by simp [enumD]
  | d :: l, k, i + 1 => by
    simp only [enumD, List.getElem?_cons_succ]
    rw [enumD_get l (k + 1) i]
    have : k + 1 + i = k + (i + 1) := by omega
    rw [this]
theorem enumD_len : ∀ (l : List D) (k : Nat), (enumD k l).length = l.length
  | [], _ => rfl
  | d :: l, k => by simp [enumD, enumD_len l]
theorem pair_new {Φ' : Addr → Prop} {ι' : List Addr} {H' : Hp} {M' : List MO} (r : HR T Φ' ι' H' M') {p : Addr} (hn : H' p = none) {i : Nat} {d : D} {v : V} (rv : Rep T Φ' ι' H' d v) :
    Grow Φ' ι' H' Φ' ι' (upd H' p (.tup [.int i, v])) ∧ HR T Φ' ι' (upd H' p (.tup [.int i, v])) M' ∧ Rep T Φ' ι' (upd H' p (.tup [.int i, v])) (.tup [.int i, d]) (.ref p) :=
  ⟨Grow.new hn, r.new hn, Rep.newT r hn ⟨_, _, rfl, rfl, _, _, rfl, rv, rfl⟩⟩
theorem walk_enum {K : PySem.W.Frag} (hK : T.K = K) {a : Addr} {w : Walkd} (h : Stays T Φ ι H w.1 true a w.2) : WalkOk T Φ ι H (Ite K a) (w.1, enumD 0 w.2) where
  go := fun Φ' ι' H' M' i d g r ok e => by
    obtain ⟨vs, h1, _, r1⟩ := h Φ' ι' H' M' g r ok
    have h1 := h1 rfl
    rw [hK] at h1
    have e : (enumD 0 w.2)[i]? = some d := e
    rw [enumD_get] at e
    obtain ⟨d', e0, rfl⟩ := Option.map_eq_some_iff.mp e
    obtain ⟨v, ev, rv⟩ := r1.get e0
    refine ⟨⟨vs, v, h1, ev⟩, fun x H'' ⟨p, y, e1, hn, e2, e4⟩ => ?_⟩
    subst e1 e2
    have e3 := e4 vs h1
    rw [ev] at e3
    cases e3
    rw [Nat.zero_add]
    exact pair_new r hn rv
  stop := fun Φ' ι' H' M' g r ok => by
    obtain ⟨vs, h1, _, r1⟩ := h Φ' ι' H' M' g r ok
    have h1 := h1 rfl
    rw [hK] at h1
    exact ⟨vs, h1, by rw [enumD_len]; exact Nat.le_of_eq r1.length⟩
theorem walk_enumT {K : PySem.W.Frag} (hK : T.K = K) {a : Addr} {w : Walkd} (h : Stays T Φ ι H w.1 false a w.2) : WalkOk T Φ ι H (IteT K a) (w.1, enumD 0 w.2) where
  go := fun Φ' ι' H' M' i d g r ok e => by
    obtain ⟨vs, _, h1, r1⟩ := h Φ' ι' H' M' g r ok
    have h1 := h1 rfl
    rw [hK] at h1
    have e : (enumD 0 w.2)[i]? = some d := e
    rw [enumD_get] at e
    obtain ⟨d', e0, rfl⟩ := Option.map_eq_some_iff.mp e
    obtain ⟨v, ev, rv⟩ := r1.get e0
    refine ⟨⟨vs, v, h1, ev⟩, fun x H'' ⟨p, y, e1, hn, e2, e4⟩ => ?_⟩
    subst e1 e2
    have e3 := e4 vs h1
    rw [ev] at e3
    cases e3
    rw [Nat.zero_add]
    exact pair_new r hn rv
  stop := fun Φ' ι' H' M' g r ok => by
    obtain ⟨vs, _, h1, r1⟩ := h Φ' ι' H' M' g r ok
    have h1 := h1 rfl
    rw [hK] at h1
    exact ⟨vs, h1, by rw [enumD_len]; exact r1.length⟩
theorem rngD_get (lo : Int) : ∀ (n k i : Nat), (rngD lo k n)[i]? = if i < n then some (D.int (lo + (k + i : Nat))) else none
  | 0, k, i => by simp [rngD]
  | n + 1, k, 0 => by simp [rngD]
  | n + 1, k, i + 1 => by
    simp only [rngD, List.getElem?_cons_succ]
    rw [rngD_get lo n (k + 1) i]
    have e1 : k + 1 + i = k + (i + 1) := by omega
    rw [e1]
    simp only [Nat.add_lt_add_iff_right]
theorem rngD_len (lo : Int) : ∀ (n k : Nat), (rngD lo k n).length = n
  | 0, _ => rfl
  | n + 1, k => by simp [rngD, rngD_len lo n]
theorem walk_range {lo : Int} {n : Nat} : WalkOk T Φ ι H (Itr lo n) (none, rngD lo 0 n) where
  go := fun Φ' ι' H' M' i d g r ok e => by
    have e : (rngD lo 0 n)[i]? = some d := e
    rw [rngD_get] at e
    split at e
    · rename_i hi
      cases e
      refine ⟨hi, fun x H'' ⟨e1, e2⟩ => ?_⟩
      subst e1 e2
      refine ⟨Grow.refl, r, ?_⟩
      rw [Nat.zero_add]
      rfl
    · cases e
  stop := fun Φ' ι' H' M' g r ok => by
    show n ≤ (rngD lo 0 n).length
    rw [rngD_len]
    exact Nat.le_refl n
end
section
variable {T : Tb} {md : Md} {N : List Str} {γ : Gm} {k : Nat} {W : WX} {sc : Sc} {blk : Bool} {X : Cx} {tg a b : Expr} {ca cb : EV D} {pos p0 : Pos}
theorem pi_or {wi wi' : TI} (h : PI X tg a wi) (h' : PI X tg a wi') : PI X tg a (fun σ H R => wi σ H R ∨ wi' σ H R) :=
  ⟨fun pins s σ H R I q => q.elim (h.run pins s σ H R I) (h'.run pins s σ H R I)⟩
theorem pi_rd {wi wi' : TI} (h : PI X tg a wi) (k : ∀ σ H R, wi' σ H R → wi σ H R) : PI X tg a wi' := ⟨fun pins s σ H R I q => h.run pins s σ H R I (k σ H R q)⟩
theorem walkOf_cases {d : D} {M : List MO} : (∃ w, walkOf d M = .ok w M) ∨ walkOf d M = .bad := by
  unfold walkOf
  split
  · exact .inl ⟨_, rfl⟩
  · cases d with
    | ref n => exact .inr rfl
    | tup l => exact .inl ⟨_, rfl⟩
    | lst l => exact .inl ⟨_, rfl⟩
    | kst l => exact .inl ⟨_, rfl⟩
    | _ => exact .inr rfl
theorem walk_signs {z : Str} : WalkOk T Φ ι H (Its z) (none, signsD z) where
  go := fun Φ' ι' H' M' i d g r ok e => by
    have e : (z.cps.toList.map fun c => D.str ⟨#[c]⟩)[i]? = some d := e
    rw [List.getElem?_map] at e
    obtain ⟨c, ec, rfl⟩ := Option.map_eq_some_iff.mp e
    rw [Array.getElem?_toList] at ec
    refine ⟨(Array.getElem?_eq_some_iff.mp ec).1, fun x H'' ⟨e1, c', e2, e3⟩ => ?_⟩
    subst e1 e3
    rw [ec] at e2
    cases e2
    exact ⟨Grow.refl, r, rfl⟩
  stop := fun Φ' ι' H' M' g r ok => by
    show z.cps.size ≤ (z.cps.toList.map _).length
    rw [List.length_map, Array.length_toList]
    exact Nat.le_refl _
theorem i_it (h : Cok T md N γ k W sc blk X) (ha : PE X a (tE T W ca)) : PI X tg a (iG T W fun e M => (ca e M).bind fun d M => walkIt d M) := by
  refine pi_rd (pi_or (pi_str ha) (pi_or (pi_list ha) (pi_tup ha))) fun σ H R ⟨env, Φ, ι, M, ag, hp, p⟩ => ?_
  dsimp only at p
  cases e : ca env M with
  | ok d M1 =>
    rw [e] at p
    have p : Post T (repI T) W Φ ι σ H R (walkIt d M1) := p
    cases es : asStr d with
    | some z =>
      unfold walkIt at p
      rw [es] at p
      refine .inl ⟨env, Φ, ι, M, ag, Held.nil, ?_⟩
      rw [e]
      intro x Φ' ι' H' g r rx
      rw [asStr_eq es] at rx
      exact ⟨z, rx, p.fin g r walk_signs⟩
    | none =>
    unfold walkIt at p
    rw [es] at p
    dsimp only at p
    rcases walkOf_cases (d := d) (M := M1) with ⟨w, ew⟩ | ew
    · rw [ew] at p
      cases hk : kindD d with
      | true =>
        refine .inr (.inl ⟨env, Φ, ι, M, ag, Held.nil, ?_⟩)
        rw [e]
        intro x Φ' ι' H' g r rx
        obtain ⟨_, a0, rfl, st⟩ := stays_of r rx ew
        rw [hk] at st
        obtain ⟨vs, h1, _, _⟩ := st Φ' ι' H' M1 Grow.refl r (by
          unfold walkOf at ew
          split at ew
          · rename_i n l e1
            cases ew
            obtain ⟨rfl, e2⟩ := asRef_eq e1
            show (match M1[n]? with | some (.lst m) => sameL m l | _ => false) = true
            rw [e2]
            exact same_refl l
          · cases d <;> first | (cases ew; done) | (cases ew; rfl))
        exact ⟨a0, rfl, ⟨vs, by rw [← h.K]; exact h1 rfl⟩, p.fin g r (walk_list h.K st)⟩
      | false =>
        refine .inr (.inr ⟨env, Φ, ι, M, ag, Held.nil, ?_⟩)
        rw [e]
        intro x Φ' ι' H' g r rx
        obtain ⟨_, a0, rfl, st⟩ := stays_of r rx ew
        rw [hk] at st
        cases d <;> first | (cases hk; done) | skip
        cases ew
        obtain ⟨vs, _, h1, _⟩ := st Φ' ι' H' M1 Grow.refl r rfl
        exact ⟨a0, rfl, ⟨vs, by rw [← h.K]; exact h1 rfl⟩, p.fin g r (walk_tup h.K st)⟩
    · rw [ew] at p
      exact p.elim
  | err x M1 =>
    rw [e] at p
    refine .inl ⟨env, Φ, ι, M, ag, Held.nil, ?_⟩
    rw [e]
    exact p
  | bad => rw [e] at p; exact p.elim
theorem ok_now {d : D} {M : List MO} {w : Walkd} (ew : walkOf d M = .ok w M) : okGuard w.1 M = true := by
  unfold walkOf at ew
  split at ew
  · rename_i n l e1
    cases ew
    obtain ⟨rfl, e2⟩ := asRef_eq e1
    show (match M[n]? with | some (.lst m) => sameL m l | _ => false) = true
    rw [e2]
    exact same_refl l
  · cases d <;> first | (cases ew; done) | (cases ew; rfl)
theorem i_rng1 (h : Cok T md N γ k W sc blk X) (hg : isGlo sc "range" = true) (hf : ("range" : Str) ∈ md.free) (hs : isStar a = false) (ha : PE X a (tE T W ca)) :
    PI X tg (.Call (.Name "range" p0) [a] [] pos) (iG T W fun e M => (ca e M).bind fun d M => match asInt d with
    | some j => R.when (rngOk j && decide (j ≤ sizeLine)) (.ok (none, rngD 0 0 j.toNat) M)
    | none => .bad) := by
  obtain ⟨g, hd, hn⟩ := h.gl hg
  refine pi_rd (pi_range1 g (h.ms.free _ hf) (pa_cons ha pa_nil (starEach_cons hs)) (starEach_cons hs)) fun σ H R ⟨env, q⟩ => ?_
  refine (Hold.bindD q).mono fun x H1 ⟨d, Φ, ι, M, ag, hp, p⟩ => ?_
  dsimp only at p
  split at p
  · rename_i j e
    have r := hp.hd
    rw [asInt_eq e] at r
    obtain ⟨h1, p⟩ := when_ok p
    simp only [rngOk, Bool.and_eq_true, decide_eq_true_eq] at h1
    exact ⟨j, by rw [r], h1.1.1, h1.1.2, p.fin0 ag.hr walk_range⟩
  · exact p.elim
theorem i_rng2 (h : Cok T md N γ k W sc blk X) (hg : isGlo sc "range" = true) (hf : ("range" : Str) ∈ md.free) (hs : isStar a = false) (hs2 : isStar b = false) (ha : PE X a (tE T W ca)) (hb : PE X b (tE T W cb)) :
    PI X tg (.Call (.Name "range" p0) [a, b] [] pos) (iG T W fun e M => (ca e M).bind fun d M => (cb e M).bind fun d' M => match asInt d, asInt d' with
    | some i, some j => R.when (rngOk i && (rngOk j && decide (j - i ≤ sizeLine))) (.ok (none, rngD i 0 (j - i).toNat) M)
    | _, _ => .bad) := by
  obtain ⟨g, hd, hn⟩ := h.gl hg
  have e2 : starEach [b] X.env = [(false, eval b X.env)] := starEach_cons hs2
  refine pi_rd (pi_range2 g (h.ms.free _ hf) (pa_cons ha (pa_cons hb pa_nil e2) (starEach_cons hs)) (by rw [starEach_cons hs, e2]) e2) fun σ H R ⟨env, q⟩ => ?_
  refine (Hold.bindD q).mono fun x H1 ⟨d, h1⟩ => ?_
  refine (Hold.bindD h1).mono fun y H2 ⟨d2, Φ, ι, M, ag, hp, p⟩ => ?_
  dsimp only at p
  split at p
  · rename_i i j e e'
    have r := hp.tl.hd
    have r2 := hp.hd
    rw [asInt_eq e] at r
    rw [asInt_eq e'] at r2
    obtain ⟨h1, p⟩ := when_ok p
    simp only [rngOk, Bool.and_eq_true, decide_eq_true_eq] at h1
    exact ⟨i, j, by rw [r, r2], ⟨h1.1.1, h1.1.2, h1.2.1.1, h1.2.1.2⟩, p.fin0 ag.hr walk_range⟩
  · exact p.elim
theorem i_enum (h : Cok T md N γ k W sc blk X) {elts : List Expr} {kk : Nat} {tpos : Pos} (hg : isGlo sc "enumerate" = true) (hf : ("enumerate" : Str) ∈ md.free) (hs : isStar a = false) (ha : PE X a (tE T W ca)) :
    PI X (.Tuple elts kk tpos) (.Call (.Name "enumerate" p0) [a] [] pos) (iG T W fun e M => (ca e M).bind fun d M => (walkOf d M).bind fun w M => .ok (w.1, enumD 0 w.2) M) := by
  obtain ⟨g, hd, hn⟩ := h.gl hg
  have e1 : starEach [a] X.env = [(false, eval a X.env)] := starEach_cons hs
  have hpa : PA X [a] (tCons (tE T W ca) tNil) := pa_cons ha pa_nil e1
  refine pi_rd (pi_or (pi_enum g (h.ms.free _ hf) hpa e1) (pi_enumT g (h.ms.free _ hf) hpa e1)) fun σ H R ⟨env, Φ, ι, M, ag, hp, p⟩ => ?_
  dsimp only at p
  cases e : ca env M with
  | ok d M1 =>
    rw [e] at p
    have p : Post T (repI T) W Φ ι σ H R ((walkOf d M1).bind fun w M => .ok (w.1, enumD 0 w.2) M) := p
    rcases walkOf_cases (d := d) (M := M1) with ⟨w, ew⟩ | ew
    · rw [ew] at p
      have p : Post T (repI T) W Φ ι σ H R (.ok (w.1, enumD 0 w.2) M1) := p
      cases hk : kindD d with
      | true =>
        refine .inl ⟨env, Φ, ι, M, ag, Held.nil, ?_⟩
        rw [e]
        intro x Φ' ι' H' g r rx
        obtain ⟨_, a0, rfl, st⟩ := stays_of r rx ew
        rw [hk] at st
        obtain ⟨vs, h1, _, _⟩ := st Φ' ι' H' M1 Grow.refl r (ok_now ew)
        exact ⟨a0, vs, rfl, by rw [← h.K]; exact h1 rfl, p.fin g r (walk_enum h.K st)⟩
      | false =>
        refine .inr ⟨env, Φ, ι, M, ag, Held.nil, ?_⟩
        rw [e]
        intro x Φ' ι' H' g r rx
        obtain ⟨_, a0, rfl, st⟩ := stays_of r rx ew
        rw [hk] at st
        obtain ⟨vs, _, h1, _⟩ := st Φ' ι' H' M1 Grow.refl r (ok_now ew)
        exact ⟨a0, vs, rfl, by rw [← h.K]; exact h1 rfl, p.fin g r (walk_enumT h.K st)⟩
    · rw [ew] at p
      exact p.elim
  | err x M1 =>
    rw [e] at p
    refine .inl ⟨env, Φ, ι, M, ag, Held.nil, ?_⟩
    rw [e]
    exact p
  | bad => rw [e] at p; exact p.elim
end
end TF

/-! Targets of the small language. -/
namespace TF
open PySem PySem.Spec PyProof.Rows L2
def PostG (T : Tb) (W : WX) (S : L2.St → L2.St → Prop) (Φ : Addr → Prop) (ι : List Addr) (σ : L2.St) (H : Hp) (Q : L2.St → Hp → Prop) : R Ev → Prop
  | .ok e M => ∀ σ' Φ' ι' H', Grow Φ ι H Φ' ι' H' → Agree T Φ' ι' σ' H' e M → S σ σ' → Q σ' H'
  | .err x M => ∀ c dx Φ' ι' H', Grow Φ ι H Φ' ι' H' → HR T Φ' ι' H' M → ExnOk T Φ' ι' H' x c dx → W c dx σ H'
  | .bad => False
/-- without errors -/
def PostC (T : Tb) (S : L2.St → L2.St → Prop) (Φ : Addr → Prop) (ι : List Addr) (σ : L2.St) (H : Hp) (Q : L2.St → Hp → Prop) : R Ev → Prop
  | .ok e M => ∀ σ' Φ' ι' H', Grow Φ ι H Φ' ι' H' → Agree T Φ' ι' σ' H' e M → S σ σ' → Q σ' H'
  | .err _ _ => False
  | .bad => False
def gG (T : Tb) (W : WX) (S : L2.St → L2.St → Prop) (c : D → EV Ev) : TG := fun v σ H Q => ∃ env Φ ι M d, Agree T Φ ι σ H env M ∧ Rep T Φ ι H d v ∧ PostG T W S Φ ι σ H Q (c d env M)
def gGs (T : Tb) (S : L2.St → L2.St → Prop) (c : List D → EV Ev) : TGs := fun vs σ H Q => ∃ env Φ ι M ds, Agree T Φ ι σ H env M ∧ RepL T Φ ι H ds vs ∧ PostC T S Φ ι σ H Q (c ds env M)
section
variable {T : Tb} {W : WX} {Φ Φ1 : Addr → Prop} {ι ι1 : List Addr} {σ σ1 : L2.St} {H H1 : Hp} {env : Ev} {M M1 : List MO} {Q : L2.St → Hp → Prop} {S : L2.St → L2.St → Prop}
theorem PostC.later (g : Grow Φ ι H Φ1 ι1 H1) : ∀ {r : R Ev}, PostC T S Φ ι σ H Q r → PostC T S Φ1 ι1 σ H1 Q r
  | .ok e M, h => fun σ' Φ' ι' H' k => h σ' Φ' ι' H' (g.trans k)
  | .err _ _, h => h
  | .bad, h => h
theorem PostG.later (g : Grow Φ ι H Φ1 ι1 H1) : ∀ {r : R Ev}, PostG T W S Φ ι σ H Q r → PostG T W S Φ1 ι1 σ H1 Q r
  | .ok e M, h => fun σ' Φ' ι' H' k => h σ' Φ' ι' H' (g.trans k)
  | .err _ _, h => fun c dx Φ' ι' H' k => h c dx Φ' ι' H' (g.trans k)
  | .bad, h => h
theorem Agree.set (a : Agree T Φ ι σ H env M) {d : D} {v : V} (r : Rep T Φ ι H d v) (i : Nat) : Agree T Φ ι (σ.set i (some v)) H (env.set i (some d)) M := by
  refine ⟨a.hr, fun j d' e => ?_, by rw [List.length_set, List.length_set, a.len]⟩
  by_cases z : i = j
  · subst z
    have hi : i < env.length := by
      have := (List.getElem?_eq_some_iff.mp e).1
      rwa [List.length_set] at this
    rw [List.getElem?_set_self hi] at e
    cases e
    exact ⟨v, by rw [List.getElem?_set_self (by rw [← a.len]; exact hi)], r⟩
  · rw [List.getElem?_set_ne z] at e ⊢
    exact a.ev j d' e
end
section
variable {T : Tb} {md : Md} {N : List Str} {γ : Gm} {k : Nat} {W : WX} {sc : Sc} {blk : Bool} {X : Cx} {a b : Expr} {es : List Expr} {ca cb : EV D} {pos p0 : Pos} {S : L2.St → L2.St → Prop}
theorem loc_of (h : Cok T md N γ k W sc blk X) {i : Nat} {x : Str} (hl : isLoc N sc blk i x = true) : X.N.Nodup ∧ X.N[i]? = some x ∧ L2.Loc X.env.scope x ∧ (X.fn x = true ∨ X.env.scope.names.lookup x = some .local) := by
  unfold isLoc at hl
  simp only [Bool.and_eq_true, Bool.or_eq_true, decide_eq_true_eq, Bool.not_eq_true'] at hl
  refine ⟨by rw [h.n]; exact h.nd, by rw [h.n]; exact hl.1, ?_, ?_⟩
  · unfold L2.Loc
    rw [h.sc]
    rcases hl.2 with z | z
    · exact .inl z
    · exact .inr z.2
  · rw [h.sc]
    rcases hl.2 with z | z
    · exact .inr z
    · exact .inl (h.fn z.1 x)
theorem g_nm (h : Cok T md N γ k W sc blk X) {i : Nat} {x : Str} (hl : isLoc N sc blk i x = true) (hS : ∀ (σ : L2.St) (v : V), S σ (σ.set i (some v))) : PG X (.Name x pos) (gG T W S (asg γ (.nm i))) := by
  obtain ⟨h1, h2, h3, h4⟩ := loc_of h hl
  have hp := pg_name (pos := pos) h1 h2 h3 h4
  refine ⟨fun pins s σ H v u Q I r q => hp.run pins s σ H v u Q I r ?_⟩
  obtain ⟨env, Φ, ι, M, d, ag, rd, p⟩ := q
  exact (show PostG T W S Φ ι σ H Q (.ok (env.set i (some d)) M) from p) _ Φ ι H Grow.refl (ag.set rd i) (hS σ v)
/-- what the other targets leave -/
def asgsL (γ : Gm) (gs : RGs) : List D → EV Ev := fun l e M => asgs γ gs l e M
theorem gs_nil (h0 : ∀ σ, S σ σ) : PGs X [] (gGs T S (asgsL γ .nil)) := by
  refine ⟨fun pins s σ H vs us Q I r q => pgs_nil.run pins s σ H vs us Q I r ?_⟩
  obtain ⟨env, Φ, ι, M, ds, ag, rd, p⟩ := q
  cases ds with
  | nil =>
    cases rd
    exact ⟨rfl, (show PostC T S Φ ι σ H Q (.ok env M) from p) σ Φ ι H Grow.refl ag (h0 σ)⟩
  | cons d ds => exact (show False from p).elim
theorem asgnEach_cons {e : Expr} {es : List Expr} {env : Env} (h : isStar e = false) : assignEach (e :: es) env = (false, assign e env) :: assignEach es env := by
  cases e <;> first | rfl | cases h
theorem gs_cons {g : RG} {gs : RGs} {e : Expr} (ht : ∀ σ1 σ2 σ3, S σ1 σ2 → S σ2 σ3 → S σ1 σ3) (hs : isStar e = false) (h1 : PG X e (gG T W S (asg γ g))) (h2 : PGs X es (gGs T S (asgsL γ gs))) : PGs X (e :: es) (gGs T S (asgsL γ (.cons g gs))) := by
  have hp := pgs_cons h1 h2 (by rw [asgnEach_cons hs]; rfl)
  refine ⟨fun pins s σ H vs us Q I r q => hp.run pins s σ H vs us Q I r ?_⟩
  obtain ⟨env, Φ, ι, M, ds, ag, rd, p⟩ := q
  cases ds with
  | nil => exact (show False from p).elim
  | cons d ds =>
    obtain ⟨v, r1, rfl, rv, rr⟩ := rd
    refine ⟨v, r1, rfl, env, Φ, ι, M, d, ag, rv, ?_⟩
    have p : PostC T S Φ ι σ H Q ((asg γ g d env M).bind fun e M => asgs γ gs ds e M) := p
    cases e1 : asg γ g d env M with
    | ok e2 M2 =>
      rw [e1] at p
      intro σ' Φ' ι' H' g' ag' s1
      refine ⟨e2, Φ', ι', M2, ds, ag', RepL.grow g' _ _ rr, ?_⟩
      have p2 : PostC T S Φ ι σ H Q (asgs γ gs ds e2 M2) := p
      show PostC T S Φ' ι' σ' H' Q (asgs γ gs ds e2 M2)
      cases e3 : asgs γ gs ds e2 M2 with
      | ok e4 M4 =>
        rw [e3] at p2
        intro σ2 Φ2 ι2 H2 g2 ag2 s2
        exact p2 σ2 Φ2 ι2 H2 (g'.trans g2) ag2 (ht _ _ _ s1 s2)
      | err x M4 => rw [e3] at p2; exact (show False from p2).elim
      | bad => rw [e3] at p2; exact (show False from p2).elim
    | err x M2 => rw [e1] at p; exact (show False from p).elim
    | bad => rw [e1] at p; exact (show False from p).elim
def RGs.len : RGs → Nat
  | .nil => 0
  | .cons _ gs => gs.len + 1
theorem asgs_len : ∀ {gs : RGs} {ds : List D} {e e' : Ev} {M M' : List MO}, asgs γ gs ds e M = .ok e' M' → ds.length = gs.len
  | .nil, [], _, _, _, _, _ => rfl
  | .nil, _ :: _, _, _, _, _, h => by cases h
  | .cons g gs, [], _, _, _, _, h => by cases h
  | .cons g gs, d :: ds, e, e', M, M', h => by
    have h : ((asg γ g d e M).bind fun e M => asgs γ gs ds e M) = .ok e' M' := h
    cases e1 : asg γ g d e M with
    | ok e2 M2 =>
      rw [e1] at h
      have h : asgs γ gs ds e2 M2 = .ok e' M' := h
      simp only [List.length_cons, RGs.len, asgs_len h]
    | err x M2 => rw [e1] at h; cases h
    | bad => rw [e1] at h; cases h
theorem ckgs_len : ∀ {gs : RGs} {l : List Expr}, ckgs md N gs sc blk l = true → l.length = gs.len
  | .nil, l, h => by
    have h : l.isEmpty = true := h
    cases l <;> first | rfl | cases h
  | .cons g gs, [], h => by cases h
  | .cons g gs, x :: xs, h => by
    have h : (ckg md N g sc blk x && ckgs md N gs sc blk xs) = true := h
    rw [Bool.and_eq_true] at h
    simp only [List.length_cons, RGs.len, ckgs_len h.2]
theorem asgnEach_len {env : Env} : ∀ {es : List Expr}, (assignEach es env).length = es.length
  | [] => rfl
  | e :: es => by
    cases e <;> (show (assignEach es env).length + 1 = es.length + 1; rw [asgnEach_len])
theorem asgnEach_star {env : Env} : ∀ {es : List Expr}, es.any isStar = false → (assignEach es env).findIdx? (·.1) = none
  | [], _ => rfl
  | e :: es, h => by
    simp only [List.any_cons, Bool.or_eq_false_iff] at h
    rw [asgnEach_cons h.1, List.findIdx?_cons]
    simp only [Bool.false_eq_true, if_false]
    rw [asgnEach_star h.2]
    rfl
theorem g_tp (h : Cok T md N γ k W sc blk X) {gs : RGs} {kk : Nat} (hs : es.any isStar = false) (hl : es.length = gs.len) (h2 : PGs X es (gGs T S (asgsL γ gs))) : PG X (.Tuple es kk pos) (gG T W S (asg γ (.tp gs))) := by
  have hp := pg_tup (pos := pos) (k := kk) (n := es.length) h.calm h2 asgnEach_len (asgnEach_star hs)
  have hp2 := pg_unl (pos := pos) (k := kk) (n := es.length) h.calm h2 asgnEach_len (asgnEach_star hs)
  refine ⟨fun pins s σ H v u Q I r q => ?_⟩
  obtain ⟨env, Φ, ι, M, d, ag, rd, p⟩ := q
  have p : PostG T W S Φ ι σ H Q (match asTup d with
    | some l => (asgs γ gs l env M).calm
    | none => .bad) := p
  split at p
  · rename_i l e
    have key : ∀ vs : List V, RepL T Φ ι H l vs → vs.length = es.length ∧ gGs T S (asgsL γ gs) vs σ H Q := fun vs rl => by
      refine ⟨?_, env, Φ, ι, M, l, ag, rl, ?_⟩
      · cases e1 : asgs γ gs l env M with
        | ok e2 M2 => rw [rl.length, asgs_len e1, hl]
        | err x M2 => rw [e1] at p; exact (show False from p).elim
        | bad => rw [e1] at p; exact (show False from p).elim
      · show PostC T S Φ ι σ H Q (asgs γ gs l env M)
        cases e1 : asgs γ gs l env M with
        | ok e2 M2 => rw [e1] at p; exact p
        | err x M2 => rw [e1] at p; exact (show False from p).elim
        | bad => rw [e1] at p; exact (show False from p).elim
    rcases asTup_eq e with e | e | e
    · rw [e] at rd
      obtain ⟨a, vs, rfl, f, rl⟩ := rd
      exact hp.run pins s σ H _ u Q I r ⟨a, vs, rfl, by rw [← h.K]; exact f.sq, key vs rl⟩
    · rw [e] at rd
      obtain ⟨a, vs, rfl, f, rl⟩ := rd
      exact hp2.run pins s σ H _ u Q I r ⟨a, vs, rfl, by rw [← h.K]; exact f.sq, key vs rl⟩
    · rw [e] at rd
      obtain ⟨a, vs, rfl, f, rl⟩ := rd
      exact hp2.run pins s σ H _ u Q I r ⟨a, vs, rfl, by rw [← h.K]; exact f.sq, key vs rl⟩
  · exact (show False from p).elim
/-- x[i] = .. -/
def repG (T : Tb) (σ : L2.St) : REP Ev Unit := fun Φ ι H e _ => EnvOk T Φ ι σ H e ∧ e.length = σ.length
theorem sub_assign {o i : Expr} {env : Env} (hs : isSlice i = false) : ∀ v, assign (.Subscript o i pos) env v = (do
      let ov ← holding [v] (eval o env)
      let iv ← holding [v, ov] (eval i env)
      standAt pos
      holding [v, ov, iv] (setItem ov iv v)
      release [v, ov, iv] []) := by
  intro v
  cases i <;> first | rfl | cases hs
theorem g_ix (h : Cok T md N γ k W sc blk X) {ra ri : RE} (ha : PE X a (tE T W (ev γ ra))) (hb : PE X b (tE T W (ev γ ri))) (hs : isSlice b = false) (h0 : ∀ σ, S σ σ) : PG X (.Subscript a b pos) (gG T W S (asg γ (.ix ra ri))) := by
  have hp := pg_sub (pos := pos) ha hb (set_list (X := X)) (sub_assign hs)
  refine ⟨fun pins s σ H v u Q I r q => hp.run pins s σ H v u Q I r ?_⟩
  obtain ⟨env, Φ, ι, M, d, ag, rd, p⟩ := q
  have p : PostG T W S Φ ι σ H Q ((ev γ ra env M).bind fun x M => (ev γ ri env M).bind fun y M => (evSetIx x y d M).bind fun _ M => .ok env M) := p
  have q : Hold T (repG T σ) W [(d, v)] (fun env M => (ev γ ra env M).bind fun x M => (ev γ ri env M).bind fun y M => (evSetIx x y d M).bind fun _ M => .ok env M) env σ H (fun _ H' => Q σ H') := by
    refine ⟨Φ, ι, M, ag, Held.cons rd Held.nil, ?_⟩
    dsimp only
    cases e : ((ev γ ra env M).bind fun x M => (ev γ ri env M).bind fun y M => (evSetIx x y d M).bind fun _ M => (.ok env M : R Ev)) with
    | ok e2 M2 =>
      rw [e] at p
      intro _ Φ' ι' H' g r ⟨r1, r2⟩
      exact p σ Φ' ι' H' g ⟨r, r1, r2⟩ (h0 σ)
    | err x M2 => rw [e] at p; exact p
    | bad => rw [e] at p; exact (show False from p).elim
  refine (Hold.bindD q).mono fun x H1 ⟨dx, h1⟩ => ?_
  refine (Hold.bindD h1).mono fun y H2 ⟨dy, Φ, ι, M, ag, hp, p⟩ => ?_
  dsimp only at p
  unfold evSetIx at p
  split at p
  · rename_i n l j e1 e2
    obtain ⟨a1, vs, hi, rfl, hΦ, hH, rl⟩ := ag.hr.ref hp.tl.hd e1
    have r2 := hp.hd
    rw [asInt_eq e2] at r2
    cases r2
    split at p
    · rename_i kk ek
      refine ⟨a1, vs, j, kk, rfl, rfl, hH, by rw [rl.length]; exact ek, ?_⟩
      have g := Grow.mut (u := .lst (vs.set kk v)) (H := H2) hi hΦ
      have p : Post T (repG T σ) W Φ ι σ H2 (fun _ H' => Q σ H') (.ok env (M.set n (.lst (l.set kk d)))) := p
      exact p () Φ ι _ g (ag.hr.putL hi hΦ (rl.set kk hp.tl.tl.hd)) ⟨ag.ev.grow g, ag.len⟩
    · exact (show False from p).elim
  · exact (show False from p).elim
end
end TF

/-! Comprehensions of the small language. -/
namespace TF
open PySem PySem.Spec PyProof.Rows L2
section
variable {T : Tb} {Φ Φ1 : Addr → Prop} {ι ι1 : List Addr} {H H1 : Hp}
mutual
theorem Rep.move (k : ∀ a o, H a = some o → ¬ Φ a → H1 a = some o) (q : ∀ a o, H a = some o → ¬ Φ a → ¬ Φ1 a) : ∀ (d : D) (v : V), Rep T Φ ι H d v → Rep T Φ1 ι H1 d v
  | .non, _, h => h
  | .bl _, _, h => h
  | .int _, _, h => h
  | .str _, _, h => h
  | .tup l, _, h => by
    obtain ⟨a, vs, e, f, r⟩ := h
    refine ⟨a, vs, e, ?_, RepL.move k q l vs r⟩
    rcases f with ⟨f | ⟨o, f⟩, n⟩ | f
    · exact .inl ⟨.inl (k a _ f n), q a _ f n⟩
    · exact .inl ⟨.inr ⟨o, k a _ f n⟩, q a _ f n⟩
    · exact .inr f
  | .lst l, _, h => by
    obtain ⟨a, vs, e, f, r⟩ := h
    exact ⟨a, vs, e, ⟨k a _ f.1 f.2, q a _ f.1 f.2⟩, RepL.move k q l vs r⟩
  | .kst l, _, h => by
    obtain ⟨a, vs, e, f, r⟩ := h
    refine ⟨a, vs, e, ?_, RepL.move k q l vs r⟩
    rcases f with ⟨f | ⟨o, f⟩, n⟩ | f
    · exact .inl ⟨.inl (k a _ f n), q a _ f n⟩
    · exact .inl ⟨.inr ⟨o, k a _ f n⟩, q a _ f n⟩
    · exact .inr f
  | .dct ks l, _, h => by
    obtain ⟨a, vs, e, f, z, n, r⟩ := h
    rcases f with f | ⟨o, f⟩
    · exact ⟨a, vs, e, .inl (k a _ f n), z, q a _ f n, RepL.move k q l vs r⟩
    · exact ⟨a, vs, e, .inr ⟨o, k a _ f n⟩, z, q a _ f n, RepL.move k q l vs r⟩
  | .ref n, _, h => h
  | .ty _, _, h => h
  | .cls _, _, h => h
  | .fn _, _, h => h
  | .tab _, _, h => h
theorem RepL.move (k : ∀ a o, H a = some o → ¬ Φ a → H1 a = some o) (q : ∀ a o, H a = some o → ¬ Φ a → ¬ Φ1 a) : ∀ (l : List D) (vs : List V), RepL T Φ ι H l vs → RepL T Φ1 ι H1 l vs
  | [], _, h => h
  | d :: ds, _, h => by
    obtain ⟨v, r, e, h1, h2⟩ := h
    exact ⟨v, r, e, Rep.move k q d v h1, RepL.move k q ds r h2⟩
end
/-- a thing that nobody owns is written -/
theorem put_k {D : Addr} {u : HO} (hD : Φ D) : ∀ a o, H a = some o → ¬ Φ a → (upd H D u) a = some o := fun a o e n => by
  rw [upd_ne]
  · exact e
  · rintro rfl
    exact n hD
theorem HR.put {M : List MO} {D : Addr} {u : HO} (r : HR T Φ ι H M) (hD : Φ D) (hn : D ∉ ι) : HR T Φ ι (upd H D u) M := by
  refine ⟨r.len, r.nd, fun n a mo e1 e2 => ?_, fun a p => ?_, fun a p => ?_⟩
  · have ha : a ≠ D := fun z => hn (z ▸ List.mem_of_getElem? e1)
    have h := r.obj n a mo e1 e2
    cases mo with
    | dead => exact h
    | lst l =>
      obtain ⟨p, vs, e, q⟩ := h
      exact ⟨p, vs, by rw [upd_ne ha]; exact e, RepL.move (put_k hD) (fun _ _ _ z => z) _ _ q⟩
    | ins c fs =>
      obtain ⟨p, dx, vs, e, z, q⟩ := h
      exact ⟨p, dx, vs, by rw [upd_ne ha]; exact e, z, RepL.move (put_k hD) (fun _ _ _ z => z) _ _ q⟩
  · by_cases z : a = D
    · subst z; exact ⟨_, upd_same⟩
    · obtain ⟨o, e⟩ := r.phi a p
      exact ⟨o, by rw [upd_ne z]; exact e⟩
  · by_cases z : a = D
    · subst z; exact ⟨_, upd_same⟩
    · obtain ⟨o, e⟩ := r.inn a p
      exact ⟨o, by rw [upd_ne z]; exact e⟩
theorem Grow.put {Hs : Hp} {Φs : Addr → Prop} {ιs : List Addr} {D : Addr} {u : HO} (g : Grow Φs ιs Hs Φ ι H) (hn : Hs D = none) : Grow Φs ιs Hs Φ ι (upd H D u) :=
  ⟨fun a o e h => by rw [upd_ne (ne_of_none e hn)]; exact g.keep a o e h, g.fz, g.own, g.pre, fun a o e => by
    obtain ⟨o', e1⟩ := g.there a o e
    exact ⟨o', by rw [upd_ne (ne_of_none e hn)]; exact e1⟩⟩
/-- a new thing that is ours alone -/
theorem Grow.hid {D : Addr} {u : HO} (hn : H D = none) : Grow Φ ι H (addP Φ D) ι (upd H D u) :=
  ⟨fun a o e _ => by rw [upd_ne (ne_of_none e hn)]; exact e, fun a o e n z => z.elim n (ne_of_none e hn), fun _ _ _ p _ => .inl p, ⟨[], by simp, by simp⟩, fun a o e => ⟨o, by rw [upd_ne (ne_of_none e hn)]; exact e⟩⟩
theorem HR.hid {M : List MO} {D : Addr} {u : HO} (r : HR T Φ ι H M) (hn : H D = none) : HR T (addP Φ D) ι (upd H D u) M := by
  refine ⟨r.len, r.nd, fun n a mo e1 e2 => (r.obj n a mo e1 e2).grow (Grow.hid hn) (fun o e => by rw [upd_ne (ne_of_none e hn)]; exact e) (fun p => .inl p), fun a q => ?_, fun a q => ?_⟩
  · rcases q with q | q
    · obtain ⟨o, e⟩ := r.phi a q
      exact ⟨o, by rw [upd_ne (ne_of_none e hn)]; exact e⟩
    · subst q; exact ⟨_, upd_same⟩
  · obtain ⟨o, e⟩ := r.inn a q
    exact ⟨o, by rw [upd_ne (ne_of_none e hn)]; exact e⟩
theorem Grow.show {Hs : Hp} {Φs : Addr → Prop} {ιs : List Addr} {D : Addr} (g : Grow Φs ιs Hs Φ ι H) (hn : Hs D = none) : Grow Φs ιs Hs (subP Φ D) ι H :=
  ⟨g.keep, fun a o e n z => g.fz a o e n z.1, fun a o e p n => ⟨g.own a o e p n, ne_of_none e hn⟩, g.pre, g.there⟩
theorem HR.show {M : List MO} {D : Addr} (r : HR T Φ ι H M) (hn : D ∉ ι) : HR T (subP Φ D) ι H M := by
  refine ⟨r.len, r.nd, fun n a mo e1 e2 => ?_, fun a p => r.phi a p.1, r.inn⟩
  have ha : a ≠ D := fun z => hn (z ▸ List.mem_of_getElem? e1)
  have h := r.obj n a mo e1 e2
  have mk : ∀ (a : Addr) (o : HO), H a = some o → ¬ Φ a → ¬ subP Φ D a := fun _ _ _ n z => n z.1
  cases mo with
  | dead => exact h
  | lst l =>
    obtain ⟨p, vs, e, q⟩ := h
    exact ⟨⟨p, ha⟩, vs, e, RepL.move (fun _ _ e _ => e) mk _ _ q⟩
  | ins c fs =>
    obtain ⟨p, dx, vs, e, z, q⟩ := h
    exact ⟨⟨p, ha⟩, dx, vs, e, z, RepL.move (fun _ _ e _ => e) mk _ _ q⟩
/-! more own things -/
mutual
theorem Rep.ext (ν : List Addr) : ∀ (d : D) (v : V), Rep T Φ ι H d v → Rep T Φ (ι ++ ν) H d v
  | .non, _, h => h
  | .bl _, _, h => h
  | .int _, _, h => h
  | .str _, _, h => h
  | .tup l, _, h => by
    obtain ⟨a, vs, e, f, r⟩ := h
    exact ⟨a, vs, e, f, RepL.ext ν l vs r⟩
  | .lst l, _, h => by
    obtain ⟨a, vs, e, f, r⟩ := h
    exact ⟨a, vs, e, f, RepL.ext ν l vs r⟩
  | .kst l, _, h => by
    obtain ⟨a, vs, e, f, r⟩ := h
    exact ⟨a, vs, e, f, RepL.ext ν l vs r⟩
  | .dct ks l, _, h => by
    obtain ⟨a, vs, e, f, z, n, r⟩ := h
    exact ⟨a, vs, e, f, z, n, RepL.ext ν l vs r⟩
  | .ref n, _, h => by
    obtain ⟨a, e, q⟩ := h
    exact ⟨a, by rw [List.getElem?_append_left (List.getElem?_eq_some_iff.mp e).1]; exact e, q⟩
  | .ty _, _, h => h
  | .cls _, _, h => h
  | .fn _, _, h => h
  | .tab _, _, h => h
theorem RepL.ext (ν : List Addr) : ∀ (l : List D) (vs : List V), RepL T Φ ι H l vs → RepL T Φ (ι ++ ν) H l vs
  | [], _, h => h
  | d :: ds, _, h => by
    obtain ⟨v, r, e, h1, h2⟩ := h
    exact ⟨v, r, e, Rep.ext ν d v h1, RepL.ext ν ds r h2⟩
end
theorem Grow.keepD {Hs : Hp} {Φs : Addr → Prop} {ιs : List Addr} {D : Addr} (g : Grow Φs ιs Hs Φ ι H) (hn : Hs D = none) : Grow Φs ιs Hs Φ (ι ++ [D]) H := by
  refine ⟨g.keep, g.fz, g.own, ?_, g.there⟩
  obtain ⟨ν, rfl, hν⟩ := g.pre
  refine ⟨ν ++ [D], by simp, fun p hp => ?_⟩
  rcases List.mem_append.mp hp with z | z
  · exact hν p z
  · simp at z; subst z; exact hn
theorem HR.keepD {M : List MO} {D : Addr} {l : List TF.D} {vs : List V} (r : HR T Φ ι H M) (hD : Φ D) (hn : D ∉ ι) (hH : H D = some (.lst vs)) (rl : RepL T Φ ι H l vs) : HR T Φ (ι ++ [D]) H (M ++ [.lst l]) := by
  refine ⟨by simp [r.len], ?_, fun n a m e1 e2 => ?_, r.phi, fun a q => ?_⟩
  · rw [List.nodup_append]
    refine ⟨r.nd, by simp, fun a ha b hb => ?_⟩
    simp at hb
    subst hb
    intro z
    subst z
    exact hn ha
  · by_cases hlt : n < ι.length
    · rw [List.getElem?_append_left hlt] at e1
      rw [List.getElem?_append_left (by rw [← r.len]; exact hlt)] at e2
      have h := r.obj n a m e1 e2
      cases m with
      | dead => exact h
      | lst l2 =>
        obtain ⟨p, ws, e, q⟩ := h
        exact ⟨p, ws, e, RepL.ext _ _ _ q⟩
      | ins c fs =>
        obtain ⟨p, dx, ws, e, z, q⟩ := h
        exact ⟨p, dx, ws, e, z, RepL.ext _ _ _ q⟩
    · have hn1 : n < (ι ++ [D]).length := (List.getElem?_eq_some_iff.mp e1).1
      have hn2 : n = ι.length := by simp at hn1; omega
      subst hn2
      rw [List.getElem?_append_right (Nat.le_refl _)] at e1
      simp at e1
      rw [r.len, List.getElem?_append_right (Nat.le_refl _)] at e2
      simp at e2
      subst e1 e2
      exact ⟨hD, vs, hH, RepL.ext _ _ _ rl⟩
  · rcases List.mem_append.mp q with q | q
    · exact r.inn a q
    · simp at q; subst q; exact ⟨_, hH⟩
end
abbrev W0 : WX := fun _ _ _ _ => False
def sameOff (own : List Nat) : L2.St → L2.St → Prop := fun σ σ' => wipe σ' own = wipe σ own
theorem wipe_get {σ : L2.St} {own : List Nat} (i : Nat) : (wipe σ own)[i]? = if i ∈ own then (if i < σ.length then some none else none) else σ[i]? := by
  induction own with
  | nil => simp [wipe]
  | cons v vs ih =>
    unfold wipe
    rw [List.getElem?_set]
    by_cases h : v = i
    · subst h
      rw [if_pos rfl, wipe_length, if_pos (show v ∈ v :: vs from List.mem_cons_self ..)]
    · rw [if_neg h, ih]
      have : (i ∈ v :: vs) ↔ i ∈ vs := by simp [Ne.symm h]
      by_cases q : i ∈ vs
      · rw [if_pos q, if_pos (this.mpr q)]
      · rw [if_neg q, if_neg (fun z => q (this.mp z))]
theorem sameOff_set {own : List Nat} {i : Nat} (hi : i ∈ own) (σ : L2.St) (v : V) : sameOff own σ (σ.set i (some v)) := by
  unfold sameOff
  apply List.ext_getElem?
  intro j
  rw [wipe_get, wipe_get, List.length_set]
  by_cases h : j ∈ own
  · rw [if_pos h, if_pos h]
  · rw [if_neg h, if_neg h, List.getElem?_set_ne (show i ≠ j from fun z => h (z ▸ hi))]
theorem wipeE_eq {e : Ev} {own : List Nat} (i : Nat) : (wipeE e own)[i]? = if i ∈ own then (if i < e.length then some none else none) else e[i]? := by
  induction own with
  | nil => simp [wipeE]
  | cons v vs ih =>
    unfold wipeE
    rw [List.getElem?_set]
    have hl : ∀ (vs : List Nat), (wipeE e vs).length = e.length := by
      intro vs
      induction vs with
      | nil => rfl
      | cons v vs ih => unfold wipeE; rw [List.length_set, ih]
    by_cases h : v = i
    · subst h
      rw [if_pos rfl, hl, if_pos (show v ∈ v :: vs from List.mem_cons_self ..)]
    · rw [if_neg h, ih]
      have : (i ∈ v :: vs) ↔ i ∈ vs := by simp [Ne.symm h]
      by_cases q : i ∈ vs
      · rw [if_pos q, if_pos (this.mpr q)]
      · rw [if_neg q, if_neg (fun z => q (this.mp z))]
theorem wipeE_len {e : Ev} : ∀ (vs : List Nat), (wipeE e vs).length = e.length
  | [] => rfl
  | v :: vs => by unfold wipeE; rw [List.length_set, wipeE_len vs]
section
variable {T : Tb} {W : WX} {Φ Φ1 : Addr → Prop} {ι ι1 : List Addr} {σ : L2.St} {H H1 : Hp} {env : Ev} {M M1 : List MO}
theorem Agree.wipe (a : Agree T Φ ι σ H env M) (g : Grow Φ ι H Φ1 ι1 H1) (r : HR T Φ1 ι1 H1 M1) (own : List Nat) : Agree T Φ1 ι1 (L2.wipe σ own) H1 (wipeE env own) M1 := by
  refine ⟨r, fun i d e => ?_, by rw [wipeE_len, wipe_length, a.len]⟩
  rw [wipeE_eq] at e
  split at e
  · split at e <;> cases e
  · rename_i h
    obtain ⟨v, e1, r1⟩ := a.ev i d e
    exact ⟨v, by rw [wipe_get, if_neg h]; exact e1, r1.grow g⟩
end
section
variable {T : Tb} {md : Md} {N : List Str} {γ : Gm} {k : Nat} {W : WX} {sc : Sc} {X : Cx} {σ : L2.St}
theorem Cok.block (h : Cok T md N γ k W sc blk X) {scope : Scope} {own : List (Str × Nat)} (ok : BlkOk N X.env.scope scope own) (s : Shared) (H : Hp) (C : Addr) (cl : List (Str × Addr)) (fp : List Addr) :
    Cok T md N γ k W0 (relab sc scope.names) true (X.blk s H scope (compEnvC scope cl C X.env) fp) where
  n := h.n
  nd := h.nd
  sc := by
    show (scope.names.map fun (n, k) => if (k == .free && X.env.scope.kind == .function && X.env.kindOf n == some .cell) then (n, .cell) else (n, k)) = relab sc scope.names
    unfold relab
    apply List.map_congr_left
    intro p _
    have e1 : X.env.scope.kind = .function := h.kind
    have e2 : X.env.kindOf p.1 = sc.lookup p.1 := by rw [← h.sc]; rfl
    show (if (p.2 == .free && X.env.scope.kind == .function && X.env.kindOf p.1 == some .cell) = true then (p.1, NameKind.cell) else (p.1, p.2)) = if (p.2 == .free && sc.lookup p.1 == some .cell) = true then (p.1, NameKind.cell) else (p.1, p.2)
    rw [e1, e2]
    have e3 : (ScopeKind.function == ScopeKind.function) = true := rfl
    rw [e3, Bool.and_true]
  kind := ok.kind
  fn := fun z => Bool.noConfusion z
  calm := h.calm
  K := h.K
  room := h.room
  ms := h.ms
  pass := fun σ pins H s e s' I c => by
    obtain ⟨a, B, H', cls, d, _, _, _, _, _, _, _, z⟩ := c
    exact z.elim
/-- the turns of a comprehension -/
def lcTurn (γ : Gm) (own : List Nat) (g : RG) (cond : RO) (elt : RE) (e : Ev) (x : D) (M : List MO) : R (Option D) :=
  ((asg γ g x (wipeE e own) M).bind fun e1 M => (evC γ cond e1 M).bind fun k M => if k then (ev γ elt e1 M).bind fun d M => .ok (some d) M else .ok none M).calm
theorem lc_snd {mu : Bool} {own : List Nat} {g : RG} {it : RI} {cond : RO} {elt : RE} {H : Hp} {Q : VK} (q : tE T W (ev γ (.lc mu own g it cond elt)) σ H Q) :
    tLc (iG T W (evI γ it)) (gG T W0 (sameOff own) (asg γ g)) (tT T W0 (evC γ cond)) (tE T W0 (ev γ elt)) own σ H Q := by
  obtain ⟨env, q⟩ := q
  refine ⟨env, (Hold.bind (rep := repI T) (g := fun w e M => lcLoop mu w.1 (lcTurn γ own g cond elt e) w.2 [] M) q).mono fun J H1 ⟨w, Φ, ι, M, ag, _, hw, p⟩ => ?_⟩
  intro D hD
  refine ⟨fun i m H' => m = w.2.length - i ∧ i ≤ w.2.length ∧ ∃ Φ' ι' M' acc vs, Grow Φ ι H1 Φ' ι' H' ∧ HR T Φ' ι' H' M' ∧ Φ' D ∧ D ∉ ι' ∧ H' D = some (.lst vs) ∧ RepL T Φ' ι' H' acc vs ∧
    Post T (repD T) W Φ ι σ H1 Q (lcLoop mu w.1 (lcTurn γ own g cond elt env) (w.2.drop i) acc M'), ⟨_, rfl, Nat.zero_le _, addP Φ D, ι, M, [], [], Grow.hid hD, ag.hr.hid hD, .inr rfl, ag.hr.notin hD, upd_same, rfl, p⟩, ?_⟩
  rintro i m H2 ⟨rfl, hi, Φ2, ι2, M2, acc, vs, g2, r2, hΦ, hι, hH, ra, p⟩
  by_cases hlt : i < w.2.length
  · refine .inr ?_
    have ed : w.2.drop i = w.2[i] :: w.2.drop (i + 1) := List.drop_eq_getElem_cons hlt
    rw [ed] at p
    unfold lcLoop at p
    obtain ⟨h1, p⟩ := when_ok p
    simp only [Bool.and_eq_true, decide_eq_true_eq] at h1
    obtain ⟨go, yl⟩ := hw.go Φ2 ι2 H2 M2 i w.2[i] g2 r2 h1.1 (List.getElem?_eq_getElem hlt)
    refine ⟨go, fun H' => ∃ Φ' ι' M' acc vs, Grow Φ ι H1 Φ' ι' H' ∧ HR T Φ' ι' H' M' ∧ Φ' D ∧ D ∉ ι' ∧ H' D = some (.lst vs) ∧ RepL T Φ' ι' H' acc vs ∧
      Post T (repD T) W Φ ι σ H1 Q (lcLoop mu w.1 (lcTurn γ own g cond elt env) (w.2.drop (i + 1)) acc M'), fun H' n => ⟨_, by omega, rfl, hlt, n⟩, fun x H3 y => ?_⟩
    obtain ⟨g3, r3, rx⟩ := yl x H3 y
    -- the turn
    have p : Post T (repD T) W Φ ι σ H1 Q ((lcTurn γ own g cond elt env w.2[i] M2).bind fun o M1 => match o with
      | some y => lcLoop mu w.1 (lcTurn γ own g cond elt env) (w.2.drop (i + 1)) (acc ++ [y]) M1
      | none => lcLoop mu w.1 (lcTurn γ own g cond elt env) (w.2.drop (i + 1)) acc M1) := p
    cases e1 : asg γ g w.2[i] (wipeE env own) M2 with
    | err x M3 =>
      have : lcTurn γ own g cond elt env w.2[i] M2 = .bad := by unfold lcTurn; rw [e1]; rfl
      rw [this] at p
      exact p.elim
    | bad =>
      have : lcTurn γ own g cond elt env w.2[i] M2 = .bad := by unfold lcTurn; rw [e1]; rfl
      rw [this] at p
      exact p.elim
    | ok en M3 =>
      refine ⟨wipeE env own, Φ2, ι2, M2, w.2[i], ag.wipe (g2.trans g3) r3 own, rx, ?_⟩
      rw [e1]
      intro σ4 Φ4 ι4 H4 g4 ag4 so
      refine ⟨by
        have : L2.wipe σ4 own = L2.wipe (L2.wipe σ own) own := so
        rw [this]
        apply List.ext_getElem?
        intro j
        rw [wipe_get, wipe_get, wipe_length]
        by_cases z : j ∈ own
        · rw [if_pos z, if_pos z]
        · rw [if_neg z, if_neg z], en, Φ4, ι4, M3, ag4, Held.nil, ?_⟩
      have hΦ4 : Φ4 D := (g3.trans g4).own D _ hH hΦ hι
      have hι4 : D ∉ ι4 := (g3.trans g4).notin hH hι
      have hH4 : H4 D = some (.lst vs) := (g3.trans g4).keep D _ hH (.inr hι)
      cases e2 : evC γ cond en M3 with
      | err x M4 =>
        have : lcTurn γ own g cond elt env w.2[i] M2 = .bad := by
          unfold lcTurn
          rw [e1]
          show ((evC γ cond en M3).bind _).calm = .bad
          rw [e2]
          rfl
        rw [this] at p
        exact p.elim
      | bad =>
        have : lcTurn γ own g cond elt env w.2[i] M2 = .bad := by
          unfold lcTurn
          rw [e1]
          show ((evC γ cond en M3).bind _).calm = .bad
          rw [e2]
          rfl
        rw [this] at p
        exact p.elim
      | ok kb M4 =>
        intro b Φ5 ι5 H5 g5 r5 eb
        have eb : kb = b := eb
        subst eb
        have hΦ5 : Φ5 D := g5.own D _ hH4 hΦ4 hι4
        have hι5 : D ∉ ι5 := g5.notin hH4 hι4
        have hH5 : H5 D = some (.lst vs) := g5.keep D _ hH4 (.inr hι4)
        cases kb with
        | false =>
          rw [if_neg Bool.false_ne_true]
          have : lcTurn γ own g cond elt env w.2[i] M2 = .ok none M4 := by
            unfold lcTurn
            rw [e1]
            show ((evC γ cond en M3).bind _).calm = _
            rw [e2]
            rfl
          rw [this] at p
          exact ⟨Φ5, ι5, M4, acc, vs, ((g2.trans g3).trans g4).trans g5, r5, hΦ5, hι5, hH5, RepL.grow ((g3.trans g4).trans g5) _ _ ra, p⟩
        | true =>
          rw [if_pos rfl]
          refine ⟨en, Φ5, ι5, M4, ag4.grow g5 r5, Held.nil, ?_⟩
          cases e3 : ev γ elt en M4 with
          | err x M5 =>
            have : lcTurn γ own g cond elt env w.2[i] M2 = .bad := by
              unfold lcTurn
              rw [e1]
              show ((evC γ cond en M3).bind _).calm = .bad
              rw [e2]
              show ((ev γ elt en M4).bind _).calm = .bad
              rw [e3]
              rfl
            rw [this] at p
            exact p.elim
          | bad =>
            have : lcTurn γ own g cond elt env w.2[i] M2 = .bad := by
              unfold lcTurn
              rw [e1]
              show ((evC γ cond en M3).bind _).calm = .bad
              rw [e2]
              show ((ev γ elt en M4).bind _).calm = .bad
              rw [e3]
              rfl
            rw [this] at p
            exact p.elim
          | ok d M5 =>
            have : lcTurn γ own g cond elt env w.2[i] M2 = .ok (some d) M5 := by
              unfold lcTurn
              rw [e1]
              show ((evC γ cond en M3).bind _).calm = _
              rw [e2]
              show ((ev γ elt en M4).bind _).calm = _
              rw [e3]
              rfl
            rw [this] at p
            intro v Φ6 ι6 H6 g6 r6 rv
            have hΦ6 : Φ6 D := g6.own D _ hH5 hΦ5 hι5
            have hι6 : D ∉ ι6 := g6.notin hH5 hι5
            have hH6 : H6 D = some (.lst vs) := g6.keep D _ hH5 (.inr hι5)
            have ga := ((g3.trans g4).trans g5).trans g6
            refine ⟨vs, hH6, by rw [ra.length]; exact h1.2, Φ6, ι6, M5, acc ++ [d], vs ++ [v], (g2.trans ga).put hD, r6.put hΦ6 hι6, hΦ6, hι6, upd_same, ?_, p⟩
            exact RepL.move (put_k hΦ6) (fun _ _ _ z => z) _ _ ((RepL.grow ga _ _ ra).app (RepL.one rv))
  · refine .inl ?_
    have hi' : i = w.2.length := by omega
    subst hi'
    rw [List.drop_length] at p
    unfold lcLoop at p
    obtain ⟨h1, p⟩ := when_ok p
    refine ⟨hw.stop Φ2 ι2 H2 M2 g2 r2 h1, ?_⟩
    unfold lcEnd at p
    cases mu with
    | false =>
      rw [if_neg Bool.false_ne_true] at p
      exact p.fin (g2.show hD) (r2.show hι) ⟨D, vs, rfl, ⟨hH, fun z => z.2 rfl⟩, RepL.move (fun _ _ e _ => e) (fun _ _ _ n z => n z.1) _ _ ra⟩
    | true =>
      rw [if_pos rfl] at p
      exact p.fin (g2.keepD hD) (r2.keepD hΦ hι hH ra) ⟨D, by rw [← r2.len, List.getElem?_append_right (Nat.le_refl _), Nat.sub_self]; rfl, rfl⟩
end
end TF

/-! What is checked runs as told: expressions. -/
namespace TF
open PySem PySem.Spec PyProof.Rows L2
def SO : Option (List Nat) → L2.St → L2.St → Prop
  | none => fun _ _ => True
  | some own => sameOff own
def gOk (o : Option (List Nat)) (g : RG) : Bool := match o with
  | none => true
  | some own => gIn own g
def gsOk (o : Option (List Nat)) (g : RGs) : Bool := match o with
  | none => true
  | some own => gsIn own g
theorem SO.rfl {o : Option (List Nat)} (σ : L2.St) : SO o σ σ := by
  cases o with
  | none => trivial
  | some own => exact Eq.refl _
theorem SO.tr {o : Option (List Nat)} (σ1 σ2 σ3 : L2.St) (h : SO o σ1 σ2) (k : SO o σ2 σ3) : SO o σ1 σ3 := by
  cases o with
  | none => trivial
  | some own => exact Eq.trans k h
/-- a test of a value -/
abbrev tst (c : EV D) : EV Bool := fun e M => (c e M).bind fun d M => R.of (trB M d) M
theorem pe_bad {T : Tb} {W : WX} {X : Cx} {e : Expr} {c : EV D} (h : ∀ e M, c e M = .bad) : PE X e (tE T W c) := ⟨fun pins s σ H Q I ⟨env, Φ, ι, M, ag, hp, p⟩ => by rw [h] at p; exact p.elim⟩
theorem pw_bad {T : Tb} {W : WX} {X : Cx} {e : Expr} {c : EV Bool} (h : ∀ e M, c e M = .bad) : PW X e (tT T W c) := ⟨fun wh pins s σ H Q I ⟨env, Φ, ι, M, ag, hp, p⟩ => by rw [h] at p; exact p.elim⟩
theorem xName_nostar {e : Expr} {x : Str} (h : xName e = some x) : isStar e = false := by
  obtain ⟨p, rfl⟩ := xName_eq h
  rfl
section
variable {T : Tb} {md : Md} {N : List Str} {γ : Gm} {k : Nat}
/-- all that is told of an expression -/
structure ESnd (T : Tb) (γ : Gm) (W : WX) (X : Cx) (r : RE) (e : Expr) : Prop where
  pe : PE X e (tE T W (ev γ r))
  pt : PT X e (tT T W (tst (ev γ r)))
structure EsSnd (T : Tb) (γ : Gm) (W : WX) (X : Cx) (rs : REs) (l : List Expr) : Prop where
  a : l.any isStar = false → PA X l (tA T W (evs γ rs))
  and : ∀ pos, PE X (.BoolOp .And l pos) (tE T W (evAnd γ rs))
  or : ∀ pos, PE X (.BoolOp .Or l pos) (tE T W (evOr γ rs))
  wand : ∀ pos, PW X (.BoolOp .And l pos) (tT T W (tst (evAnd γ rs)))
  wor : ∀ pos, PW X (.BoolOp .Or l pos) (tT T W (tst (evOr γ rs)))
  js : PJ X l (tsOf T W γ rs)
  one : ∀ y, l = [y] → ∃ r, rs = .cons r .nil ∧ PE X y (tE T W (ev γ r))
structure OSnd (T : Tb) (md : Md) (N : List Str) (γ : Gm) (W : WX) (X : Cx) (sc : Sc) (o : RO) : Prop where
  po : ∀ oe, cko md N o sc oe = true → PO X oe (tO T W (evO γ o))
  pn : o = .none → PTs X [] (tT T W (evC γ o))
  pc : ∀ c y, o = .some c → ck md N c sc y = true → PTs X [y] (tT T W (evC γ o))
theorem plainE {W : WX} {X : Cx} {sc : Sc} {blk : Bool} {r : RE} {e : Expr} (C : Cok T md N γ k W sc blk X) (he : PE X e (tE T W (ev γ r))) (hp : isParts e = false) : ESnd T γ W X r e := ⟨he, t_val C he hp⟩
mutual
theorem e_snd : ∀ (r : RE) (X : Cx) (W : WX) (sc : Sc) (blk : Bool) (e : Expr), Cok T md N γ k W sc blk X → ck md N r sc e = true → ESnd T γ W X r e
  | .v i, X, W, sc, blk, e, C, h => by
    simp only [ck] at h
    split at h
    · rename_i x e1
      obtain ⟨p, rfl⟩ := xName_eq e1
      exact plainE C (x_var C h) rfl
    · cases h
  | .c c, X, W, sc, blk, e, C, h => by
    simp only [ck] at h
    split at h
    · rename_i x e1
      obtain ⟨kd, p, rfl⟩ := xCon_eq e1
      have h := of_decide_eq_true h
      subst h
      exact plainE C (x_con (j := none)) rfl
    · cases h
  | .neg a, X, W, sc, blk, e, C, h => by
    simp only [ck] at h
    split at h
    · rename_i b e1
      obtain ⟨p, rfl⟩ := xUn_eq e1
      exact plainE C (x_neg (e_snd a X W sc blk b C h).pe) rfl
    · cases h
  | .g x c, X, W, sc, blk, e, C, h => by
    simp only [ck] at h
    split at h
    · rename_i y e1
      simp only [Bool.and_eq_true, decide_eq_true_eq] at h
      obtain ⟨p, rfl⟩ := xName_eq e1
      obtain ⟨rfl, h1, h2⟩ := h
      exact plainE C (x_glo C h1 h2) rfl
    · cases h
  | .op o a b, X, W, sc, blk, e, C, h => by
    simp only [ck] at h
    split at h
    · rename_i l p r e1
      simp only [Bool.and_eq_true, decide_eq_true_eq] at h
      obtain ⟨p1, rfl⟩ := xBin_eq e1
      obtain ⟨rfl, h1, h2⟩ := h
      exact plainE C (x_op C o (e_snd a X W sc blk l C h1).pe (e_snd b X W sc blk r C h2).pe) rfl
    · cases h
  | .cmp o a b, X, W, sc, blk, e, C, h => by
    simp only [ck] at h
    split at h
    · rename_i l p r e1
      simp only [Bool.and_eq_true, decide_eq_true_eq, Bool.not_eq_true'] at h
      obtain ⟨p1, rfl⟩ := xCmp_eq e1
      obtain ⟨rfl, h0, h1, h2⟩ := h
      exact ⟨x_cmp C o (e_snd a X W sc blk l C h1).pe (e_snd b X W sc blk r C h2).pe h0, t_cmp C o (e_snd a X W sc blk l C h1).pe (e_snd b X W sc blk r C h2).pe h0⟩
    · cases h
  | .chain o o' a b c, X, W, sc, blk, e, C, h => by
    simp only [ck] at h
    split at h
    · rename_i l p m p' r e1
      simp only [Bool.and_eq_true, decide_eq_true_eq, Bool.not_eq_true'] at h
      obtain ⟨p1, rfl⟩ := xCmp2_eq e1
      obtain ⟨rfl, rfl, h0, h1, h2, h3⟩ := h
      exact ⟨x_chain C o o' (e_snd a X W sc blk l C h1).pe (e_snd b X W sc blk m C h2).pe (e_snd c X W sc blk r C h3).pe h0, t_chain C o o' (e_snd a X W sc blk l C h1).pe (e_snd b X W sc blk m C h2).pe (e_snd c X W sc blk r C h3).pe h0⟩
    · cases h
  | .bnd es, X, W, sc, blk, e, C, h => by
    simp only [ck] at h
    split at h
    · rename_i l e1
      obtain ⟨p, rfl⟩ := xBool_eq e1
      have q := es_snd es X W sc blk l C h
      exact ⟨q.and p, (q.wand p).pt⟩
    · cases h
  | .bor es, X, W, sc, blk, e, C, h => by
    simp only [ck] at h
    split at h
    · rename_i l e1
      obtain ⟨p, rfl⟩ := xBool_eq e1
      have q := es_snd es X W sc blk l C h
      exact ⟨q.or p, (q.wor p).pt⟩
    · cases h
  | .nt a, X, W, sc, blk, e, C, h => by
    simp only [ck] at h
    split at h
    · rename_i b e1
      obtain ⟨p, rfl⟩ := xUn_eq e1
      have q := e_snd a X W sc blk b C h
      exact ⟨x_nt C q.pe, t_nt q.pt⟩
    · cases h
  | .ife c a b, X, W, sc, blk, e, C, h => by
    simp only [ck] at h
    split at h
    · rename_i x y z e1
      simp only [Bool.and_eq_true] at h
      obtain ⟨p, rfl⟩ := xIf_eq e1
      have q1 := e_snd c X W sc blk x C h.1
      have q2 := e_snd a X W sc blk y C h.2.1
      have q3 := e_snd b X W sc blk z C h.2.2
      exact ⟨x_ife C q1.pt q2.pe q3.pe, t_ife q1.pt q2.pt q3.pt⟩
    · cases h
  | .tup es, X, W, sc, blk, e, C, h => by
    simp only [ck] at h
    split at h
    · rename_i l e1
      obtain ⟨kk, p, rfl⟩ := xTup_eq e1
      exact plainE C (x_tup (q_snd es X W sc blk l C h)) rfl
    · cases h
  | .lst es, X, W, sc, blk, e, C, h => by
    simp only [ck] at h
    split at h
    · rename_i l e1
      obtain ⟨p, rfl⟩ := xLst_eq e1
      exact plainE C (x_lst (q_snd es X W sc blk l C h)) rfl
    · cases h
  | .newl es, X, W, sc, blk, e, C, h => by
    simp only [ck] at h
    split at h
    · rename_i l e1
      simp only [Bool.and_eq_true, Bool.not_eq_true'] at h
      obtain ⟨p, rfl⟩ := xLst_eq e1
      exact plainE C (x_newl ((es_snd es X W sc blk l C h.1).a h.2)) rfl
    · cases h
  | .ix a i, X, W, sc, blk, e, C, h => by
    simp only [ck] at h
    split at h
    · rename_i l r e1
      simp only [Bool.and_eq_true, Bool.not_eq_true'] at h
      obtain ⟨p, rfl⟩ := xSub_eq e1
      exact plainE C (x_ix C (e_snd a X W sc blk l C h.2.1).pe (e_snd i X W sc blk r C h.2.2).pe h.1) rfl
    · cases h
  | .tix x t i, X, W, sc, blk, e, C, h => by
    simp only [ck] at h
    split at h
    · rename_i l r e1
      simp only [Bool.and_eq_true, decide_eq_true_eq, Bool.not_eq_true'] at h
      obtain ⟨p, rfl⟩ := xSub_eq e1
      obtain ⟨h1, h2, h3, h4, h5⟩ := h
      obtain ⟨p2, rfl⟩ := xName_eq h1
      exact plainE C (x_tix C h2 h3 (e_snd i X W sc blk r C h5).pe h4) rfl
    · cases h
  | .tin n a x t, X, W, sc, blk, e, C, h => by
    simp only [ck] at h
    split at h
    · rename_i l p r e1
      simp only [Bool.and_eq_true, decide_eq_true_eq] at h
      obtain ⟨p1, rfl⟩ := xCmp_eq e1
      obtain ⟨rfl, h1, h2, h3, h4⟩ := h
      obtain ⟨p2, rfl⟩ := xName_eq h1
      have q := e_snd a X W sc blk l C h4
      exact ⟨x_tin C n h2 h3 q.pe, t_tin C n h2 h3 q.pe⟩
    · cases h
  | .sl a lo hi, X, W, sc, blk, e, C, h => by
    simp only [ck] at h
    split at h
    · rename_i l r e1
      split at h
      · rename_i x y e2
        simp only [Bool.and_eq_true] at h
        obtain ⟨p, rfl⟩ := xSub_eq e1
        obtain ⟨p2, rfl⟩ := xSlice_eq e2
        exact plainE C (x_sl C (e_snd a X W sc blk l C h.1).pe ((o_snd lo X W sc blk C).po x h.2.1) ((o_snd hi X W sc blk C).po y h.2.2)) rfl
      · cases h
    · cases h
  | .rv a, X, W, sc, blk, e, C, h => by
    simp only [ck] at h
    split at h
    · rename_i l r e1
      split at h
      · rename_i s e2
        split at h
        · rename_i o e3
          simp only [Bool.and_eq_true, decide_eq_true_eq] at h
          obtain ⟨p, rfl⟩ := xSub_eq e1
          obtain ⟨p2, rfl⟩ := xSlice_eq e2
          obtain ⟨p3, rfl⟩ := xUn_eq e3
          obtain ⟨kd, p4, rfl⟩ := xCon_eq h.1
          exact plainE C (x_rv (kd := none) C (e_snd a X W sc blk l C h.2).pe) rfl
        · cases h
      · cases h
    · cases h
  | .call f es, X, W, sc, blk, e, C, h => by
    simp only [ck] at h
    split at h
    · rename_i x l e1
      simp only [Bool.and_eq_true, decide_eq_true_eq, Bool.not_eq_true'] at h
      obtain ⟨p, q, rfl⟩ := xCall_eq e1
      obtain ⟨h1, h2, h3, h4⟩ := h
      refine plainE C ?_ rfl
      cases l with
      | nil =>
        cases es with
        | nil => exact rdE (x_fn0 C h2 h1) fun σ H Q q => fn_call q
        | cons a as => cases h3
      | cons x xs => exact rdE (x_fn C h2 h1 h4 ((es_snd es X W sc blk _ C h3).a h4)) fun σ H Q q => fn_call q
    · cases h
  | .hcall f es, X, W, sc, blk, e, C, h => by
    simp only [ck] at h
    split at h
    · rename_i x l e1
      simp only [Bool.and_eq_true, decide_eq_true_eq, Bool.not_eq_true'] at h
      obtain ⟨p, q, rfl⟩ := xCall_eq e1
      obtain ⟨h1, h2, h3, h4⟩ := h
      refine plainE C ?_ rfl
      cases l with
      | nil =>
        cases es with
        | nil => exact rdE (x_fn0 C h2 h1) fun σ H Q q => fn_hcall q
        | cons a as => cases h3
      | cons x xs => exact rdE (x_fn C h2 h1 h4 ((es_snd es X W sc blk _ C h3).a h4)) fun σ H Q q => fn_hcall q
    · cases h
  | .bi b es, X, W, sc, blk, e, C, h => by
    simp only [ck] at h
    split at h
    · rename_i x l e1
      simp only [Bool.and_eq_true, decide_eq_true_eq, Bool.not_eq_true'] at h
      obtain ⟨p, q, rfl⟩ := xCall_eq e1
      obtain ⟨rfl, h2, h3, h4, h5, h6⟩ := h
      refine plainE C ?_ rfl
      cases l with
      | nil => cases h6
      | cons x xs => exact x_bi C b h2 h3 h5 ((es_snd es X W sc blk _ C h4).a h5)
    · cases h
  | .isi a t, X, W, sc, blk, e, C, h => by
    simp only [ck] at h
    split at h
    · rename_i x l r e1
      simp only [Bool.and_eq_true, decide_eq_true_eq, Bool.not_eq_true'] at h
      obtain ⟨p, q, rfl⟩ := xCall_eq e1
      obtain ⟨rfl, h2, h3, h4, h5, h6, h7, h8, h9⟩ := h
      obtain ⟨p2, rfl⟩ := xName_eq h6
      exact plainE C (x_isi C h2 h3 h5 (e_snd a X W sc blk l C h4).pe h7 h8 h9) rfl
    · cases h
  | .mt m a es, X, W, sc, blk, e, C, h => by
    simp only [ck] at h
    split at h
    · rename_i o x l e1
      simp only [Bool.and_eq_true, decide_eq_true_eq, Bool.not_eq_true'] at h
      obtain ⟨p, q, rfl, hl⟩ := xMeth_eq e1
      obtain ⟨rfl, h2, h3, h4, h5, h6⟩ := h
      refine plainE C ?_ rfl
      have qa := e_snd a X W sc blk o C h4
      have qs := es_snd es X W sc blk l C h5
      match l, h3 with
      | [y], _ =>
        obtain ⟨r, rfl, hr⟩ := qs.one y (Eq.refl _)
        have h6' : isStar y = false := by simpa using h6
        exact x_mt C m h2 hl h6' qa.pe hr
    · cases h
  | .mm m a es, X, W, sc, blk, e, C, h => by
    simp only [ck] at h
    split at h
    · rename_i o x l e1
      simp only [Bool.and_eq_true, decide_eq_true_eq, Bool.not_eq_true'] at h
      obtain ⟨p, q, rfl, hl⟩ := xMeth_eq e1
      obtain ⟨rfl, h2, h3, h4, h5, h6⟩ := h
      refine plainE C ?_ rfl
      cases l with
      | nil =>
        cases es with
        | nil => exact x_mm0 C m h2 hl (e_snd a X W sc blk o C h4).pe
        | cons r rs => cases h5
      | cons y ys => exact x_mm C m h2 hl h6 h3 (e_snd a X W sc blk o C h4).pe ((es_snd es X W sc blk _ C h5).a h6)
    · cases h
  | .lc mu own g it cond elt, X, W, sc, blk, e, C, h => by
    simp only [ck] at h
    split at h
    · rename_i x tg iter ifs s e1
      simp only [Bool.and_eq_true, decide_eq_true_eq, Bool.not_eq_true'] at h
      obtain ⟨p, rfl⟩ := xLc_eq e1
      obtain ⟨h1, h2, h3, h4, h5, h6, h7, h8⟩ := h
      refine plainE C ?_ rfl
      have hb : BlkOk N X.env.scope s (ownOf N own) := by
        have := blkOk_by h1
        exact ⟨this.kind, this.uniq, this.ix, by rw [C.sc]; exact this.free, this.own⟩
      have ho := fun s0 H0 C0 cl fp => o_snd cond _ W0 _ true (C.block hb s0 H0 C0 cl fp)
      have ht : ∀ (s0 : Shared) (H0 : Hp) (C0 : Addr) (cl : List (Str × Addr)) (fp : List Addr), PTs (X.blk s0 H0 s (compEnvC s cl C0 X.env) fp) ifs (tT T W0 (evC γ cond)) := fun s0 H0 C0 cl fp => by
        have ho1 := ho s0 H0 C0 cl fp
        clear ho
        match cond, ifs, h7, ho1 with
        | .none, [], _, ho1 => exact ho1.pn rfl
        | .some c, [y], h7, ho1 => exact ho1.pc c y rfl h7
      have hpe := pe_lc (pos := p) C.calm (by rw [C.n]; exact C.nd) (i_snd it X W sc blk tg iter C h3) (by rw [C.n]; exact hb)
        (fun s0 H0 C0 cl fp => g_snd g _ W0 _ true (some own) tg (C.block hb s0 H0 C0 cl fp) h5 h6)
        (fun s0 H0 C0 cl fp => ht s0 H0 C0 cl fp)
        (fun s0 H0 C0 cl fp => (e_snd elt _ W0 _ true x (C.block hb s0 H0 C0 cl fp) h8).pe)
        (fun y => fold_none h4)
      rw [h2] at hpe
      exact rdE hpe fun σ H Q q => lc_snd q
    · cases h
  | .fs es, X, W, sc, blk, e, C, h => by
    simp only [ck] at h
    split at h
    · rename_i a b l e1
      obtain ⟨p, rfl⟩ := xFs_eq e1
      exact plainE C (x_fs (es_snd es X W sc blk _ C h).js) rfl
    · cases h
  | .fmt a, X, W, sc, blk, e, C, h => by
    simp only [ck] at h
    split at h
    · rename_i x e1
      obtain ⟨p, rfl⟩ := xFmt_eq e1
      exact plainE C (x_fmt (e_snd a X W sc blk x C h).pe) rfl
    · cases h
  | .fz a, X, W, sc, blk, e, C, h => by
    simp only [ck, Bool.and_eq_true, Bool.not_eq_true'] at h
    exact plainE C (x_fz (e_snd a X W sc blk e C h.2).pe) h.1
theorem es_snd : ∀ (rs : REs) (X : Cx) (W : WX) (sc : Sc) (blk : Bool) (l : List Expr), Cok T md N γ k W sc blk X → cks md N rs sc l = true → EsSnd T γ W X rs l
  | .nil, X, W, sc, blk, l, C, h => by
    simp only [cks] at h
    cases l with
    | nil => exact ⟨fun _ => a_nil, fun _ => pe_bad fun _ _ => rfl, fun _ => pe_bad fun _ _ => rfl, fun _ => pw_bad fun _ _ => rfl, fun _ => pw_bad fun _ _ => rfl, .nil, fun y h => by cases h⟩
    | cons x xs => cases h
  | .cons r rs, X, W, sc, blk, l, C, h => by
    simp only [cks] at h
    cases l with
    | nil => cases h
    | cons x xs =>
      simp only [Bool.and_eq_true] at h
      have q := e_snd r X W sc blk x C h.1
      have qs := es_snd rs X W sc blk xs C h.2
      refine ⟨fun hs => ?_, fun pos => ?_, fun pos => ?_, fun pos => ?_, fun pos => ?_, .cons q.pe qs.js, fun y e => ?_⟩
      · have hs' : isStar x = false ∧ xs.any isStar = false := by simpa using hs
        exact a_cons hs'.1 q.pe (qs.a hs'.2)
      · cases rs with
        | nil =>
          cases xs with
          | nil => exact pe_one q.pe
          | cons y ys => exact absurd h.2 (by simp [cks])
        | cons r2 rs2 =>
          cases xs with
          | nil => exact absurd h.2 (by simp [cks])
          | cons y ys => exact x_and C q.pe (qs.and pos)
      · cases rs with
        | nil =>
          cases xs with
          | nil => exact pe_one q.pe
          | cons y ys => exact absurd h.2 (by simp [cks])
        | cons r2 rs2 =>
          cases xs with
          | nil => exact absurd h.2 (by simp [cks])
          | cons y ys => exact x_or C q.pe (qs.or pos)
      · cases rs with
        | nil =>
          cases xs with
          | nil => exact w_and1 q.pt
          | cons y ys => exact absurd h.2 (by simp [cks])
        | cons r2 rs2 =>
          cases xs with
          | nil => exact absurd h.2 (by simp [cks])
          | cons y ys => exact w_and q.pt (qs.wand pos)
      · cases rs with
        | nil =>
          cases xs with
          | nil => exact w_or1 q.pt
          | cons y ys => exact absurd h.2 (by simp [cks])
        | cons r2 rs2 =>
          cases xs with
          | nil => exact absurd h.2 (by simp [cks])
          | cons y ys => exact w_or q.pt (qs.wor pos)
      · cases e
        cases rs with
        | nil => exact ⟨r, rfl, q.pe⟩
        | cons r2 rs2 => exact absurd h.2 (by simp [cks])
theorem q_snd : ∀ (rs : RSq) (X : Cx) (W : WX) (sc : Sc) (blk : Bool) (l : List Expr), Cok T md N γ k W sc blk X → ckq md N rs sc l = true → PA X l (tA T W (evSq γ rs))
  | .nil, X, W, sc, blk, l, C, h => by
    simp only [ckq] at h
    cases l with
    | nil => exact a_nil
    | cons x xs => cases h
  | .cons star r rs, X, W, sc, blk, l, C, h => by
    simp only [ckq] at h
    cases l with
    | nil => cases h
    | cons x xs =>
      simp only [Bool.and_eq_true] at h
      have qs := q_snd rs X W sc blk xs C h.2
      cases star with
      | true =>
        have h1 := h.1
        simp only [if_true] at h1
        split at h1
        · rename_i y e1
          obtain ⟨p, rfl⟩ := xStar_eq e1
          exact a_star C (e_snd r X W sc blk y C h1).pe qs
        · cases h1
      | false =>
        have h1 := h.1
        simp only [Bool.false_eq_true, if_false, Bool.and_eq_true, Bool.not_eq_true'] at h1
        exact a_plain h1.1 (e_snd r X W sc blk x C h1.2).pe qs
theorem o_snd : ∀ (o : RO) (X : Cx) (W : WX) (sc : Sc) (blk : Bool), Cok T md N γ k W sc blk X → OSnd T md N γ W X sc o
  | .none, X, W, sc, blk, C => by
    refine ⟨fun oe h => ?_, fun _ => ?_, fun c y h => (by cases h)⟩
    · simp only [cko] at h
      cases oe with
      | none => exact o_none
      | some x => cases h
    · exact ⟨fun pins s σ H Q I ⟨env, Φ, ι, M, ag, hp, p⟩ => pts_nil.run pins s σ H Q I ((show Post T repB W Φ ι σ H Q (.ok true M) from p).fin0 ag.hr rfl)⟩
  | .some r, X, W, sc, blk, C => by
    refine ⟨fun oe h => ?_, fun h => (by cases h), fun c y e h => ?_⟩
    · simp only [cko] at h
      cases oe with
      | none => cases h
      | some x => exact o_some (e_snd r X W sc blk x C h).pe
    · cases e
      exact pts_one (e_snd r X W sc blk y C h).pt
theorem i_snd : ∀ (it : RI) (X : Cx) (W : WX) (sc : Sc) (blk : Bool) (tg e : Expr), Cok T md N γ k W sc blk X → ckI md N it sc tg e = true → PI X tg e (iG T W (evI γ it))
  | .it a, X, W, sc, blk, tg, e, C, h => by
    simp only [ckI, Bool.and_eq_true] at h
    exact i_it C (e_snd a X W sc blk e C h.2).pe
  | .rng1 a, X, W, sc, blk, tg, e, C, h => by
    simp only [ckI] at h
    split at h
    · rename_i x l e1
      simp only [Bool.and_eq_true, decide_eq_true_eq, Bool.not_eq_true'] at h
      obtain ⟨p, q, rfl⟩ := xCall_eq e1
      obtain ⟨rfl, h2, h3, h4, h5⟩ := h
      exact i_rng1 C h2 h3 h4 (e_snd a X W sc blk l C h5).pe
    · cases h
  | .rng2 a b, X, W, sc, blk, tg, e, C, h => by
    simp only [ckI] at h
    split at h
    · rename_i x l r e1
      simp only [Bool.and_eq_true, decide_eq_true_eq, Bool.not_eq_true'] at h
      obtain ⟨p, q, rfl⟩ := xCall_eq e1
      obtain ⟨rfl, h2, h3, h4, h5, h6, h7⟩ := h
      exact i_rng2 C h2 h3 h4 h5 (e_snd a X W sc blk l C h6).pe (e_snd b X W sc blk r C h7).pe
    · cases h
  | .enum a, X, W, sc, blk, tg, e, C, h => by
    simp only [ckI] at h
    split at h
    · rename_i x l e1
      simp only [Bool.and_eq_true, decide_eq_true_eq, Bool.not_eq_true'] at h
      obtain ⟨p, q, rfl⟩ := xCall_eq e1
      obtain ⟨rfl, h2, h3, h4, h5, h6⟩ := h
      obtain ⟨ts, ht⟩ := Option.isSome_iff_exists.mp h5
      obtain ⟨kk, tp, rfl⟩ := xTup_eq ht
      exact i_enum C h2 h3 h4 (e_snd a X W sc blk l C h6).pe
    · cases h
theorem g_snd : ∀ (g : RG) (X : Cx) (W : WX) (sc : Sc) (blk : Bool) (o : Option (List Nat)) (e : Expr), Cok T md N γ k W sc blk X → gOk o g = true → ckg md N g sc blk e = true → PG X e (gG T W (SO o) (asg γ g))
  | .nm i, X, W, sc, blk, o, e, C, ho, h => by
    simp only [ckg] at h
    split at h
    · rename_i x e1
      obtain ⟨p, rfl⟩ := xName_eq e1
      refine g_nm C h fun σ v => ?_
      cases o with
      | none => trivial
      | some own => exact sameOff_set (of_decide_eq_true ho) σ v
    · cases h
  | .tp gs, X, W, sc, blk, o, e, C, ho, h => by
    simp only [ckg] at h
    split at h
    · rename_i l e1
      simp only [Bool.and_eq_true, Bool.not_eq_true'] at h
      obtain ⟨kk, p, rfl⟩ := xTup_eq e1
      refine g_tp C h.2 (ckgs_len h.1) (gs_snd gs X W sc blk o l C ?_ h.2 h.1)
      cases o with
      | none => rfl
      | some own => exact ho
    · cases h
  | .ix a i, X, W, sc, blk, o, e, C, ho, h => by
    simp only [ckg] at h
    split at h
    · rename_i l r e1
      simp only [Bool.and_eq_true, Bool.not_eq_true'] at h
      obtain ⟨p, rfl⟩ := xSub_eq e1
      exact g_ix C (e_snd a X W sc blk l C h.2.1).pe (e_snd i X W sc blk r C h.2.2).pe h.1 fun σ => SO.rfl σ
    · cases h
theorem gs_snd : ∀ (gs : RGs) (X : Cx) (W : WX) (sc : Sc) (blk : Bool) (o : Option (List Nat)) (l : List Expr), Cok T md N γ k W sc blk X → gsOk o gs = true → l.any isStar = false → ckgs md N gs sc blk l = true → PGs X l (gGs T (SO o) (asgsL γ gs))
  | .nil, X, W, sc, blk, o, l, C, ho, hs, h => by
    simp only [ckgs] at h
    cases l with
    | nil => exact gs_nil fun σ => SO.rfl σ
    | cons x xs => cases h
  | .cons g gs, X, W, sc, blk, o, l, C, ho, hs, h => by
    simp only [ckgs] at h
    cases l with
    | nil => cases h
    | cons x xs =>
      simp only [Bool.and_eq_true] at h
      have hs' : isStar x = false ∧ xs.any isStar = false := by simpa using hs
      have ho' : gOk o g = true ∧ gsOk o gs = true := by
        cases o with
        | none => exact ⟨rfl, rfl⟩
        | some own =>
          have : (gIn own g && gsIn own gs) = true := ho
          rw [Bool.and_eq_true] at this
          exact this
      exact gs_cons (W := W) (fun a b c p q => SO.tr a b c p q) hs'.1 (g_snd g X W sc blk o x C ho'.1 h.1) (gs_snd gs X W sc blk o xs C ho'.2 hs'.2 h.2)
end
end
end TF

/-! What is checked runs as told: statements. -/
namespace TF
open PySem PySem.Spec PyProof.Rows L2
section
variable {T : Tb} {md : Md} {N : List Str} {γ : Gm} {k : Nat} {W : WX} {sc : Sc} {X : Cx} {e : Expr} {pos p0 : Pos} {r : RE}
theorem swap_no (h : Cok T md N γ k W sc false X) {v : Expr} {y : Str} {p : Pos} {l : Nat} (hs : swapB sc v y p = false) (hc : isComp v = false ∨ (xLc v).isSome = true) : swapsWith v (some (.Name y p)) l X.env = pure false := by
  cases v with
  | ListComp elt gs s q =>
    have hb : X.env.blockKind = .function := by
      unfold Env.blockKind
      rw [h.kind]
      rfl
    have hk : X.env.kindOf y = sc.lookup y := by rw [← h.sc]; rfl
    have hs : (decide (sc.lookup y = some .local) && ((p.line == q.line) && !(s.names.any fun (n, k) => n == y && (k == .local || k == .cell)))) = false := hs
    unfold swapsWith
    simp only [hb, hk, Expr.pos]
    refine congrArg pure ?_
    by_cases e1 : sc.lookup y = some .local
    · rw [decide_eq_true e1, Bool.true_and] at hs
      rw [e1]
      have hs2 : ((p.line == q.line) && !(s.names.any fun (n, k) => n == y && (k == .local || k == .cell))) = false := hs
      show (true && true && (p.line == q.line) && !(s.names.any fun (n, k) => n == y && (k == .local || k == .cell))) = false
      rw [Bool.true_and, Bool.true_and]
      exact hs2
    · have e2 : (sc.lookup y == some .local) = false := by
        cases e3 : sc.lookup y with
        | none => rfl
        | some kd =>
          rw [e3] at e1
          cases kd <;> first | rfl | exact absurd rfl e1
      rw [e2]
      rfl
  | SetComp => rcases hc with hc | hc <;> cases hc
  | DictComp => rcases hc with hc | hc <;> cases hc
  | _ => rfl
/-- a store that is none of the swapped ones -/
def okStore (g : RG) (sc : Sc) (v t : Expr) : Bool := match t with
  | .Name y p => !swapB sc v y p && (!isComp v || (xLc v).isSome)
  | .Tuple _ _ _ => (xTup v).isNone && !isComp v
  | _ => !isComp v
theorem swap_plain {v : Expr} {o : Option Expr} {l : Nat} {env : Env} (hc : isComp v = false) : swapsWith v o l env = pure false := by
  cases v <;> first | rfl | cases hc
theorem swapped_none {t v : Expr} {env : Env} (h : (∃ y p, t = .Name y p) ∨ (∃ a b p, t = .Subscript a b p) ∨ (xTup v).isNone = true) (hl : ∀ es p, t ≠ .List es p) : swappedStores [t] v env = pure none := by
  unfold swappedStores
  rcases h with ⟨y, p, rfl⟩ | ⟨a, b, p, rfl⟩ | h
  · cases v <;> rfl
  · cases v <;> rfl
  · cases v <;> first | (cases h; done) | skip
    all_goals (cases t <;> first | rfl | exact absurd rfl (hl _ _))
theorem ag_hr {Φ Φ' : Addr → Prop} {ι ι' : List Addr} {H H' : Hp} {σ : L2.St} {env : Ev} {M M' : List MO} (a : Agree T Φ ι σ H env M) (g : Grow Φ ι H Φ' ι' H') (r : HR T Φ' ι' H' M') : Agree T Φ' ι' σ H' env M' := a.grow g r
theorem asg_read {ca : EV D} {g : RG} {D0 : Ends} {σ : L2.St} {H : Hp} (q : tS T W (fun e M => exS (ca e M) e fun d M => exS (asg γ g d e M) e fun e M => .nx e M) D0 σ H) : tAsg (tE T W ca) (gG T W (SO none) (asg γ g)) D0 σ H := by
  obtain ⟨env, q⟩ := tS.bind (rep := repD T) (g := fun d e M => exS (asg γ g d e M) e fun e M => .nx e M) q
  refine ⟨env, q.mono fun x H1 ⟨d, Φ, ι, M, ag, rd, p⟩ => ⟨env, Φ, ι, M, d, ag, rd, ?_⟩⟩
  cases e : asg γ g d env M with
  | ok e2 M2 =>
    rw [e] at p
    intro σ' Φ' ι' H' g' ag' _
    exact p σ' Φ' ι' H' g' ag'
  | err x M2 =>
    rw [e] at p
    intro c dx Φ' ι' H' g' r' rx
    exact p c dx σ Φ' ι' H' g' (ag.grow g' r') rx
  | bad => rw [e] at p; exact p.elim
theorem s_set (h : Cok T md N γ k W sc false X) {g : RG} {v t : Expr} (hv : ck md N r sc v = true) (hg : ckg md N g sc false t = true) (hs : okStore g sc v t = true) : PS X (.Assign [t] v pos) (tS T W (ex γ (.set g r))) := by
  have he := (e_snd (T := T) (γ := γ) (k := k) r X W sc false v h hv).pe
  have hp := g_snd (T := T) (γ := γ) (k := k) g X W sc false none t h rfl hg
  refine rdS (t := tAsg (tE T W (ev γ r)) (gG T W (SO none) (asg γ g))) ?_ fun D0 σ H q => asg_read q
  cases t with
  | Name y p =>
    have hs : (!swapB sc v y p && (!isComp v || (xLc v).isSome)) = true := hs
    simp only [Bool.and_eq_true, Bool.not_eq_true', Bool.or_eq_true] at hs
    exact ps_asg (pos := pos) he hp (show swapsWith v (some (.Name y p)) pos.line X.env = pure false from swap_no h hs.1 hs.2) (swapped_none (.inl ⟨_, _, rfl⟩) fun _ _ z => by cases z) rfl
  | Tuple es kk p =>
    have hs : ((xTup v).isNone && !isComp v) = true := hs
    simp only [Bool.and_eq_true, Bool.not_eq_true'] at hs
    exact ps_asg (pos := pos) he hp (show swapsWith v (some (.Tuple es kk p)) pos.line X.env = pure false from swap_plain hs.2) (swapped_none (.inr (.inr hs.1)) fun _ _ z => by cases z) rfl
  | Subscript a b p =>
    have hs : (!isComp v) = true := hs
    simp only [Bool.not_eq_true'] at hs
    exact ps_asg (pos := pos) he hp (show swapsWith v (some (.Subscript a b p)) pos.line X.env = pure false from swap_plain hs) (swapped_none (.inr (.inl ⟨_, _, _, rfl⟩)) fun _ _ z => by cases z) rfl
  | _ => cases g <;> (simp only [ckg] at hg; first | (cases hg; done) | skip)
theorem s_setlc (h : Cok T md N γ k W sc false X) {mu : Bool} {own : List Nat} {g : RG} {it : RI} {cond : RO} {elt : RE} {i : Nat} {y : Str} {p : Pos} {v : Expr} (hy : N[i]? = some y) (hs : swapB sc v y p = true) (hv : ck md N (.lc mu own g it cond elt) sc v = true) :
    PS X (.Assign [.Name y p] v pos) (tS T W (ex γ (.setlc i (.lc mu own g it cond elt)))) := by
  simp only [ck] at hv
  split at hv
  · rename_i x tg iter ifs s e1
    simp only [Bool.and_eq_true, decide_eq_true_eq, Bool.not_eq_true'] at hv
    obtain ⟨lp, rfl⟩ := xLc_eq e1
    obtain ⟨h1, h2, h3, h4, h5, h6, h7, h8⟩ := hv
    have hs : (decide (sc.lookup y = some .local) && ((p.line == lp.line) && !(s.names.any fun (n, k) => n == y && (k == .local || k == .cell)))) = true := hs
    simp only [Bool.and_eq_true, decide_eq_true_eq, Bool.not_eq_true'] at hs
    obtain ⟨s1, s2, s3⟩ := hs
    have hb : BlkOk N X.env.scope s (ownOf N own) := by
      have := blkOk_by h1
      exact ⟨this.kind, this.uniq, this.ix, by rw [h.sc]; exact this.free, this.own⟩
    have ho := fun s0 H0 C0 cl fp => o_snd (T := T) (γ := γ) (k := k) cond _ W0 _ true (h.block hb s0 H0 C0 cl fp)
    have ht : ∀ (s0 : Shared) (H0 : Hp) (C0 : Addr) (cl : List (Str × Addr)) (fp : List Addr), PTs (X.blk s0 H0 s (compEnvC s cl C0 X.env) fp) ifs (tT T W0 (evC γ cond)) := fun s0 H0 C0 cl fp => by
      have ho1 := ho s0 H0 C0 cl fp
      clear ho
      match cond, ifs, h7, ho1 with
      | .none, [], _, ho1 => exact ho1.pn rfl
      | .some c, [y], h7, ho1 => exact ho1.pc c y rfl h7
    have hyl : X.env.scope.names.lookup y = some .local := by rw [h.sc]; exact s1
    have hps := ps_setLc (spos := pos) (py := p) (pos := lp) h.calm (by rw [h.n]; exact h.nd) (by rw [h.n]; exact hy) hyl (sw_true h.kind hyl s2 s3) (i_snd (T := T) (γ := γ) (k := k) it X W sc false tg iter h h3) (by rw [h.n]; exact hb)
      (fun s0 H0 C0 cl fp => g_snd (T := T) (γ := γ) (k := k) g _ W0 _ true (some own) tg (h.block hb s0 H0 C0 cl fp) h5 h6) ht
      (fun s0 H0 C0 cl fp => (e_snd (T := T) (γ := γ) (k := k) elt _ W0 _ true x (h.block hb s0 H0 C0 cl fp) h8).pe)
      (fun y => fold_none h4)
    rw [h2] at hps
    refine rdS hps fun D0 σ H q => ?_
    obtain ⟨env, q⟩ := tS.bind (rep := repD T) (g := fun d e M => .nx (e.set i (some d)) M) q
    exact lc_snd ⟨env, q.mono fun x H1 ⟨d, Φ, ι, M, ag, rd, p⟩ => p _ Φ ι H1 Grow.refl (ag.set rd i)⟩
  · cases hv
theorem s_aug (h : Cok T md N γ k W sc false X) {i : Nat} {x : Str} {o : Op} {v : Expr} (hl : isLoc N sc false i x = true) (hv : ck md N r sc v = true) : PS X (.AugAssign (.Name x p0) o.of v pos) (tS T W (ex γ (.aug i o r))) := by
  obtain ⟨h1, h2, h3, h4⟩ := loc_of h hl
  have he := (e_snd (T := T) (γ := γ) (k := k) r X W sc false v h hv).pe
  refine rdS (ps_aug (pos := pos) (pos' := p0) h1 h2 h3 he (aug_snd (T := T) (W := W) o) h4) fun D0 σ H q => ?_
  obtain ⟨Φ, ι, M, env, ag, p⟩ := q
  simp only [ex] at p
  split at p
  · rename_i d ed
    obtain ⟨vx, ev1, rx⟩ := ag.ev i d ed
    refine ⟨vx, ev1, env, Φ, ι, M, ag, Held.nil, ?_⟩
    cases e : ev γ r env M with
    | ok y M1 =>
      rw [e] at p
      have p : PostS T W Φ ι H D0 (exS (evAug o d y M1) env fun z M => .nx (env.set i (some z)) M) := p
      intro yv Φ' ι' H' g rr ry
      refine ⟨Φ', ι', M1, d, y, σ, rr, rx.grow g, ry, ?_⟩
      cases e2 : evAug o d y M1 with
      | ok z M2 =>
        rw [e2] at p
        intro zv Φ2 ι2 H2 g2 r2 rz
        exact p _ Φ2 ι2 H2 (g.trans g2) ((ag.grow (g.trans g2) r2).set rz i)
      | err x M2 =>
        rw [e2] at p
        intro c dx Φ2 ι2 H2 g2 r2 rz
        exact p c dx σ Φ2 ι2 H2 (g.trans g2) (ag.grow (g.trans g2) r2) rz
      | bad => rw [e2] at p; exact p.elim
    | err x M1 =>
      rw [e] at p
      intro c dx Φ2 ι2 H2 g2 r2 rz
      exact p c dx σ Φ2 ι2 H2 g2 (ag.grow g2 r2) rz
    | bad => rw [e] at p; exact p.elim
  · exact p.elim
theorem s_ex (h : Cok T md N γ k W sc false X) {v : Expr} (hc : isComp v = false) (hv : ck md N r sc v = true) : PS X (.Expr v pos) (tS T W (ex γ (.ex r))) :=
  rdS (ps_expr (e_snd (T := T) (γ := γ) (k := k) r X W sc false v h hv).pe (swap_plain hc)) fun D0 σ H q => by
    obtain ⟨env, q⟩ := tS.bind (rep := repD T) (g := fun d e M => .nx e M) q
    exact ⟨env, q.mono fun x H1 ⟨d, Φ, ι, M, ag, rd, p⟩ => p σ Φ ι H1 Grow.refl ag⟩
theorem s_ret (h : Cok T md N γ k W sc false X) {v : Expr} (hv : ck md N r sc v = true) : PS X (.Return (some v) pos) (tS T W (ex γ (.ret r))) :=
  rdS (ps_ret (e_snd (T := T) (γ := γ) (k := k) r X W sc false v h hv).pe) fun D0 σ H q => by
    obtain ⟨env, q⟩ := tS.bind (rep := repD T) (g := fun d e M => .ret d M) q
    exact ⟨env, q.mono fun x H1 ⟨d, Φ, ι, M, ag, rd, p⟩ => p x Φ ι H1 Grow.refl ag.hr rd⟩
theorem s_retn : PS X (.Return none pos) (tS T W (ex γ .retn)) := rdS ps_retN fun D0 σ H ⟨Φ, ι, M, env, ag, p⟩ => p .non Φ ι H Grow.refl ag.hr rfl
theorem s_pass : PS X (.Pass pos) (tS T W (ex γ .pass)) := rdS ps_pass fun D0 σ H ⟨Φ, ι, M, env, ag, p⟩ => p σ Φ ι H Grow.refl ag
theorem s_brk : PS X (.Break pos) (tS T W (ex γ .brk)) := rdS ps_break fun D0 σ H ⟨Φ, ι, M, env, ag, p⟩ => p σ Φ ι H Grow.refl ag
theorem s_cont : PS X (.Continue pos) (tS T W (ex γ .cont)) := rdS ps_continue fun D0 σ H ⟨Φ, ι, M, env, ag, p⟩ => p σ Φ ι H Grow.refl ag
theorem s_never {st : Stmt} : PS X st (tS T W (ex γ .never)) := rdS ps_never fun D0 σ H ⟨Φ, ι, M, env, ag, p⟩ => p
theorem s_ite (h : Cok T md N γ k W sc false X) {c : Expr} {rc : RE} {a b : List Stmt} {ca cb : SV} (hc : ck md N rc sc c = true) (ha : PSs X a (tS T W ca)) (hb : PSs X b (tS T W cb)) :
    PS X (.If c a b pos) (tS T W fun e M => exS (evT γ rc e M) e fun k M => if k then ca e M else cb e M) :=
  rdS (ps_if (e_snd (T := T) (γ := γ) (k := k) rc X W sc false c h hc).pt ha hb) fun D0 σ H q => by
    obtain ⟨env, q⟩ := tS.bind (rep := repB) (g := fun k e M => if k then ca e M else cb e M) q
    refine ⟨env, q.mono fun x H1 ⟨d, Φ, ι, M, ag, rd, p⟩ => ?_⟩
    cases rd
    cases x with
    | true => exact ⟨Φ, ι, M, env, ag, p⟩
    | false => exact ⟨Φ, ι, M, env, ag, p⟩
theorem s_while (h : Cok T md N γ k W sc false X) (hp : PassesOwn (model X.prog X.w) X.A X.env X.xe) {c : Expr} {rc : RE} {a : List Stmt} {ca : SV} (hc : ck md N rc sc c = true) (ha : PSs X a (tS T W ca)) :
    PS X (.While c a [] pos) (tS T W fun e M => whLoop (evT γ rc) ca γ.w e M) :=
  rdS (ps_while hp (e_snd (T := T) (γ := γ) (k := k) rc X W sc false c h hc).pt ha) fun D0 σ H q => by
    obtain ⟨Φ, ι, M, env, ag, p⟩ := q
    refine ⟨fun m σ H => ∃ Φ ι M env, Agree T Φ ι σ H env M ∧ PostS T W Φ ι H D0 (whLoop (evT γ rc) ca m env M), ⟨γ.w, Φ, ι, M, env, ag, p⟩, ?_⟩
    rintro m σ1 H1 ⟨Φ1, ι1, M1, e1, ag1, p1⟩
    cases m with
    | zero => exact p1.elim
    | succ m =>
      refine ⟨e1, Φ1, ι1, M1, ag1, Held.nil, ?_⟩
      unfold whLoop at p1
      show Post T repB W Φ1 ι1 σ1 H1 _ (evT γ rc e1 M1)
      cases ec : evT γ rc e1 M1 with
      | ok b M2 =>
        rw [ec] at p1
        intro b' Φ2 ι2 H2 g2 r2 rb
        cases rb
        cases b with
        | false =>
          rw [if_neg Bool.false_ne_true]
          exact p1 σ1 Φ2 ι2 H2 g2 (ag1.grow g2 r2)
        | true =>
          rw [if_pos rfl]
          dsimp only at p1
          refine ⟨fun σ' H' => ∃ Φ ι M env, Agree T Φ ι σ' H' env M ∧ PostS T W Φ ι H' D0 (whLoop (evT γ rc) ca m env M), fun σ' H' n => ⟨m, Nat.lt_succ_self m, n⟩, Φ2, ι2, M2, e1, ag1.grow g2 r2, ?_⟩
          cases eb : ca e1 M2 with
          | nx e3 M3 =>
            rw [eb] at p1
            intro σ3 Φ3 ι3 H3 g3 ag3
            exact ⟨Φ3, ι3, M3, e3, ag3, PostS.later (g2.trans g3) p1⟩
          | cont e3 M3 =>
            rw [eb] at p1
            intro σ3 Φ3 ι3 H3 g3 ag3
            exact ⟨Φ3, ι3, M3, e3, ag3, PostS.later (g2.trans g3) p1⟩
          | brk e3 M3 =>
            rw [eb] at p1
            intro σ3 Φ3 ι3 H3 g3 ag3
            exact p1 σ3 Φ3 ι3 H3 (g2.trans g3) ag3
          | ret d M3 =>
            rw [eb] at p1
            intro v Φ3 ι3 H3 g3 r3 rv
            exact p1 v Φ3 ι3 H3 (g2.trans g3) r3 rv
          | err x e3 M3 =>
            rw [eb] at p1
            intro c dx σ3 Φ3 ι3 H3 g3 ag3 rx
            exact p1 c dx σ3 Φ3 ι3 H3 (g2.trans g3) ag3 rx
          | bad => rw [eb] at p1; exact p1.elim
      | err x M2 =>
        rw [ec] at p1
        intro c dx Φ2 ι2 H2 g2 r2 rx
        exact p1 c dx σ1 Φ2 ι2 H2 g2 (ag1.grow g2 r2) rx
      | bad => rw [ec] at p1; exact p1.elim
theorem s_for (h : Cok T md N γ k W sc false X) (hp : PassesOwn (model X.prog X.w) X.A X.env X.xe) {t i : Expr} {g : RG} {it : RI} {a : List Stmt} {ca : SV} (hi : ckI md N it sc t i = true) (hs : isSetD i = false) (hg : ckg md N g sc false t = true) (ha : PSs X a (tS T W ca)) :
    PS X (.For t i a [] pos) (tS T W fun e M => exS (evI γ it e M) e fun w M => forLoop w.1 (fun x e M => exS (asg γ g x e M) e fun e M => ca e M) w.2 e M) :=
  rdS (ps_for hp h.calm (i_snd (T := T) (γ := γ) (k := k) it X W sc false t i h hi) (g_snd (T := T) (γ := γ) (k := k) g X W sc false none t h rfl hg) ha (fun x => fold_none hs)) fun D0 σ H q => by
    obtain ⟨env, q⟩ := tS.bind (rep := repI T) (g := fun w e M => forLoop w.1 (fun x e M => exS (asg γ g x e M) e fun e M => ca e M) w.2 e M) q
    refine ⟨env, q.mono fun J H1 ⟨w, Φ, ι, M, ag, hw, p⟩ => ?_⟩
    refine ⟨fun i m σ' H' => m = w.2.length - i ∧ i ≤ w.2.length ∧ ∃ Φ' ι' e' M', Grow Φ ι H1 Φ' ι' H' ∧ Agree T Φ' ι' σ' H' e' M' ∧
      PostS T W Φ' ι' H' D0 (forLoop w.1 (fun x e M => exS (asg γ g x e M) e fun e M => ca e M) (w.2.drop i) e' M'), ⟨_, rfl, Nat.zero_le _, Φ, ι, env, M, Grow.refl, ag, p⟩, ?_⟩
    rintro i m σ2 H2 ⟨rfl, hi, Φ2, ι2, e2, M2, g2, ag2, p2⟩
    by_cases hlt : i < w.2.length
    · refine .inr ?_
      have ed : w.2.drop i = w.2[i] :: w.2.drop (i + 1) := List.drop_eq_getElem_cons hlt
      rw [ed] at p2
      unfold forLoop at p2
      split at p2
      · rename_i hok
        obtain ⟨go, yl⟩ := hw.go Φ2 ι2 H2 M2 i w.2[i] g2 ag2.hr hok (List.getElem?_eq_getElem hlt)
        refine ⟨go, fun σ' H' => ∃ Φ' ι' e' M', Grow Φ ι H1 Φ' ι' H' ∧ Agree T Φ' ι' σ' H' e' M' ∧
          PostS T W Φ' ι' H' D0 (forLoop w.1 (fun x e M => exS (asg γ g x e M) e fun e M => ca e M) (w.2.drop (i + 1)) e' M'), fun σ' H' n => ⟨_, by omega, rfl, hlt, n⟩, fun x H3 y => ?_⟩
        obtain ⟨g3, r3, rx⟩ := yl x H3 y
        refine ⟨e2, Φ2, ι2, M2, w.2[i], ag2.grow g3 r3, rx, ?_⟩
        cases ea : asg γ g w.2[i] e2 M2 with
        | ok e4 M4 =>
          rw [ea] at p2
          intro σ4 Φ4 ι4 H4 g4 ag4 _
          refine ⟨Φ4, ι4, M4, e4, ag4, ?_⟩
          have p2 : PostS T W Φ2 ι2 H2 D0 (match ca e4 M4 with
            | .nx e M => forLoop w.1 (fun x e M => exS (asg γ g x e M) e fun e M => ca e M) (w.2.drop (i + 1)) e M
            | .cont e M => forLoop w.1 (fun x e M => exS (asg γ g x e M) e fun e M => ca e M) (w.2.drop (i + 1)) e M
            | .brk e M => .nx e M
            | .ret d M => .ret d M
            | .err x e M => .err x e M
            | .bad => .bad) := p2
          have gg := g3.trans g4
          cases eb : ca e4 M4 with
          | nx e5 M5 =>
            rw [eb] at p2
            intro σ5 Φ5 ι5 H5 g5 ag5
            exact ⟨Φ5, ι5, e5, M5, g2.trans (gg.trans g5), ag5, PostS.later (gg.trans g5) p2⟩
          | cont e5 M5 =>
            rw [eb] at p2
            intro σ5 Φ5 ι5 H5 g5 ag5
            exact ⟨Φ5, ι5, e5, M5, g2.trans (gg.trans g5), ag5, PostS.later (gg.trans g5) p2⟩
          | brk e5 M5 =>
            rw [eb] at p2
            intro σ5 Φ5 ι5 H5 g5 ag5
            exact p2 σ5 Φ5 ι5 H5 (gg.trans g5) ag5
          | ret d M5 =>
            rw [eb] at p2
            intro v Φ5 ι5 H5 g5 r5 rv
            exact p2 v Φ5 ι5 H5 (gg.trans g5) r5 rv
          | err x5 e5 M5 =>
            rw [eb] at p2
            intro c dx σ5 Φ5 ι5 H5 g5 ag5 rx5
            exact p2 c dx σ5 Φ5 ι5 H5 (gg.trans g5) ag5 rx5
          | bad => rw [eb] at p2; exact p2.elim
        | err x4 M4 =>
          rw [ea] at p2
          intro c dx Φ4 ι4 H4 g4 r4 rx4
          exact p2 c dx σ2 Φ4 ι4 H4 (g3.trans g4) (ag2.grow (g3.trans g4) r4) rx4
        | bad => rw [ea] at p2; exact p2.elim
      · exact p2.elim
    · refine .inl ?_
      have hi' : i = w.2.length := by omega
      subst hi'
      rw [List.drop_length] at p2
      unfold forLoop at p2
      split at p2
      · rename_i hok
        exact ⟨hw.stop Φ2 ι2 H2 M2 g2 ag2.hr hok, p2 σ2 Φ2 ι2 H2 Grow.refl ag2⟩
      · exact p2.elim
theorem nodup2 {x y : Str} (h : x ≠ y) : [x, y].eraseDups = [x, y] := by
  have : (y == x) = false := by simpa using (Ne.symm h)
  simp [List.eraseDups, List.eraseDupsBy, List.eraseDupsBy.loop, this]
theorem nodup3 {x y z : Str} (h : x ≠ y) (h2 : x ≠ z) (h3 : y ≠ z) : [x, y, z].eraseDups = [x, y, z] := by
  have a1 : (y == x) = false := by simpa using (Ne.symm h)
  have a2 : (z == x) = false := by simpa using (Ne.symm h2)
  have a3 : (z == y) = false := by simpa using (Ne.symm h3)
  simp [List.eraseDups, List.eraseDupsBy, List.eraseDupsBy.loop, a1, a2, a3]
def starB : Expr → Bool := fun
    | .Starred .. => true | _ => false
theorem starB_eq (a : Expr) : starB a = isStar a := by cases a <;> rfl
def nameP (env : Env) (line : Nat) : Expr → Option Str := fun
    | .Name id pos => if env.kindOf id == some .local && pos.line == line then some id else none
    | _ => none
theorem nameP_eq {env : Env} {line : Nat} {x : Str} {p : Pos} (h : env.kindOf x = some .local) (hl : (p.line == line) = true) : nameP env line (.Name x p) = some x := by
  show (if (env.kindOf x == some .local && p.line == line) = true then some x else none) = some x
  rw [h, hl]
  rfl
theorem nameP_2 {env : Env} {line : Nat} {x y : Str} {p q : Pos} (h : env.kindOf x = some .local) (hl : (p.line == line) = true) (h2 : env.kindOf y = some .local) (hl2 : (q.line == line) = true) : [Expr.Name x p, Expr.Name y q].filterMap (nameP env line) = [x, y] := by
  simp only [List.filterMap_cons, List.filterMap_nil, nameP_eq h hl, nameP_eq h2 hl2]
theorem nameP_3 {env : Env} {line : Nat} {x y z : Str} {p q r : Pos} (h : env.kindOf x = some .local) (hl : (p.line == line) = true) (h2 : env.kindOf y = some .local) (hl2 : (q.line == line) = true) (h3 : env.kindOf z = some .local) (hl3 : (r.line == line) = true) : [Expr.Name x p, Expr.Name y q, Expr.Name z r].filterMap (nameP env line) = [x, y, z] := by
  simp only [List.filterMap_cons, List.filterMap_nil, nameP_eq h hl, nameP_eq h2 hl2, nameP_eq h3 hl3]
theorem swapped_gen {ts vs : List Expr} {xs : List Str} {pt pt2 : Pos} {kt k2 : Nat} {env : Env} (hb : env.blockKind = .function) (hl : (ts.length == 2 || ts.length == 3) = true) (hv : vs.length = ts.length) (hs : vs.any isStar = false)
    (hn : ts.filterMap (nameP env ((ts.head?.map (·.pos.line)).getD 0)) = xs) (hx : xs.length = ts.length) (hd : xs.eraseDups = xs) (f1 : vs.all (foldedForSure 8) = false) (c1 : vs.all (constantsAlone 8) = false) :
    swappedStores [.Tuple ts kt pt] (.Tuple vs k2 pt2) env = pure (some xs) := by
  have hs' : vs.any starB = false := by
    rw [← hs]
    congr 1
  show (if (!(ts.length == 2 || ts.length == 3) || vs.length != ts.length || env.blockKind != .function) = true then pure none else
    if vs.any starB = true then pure none else
    if ((ts.filterMap (nameP env ((ts.head?.map (·.pos.line)).getD 0))).length != ts.length || (ts.filterMap (nameP env ((ts.head?.map (·.pos.line)).getD 0))).eraseDups.length != (ts.filterMap (nameP env ((ts.head?.map (·.pos.line)).getD 0))).length) = true then pure none else
    if vs.all (foldedForSure 8) = true then pure none else
    if vs.all (constantsAlone 8) = true then _ else pure (some (ts.filterMap (nameP env ((ts.head?.map (·.pos.line)).getD 0))))) = _
  rw [hn, hd, hs', f1, c1, hl, hv, hb, hx]
  simp

theorem namesIn_2 {i j : Nat} {ts : List Expr} {ln : Nat} (h : namesIn N sc ln [i, j] ts = true) : ∃ x y px py, ts = [.Name x px, .Name y py] ∧ N[i]? = some x ∧ N[j]? = some y ∧ sc.lookup x = some .local ∧ sc.lookup y = some .local ∧ (px.line == ln) = true ∧ (py.line == ln) = true := by
  unfold namesIn at h
  split at h
  · rename_i e; cases e
  · rename_i i' is' x px l e1
    cases e1
    simp only [Bool.and_eq_true, decide_eq_true_eq] at h
    obtain ⟨h1, h2, h3, h⟩ := h
    unfold namesIn at h
    split at h
    · rename_i e; cases e
    · rename_i i' is' y py l e1
      cases e1
      simp only [Bool.and_eq_true, decide_eq_true_eq] at h
      obtain ⟨g1, g2, g3, g⟩ := h
      have g : l.isEmpty = true := g
      cases l with
      | nil => exact ⟨x, y, px, py, rfl, h1, g1, h2, g2, h3, g3⟩
      | cons _ _ => cases g
    · cases h
  · cases h
theorem namesIn_3 {i j l0 : Nat} {ts : List Expr} {ln : Nat} (h : namesIn N sc ln [i, j, l0] ts = true) : ∃ x y z px py pz, ts = [.Name x px, .Name y py, .Name z pz] ∧ N[i]? = some x ∧ N[j]? = some y ∧ N[l0]? = some z ∧ sc.lookup x = some .local ∧ sc.lookup y = some .local ∧ sc.lookup z = some .local ∧
    (px.line == ln) = true ∧ (py.line == ln) = true ∧ (pz.line == ln) = true := by
  unfold namesIn at h
  split at h
  · rename_i e; cases e
  · rename_i i' is' x px l e1
    cases e1
    simp only [Bool.and_eq_true, decide_eq_true_eq] at h
    obtain ⟨h1, h2, h3, h⟩ := h
    obtain ⟨y, z, py, pz, rfl, a1, a2, a3, a4, a5, a6⟩ := namesIn_2 h
    exact ⟨x, y, z, px, py, pz, rfl, h1, a1, a2, h2, a3, a4, h3, a5, a6⟩
  · cases h
theorem nd_ne (hN : N.Nodup) {i j : Nat} {x y : Str} (hi : N[i]? = some x) (hj : N[j]? = some y) (hij : i ≠ j) : x ≠ y := by
  rintro rfl
  obtain ⟨h1, e1⟩ := List.getElem?_eq_some_iff.mp hi
  obtain ⟨h2, e2⟩ := List.getElem?_eq_some_iff.mp hj
  exact hij ((List.getElem_inj hN).mp (e1.trans e2.symm))
theorem par_read {is : List Nat} {cs : EV (List D)} {D0 : Ends} {σ : L2.St} {H : Hp} (q : tS T W (fun e M => exS (cs e M) e fun l M => if l.length == is.length then .nx (parSet e is l) M else .bad) D0 σ H) :
    tA T W cs σ H fun vs H1 => vs.length = is.length ∧ ∃ ds Φ ι M env, Agree T Φ ι σ H1 env M ∧ RepL T Φ ι H1 ds vs ∧ PostS T W Φ ι H1 D0 (.nx (parSet env is ds) M) := by
  obtain ⟨env, q⟩ := tS.bind (rep := repL T) (g := fun l e M => if l.length == is.length then .nx (parSet e is l) M else .bad) q
  refine ⟨env, q.mono fun vs H1 ⟨ds, Φ, ι, M, ag, rd, p⟩ => ?_⟩
  split at p
  · rename_i hl
    exact ⟨by rw [RepL.length rd]; exact eq_of_beq hl, ds, Φ, ι, M, env, ag, rd, p⟩
  · exact p.elim
theorem s_par (h : Cok T md N γ k W sc false X) {is : List Nat} {ts vs : List Expr} {pt pt2 : Pos} {kt k2 : Nat} {rs : REs} (hn : (match ts with
      | .Name _ p :: _ => namesIn N sc p.line is ts
      | _ => false) = true) (hd : is.Nodup) (hl : (ts.length == 2 || ts.length == 3) = true) (hv : vs.length = ts.length) (hc : cks md N rs sc vs = true) (hs : vs.any isStar = false) (f1 : vs.all (foldedForSure 8) = false) (c1 : vs.all (constantsAlone 8) = false) :
    PS X (.Assign [.Tuple ts kt pt] (.Tuple vs k2 pt2) pos) (tS T W (ex γ (.par is rs))) := by
  have ha := (es_snd (T := T) (γ := γ) (k := k) rs X W sc false vs h hc).a hs
  have hb : X.env.blockKind = .function := by
    unfold Env.blockKind
    rw [h.kind]
    rfl
  have hk : ∀ x, X.env.kindOf x = sc.lookup x := fun x => by rw [← h.sc]; rfl
  match is, hn, hd with
  | [], hn, _ =>
    cases ts with
    | nil => cases hn
    | cons t ts => cases t <;> first | (cases hn; done) | skip
  | [i], hn, _ =>
    match ts, hn, hl, hv with
    | .Name x p :: ts', hn, hl, hv =>
      have hn : namesIn N sc p.line [i] (.Name x p :: ts') = true := hn
      unfold namesIn at hn
      simp only [Bool.and_eq_true] at hn
      have g : ts'.isEmpty = true := hn.2.2.2
      cases ts' with
      | nil => cases hl
      | cons _ _ => cases g
  | [i, j], hn, hd =>
    match ts, hn, hl, hv with
    | .Name x0 p :: ts', hn, hl, hv =>
      obtain ⟨x, y, px, py, e, h1, h2, h3, h4, h5, h6⟩ := namesIn_2 hn
      cases e
      match vs, hv, hs, f1, c1, ha with
      | [a, b], hv, hs, f1, c1, ha =>
        have hij : i ≠ j := by simpa using hd
        have hxy := nd_ne h.nd h1 h2 hij
        have hw := swapped_gen (pt := pt) (pt2 := pt2) (kt := kt) (k2 := k2) (ts := [.Name x0 p, .Name y py]) (vs := [a, b]) (xs := [x0, y]) hb rfl rfl hs
          (show _ = _ from nameP_2 (line := p.line) ((hk _).trans h3) h5 ((hk _).trans h4) h6) rfl (nodup2 hxy) f1 c1
        refine rdS (ps_par h.calm (by rw [h.n]; exact h.nd) (by rw [h.n]; exact h1) (by rw [h.n]; exact h2) hij (by rw [h.sc]; exact h3) (by rw [h.sc]; exact h4) ha hw rfl) fun D0 σ H q => ?_
        refine (par_read q).mono fun ws H1 ⟨hl, ds, Φ, ι, M, env, ag, rd, p⟩ => ?_
        match ds, rd with
        | [d1, d2], rd =>
          obtain ⟨v1, v2, rfl, r1, r2⟩ := RepL.two' rd
          exact ⟨v1, v2, rfl, p _ Φ ι H1 Grow.refl ((ag.set r1 i).set r2 j)⟩
        | [], rd => cases rd; cases hl
        | [d1], rd => obtain ⟨v1, rfl, _⟩ := RepL.one' (ds := [d1]) rd; cases hl
        | _ :: _ :: _ :: _, rd => have := RepL.length rd; rw [hl] at this; simp at this
  | [i, j, l0], hn, hd =>
    match ts, hn, hl, hv with
    | .Name x0 p :: ts', hn, hl, hv =>
      obtain ⟨x, y, z, px, py, pz, e, h1, h2, h2', h3, h4, h4', h5, h6, h6'⟩ := namesIn_3 hn
      cases e
      match vs, hv, hs, f1, c1, ha with
      | [a, b, c], hv, hs, f1, c1, ha =>
        have hd' : (i ≠ j ∧ i ≠ l0) ∧ j ≠ l0 := by simpa using hd
        have hw := swapped_gen (pt := pt) (pt2 := pt2) (kt := kt) (k2 := k2) (ts := [.Name x0 p, .Name y py, .Name z pz]) (vs := [a, b, c]) (xs := [x0, y, z]) hb rfl rfl hs
          (show _ = _ from nameP_3 (line := p.line) ((hk _).trans h3) h5 ((hk _).trans h4) h6 ((hk _).trans h4') h6') rfl
          (nodup3 (nd_ne h.nd h1 h2 hd'.1.1) (nd_ne h.nd h1 h2' hd'.1.2) (nd_ne h.nd h2 h2' hd'.2)) f1 c1
        refine rdS (ps_par3 h.calm (by rw [h.n]; exact h.nd) (by rw [h.n]; exact h1) (by rw [h.n]; exact h2) (by rw [h.n]; exact h2') hd'.1.1 hd'.1.2 hd'.2 (by rw [h.sc]; exact h3) (by rw [h.sc]; exact h4) (by rw [h.sc]; exact h4') ha hw rfl) fun D0 σ H q => ?_
        refine (par_read q).mono fun ws H1 ⟨hl, ds, Φ, ι, M, env, ag, rd, p⟩ => ?_
        match ds, rd with
        | [d1, d2, d3], rd =>
          obtain ⟨v1, ws, rfl, r1, rd⟩ := rd
          obtain ⟨v2, v3, rfl, r2, r3⟩ := RepL.two' rd
          exact ⟨v1, v2, v3, rfl, p _ Φ ι H1 Grow.refl (((ag.set r1 i).set r2 j).set r3 l0)⟩
        | [], rd => cases rd; cases hl
        | [d1], rd => obtain ⟨v1, rfl, _⟩ := RepL.one' (ds := [d1]) rd; cases hl
        | [d1, d2], rd => obtain ⟨v1, v2, rfl, _, _⟩ := RepL.two' rd; cases hl
        | _ :: _ :: _ :: _ :: _, rd => have := RepL.length rd; rw [hl] at this; simp at this
  | i :: j :: l0 :: m :: is, hn, _ =>
    match ts, hn, hl, hv with
    | .Name x p :: ts', hn, hl, hv =>
      have hn : namesIn N sc p.line (i :: j :: l0 :: m :: is) (.Name x p :: ts') = true := hn
      have hlen : ∀ (is : List Nat) (l : List Expr), namesIn N sc p.line is l = true → l.length = is.length := by
        intro is
        induction is with
        | nil =>
          intro l hh
          have g : l.isEmpty = true := hh
          cases l with
          | nil => rfl
          | cons _ _ => cases g
        | cons a as ih =>
          intro l hh
          unfold namesIn at hh
          split at hh
          · rename_i e; cases e
          · rename_i i' is' x px l e1
            cases e1
            simp only [Bool.and_eq_true] at hh
            simp only [List.length_cons, ih _ hh.2.2.2]
          · cases hh
      have e := hlen _ _ hn
      rw [e] at hl
      simp at hl
/-! all statements -/
mutual
theorem s_snd : ∀ (s : RS) (X : Cx) (W : WX) (sc : Sc) (st : Stmt), Cok T md N γ k W sc false X → PassesOwn (model X.prog X.w) X.A X.env X.xe → ckS md N s sc st = true → PS X st (tS T W (ex γ s))
  | .set g a, X, W, sc, st, C, hp, h => by
    simp only [ckS] at h
    split at h
    · rename_i t v p
      simp only [Bool.and_eq_true] at h
      exact s_set C h.1 h.2.1 h.2.2
    · cases h
  | .setlc i a, X, W, sc, st, C, hp, h => by
    simp only [ckS] at h
    split at h
    · rename_i y p v ps
      simp only [Bool.and_eq_true, decide_eq_true_eq] at h
      obtain ⟨h1, h2, h3, h4⟩ := h
      cases a <;> first | (cases h3; done) | exact s_setlc C h1 h2 h4
    · cases h
  | .par is es, X, W, sc, st, C, hp, h => by
    simp only [ckS] at h
    split at h
    · rename_i ts kt pt vs k2 pt2 ps
      simp only [Bool.and_eq_true, decide_eq_true_eq, Bool.not_eq_true'] at h
      obtain ⟨h1, h2, h3, h4, h5, h6, h7, h8⟩ := h
      exact s_par C h1 h2 h3 (eq_of_beq h4).symm h5 h6 h7 h8
    · cases h
  | .aug i o a, X, W, sc, st, C, hp, h => by
    simp only [ckS] at h
    split at h
    · rename_i x p0 p v ps
      simp only [Bool.and_eq_true, decide_eq_true_eq] at h
      obtain ⟨h1, h2, rfl, h4⟩ := h
      exact s_aug C h1 h4
    · cases h
  | .ex a, X, W, sc, st, C, hp, h => by
    simp only [ckS] at h
    split at h
    · rename_i v p
      simp only [Bool.and_eq_true, Bool.not_eq_true'] at h
      exact s_ex C h.1 h.2
    · cases h
  | .ret a, X, W, sc, st, C, hp, h => by
    simp only [ckS] at h
    split at h
    · exact s_ret C h
    · cases h
  | .retn, X, W, sc, st, C, hp, h => by
    simp only [ckS] at h
    split at h
    · exact s_retn
    · cases h
  | .ite c a b, X, W, sc, st, C, hp, h => by
    simp only [ckS] at h
    split at h
    · rename_i x y z p
      simp only [Bool.and_eq_true] at h
      exact s_ite C h.1 (ss_snd a X W sc y C hp h.2.1) (ss_snd b X W sc z C hp h.2.2)
    · cases h
  | .forr g it b, X, W, sc, st, C, hp, h => by
    simp only [ckS] at h
    split at h
    · rename_i t i y p
      simp only [Bool.and_eq_true, Bool.not_eq_true'] at h
      obtain ⟨h1, h2, h3, h4⟩ := h
      exact s_for C hp h1 h2 h3 (ss_snd b X W sc y C hp h4)
    · cases h
  | .wh c b, X, W, sc, st, C, hp, h => by
    simp only [ckS] at h
    split at h
    · rename_i x y p
      simp only [Bool.and_eq_true] at h
      exact s_while C hp h.1 (ss_snd b X W sc y C hp h.2)
    · cases h
  | .brk, X, W, sc, st, C, hp, h => by
    simp only [ckS] at h
    split at h
    · exact s_brk
    · cases h
  | .cont, X, W, sc, st, C, hp, h => by
    simp only [ckS] at h
    split at h
    · exact s_cont
    · cases h
  | .pass, X, W, sc, st, C, hp, h => by
    simp only [ckS] at h
    split at h
    · exact s_pass
    · cases h
  | .never, X, W, sc, st, C, hp, h => s_never
theorem ss_snd : ∀ (ss : RSs) (X : Cx) (W : WX) (sc : Sc) (l : List Stmt), Cok T md N γ k W sc false X → PassesOwn (model X.prog X.w) X.A X.env X.xe → ckSs md N ss sc l = true → PSs X l (tS T W (exs γ ss))
  | .nil, X, W, sc, l, C, hp, h => by
    simp only [ckSs] at h
    cases l with
    | nil => exact rdSs pss_nil fun D0 σ H ⟨Φ, ι, M, env, ag, p⟩ => p σ Φ ι H Grow.refl ag
    | cons _ _ => cases h
  | .cons s ss, X, W, sc, l, C, hp, h => by
    simp only [ckSs] at h
    cases l with
    | nil => cases h
    | cons x xs =>
      simp only [Bool.and_eq_true] at h
      exact rdSs (pss_cons (s_snd s X W sc x C hp h.1) (ss_snd ss X W sc xs C hp h.2)) fun D0 σ H q => tS.seq q
end
end
end TF

/-! All functions of the module, the law's end. -/
namespace TF
open PySem PySem.Spec PyProof.Rows L2
/-- a function of the text -/
def FOk (K : PySem.W.Frag) (mg : Str → Option Value) (md : Md) (fs : Nat → Option (Fd × Nat)) (f : Nat) (x : Str) : Prop :=
  ∃ (a : Addr) (fd : FuncData) (name qual : Str) (params : Arguments) (body : List Stmt) (scope : Scope) (N ps : List Str) (d : Fd), mg x = some (.ref a) ∧ FunD K name qual params body scope [] [] a fd ∧ FnScope N ps scope ∧ (∀ (s : Shared) (us : List Value), us.length = ps.length → BindsTo s fd ⟨us, []⟩ (ps.zip us)) ∧
    fs f = some (d, ps.length) ∧ d.n = N.length ∧ ckSs md N d.body scope.names body = true
section
variable {P : Program} {w0 : World} {K : PySem.W.Frag} {mg : Str → Option Value} {base : Heap} {T : Tb} {md : Md} {tab : Nat → List (Str × Cn)} {fs : Nat → Option (Fd × Nat)} {w : Nat}
theorem callF_len {n f : Nat} {ds : List D} {M : List MO} {d : Fd} {kk : Nat} (e : fs f = some (d, kk)) (h : ds.length ≠ kk) : callF tab fs w n f ds M = .bad := by
  cases n with
  | zero => rfl
  | succ n =>
    simp only [callF, e]
    rw [if_neg]
    intro z
    exact h (eq_of_beq z)
theorem agree_start {Φ : Addr → Prop} {ι : List Addr} {H : Hp} {M : List MO} {ds : List D} {vs : List V} {N : List Str} (hr : HR T Φ ι H M) (r : RepL T Φ ι H ds vs) : Agree T Φ ι (L2.start N vs) H (startE N.length ds) M := by
  have hl := r.length
  refine ⟨hr, fun i d e => ?_, by unfold startE L2.start; simp [hl]⟩
  unfold startE at e
  by_cases hi : i < ds.length
  · rw [List.getElem?_append_left (by rw [List.length_map]; exact hi), List.getElem?_map] at e
    obtain ⟨d', e1, e2⟩ := Option.map_eq_some_iff.mp e
    cases e2
    obtain ⟨v, ev, rv⟩ := r.get e1
    refine ⟨v, ?_, rv⟩
    unfold L2.start
    rw [List.getElem?_append_left (by rw [List.length_map, hl]; exact hi), List.getElem?_map, ev]
    rfl
  · rw [List.getElem?_append_right (by rw [List.length_map]; omega), List.getElem?_replicate] at e
    split at e <;> cases e
theorem binds_of {fd : FuncData} {ps : List Str} (h : ∀ (s : Shared) (us : List Value), us.length = ps.length → BindsTo s fd ⟨us, []⟩ (ps.zip us)) : L2.Binds K fd ps [] := fun s us _ hl => by
  rw [List.append_nil] at hl ⊢
  exact h s us hl
/-- one more call deep -/
theorem fnG_at (hK : T.K = K) {n f : Nat} (ih : Mds P w0 K mg base T md ⟨callF tab fs w n, tab, w⟩ n) {a : Addr} {fd : FuncData} {name qual : Str} {params : Arguments} {body : List Stmt} {scope : Scope} {N ps : List Str} {d : Fd}
    (F : FunD K name qual params body scope [] [] a fd) (S : FnScope N ps scope) (hf : fs f = some (d, ps.length)) (hn : d.n = N.length) (hc : ckSs md N d.body scope.names body = true) :
    FnG P w0 K mg base (L2.CX P w0) (n + 1) a fd ps (spG T (callF tab fs w (n + 1) f)) := by
  refine fnG_of F S (fun vs H Q E ⟨Φ, ι, ds, M, hr, r, p⟩ => ?_) fun cdv A outer s H vs Q E room ⟨Φ, ι, ds, M, hr, r, p⟩ => ?_
  · by_cases hl : ds.length = ps.length
    · rw [← hl]
      exact r.length
    · exfalso
      rw [callF_len hf hl] at p
      exact p
  · have hl : ds.length = ps.length := by
      by_cases hl : ds.length = ps.length
      · exact hl
      · exfalso
        rw [callF_len hf hl] at p
        exact p
    have C : Cok T md N ⟨callF tab fs w n, tab, w⟩ n (fun c dx _ H' => E c dx H') scope.names false (cxOf (L2.CX P w0) P w0 K mg base N qual scope a cdv A outer s H E) :=
      { n := rfl, nd := S.nd, sc := rfl, kind := S.kind, fn := fun _ _ => rfl, calm := rfl, K := hK, room := room, ms := ih,
        pass := fun σ => passAt (takes_of rfl rfl rfl rfl) σ }
    refine ⟨_, ss_snd d.body _ _ _ body C (passes_of rfl) hc, ?_⟩
    refine ⟨Φ, ι, M, startE N.length ds, agree_start hr r, ?_⟩
    simp only [callF, hf] at p
    rw [if_pos (by rw [hl]; simp), hn] at p
    cases eo : exs ⟨callF tab fs w n, tab, w⟩ d.body (startE N.length ds) M with
    | nx e2 M2 =>
      rw [eo] at p
      intro σ' Φ' ι' H' g ag
      exact p .non Φ' ι' H' g ag.hr rfl
    | ret v M2 =>
      rw [eo] at p
      exact p
    | brk e2 M2 => rw [eo] at p; exact p.elim
    | cont e2 M2 => rw [eo] at p; exact p.elim
    | err x2 e2 M2 =>
      rw [eo] at p
      intro c dx σ' Φ' ι' H' g ag rx
      exact p c dx Φ' ι' H' g ag.hr rx
    | bad => rw [eo] at p; exact p.elim
theorem mods (hK : T.K = K) (cns : ∀ x c, md.cns.lookup x = some c → ∃ u, mg x = some u ∧ RelV c.v u) (free : ∀ x, x ∈ md.free → mg x = none)
    (tabs : ∀ t x, (md.tabs[t]?).map (·.1) = some x → ∃ a es n, mg x = some (.ref a) ∧ KDict K w0 a es n ∧ ∀ z : Str, ∃ r, PySem.W.nsIn K a z = some r ∧ (match (tab t).lookup z with
      | some c => ∃ u, r = some u ∧ RelV c.v u
      | none => r = none))
    (fns : ∀ f x, md.fns[f]? = some x → FOk K mg md fs f x) : ∀ n, Mds P w0 K mg base T md ⟨callF tab fs w n, tab, w⟩ n
  | 0 => ⟨cns, free, tabs, fun f x e => by
    obtain ⟨a, fd, name, qual, params, body, scope, N, ps, d, hm, F, S, B, hf, hn, hc⟩ := fns f x e
    exact ⟨a, fd, ps, hm, F.kp, binds_of B, FnG.never fun vs H Q E ⟨Φ, ι, ds, M, hr, r, p⟩ => p⟩⟩
  | n + 1 => by
    have ih := mods hK cns free tabs fns n
    refine ⟨cns, free, tabs, fun f x e => ?_⟩
    obtain ⟨a, fd, name, qual, params, body, scope, N, ps, d, hm, F, S, B, hf, hn, hc⟩ := fns f x e
    exact ⟨a, fd, ps, hm, F.kp, binds_of B, fnG_at hK ih F S hf hn hc⟩
end
/-! the law's end -/
section
open Att
variable {P : Program} {w0 : World} {K : PySem.W.Frag} {mg mb : Str → Option Value}
/-- the heap as the law finds it: the script alone is known (or it lies in the written part) -/
theorem scriptH {s₁ : Shared} {a : Addr} {vs : List Value} {ns : List Int} (KX : K.In s₁.heap) (ha : s₁.heap.get? a = some { cls := .type "list", data := .seq vs.toArray }) (hi : IntsAre vs ns) (hl : ns.length ≤ sizeLine) :
    ∃ H : Hp, Only H ∧ SqL K H a (ns.map V.int) ∧ HOk P w0 H s₁.heap ∧ (∀ b, H b ≠ none → b = a) ∧ (H a ≠ none → K.lookup a = none) := by
  have rv := vals_ints hi
  cases hk : K.lookup a with
  | some o =>
    have e := KX a o hk
    rw [ha] at e
    cases e
    exact ⟨fun _ => none, fun _ => .inl rfl, .inr ⟨_, vs.toArray, _, hk, rfl, rfl, rfl, by rw [List.size_toArray, hi.length]; exact hl, by simpa using rv⟩, fun _ _ z => (nomatch z), fun _ z => absurd rfl z, fun z => absurd rfl z⟩
  | none =>
    refine ⟨upd (fun _ => none) a (.frz { cls := .type "list", data := .seq vs.toArray } (.lst (ns.map V.int))), fun b => ?_, .inl (.inr ⟨_, upd_same⟩), fun b u z => ?_, fun b z => ?_, fun _ => rfl⟩
    · by_cases hb : b = a
      · subst hb; exact .inr ⟨_, _, upd_same⟩
      · exact .inl (upd_ne hb)
    · by_cases hb : b = a
      · subst hb
        rw [upd_same] at z
        cases z
        exact ⟨ha, by rw [List.length_map]; exact hl, vs, _, rv, ha⟩
      · rw [upd_ne hb] at z
        cases z
    · by_cases hb : b = a
      · exact hb
      · exact absurd (upd_ne hb) z
theorem lawG {k : Nat} {fa a : Addr} {fd : FuncData} {x : Str} {sp : Sp} {s₁ : Shared} {vs : List Value} {ns : List Int}
    (KX : K.In s₁.heap) (hns : s₁.heap.Ns mainGlobals mg) (hb : s₁.heap.Ns builtinsNs mb) (hbb : ∀ x : Str, x ≠ "__name__" → mb x = bootBuiltins x) (hlim : s₁.heap.NoLimit) (hg : s₁.gens = #[])
    (ha : s₁.heap.get? a = some { cls := .type "list", data := .seq vs.toArray }) (hi : IntsAre vs ns) (hl : ns.length ≤ sizeLine) (hr : RoomG k callerA)
    (F : ∀ base : Heap, K.In base → base.Ns mainGlobals mg → FnG P w0 K mg base (L2.CX P w0) k fa fd [x] sp) (hbind : ∀ (s : Shared) (u : Value), BindsTo s fd ⟨[u], []⟩ [(x, u)])
    (hsp : ∀ H : Hp, SqL K H a (ns.map V.int) → sp [.ref a] H (fun v _ => v = .bl true) fun _ _ _ => False) :
    codeAny (model P w0) callerA (.call (.ref fa) ⟨[.ref a], []⟩) (fun r s' => r = .ok (.ret (.bool true)) ∧ OldK s₁.heap s'.heap ∧ s'.os = s₁.os ∧ AllBare s'.gens) s₁ := by
  obtain ⟨H, hO, hS, hok, hA, hK⟩ := scriptH (P := P) (w0 := w0) KX ha hi hl
  have hid : ∀ {b : Addr} {o : Obj}, s₁.heap.get? b = some o → H b = none → (hidT s₁.heap H).get? b = some o := hidT_get
  have unk : ∀ {b : Addr} {o : Obj}, s₁.heap.get? b = some o → (b = a → False) → H b = none := fun {b o} _ n => by
    cases q : H b with
    | none => rfl
    | some u => exact (n (hA b (by rw [q]; exact nofun))).elim
  have nsM : ∀ {b : Addr} {m : Str → Option Value}, s₁.heap.Ns b m → (hidT s₁.heap H).Ns b m := fun {b m} ⟨o, es, ep, e, d, r⟩ =>
    ⟨o, es, ep, hid e (unk e fun z => by
      subst z
      rw [ha] at e
      cases e
      exact nomatch (show Data.seq vs.toArray _ = Data.dict es ep from d)), d, r⟩
  have inM : K.In (hidT s₁.heap H) := fun b o e => by
    cases q : H b with
    | none => exact hid (KX b o e) q
    | some u =>
      have z := hA b (by rw [q]; exact nofun)
      subst z
      rw [hK (by rw [q]; exact nofun)] at e
      cases e
  obtain ⟨mc, hc1, hc2⟩ := hlim
  have hM : Mod K mg (hidT s₁.heap H) := ⟨inM, nsM hns, ⟨mb, nsM hb, hbb⟩, ⟨mc, nsM hc1, hc2⟩⟩
  have e0 : Env0 P w0 K mg (hidT s₁.heap H) callerA [] s₁ H := ⟨rfl, hM, fun b o e => of_hidT e, Nat.le_of_eq (hidT_size _ _), trivial, fun b z => absurd z (by simp [frs]), hok, .of_eq hg⟩
  refine codeAny_mono ((F _ inM (nsM hns)).run callerA [] s₁ H ⟨[.ref a], []⟩ [.ref a] [.ref a] _ _ hr e0 (hbind s₁ (.ref a)) (.cons rfl .nil) (hsp H hS)) fun r s' h => ?_
  match r, h with
  | .error e, h =>
    obtain ⟨_, _, _, _, _, _, _, _, _, _, _, _, z⟩ := h
    exact z.elim
  | .ok (.ret u), ⟨v, H', os, bare, un, hok', r', q⟩ =>
    have q : v = .bl true := q
    subst q
    have r' : u = Value.bool true := r'
    subst r'
    refine ⟨rfl, OldK.of_keep fun b o e => ?_, os, bare⟩
    cases q : H b with
    | none => exact un.keep b o e q (by simp [frs]) (by simp)
    | some u =>
      rcases hO b with z | ⟨ob, xs, z⟩
      · rw [q] at z
        cases z
      · obtain ⟨e1, _⟩ := hok b _ z
        obtain ⟨e2, _⟩ := hok' b _ (un.frzs b ob _ z)
        rw [e] at e1
        cases e1
        exact e2
theorem walkG {l : PySem.W.OpenLaw} {n k : Nat} {q : Program} {loose : List Str} {XP : (Str → Option Value) → Heap → Prop} {YP : World → Heap → Prop} {d : DefRec} {x : Str}
    (hn : l.most = some n) (hn2 : n ≤ sizeLine) (hdf : d.params.defaults = []) (hr : RoomG k callerA)
    (F : ∀ (w : World) (mg : Str → Option Value) (fa : Addr) (h : Heap), YP w h → h.Ns mainGlobals mg → mg d.name = some (.ref fa) →
      ∃ (K : PySem.W.Frag) (fd : FuncData) (sp : Sp), K.In h ∧ (∀ (s : Shared) (u : Value), BindsTo s fd ⟨[u], []⟩ [(x, u)]) ∧
        (∀ (H : Hp) (a : Addr) (ns : List Int), ns.length ≤ n → SqL K H a (ns.map V.int) → sp [.ref a] H (fun v _ => v = .bl true) fun _ _ _ => False) ∧
        ∀ base : Heap, K.In base → base.Ns mainGlobals mg → FnG l.prog w K mg base (L2.CX l.prog w) k fa fd [x] sp) :
    PySem.W.WalkO q loose XP YP l.row.toRowW d [] (fun f vs => PySem.call f vs) := by
  refine Att.attach_call hn hdf fun w s₀ s₁ mg mb fa o pm cd doc a vs ns G Y ho hd hcd hmg hobj hints hlen hg => ?_
  obtain ⟨K, fd, sp, KX, hb, hsp, hF⟩ := F w mg fa _ Y G.T.g hmg
  exact lawG KX G.T.g G.T.b G.T.builtins G.T.nolimit hg hobj hints (Nat.le_trans hlen hn2) hr hF hb fun H hS => hsp H a ns hlen hS
end
/-! the law's def, whatever the number of turns its loops take -/
section
variable {P : Program} {w0 : World} {K : PySem.W.Frag} {mg : Str → Option Value} {base : Heap} {CX : CXT} {k : Nat} {f : Addr} {fd : FuncData} {ps : List Str}
theorem FnG.any {sp : Nat → Sp} (h : ∀ w, FnG P w0 K mg base CX k f fd ps (sp w)) : FnG P w0 K mg base CX k f fd ps (fun vs H Q E => ∃ w, sp w vs H Q E) :=
  ⟨fun vs H Q E ⟨w, q⟩ => (h w).len vs H Q E q, fun A outer s H args us vs Q E hr en bd rv ⟨w, q⟩ => (h w).run A outer s H args us vs Q E hr en bd rv q⟩
theorem spG_law {T : Tb} (hK : T.K = K) {h : List D → List MO → R D} {M' : List MO} {a : Addr} {ns : List Int} {H : Hp} (hS : SqL K H a (ns.map V.int)) (e : h [.kst (ns.map D.int)] [] = .ok (.bl true) M') :
    spG T h [.ref a] H (fun v _ => v = .bl true) (fun _ _ _ => False) := by
  subst hK
  have hints : ∀ ns : List Int, RepL T (fun _ => False) [] H (ns.map D.int) (ns.map V.int) := by
    intro ns
    induction ns with
    | nil => exact rfl
    | cons n ns ih => exact ⟨.int n, ns.map V.int, rfl, rfl, ih⟩
  refine ⟨fun _ => False, [], [.kst (ns.map D.int)], [], HR.nil fun _ z => z.elim, ⟨.ref a, [], rfl, ⟨a, _, rfl, ?_, hints ns⟩, rfl⟩, ?_⟩
  · rcases hS with h | h
    · exact .inl ⟨h, fun z => z⟩
    · exact .inr h
  · rw [e]
    intro v Φ' ι' H' _ _ rv
    exact rv
end
end TF

/-! The head's facts for the small language: defs, constants, tables with their values. -/
namespace TF
open PySem PySem.Spec PyProof.Rows L2
def Cn.dv : Cn → He.Dv
  | .non => .non
  | .bl b => .bl b
  | .int i => .int i
  | .str s => .str s
theorem Cn.dv_v (K : PySem.W.Frag) (c : Cn) : c.dv.v K = c.v := by cases c <;> rfl
/-- one def of the text -/
structure DefI where
  d : He.DefD
  N : List Str
  ps : List Str
  b : RSs
abbrev Tv := Str × List (Str × Cn)
def obsV (fa : List He.Fa) (fn : List He.DefD) (ts : List Tv) (K : PySem.W.Frag) : (He.AlD × List (Option (List (Option (Str × Int))))) × Bool :=
  ((He.obsD fa fn K, ts.map fun t => He.dicW K (He.ga K t.1)), ts.all fun t => He.valsB K (He.ga K t.1) (t.2.map fun q => (q.1, q.2.dv)))
def valV (fn : List He.DefD) (ts : List Tv) (w : World) : (He.AlD × List (Option (List (Option (Str × Int))))) × Bool :=
  ((He.valD fn, ts.map fun t => some (He.keysIn w.params (t.2.map (·.1)))), true)
def obsVG (n : Nat) (fa : List He.Fa) (fn : List He.DefD) (ts : List Tv) (g : Addr → Option Obj) := obsV fa fn ts (He.frG g (He.asD g n))
def SaysV (fa : List He.Fa) (fn : List He.DefD) (ts : List Tv) (w : World) (K : PySem.W.Frag) : Prop := obsV fa fn ts K = valV fn ts w
def hookV (n : Nat) (fa : List He.Fa) (fn : List He.DefD) (ts : List Tv) : PySem.W.Hook where
  α := (He.AlD × List (Option (List (Option (Str × Int))))) × Bool
  obs := fun s => obsVG n fa fn ts s.heap.get?
  val := fun w => valV fn ts w
  says := fun w h => ∃ K : PySem.W.Frag, K.In h ∧ SaysV fa fn ts w K
  of := fun _ _ e => ⟨_, He.frG_in, e⟩
  keeps := fun _ _ _ ⟨K, hK, c⟩ k => ⟨K, PySem.W.Frag.In.keeps hK k, c⟩
theorem obsVG_eq {n : Nat} {fa : List He.Fa} {fn : List He.DefD} {ts : List Tv} {g : Addr → Option Obj} {s : Shared} (h : ∀ a, g a = s.heap.get? a) : obsVG n fa fn ts g = (hookV n fa fn ts).obs s := by
  have e : g = s.heap.get? := funext h
  rw [e]
  rfl
/-- the facts that are asked -/
def faOf (cns : List (Str × Cn)) (free : List Str) (fns : List Str) (ts : List Tv) : List He.Fa :=
  (cns.map fun q => match q.2 with
    | .int i => He.Fa.int q.1 i
    | .str s => He.Fa.str q.1 s
    | _ => He.Fa.keep q.1) ++ (free.map He.Fa.free ++ (fns.map He.Fa.glo ++ ts.map fun t => He.Fa.glo t.1))
def cnOk : Cn → Bool
  | .int _ => true
  | .str _ => true
  | _ => false
theorem find_str {es : List DictEntry} {P : Params} {z : Str} : ∀ {ks : List Str}, es.map He.keyOf = He.keysIn P ks → z ∉ ks → es.find? (·.key.isStr z) = none ∧ es.any (·.refKey) = false := by
  induction es with
  | nil => intro ks _ _; exact ⟨rfl, rfl⟩
  | cons e r ih =>
    intro ks h hz
    cases ks with
    | nil => cases h
    | cons k ks =>
      have h1 : He.keyOf e :: r.map He.keyOf = some (k, PyData.keyHash P k) :: He.keysIn P ks := h
      injection h1 with h2 h3
      obtain ⟨i1, i2⟩ := ih h3 fun q => hz (List.mem_cons_of_mem _ q)
      unfold He.keyOf at h2
      split at h2
      · rename_i x t q
        have h4 := Option.some.inj h2
        obtain ⟨h5, _⟩ := Prod.mk.inj h4
        have hne : e.key.isStr z = false := by
          rw [q]
          have : x ≠ z := fun ez => hz (by rw [← ez, h5]; exact List.mem_cons_self ..)
          show (x == z) = false
          simpa using this
        have hr : e.refKey = false := by
          unfold DictEntry.refKey
          rw [q]
        refine ⟨?_, ?_⟩
        · rw [List.find?_cons, hne]
          exact i1
        · rw [List.any_cons, hr, i2]
          rfl
      · cases h2
theorem nsIn_no {K : PySem.W.Frag} {a : Addr} {P : Params} {ks : List Str} {z : Str} (h : He.dicW K a = some (He.keysIn P ks)) (hz : z ∉ ks) : PySem.W.nsIn K a z = some none := by
  unfold He.dicW at h
  unfold PySem.W.nsIn
  cases q : K.lookup a with
  | none => rw [q] at h; cases h
  | some o =>
    obtain ⟨oc, od, dt, osl⟩ := o
    rw [q] at h
    cases oc with
    | type c =>
      cases od with
      | none =>
        cases dt with
        | dict es n =>
          have h1 : (match decide (c = "dict") && (osl.isEmpty && !(a == sysModules)) with
            | true => some (es.toList.map He.keyOf)
            | false => none) = some (He.keysIn P ks) := h
          split at h1
          · obtain ⟨f1, f2⟩ := find_str (Option.some.inj h1) hz
            dsimp only
            rw [f1, f2]
            rfl
          · cases h1
        | _ => cases h
      | some b => cases dt <;> cases h
    | _ => cases od <;> cases dt <;> cases h
theorem lookup_mem' {z : Str} {c : Cn} : ∀ {l : List (Str × Cn)}, l.lookup z = some c → (z, c) ∈ l
  | [], h => by cases h
  | (a, b) :: r, h => by
    rw [List.lookup_cons] at h
    split at h
    · rename_i e
      cases h
      rw [eq_of_beq e]
      exact List.mem_cons_self ..
    · exact List.mem_cons_of_mem _ (lookup_mem' h)
theorem lookup_nomem {z : Str} : ∀ {l : List (Str × Cn)}, l.lookup z = none → z ∉ l.map (·.1)
  | [], _, q => by cases q
  | (a, b) :: r, h, q => by
    rw [List.lookup_cons] at h
    split at h
    · cases h
    · rename_i e
      rcases List.mem_cons.mp q with q | q
      · subst q
        simp at e
      · exact lookup_nomem h q
section
variable {fa : List He.Fa} {fn : List He.DefD} {ts : List Tv} {w : World} {K : PySem.W.Frag}
theorem SaysV.d (c : SaysV fa fn ts w K) : He.SaysD fa fn K := congrArg (fun z : (He.AlD × List (Option (List (Option (Str × Int))))) × Bool => z.1.1) c
theorem SaysV.tab (c : SaysV fa fn ts w K) {i : Nat} {t : Tv} (h : ts[i]? = some t) : (∃ es n, KDict K w (He.ga K t.1) es n) ∧ ∀ z : Str, ∃ r, PySem.W.nsIn K (He.ga K t.1) z = some r ∧ (match t.2.lookup z with
    | some c => ∃ u, r = some u ∧ RelV c.v u
    | none => r = none) := by
  have e : ts.map (fun t => He.dicW K (He.ga K t.1)) = ts.map fun t => some (He.keysIn w.params (t.2.map (·.1))) := congrArg (fun z : (He.AlD × List (Option (List (Option (Str × Int))))) × Bool => z.1.2) c
  have e2 : (ts.map fun t => He.dicW K (He.ga K t.1))[i]? = (ts.map fun t => some (He.keysIn w.params (t.2.map (·.1))))[i]? := by rw [e]
  rw [List.getElem?_map, List.getElem?_map, h] at e2
  have e3 := Option.some.inj e2
  have ev : (ts.all fun t => He.valsB K (He.ga K t.1) (t.2.map fun q => (q.1, q.2.dv))) = true := congrArg (fun z : (He.AlD × List (Option (List (Option (Str × Int))))) × Bool => z.2) c
  have ev2 := List.all_eq_true.mp ev t (List.mem_of_getElem? h)
  refine ⟨He.dicW_ok e3, fun z => ?_⟩
  cases q : t.2.lookup z with
  | none => exact ⟨none, nsIn_no e3 (lookup_nomem q), rfl⟩
  | some c =>
    obtain ⟨u, h1, h2⟩ := He.valsB_ok ev2 (q := (z, c.dv)) (List.mem_map.mpr ⟨(z, c), lookup_mem' q, rfl⟩)
    exact ⟨some u, h1, u, rfl, by rw [← Cn.dv_v K c]; exact h2⟩
theorem SaysV.mem (c : SaysV fa fn ts w K) {f : He.Fa} (h : f ∈ fa) : f.ok K = true := by
  obtain ⟨i, hi⟩ := List.getElem?_of_mem h
  exact c.d.fact i hi
end
/-- a def's reading is right -/
structure DOk (md : Md) (D : DefI) : Prop where
  at_ : D.d.at_ = (D.d.at_.1, none)
  sc : FnScope D.N D.ps D.d.scope
  ck : ckSs md D.N D.b D.d.scope.names D.d.body = true
  bd : ∀ (kV doc pm : Value) (an : Option Addr) (cdv ct : Value) (us : List Value), us.length = D.ps.length → bindArgs (PySem.W.fnOf D.d.name D.d.qual D.d.params D.d.body D.d.scope .none kV doc pm an cdv ct) ⟨us, []⟩ = pure (D.ps.zip us)
  nd : D.d.dfl = [] ∧ D.d.kwd = []
def scB (N P : List Str) (sc : Scope) : Bool := (match sc.kind with | .function => true | _ => false) && (!sc.isCoroutine && (!sc.isGenerator && (decide N.Nodup && (decide (N.take P.length = P) && ((P.all fun x => decide (sc.names.lookup x = some .local) || decide (sc.names.lookup x = some .cell)) && sc.names.all fun y => decide (y.2 ≠ .free))))))
theorem scB_ok {N P : List Str} {sc : Scope} (h : scB N P sc = true) : FnScope N P sc := by
  unfold scB at h
  simp only [Bool.and_eq_true, Bool.not_eq_true', decide_eq_true_eq, List.all_eq_true, Bool.or_eq_true] at h
  obtain ⟨h1, h2, h3, h4, h5, h6, h7⟩ := h
  refine ⟨?_, h2, h3, h4, h5, h6, h7⟩
  split at h1
  · assumption
  · cases h1
def mdOf (cns : List (Str × Cn)) (free : List Str) (ts : List Tv) (fns : List Str) : Md := ⟨fns, cns, ts, free⟩
def fsOf (ds : List DefI) (f : Nat) : Option (Fd × Nat) := (ds[f]?).map fun D => (⟨D.b, D.N.length⟩, D.ps.length)
def tabOf (ts : List Tv) (t : Nat) : List (Str × Cn) := match ts[t]? with
  | some q => q.2
  | none => []
section
variable {P : Program} {w0 : World} {K : PySem.W.Frag} {mg : Str → Option Value} {h base : Heap} {T : Tb} {cns : List (Str × Cn)} {free : List Str} {ts : List Tv} {ds : List DefI} {w : Nat}
theorem fok_of (X : K.In h) (G : h.Ns mainGlobals mg)
    (c : SaysV (faOf cns free (ds.map (·.d.at_.1)) ts) (ds.map (·.d)) ts w0 K) {f : Nat} {D : DefI} (h1 : ds[f]? = some D) (ok : DOk (mdOf cns free ts (ds.map (·.d.at_.1))) D) :
    ∃ fd : FuncData, FunD K D.d.name D.d.qual D.d.params D.d.body D.d.scope [] [] (He.ga K D.d.at_.1) fd ∧ mg D.d.at_.1 = some (.ref (He.ga K D.d.at_.1)) ∧ (∀ (s : Shared) (us : List Value), us.length = D.ps.length → BindsTo s fd ⟨us, []⟩ (D.ps.zip us)) := by
  obtain ⟨fd, F⟩ := c.d.def_ f (d := D.d) (by rw [List.getElem?_map, h1]; rfl)
  have F2 : FunD K D.d.name D.d.qual D.d.params D.d.body D.d.scope [] [] (He.ga K D.d.at_.1) fd := by
    have e2 : He.fAd K D.d.at_ = He.ga K D.d.at_.1 := by rw [ok.at_]; rfl
    have e3 : D.d.dvs K = [] := by unfold He.DefD.dvs; rw [ok.nd.1]; rfl
    have e4 : D.d.kws K = [] := by unfold He.DefD.kws; rw [ok.nd.2]; rfl
    have F1 := F
    rw [e2, e3, e4] at F1
    exact F1
  refine ⟨fd, F2, He.glo_ok X G (c.mem (List.mem_append_right _ (List.mem_append_right _ (List.mem_append_left _ (List.mem_map.mpr ⟨D.d.at_.1, List.mem_map.mpr ⟨D, List.mem_of_getElem? h1, rfl⟩, rfl⟩))))), fun s us hl => ?_⟩
  exact F2.bindsA ok.bd s us hl
theorem mods_of (hK : T.K = K) (X : K.In h) (G : h.Ns mainGlobals mg)
    (hc : cns.all (fun q => cnOk q.2) = true) (c : SaysV (faOf cns free (ds.map (·.d.at_.1)) ts) (ds.map (·.d)) ts w0 K) (hd : ∀ D ∈ ds, DOk (mdOf cns free ts (ds.map (·.d.at_.1))) D) :
    ∀ n, Mds P w0 K mg base T (mdOf cns free ts (ds.map (·.d.at_.1))) ⟨callF (tabOf ts) (fsOf ds) w n, tabOf ts, w⟩ n := by
  refine mods hK (fun x cn e => ?_) (fun x e => ?_) (fun t x e => ?_) fun f x e => ?_
  · have hm := lookup_mem' e
    have h1 := List.all_eq_true.mp hc _ hm
    cases cn with
    | int i =>
      obtain ⟨t, q⟩ := He.int_ok X G (c.mem (f := .int x i) (List.mem_append_left _ (List.mem_map.mpr ⟨(x, .int i), hm, rfl⟩)))
      exact ⟨_, q, t, rfl⟩
    | str s =>
      obtain ⟨t, q⟩ := He.str_ok X G (c.mem (f := .str x s) (List.mem_append_left _ (List.mem_map.mpr ⟨(x, .str s), hm, rfl⟩)))
      exact ⟨_, q, t, rfl⟩
    | _ => cases h1
  · exact He.free_ok X G (c.mem (List.mem_append_right _ (List.mem_append_left _ (List.mem_map.mpr ⟨x, e, rfl⟩))))
  · have e : (ts[t]?).map (·.1) = some x := e
    obtain ⟨q, h1, rfl⟩ := Option.map_eq_some_iff.mp e
    obtain ⟨⟨es, n, hD⟩, hz⟩ := c.tab h1
    refine ⟨He.ga K q.1, es, n, He.glo_ok X G (c.mem (List.mem_append_right _ (List.mem_append_right _ (List.mem_append_right _ (List.mem_map.mpr ⟨q, List.mem_of_getElem? h1, rfl⟩))))), hD, ?_⟩
    unfold tabOf
    rw [h1]
    exact hz
  · have e : (ds.map (·.d.at_.1))[f]? = some x := e
    rw [List.getElem?_map] at e
    obtain ⟨D, h1, rfl⟩ := Option.map_eq_some_iff.mp e
    have ok := hd D (List.mem_of_getElem? h1)
    obtain ⟨fd, F2, hm, hB⟩ := fok_of X G c h1 ok
    exact ⟨_, fd, _, _, _, _, _, D.N, D.ps, ⟨D.b, D.N.length⟩, hm, F2, ok.sc, hB, by unfold fsOf; rw [h1]; rfl, rfl, ok.ck⟩
end
/-- THE LAW, from what its def computes -/
theorem law_end {l : PySem.W.OpenLaw} {n k m fL : Nat} {q : Program} {loose : List Str} {XP : (Str → Option Value) → Heap → Prop} {d : DefRec} {x : Str} {cns : List (Str × Cn)} {free : List Str} {ts : List Tv} {ds : List DefI} {D0 : DefI}
    (hn : l.most = some n) (hn2 : n ≤ sizeLine) (hdf : d.params.defaults = []) (hr : RoomG (k + 1) callerA) (hc : cns.all (fun q => cnOk q.2) = true) (hd : ∀ D ∈ ds, DOk (mdOf cns free ts (ds.map (·.d.at_.1))) D)
    (hL : ds[fL]? = some D0) (hx : D0.ps = [x]) (hname : D0.d.at_.1 = d.name)
    (law : ∀ ns : List Int, ns.length ≤ n → ∃ w M', callF (tabOf ts) (fsOf ds) w (k + 1) fL [.kst (ns.map D.int)] [] = .ok (.bl true) M') :
    PySem.W.WalkO q loose XP (hookV m (faOf cns free (ds.map (·.d.at_.1)) ts) (ds.map (·.d)) ts).says l.row.toRowW d [] (fun f vs => PySem.call f vs) := by
  refine walkG (x := x) hn hn2 hdf hr fun w mg fa h Y G hmg => ?_
  obtain ⟨K, KX, c⟩ := Y
  have ok := hd D0 (List.mem_of_getElem? hL)
  obtain ⟨fd, F2, hm, hB⟩ := fok_of KX G c hL ok
  rw [hname, hmg] at hm
  cases hm
  refine ⟨K, fd, fun vs H Q E => ∃ t, spG ⟨K, fun _ => 0, fun _ => 0, fun _ => 0, fun _ => .none⟩ (callF (tabOf ts) (fsOf ds) t (k + 1) fL) vs H Q E, KX, fun s u => ?_, fun H a ns hl hS => ?_, fun base hb hg => ?_⟩
  · have := hB s [u] (by rw [hx]; rfl)
    rw [hx] at this
    exact this
  · obtain ⟨t, M', e⟩ := law ns hl
    exact ⟨t, spG_law rfl hS e⟩
  · refine FnG.any fun t => ?_
    have hM := mods_of (P := l.prog) (base := base) (T := ⟨K, fun _ => 0, fun _ => 0, fun _ => 0, fun _ => .none⟩) (w := t) rfl KX G hc c hd k
    have := fnG_at (P := l.prog) (base := base) rfl hM F2 ok.sc (f := fL) (d := ⟨D0.b, D0.N.length⟩) (by unfold fsOf; rw [hL]; rfl) rfl ok.ck
    rw [hx, hname] at this
    exact this
end TF

/-! Rules for what the small language computes. -/
namespace TF
open PySem PySem.Spec PyProof.Rows L2
def fin : O → R D
  | .ret v M => .ok v M
  | .nx _ M => .ok .non M
  | .err x _ M => .err x M
  | _ => .bad
section
variable {tab : Nat → List (Str × Cn)} {fs : Nat → Option (Fd × Nat)} {w n f : Nat} {ds : List D} {M M' : List MO} {α β : Type} {d : Fd} {kk : Nat}
theorem call_eq (h : fs f = some (d, kk)) (hl : ds.length = kk) : callF tab fs w (n + 1) f ds M = fin (exs ⟨callF tab fs w n, tab, w⟩ d.body (startE d.n ds) M) := by
  simp only [callF, h]
  rw [if_pos (by rw [hl]; simp)]
  cases exs ⟨callF tab fs w n, tab, w⟩ d.body (startE d.n ds) M <;> rfl
theorem exs_c {γ : Gm} {s : RS} {ss : RSs} {e : Ev} : exs γ (.cons s ss) e M = (ex γ s e M).seq (exs γ ss) := rfl
theorem exs_n {γ : Gm} {e : Ev} : exs γ .nil e M = .nx e M := rfl
theorem step {o : O} {e : Ev} {g : Ev → List MO → O} {r : R D} (h : o = .nx e M) (k : fin (g e M) = r) : fin (o.seq g) = r := by rw [h]; exact k
theorem fin_ret {v : D} : fin (.ret v M) = .ok v M := rfl
theorem fin_nx {e : Ev} : fin (.nx e M) = .ok .non M := rfl
theorem fin_bad : fin .bad = .bad := rfl
theorem fin_ite {c : Prop} [Decidable c] {a b : O} : fin (if c then a else b) = if c then fin a else fin b := by split <;> rfl
theorem bind_ok {a : α} {g : α → List MO → R β} : (R.ok a M).bind g = g a M := rfl
theorem bind_bad {g : α → List MO → R β} : (R.bad : R α).bind g = .bad := rfl
theorem bind_err {x : Exn} {g : α → List MO → R β} : (R.err x M : R α).bind g = .err x M := rfl
theorem bind_ite {c : Prop} [Decidable c] {a b : R α} {g : α → List MO → R β} : (if c then a else b).bind g = if c then a.bind g else b.bind g := by split <;> rfl
theorem exS_ok {a : α} {e : Ev} {g : α → List MO → O} : exS (R.ok a M) e g = g a M := rfl
theorem exS_bad {e : Ev} {g : α → List MO → O} : exS (R.bad : R α) e g = .bad := rfl
theorem exS_ite {c : Prop} [Decidable c] {a b : R α} {e : Ev} {g : α → List MO → O} : exS (if c then a else b) e g = if c then exS a e g else exS b e g := by split <;> rfl
theorem seq_nx {e : Ev} {g : Ev → List MO → O} : (O.nx e M).seq g = g e M := rfl
theorem seq_ret {v : D} {g : Ev → List MO → O} : (O.ret v M).seq g = .ret v M := rfl
theorem seq_brk {e : Ev} {g : Ev → List MO → O} : (O.brk e M).seq g = .brk e M := rfl
theorem seq_cont {e : Ev} {g : Ev → List MO → O} : (O.cont e M).seq g = .cont e M := rfl
theorem seq_bad {g : Ev → List MO → O} : O.bad.seq g = .bad := rfl
theorem seq_ite {c : Prop} [Decidable c] {a b : O} {g : Ev → List MO → O} : (if c then a else b).seq g = if c then a.seq g else b.seq g := by split <;> rfl
theorem of_some {a : α} : R.of (some a) M = .ok a M := rfl
theorem of_none : R.of (none : Option α) M = .bad := rfl
theorem when_t {r : R α} : R.when true r = r := rfl
theorem when_f {r : R α} : R.when false r = .bad := rfl
theorem when_dec {p : Prop} [Decidable p] {r : R α} (h : p) : R.when (decide p) r = r := by rw [decide_eq_true h]; rfl
theorem calm_ok {a : α} : (R.ok a M).calm = .ok a M := rfl
/-! operators -/
variable {i j : Int} {a b : Str} {l m : List D} {x y : Bool}
theorem add_i : evOp .add (.int i) (.int j) M = .ok (.int (i + j)) M := rfl
theorem sub_i : evOp .sub (.int i) (.int j) M = .ok (.int (i - j)) M := rfl
theorem add_s : evOp .add (.str a) (.str b) M = R.when (decide (a.length + b.length ≤ sizeLine)) (.ok (.str (a ++ b)) M) := rfl
theorem add_l : evOp .add (.lst l) (.lst m) M = R.when (decide (l.length + m.length ≤ sizeLine)) (.ok (.lst (l ++ m)) M) := rfl
theorem mul_i : evOp .mul (.int i) (.int j) M = R.when ((smallB i || smallB j) || (wideB i && wideB j)) (.ok (.int (i * j)) M) := rfl
theorem div_i : evOp .div (.int i) (.int j) M = R.when (decide (0 < j) && wideB j) (.ok (.int (i / j)) M) := rfl
theorem mod_i : evOp .mod (.int i) (.int j) M = R.when (decide (0 < j)) (.ok (.int (i % j)) M) := rfl
theorem pow_i : evOp .pow (.int i) (.int j) M = R.when (decide (0 ≤ j) && (decide (j ≤ 1000000) && smallB i)) (.ok (.int (i ^ j.toNat)) M) := rfl
theorem aug_add : evAug .add (.int i) (.int j) M = .ok (.int (i + j)) M := rfl
theorem aug_sub : evAug .sub (.int i) (.int j) M = .ok (.int (i - j)) M := rfl
theorem eq_i : evCmp .eq (.int i) (.int j) M = .ok (.bl (i == j)) M := rfl
theorem ne_i : evCmp .ne (.int i) (.int j) M = .ok (.bl (!(i == j))) M := rfl
theorem eq_s : evCmp .eq (.str a) (.str b) M = .ok (.bl (a == b)) M := rfl
theorem ne_s : evCmp .ne (.str a) (.str b) M = .ok (.bl (!(a == b))) M := rfl
theorem eq_b : evCmp .eq (.bl x) (.bl y) M = .ok (.bl (x == y)) M := rfl
theorem ne_b : evCmp .ne (.bl x) (.bl y) M = .ok (.bl (!(x == y))) M := rfl
theorem lt_i : evCmp .lt (.int i) (.int j) M = .ok (.bl (decide (i < j))) M := rfl
theorem le_i : evCmp .le (.int i) (.int j) M = .ok (.bl (decide (i ≤ j))) M := rfl
theorem gt_i : evCmp .gt (.int i) (.int j) M = .ok (.bl (decide (j < i))) M := rfl
theorem ge_i : evCmp .ge (.int i) (.int j) M = .ok (.bl (decide (j ≤ i))) M := rfl
theorem is_n {u : D} : evCmp .is u .non M = .ok (.bl (isNon u)) M := rfl
theorem isnot_n {u : D} : evCmp .isnot u .non M = .ok (.bl (!isNon u)) M := rfl
theorem tr_b : trB M (.bl x) = some x := rfl
theorem tr_i : trB M (.int i) = some (i != 0) := rfl
theorem tr_t : trB M (.tup l) = some (!l.isEmpty) := rfl
theorem tr_l : trB M (.lst l) = some (!l.isEmpty) := rfl
theorem tr_n : trB M .non = some false := rfl
theorem tr_s (h : a.length ≤ sizeLine) : trB M (.str a) = some ((a.length : Int) != 0) := by
  show (if a.length ≤ sizeLine then some ((a.length : Int) != 0) else none) = _
  rw [if_pos h]
theorem ix_l {u : D} (h : atI l i = some u) : evIx (.lst l) (.int i) M = .ok u M := by
  show R.of (atI l i) M = _
  rw [h]
  rfl
theorem ix_k {u : D} (h : atI l i = some u) : evIx (.kst l) (.int i) M = .ok u M := by
  show R.of (atI l i) M = _
  rw [h]
  rfl
theorem ix_t {u : D} (h : atI l i = some u) : evIx (.tup l) (.int i) M = .ok u M := by
  show R.of (atI l i) M = _
  rw [h]
  rfl
theorem ix_r {u : D} {k : Nat} (hM : M[k]? = some (.lst l)) (h : atI l i = some u) : evIx (.ref k) (.int i) M = .ok u M := by
  have e : seqV M (.ref k) = some (true, l) := by simp only [seqV, hM]
  unfold evIx
  simp only [asInt, asStr, e, h]
  rfl
theorem at_0 {u : D} : atI (u :: l) 0 = some u := by
  unfold atI ixN
  simp
theorem flat_pairs : ∀ (l : List (Int × Int)) (n : Nat), flatL (n + 1) (l.map fun p => D.tup [.int p.1, .int p.2]) = true
  | [], n => rfl
  | p :: l, n => by
    show ((D.tup [.int p.1, .int p.2]).flat (n + 1) && flatL (n + 1) (l.map fun p => D.tup [.int p.1, .int p.2])) = true
    rw [flat_pairs l n, Bool.and_true]
    cases n <;> rfl
theorem asInt_i : asInt (.int i) = some i := rfl
theorem asStr_s : asStr (.str a) = some a := rfl
theorem asStr_i : asStr (.int i) = none := rfl
theorem asStr_t : asStr (.tup l) = none := rfl
theorem asBl_b : asBl (.bl x) = some x := rfl
theorem asTup_t : asTup (.tup l) = some l := rfl
theorem isNon_n : isNon .non = true := rfl
theorem isNon_i : isNon (.int i) = false := rfl
theorem isNon_s : isNon (.str a) = false := rfl
theorem isNon_t : isNon (.tup l) = false := rfl
theorem isNon_l : isNon (.lst l) = false := rfl
/-! loops -/
theorem lc_map {mu : Bool} {turn : D → List MO → R (Option D)} {f h : α → D} : ∀ (l : List α) (acc : List D), (∀ a ∈ l, turn (f a) M = .ok (some (h a)) M) → acc.length + l.length ≤ sizeLine → lcLoop mu none turn (l.map f) acc M = lcEnd mu (acc ++ l.map h) M
  | [], acc, _, _ => by simp [lcLoop, okGuard, when_t]
  | a :: l, acc, ht, hl => by
    simp only [List.length_cons] at hl
    have h1 : acc.length < sizeLine := by omega
    simp only [List.map_cons, lcLoop, okGuard, Bool.true_and]
    rw [when_dec h1, ht a (List.mem_cons_self ..), bind_ok]
    dsimp only
    rw [lc_map l (acc ++ [h a]) (fun b hb => ht b (List.mem_cons_of_mem _ hb)) (by simp; omega)]
    simp
theorem lc_filter {mu : Bool} {turn : D → List MO → R (Option D)} {f h : α → D} {p : α → Bool} : ∀ (l : List α) (acc : List D), (∀ a ∈ l, turn (f a) M = .ok (if p a then some (h a) else none) M) → acc.length + l.length ≤ sizeLine → lcLoop mu none turn (l.map f) acc M = lcEnd mu (acc ++ (l.filter p).map h) M
  | [], acc, _, _ => by simp [lcLoop, okGuard, when_t]
  | a :: l, acc, ht, hl => by
    simp only [List.length_cons] at hl
    have h1 : acc.length < sizeLine := by omega
    simp only [List.map_cons, lcLoop, okGuard, Bool.true_and]
    rw [when_dec h1, ht a (List.mem_cons_self ..), bind_ok]
    cases hp : p a with
    | true =>
      simp only [if_true]
      rw [lc_filter l (acc ++ [h a]) (fun b hb => ht b (List.mem_cons_of_mem _ hb)) (by simp; omega)]
      simp [hp]
    | false =>
      simp only [Bool.false_eq_true, if_false]
      rw [lc_filter l acc (fun b hb => ht b (List.mem_cons_of_mem _ hb)) (by omega)]
      simp [hp]
/-- a for that goes to its end -/
theorem for_ind {turn : D → Ev → List MO → O} {f : α → D} (P : List α → Ev → List MO → Prop) : ∀ (l done : List α) (e : Ev) (M : List MO),
    (∀ (dn : List α) (a : α) (r : List α) (e : Ev) (M : List MO), done ++ l = dn ++ a :: r → P dn e M → ∃ e' M', (turn (f a) e M = .nx e' M' ∨ turn (f a) e M = .cont e' M') ∧ P (dn ++ [a]) e' M') → P done e M →
    ∃ e' M', forLoop none turn (l.map f) e M = .nx e' M' ∧ P (done ++ l) e' M'
  | [], done, e, M, _, h => ⟨e, M, by simp [forLoop, okGuard], by simpa using h⟩
  | a :: l, done, e, M, ht, h => by
    obtain ⟨e1, M1, h1, h2⟩ := ht done a l e M rfl h
    obtain ⟨e2, M2, h3, h4⟩ := for_ind P l (done ++ [a]) e1 M1 (fun dn b r e M q => ht dn b r e M (by simpa using q)) h2
    refine ⟨e2, M2, ?_, by simpa using h4⟩
    simp only [List.map_cons, forLoop, okGuard, if_true]
    rcases h1 with h1 | h1 <;> (rw [h1]; exact h3)
end
end TF

namespace K79
open PySem PySem.Spec PyProof.Rows L2 TF
abbrev prog : Program := PySem.Challenge.pw_turnflags_k79_texts_written_and_parsed
def top (i : Nat) : Stmt := prog.main.body.getD i (.Pass ⟨0, 0, 0, 0⟩)
def cns : List (Str × Cn) := [("MAX_SIZE", .int 1000000000000), ("MAX_RUNS", .int 41), ("RIGHT", .str "right"), ("LEFT", .str "left"), ("FIGURES", .str "0123456789"), ("NONE", .str "none"), ("PART_DIGITS", .int 13)]
def free : List Str := ["abs", "any", "bool", "enumerate", "int", "isinstance", "len", "max", "min", "range", "repr", "str", "tuple"]
def ts : List Tv := [("SIGNS", [(">", .str "right"), ("<", .str "left")])]
/-- other_side(side): slots 0 side -/
def b_other_side : RSs := (.cons (.ret (.ife (.cmp .eq (.v 0) (.g "RIGHT" (.str "right"))) (.g "LEFT" (.str "left")) (.g "RIGHT" (.str "right")))) .nil)
def d_other_side : DefI := ⟨⟨("other_side", none), "other_side", "other_side", defArgs (top 9), defBody (top 9), defScope (top 9), [], []⟩, ["side"], ["side"], b_other_side⟩
/-- place_on(size, place, side, many): slots 0 size, 1 place, 2 side, 3 many -/
def b_place_on : RSs := (.cons (.ret (.ife (.cmp .eq (.v 2) (.g "RIGHT" (.str "right"))) (.op .mod (.op .add (.v 1) (.v 3)) (.v 0)) (.op .mod (.op .sub (.v 1) (.v 3)) (.v 0)))) .nil)
def d_place_on : DefI := ⟨⟨("place_on", none), "place_on", "place_on", defArgs (top 10), defBody (top 10), defScope (top 10), [], []⟩, ["size", "place", "side", "many"], ["size", "place", "side", "many"], b_place_on⟩
/-- flag_is_up(raised, place): slots 0 raised, 1 place, 2 begin, 3 end -/
def b_flag_is_up : RSs := (.cons (.ret (.bi .any (.cons (.lc false [2, 3] (.tp (.cons (.nm 2) (.cons (.nm 3) .nil))) (.it (.v 0)) .none (.chain .le .lt (.v 2) (.v 1) (.v 3))) .nil))) .nil)
def d_flag_is_up : DefI := ⟨⟨("flag_is_up", none), "flag_is_up", "flag_is_up", defArgs (top 11), defBody (top 11), defScope (top 11), [], []⟩, ["raised", "place", "begin", "end"], ["raised", "place"], b_flag_is_up⟩
/-- put_together(runs): slots 0 runs, 1 found, 2 number, 3 length -/
def b_put_together : RSs := (.cons (.set (.nm 1) (.newl .nil)) (.cons (.forr (.tp (.cons (.nm 2) (.cons (.nm 3) .nil))) (.it (.v 0)) (.cons (.ite (.bnd (.cons (.cmp .ne (.v 1) (.lst .nil)) (.cons (.cmp .eq (.ix (.ix (.v 1) (.neg (.c (.int 1)))) (.c (.int 0))) (.v 2)) .nil))) (.cons (.par [2, 3] (.cons (.v 2) (.cons (.op .add (.ix (.mm .pop (.v 1) .nil) (.c (.int 1))) (.v 3)) .nil))) .nil) .nil) (.cons (.ite (.cmp .gt (.v 3) (.c (.int 0))) (.cons (.ex (.mm .append (.v 1) (.cons (.tup (.cons false (.v 2) (.cons false (.v 3) .nil))) .nil))) .nil) .nil) .nil))) (.cons (.ret (.bi .tuple (.cons (.v 1) .nil))) .nil)))
def d_put_together : DefI := ⟨⟨("put_together", none), "put_together", "put_together", defArgs (top 12), defBody (top 12), defScope (top 12), [], []⟩, ["runs", "found", "number", "length"], ["runs"], b_put_together⟩
/-- runs_of(size, raised): slots 0 size, 1 raised, 2 found, 3 end, 4 begin, 5 stop -/
def b_runs_of : RSs := (.cons (.set (.nm 2) (.newl .nil)) (.cons (.set (.nm 3) (.c (.int 0))) (.cons (.forr (.tp (.cons (.nm 4) (.cons (.nm 5) .nil))) (.it (.v 1)) (.cons (.ex (.mm .extend (.v 2) (.cons (.lst (.cons false (.tup (.cons false (.c (.int 0)) (.cons false (.op .sub (.v 4) (.v 3)) .nil))) (.cons false (.tup (.cons false (.c (.int 1)) (.cons false (.op .sub (.v 5) (.v 4)) .nil))) .nil))) .nil))) (.cons (.set (.nm 3) (.v 5)) .nil))) (.cons (.ret (.call 3 (.cons (.lst (.cons true (.v 2) (.cons false (.tup (.cons false (.c (.int 0)) (.cons false (.op .sub (.v 0) (.v 3)) .nil))) .nil))) .nil))) .nil))))
def d_runs_of : DefI := ⟨⟨("runs_of", none), "runs_of", "runs_of", defArgs (top 13), defBody (top 13), defScope (top 13), [], []⟩, ["size", "raised", "found", "end", "begin", "stop"], ["size", "raised"], b_runs_of⟩
/-- cut_runs(runs, first, many): slots 0 runs, 1 first, 2 many, 3 found, 4 begin, 5 number, 6 length, 7 low, 8 high -/
def b_cut_runs : RSs := (.cons (.set (.nm 3) (.newl .nil)) (.cons (.set (.nm 4) (.c (.int 0))) (.cons (.forr (.tp (.cons (.nm 5) (.cons (.nm 6) .nil))) (.it (.v 0)) (.cons (.par [7, 8] (.cons (.bi .max (.cons (.v 4) (.cons (.v 1) .nil))) (.cons (.bi .min (.cons (.op .add (.v 4) (.v 6)) (.cons (.op .add (.v 1) (.v 2)) .nil))) .nil))) (.cons (.ex (.mm .append (.v 3) (.cons (.tup (.cons false (.v 5) (.cons false (.bi .max (.cons (.c (.int 0)) (.cons (.op .sub (.v 8) (.v 7)) .nil))) .nil))) .nil))) (.cons (.aug 4 .add (.v 6)) .nil)))) (.cons (.ret (.call 3 (.cons (.fz (.v 3)) .nil))) .nil))))
def d_cut_runs : DefI := ⟨⟨("cut_runs", none), "cut_runs", "cut_runs", defArgs (top 14), defBody (top 14), defScope (top 14), [], []⟩, ["runs", "first", "many", "found", "begin", "number", "length", "low", "high"], ["runs", "first", "many"], b_cut_runs⟩
/-- ring_runs(size, raised, place, side): slots 0 size, 1 raised, 2 place, 3 side, 4 runs -/
def b_ring_runs : RSs := (.cons (.set (.nm 4) (.call 4 (.cons (.v 0) (.cons (.v 1) .nil)))) (.cons (.ite (.cmp .eq (.v 3) (.g "LEFT" (.str "left"))) (.cons (.par [4, 2] (.cons (.rv (.v 4)) (.cons (.op .sub (.op .sub (.v 0) (.c (.int 1))) (.v 2)) .nil))) .nil) .nil) (.cons (.ret (.call 3 (.cons (.lst (.cons true (.call 5 (.cons (.v 4) (.cons (.v 2) (.cons (.op .sub (.v 0) (.v 2)) .nil)))) (.cons true (.call 5 (.cons (.v 4) (.cons (.c (.int 0)) (.cons (.v 2) .nil)))) .nil))) .nil))) .nil)))
def d_ring_runs : DefI := ⟨⟨("ring_runs", none), "ring_runs", "ring_runs", defArgs (top 15), defBody (top 15), defScope (top 15), [], []⟩, ["size", "raised", "place", "side", "runs"], ["size", "raised", "place", "side"], b_ring_runs⟩
/-- heading_of(state): slots 0 state, 1 size, 2 raised, 3 place, 4 facing, 5 behind -/
def b_heading_of : RSs := (.cons (.set (.tp (.cons (.nm 1) (.cons (.nm 2) (.cons (.nm 3) (.cons (.nm 4) .nil))))) (.v 0)) (.cons (.set (.nm 5) (.call 1 (.cons (.v 1) (.cons (.v 3) (.cons (.v 4) (.cons (.neg (.c (.int 1))) .nil)))))) (.cons (.ite (.call 2 (.cons (.v 2) (.cons (.v 5) .nil))) (.cons (.ret (.tup (.cons false (.v 4) (.cons false (.v 3) (.cons false (.c (.int 0)) .nil))))) .nil) .nil) (.cons (.ret (.ife (.call 2 (.cons (.v 2) (.cons (.v 3) .nil))) (.tup (.cons false (.call 0 (.cons (.v 4) .nil)) (.cons false (.v 5) (.cons false (.c (.int 1)) .nil)))) (.tup (.cons false (.v 4) (.cons false (.v 3) (.cons false (.c (.int 2)) .nil)))))) .nil))))
def d_heading_of : DefI := ⟨⟨("heading_of", none), "heading_of", "heading_of", defArgs (top 16), defBody (top 16), defScope (top 16), [], []⟩, ["state", "size", "raised", "place", "facing", "behind"], ["state"], b_heading_of⟩
/-- word_of(state): slots 0 state, 1 size, 2 raised, 3 place, 4 facing, 5 way, 6 spot, 7 phase, 8 first, 9 ahead -/
def b_word_of : RSs := (.cons (.set (.tp (.cons (.nm 1) (.cons (.nm 2) (.cons (.nm 3) (.cons (.nm 4) .nil))))) (.v 0)) (.cons (.set (.tp (.cons (.nm 5) (.cons (.nm 6) (.cons (.nm 7) .nil)))) (.call 7 (.cons (.v 0) .nil))) (.cons (.set (.nm 8) (.bi .int (.cons (.bor (.cons (.cmp .gt (.v 7) (.c (.int 0))) (.cons (.call 2 (.cons (.v 2) (.cons (.v 6) .nil))) .nil))) .nil))) (.cons (.set (.nm 9) (.call 6 (.cons (.v 1) (.cons (.v 2) (.cons (.v 6) (.cons (.v 5) .nil)))))) (.cons (.ret (.call 3 (.cons (.lst (.cons false (.tup (.cons false (.v 8) (.cons false (.c (.int 1)) .nil))) (.cons true (.call 5 (.cons (.v 9) (.cons (.c (.int 1)) (.cons (.op .sub (.v 1) (.c (.int 2))) .nil)))) .nil))) .nil))) .nil)))))
def d_word_of : DefI := ⟨⟨("word_of", none), "word_of", "word_of", defArgs (top 17), defBody (top 17), defScope (top 17), [], []⟩, ["state", "size", "raised", "place", "facing", "way", "spot", "phase", "first", "ahead"], ["state"], b_word_of⟩
/-- gaps_of(word): slots 0 word, 1 lengths, 2 number, 3 length -/
def b_gaps_of : RSs := (.cons (.setlc 1 (.lc false [2, 3] (.tp (.cons (.nm 2) (.cons (.nm 3) .nil))) (.it (.v 0)) .none (.v 3))) (.cons (.ite (.cmp .eq (.ix (.ix (.v 0) (.c (.int 0))) (.c (.int 0))) (.ix (.ix (.v 0) (.neg (.c (.int 1)))) (.c (.int 0)))) (.cons (.ret (.v 1)) .nil) .nil) (.cons (.ret (.lst (.cons true (.sl (.v 1) (.some (.c (.int 1))) (.some (.neg (.c (.int 1))))) (.cons false (.op .add (.ix (.v 1) (.neg (.c (.int 1)))) (.ix (.v 1) (.c (.int 0)))) .nil)))) .nil)))
def d_gaps_of : DefI := ⟨⟨("gaps_of", none), "gaps_of", "gaps_of", defArgs (top 18), defBody (top 18), defScope (top 18), [], []⟩, ["word", "lengths", "number", "length"], ["word"], b_gaps_of⟩
/-- is_between(value, low, high): slots 0 value, 1 low, 2 high -/
def b_is_between : RSs := (.cons (.ret (.bnd (.cons (.isi (.v 0) "int") (.cons (.nt (.isi (.v 0) "bool")) (.cons (.chain .le .le (.v 1) (.v 0) (.v 2)) .nil))))) .nil)
def d_is_between : DefI := ⟨⟨("is_between", none), "is_between", "is_between", defArgs (top 20), defBody (top 20), defScope (top 20), [], []⟩, ["value", "low", "high"], ["value", "low", "high"], b_is_between⟩
/-- is_side(value): slots 0 value -/
def b_is_side : RSs := (.cons (.ret (.bnd (.cons (.isi (.v 0) "str") (.cons (.cmp .isin (.v 0) (.tup (.cons false (.g "RIGHT" (.str "right")) (.cons false (.g "LEFT" (.str "left")) .nil)))) .nil)))) .nil)
def d_is_side : DefI := ⟨⟨("is_side", none), "is_side", "is_side", defArgs (top 21), defBody (top 21), defScope (top 21), [], []⟩, ["value"], ["value"], b_is_side⟩
/-- pair_error(size, pairs): slots 0 size, 1 pairs, 2 least, 3 index, 4 pair -/
def b_pair_error : RSs := (.cons (.set (.nm 2) (.c (.int 0))) (.cons (.forr (.tp (.cons (.nm 3) (.cons (.nm 4) .nil))) (.enum (.v 1)) (.cons (.ite (.bor (.cons (.nt (.isi (.v 4) "tuple")) (.cons (.cmp .ne (.bi .len (.cons (.v 4) .nil)) (.c (.int 2))) (.cons (.nt (.call 10 (.cons (.ix (.v 4) (.c (.int 0))) (.cons (.v 2) (.cons (.op .sub (.v 0) (.c (.int 1))) .nil))))) .nil)))) (.cons (.ret (.v 3)) .nil) .nil) (.cons (.ite (.nt (.call 10 (.cons (.ix (.v 4) (.c (.int 1))) (.cons (.op .add (.ix (.v 4) (.c (.int 0))) (.c (.int 1))) (.cons (.v 0) .nil))))) (.cons (.ret (.v 3)) .nil) .nil) (.cons (.set (.nm 2) (.op .add (.ix (.v 4) (.c (.int 1))) (.c (.int 1)))) .nil)))) (.cons (.ret (.c .non)) .nil)))
def d_pair_error : DefI := ⟨⟨("pair_error", none), "pair_error", "pair_error", defArgs (top 22), defBody (top 22), defScope (top 22), [], []⟩, ["size", "pairs", "least", "index", "pair"], ["size", "pairs"], b_pair_error⟩
/-- state_error(value): slots 0 value, 1 size, 2 raised, 3 place, 4 facing, 5 index -/
def b_state_error : RSs := (.cons (.ite (.bor (.cons (.nt (.isi (.v 0) "tuple")) (.cons (.cmp .ne (.bi .len (.cons (.v 0) .nil)) (.c (.int 4))) .nil))) (.cons (.ret (.tup (.cons false (.c (.str "state")) .nil))) .nil) .nil) (.cons (.set (.tp (.cons (.nm 1) (.cons (.nm 2) (.cons (.nm 3) (.cons (.nm 4) .nil))))) (.v 0)) (.cons (.ite (.nt (.call 10 (.cons (.v 1) (.cons (.c (.int 2)) (.cons (.g "MAX_SIZE" (.int 1000000000000)) .nil))))) (.cons (.ret (.tup (.cons false (.c (.str "size")) .nil))) .nil) .nil) (.cons (.ite (.bor (.cons (.nt (.isi (.v 2) "tuple")) (.cons (.cmp .gt (.bi .len (.cons (.v 2) .nil)) (.g "MAX_RUNS" (.int 41))) .nil))) (.cons (.ret (.tup (.cons false (.c (.str "raised")) .nil))) .nil) .nil) (.cons (.set (.nm 5) (.call 12 (.cons (.v 1) (.cons (.v 2) .nil)))) (.cons (.ite (.cmp .isnot (.v 5) (.c .non)) (.cons (.ret (.tup (.cons false (.c (.str "pair")) (.cons false (.v 5) .nil)))) .nil) .nil) (.cons (.ite (.nt (.call 10 (.cons (.v 3) (.cons (.c (.int 0)) (.cons (.op .sub (.v 1) (.c (.int 1))) .nil))))) (.cons (.ret (.tup (.cons false (.c (.str "place")) .nil))) .nil) .nil) (.cons (.ite (.nt (.call 11 (.cons (.v 4) .nil))) (.cons (.ret (.tup (.cons false (.c (.str "facing")) .nil))) .nil) .nil) (.cons (.ret (.ife (.cmp .gt (.bi .len (.cons (.call 9 (.cons (.call 8 (.cons (.v 0) .nil)) .nil)) .nil)) (.g "MAX_RUNS" (.int 41))) (.tup (.cons false (.c (.str "runs")) .nil)) (.c .non))) .nil)))))))))
def d_state_error : DefI := ⟨⟨("state_error", none), "state_error", "state_error", defArgs (top 23), defBody (top 23), defScope (top 23), [], []⟩, ["value", "size", "raised", "place", "facing", "index"], ["value"], b_state_error⟩
/-- integer_in(word, longest): slots 0 word, 1 longest, 2 digits, 3 sign -/
def b_integer_in : RSs := (.cons (.set (.nm 2) (.ife (.cmp .eq (.sl (.v 0) .none (.some (.c (.int 1)))) (.c (.str "-"))) (.sl (.v 0) (.some (.c (.int 1))) .none) (.v 0))) (.cons (.ite (.bor (.cons (.nt (.chain .le .le (.c (.int 1)) (.bi .len (.cons (.v 2) .nil)) (.v 1))) (.cons (.bi .any (.cons (.lc false [3] (.nm 3) (.it (.v 2)) .none (.cmp .notin (.v 3) (.g "FIGURES" (.str "0123456789")))) .nil)) .nil))) (.cons (.ret (.c .non)) .nil) .nil) (.cons (.ret (.ife (.bnd (.cons (.cmp .eq (.ix (.v 2) (.c (.int 0))) (.c (.str "0"))) (.cons (.cmp .ne (.v 0) (.c (.str "0"))) .nil))) (.c .non) (.bi .int (.cons (.v 0) .nil)))) .nil)))
def d_integer_in : DefI := ⟨⟨("integer_in", none), "integer_in", "integer_in", defArgs (top 29), defBody (top 29), defScope (top 29), [], []⟩, ["word", "longest", "digits", "sign"], ["word", "longest"], b_integer_in⟩
/-- count_in(word): slots 0 word, 1 number -/
def b_count_in : RSs := (.cons (.set (.nm 1) (.call 14 (.cons (.v 0) (.cons (.g "PART_DIGITS" (.int 13)) .nil)))) (.cons (.ret (.ife (.bnd (.cons (.cmp .isnot (.v 1) (.c .non)) (.cons (.cmp .ge (.v 1) (.c (.int 0))) .nil))) (.v 1) (.c .non))) .nil))
def d_count_in : DefI := ⟨⟨("count_in", none), "count_in", "count_in", defArgs (top 30), defBody (top 30), defScope (top 30), [], []⟩, ["word", "number"], ["word"], b_count_in⟩
/-- pair_in(word): slots 0 word, 1 numbers, 2 part -/
def b_pair_in : RSs := (.cons (.setlc 1 (.lc false [2] (.nm 2) (.it (.mt .split (.v 0) (.cons (.c (.str "-")) .nil))) .none (.call 15 (.cons (.v 2) .nil)))) (.cons (.ret (.ife (.bnd (.cons (.cmp .eq (.bi .len (.cons (.v 1) .nil)) (.c (.int 2))) (.cons (.cmp .notin (.c .non) (.v 1)) .nil))) (.bi .tuple (.cons (.v 1) .nil)) (.c .non))) .nil))
def d_pair_in : DefI := ⟨⟨("pair_in", none), "pair_in", "pair_in", defArgs (top 31), defBody (top 31), defScope (top 31), [], []⟩, ["word", "numbers", "part"], ["word"], b_pair_in⟩
/-- walker_in(word): slots 0 word, 1 place -/
def b_walker_in : RSs := (.cons (.ite (.tin true (.sl (.v 0) .none (.some (.c (.int 1)))) "SIGNS" 0) (.cons (.ret (.c .non)) .nil) .nil) (.cons (.set (.nm 1) (.call 15 (.cons (.sl (.v 0) (.some (.c (.int 1))) .none) .nil))) (.cons (.ret (.ife (.cmp .is (.v 1) (.c .non)) (.c .non) (.tup (.cons false (.v 1) (.cons false (.tix "SIGNS" 0 (.ix (.v 0) (.c (.int 0)))) .nil))))) .nil)))
def d_walker_in : DefI := ⟨⟨("walker_in", none), "walker_in", "walker_in", defArgs (top 32), defBody (top 32), defScope (top 32), [], []⟩, ["word", "place"], ["word"], b_walker_in⟩
/-- size_in(word): slots 0 word, 1 size -/
def b_size_in : RSs := (.cons (.set (.nm 1) (.call 15 (.cons (.sl (.v 0) .none (.some (.neg (.c (.int 1))))) .nil))) (.cons (.ret (.ife (.bnd (.cons (.cmp .eq (.sl (.v 0) (.some (.neg (.c (.int 1)))) .none) (.c (.str ":"))) (.cons (.cmp .isnot (.v 1) (.c .non)) (.cons (.chain .le .le (.c (.int 2)) (.v 1) (.g "MAX_SIZE" (.int 1000000000000))) .nil)))) (.v 1) (.c .non))) .nil))
def d_size_in : DefI := ⟨⟨("size_in", none), "size_in", "size_in", defArgs (top 33), defBody (top 33), defScope (top 33), [], []⟩, ["word", "size"], ["word"], b_size_in⟩
/-- pairs_text(pairs): slots 0 pairs, 1 begin, 2 end -/
def b_pairs_text : RSs := (.cons (.ret (.bor (.cons (.mt .join (.c (.str " ")) (.cons (.lc false [1, 2] (.tp (.cons (.nm 1) (.cons (.nm 2) .nil))) (.it (.v 0)) .none (.fs (.cons (.fmt (.v 1)) (.cons (.c (.str "-")) (.cons (.fmt (.v 2)) .nil))))) .nil)) (.cons (.g "NONE" (.str "none")) .nil)))) .nil)
def d_pairs_text : DefI := ⟨⟨("pairs_text", none), "pairs_text", "pairs_text", defArgs (top 34), defBody (top 34), defScope (top 34), [], []⟩, ["pairs", "begin", "end"], ["pairs"], b_pairs_text⟩
/-- state_text(state): slots 0 state, 1 size, 2 raised, 3 place, 4 facing, 5 sign -/
def b_state_text : RSs := (.cons (.set (.tp (.cons (.nm 1) (.cons (.nm 2) (.cons (.nm 3) (.cons (.nm 4) .nil))))) (.v 0)) (.cons (.set (.nm 5) (.ife (.cmp .eq (.v 4) (.g "LEFT" (.str "left"))) (.c (.str "<")) (.c (.str ">")))) (.cons (.ret (.fs (.cons (.fmt (.v 1)) (.cons (.c (.str ": ")) (.cons (.fmt (.call 19 (.cons (.v 2) .nil))) (.cons (.c (.str " ")) (.cons (.fmt (.v 5)) (.cons (.fmt (.v 3)) .nil)))))))) .nil)))
def d_state_text : DefI := ⟨⟨("state_text", none), "state_text", "state_text", defArgs (top 35), defBody (top 35), defScope (top 35), [], []⟩, ["state", "size", "raised", "place", "facing", "sign"], ["state"], b_state_text⟩
/-- read_pairs(words): slots 0 words, 1 found, 2 index, 3 word, 4 pair -/
def b_read_pairs : RSs := (.cons (.ite (.cmp .eq (.sl (.v 0) (.some (.c (.int 1))) (.some (.c (.int 2)))) (.lst (.cons false (.g "NONE" (.str "none")) .nil))) (.cons (.ret (.tup (.cons false (.tup .nil) (.cons false (.c (.int 2)) .nil)))) .nil) .nil) (.cons (.set (.nm 1) (.newl .nil)) (.cons (.forr (.tp (.cons (.nm 2) (.cons (.nm 3) .nil))) (.enum (.v 0)) (.cons (.ite (.cmp .gt (.v 2) (.c (.int 0))) (.cons (.set (.nm 4) (.call 16 (.cons (.v 3) .nil))) (.cons (.ite (.cmp .is (.v 4) (.c .non)) (.cons (.ret (.tup (.cons false (.bi .tuple (.cons (.v 1) .nil)) (.cons false (.v 2) .nil)))) .nil) .nil) (.cons (.ex (.mm .append (.v 1) (.cons (.v 4) .nil))) .nil))) .nil) .nil)) (.cons (.ret (.tup (.cons false (.bi .tuple (.cons (.v 1) .nil)) (.cons false (.bi .len (.cons (.v 0) .nil)) .nil)))) .nil))))
def d_read_pairs : DefI := ⟨⟨("read_pairs", none), "read_pairs", "read_pairs", defArgs (top 36), defBody (top 36), defScope (top 36), [], []⟩, ["words", "found", "index", "word", "pair"], ["words"], b_read_pairs⟩
/-- parse_state(value): slots 0 value, 1 words, 2 size, 3 pairs, 4 index, 5 walker, 6 found, 7 error -/
def b_parse_state : RSs := (.cons (.ite (.nt (.isi (.v 0) "str")) (.cons .never .nil) .nil) (.cons (.set (.nm 1) (.mt .split (.v 0) (.cons (.c (.str " ")) .nil))) (.cons (.set (.nm 2) (.call 18 (.cons (.ix (.v 1) (.c (.int 0))) .nil))) (.cons (.ite (.cmp .is (.v 2) (.c .non)) (.cons .never .nil) .nil) (.cons (.set (.tp (.cons (.nm 3) (.cons (.nm 4) .nil))) (.call 21 (.cons (.v 1) .nil))) (.cons (.ite (.bor (.cons (.cmp .eq (.v 4) (.bi .len (.cons (.v 1) .nil))) (.cons (.cmp .eq (.v 4) (.c (.int 1))) .nil))) (.cons .never .nil) .nil) (.cons (.set (.nm 5) (.call 17 (.cons (.ix (.v 1) (.v 4)) .nil))) (.cons (.ite (.cmp .is (.v 5) (.c .non)) (.cons .never .nil) .nil) (.cons (.ite (.cmp .gt (.bi .len (.cons (.v 1) .nil)) (.op .add (.v 4) (.c (.int 1)))) (.cons .never .nil) .nil) (.cons (.set (.nm 6) (.tup (.cons false (.v 2) (.cons false (.v 3) (.cons false (.ix (.v 5) (.c (.int 0))) (.cons false (.ix (.v 5) (.c (.int 1))) .nil)))))) (.cons (.set (.nm 7) (.call 13 (.cons (.v 6) .nil))) (.cons (.ite (.cmp .isnot (.v 7) (.c .non)) (.cons .never .nil) .nil) (.cons (.ret (.v 6)) .nil)))))))))))))
def d_parse_state : DefI := ⟨⟨("parse_state", none), "parse_state", "parse_state", defArgs (top 37), defBody (top 37), defScope (top 37), [], []⟩, ["value", "words", "size", "pairs", "index", "walker", "found", "error"], ["value"], b_parse_state⟩
/-- _law_deck(_law_script): slots 0 _law_script, 1 _law_cells, 2 _law_cell -/
def b_law_deck : RSs := (.cons (.setlc 1 (.lc false [2] (.nm 2) (.it (.v 0)) .none (.bi .abs (.cons (.v 2) .nil)))) (.cons (.ret (.newl (.cons (.lc true [2] (.nm 2) (.it (.v 1)) (.some (.cmp .ge (.v 2) (.op .pow (.c (.int 10)) (.c (.int 18))))) (.v 2)) (.cons (.op .add (.v 1) (.lst (.cons false (.op .add (.bi .len (.cons (.v 1) .nil)) (.c (.int 7))) .nil))) (.cons (.c (.int 0)) .nil))))) .nil))
def d_law_deck : DefI := ⟨⟨("_law_deck", none), "_law_deck", "_law_deck", defArgs (top 39), defBody (top 39), defScope (top 39), [], []⟩, ["_law_script", "_law_cells", "_law_cell"], ["_law_script"], b_law_deck⟩
/-- _law_pairs(_law_flags_here): slots 0 _law_flags_here, 1 _law_found, 2 _law_place, 3 _law_up -/
def b_law_pairs : RSs := (.cons (.set (.nm 1) (.newl .nil)) (.cons (.forr (.tp (.cons (.nm 2) (.cons (.nm 3) .nil))) (.enum (.v 0)) (.cons (.ite (.bnd (.cons (.v 3) (.cons (.cmp .ne (.v 1) (.lst .nil)) (.cons (.cmp .eq (.ix (.ix (.v 1) (.neg (.c (.int 1)))) (.c (.int 1))) (.v 2)) .nil)))) (.cons (.set (.ix (.v 1) (.neg (.c (.int 1)))) (.tup (.cons false (.ix (.ix (.v 1) (.neg (.c (.int 1)))) (.c (.int 0))) (.cons false (.op .add (.v 2) (.c (.int 1))) .nil)))) .nil) (.cons (.ite (.v 3) (.cons (.ex (.mm .append (.v 1) (.cons (.tup (.cons false (.v 2) (.cons false (.op .add (.v 2) (.c (.int 1))) .nil))) .nil))) .nil) .nil) .nil)) .nil)) (.cons (.ret (.bi .tuple (.cons (.v 1) .nil))) .nil)))
def d_law_pairs : DefI := ⟨⟨("_law_pairs", none), "_law_pairs", "_law_pairs", defArgs (top 40), defBody (top 40), defScope (top 40), [], []⟩, ["_law_flags_here", "_law_found", "_law_place", "_law_up"], ["_law_flags_here"], b_law_pairs⟩
/-- _law_told(_law_ring_here): slots 0 _law_ring_here, 1 _law_flags_here, 2 _law_place, 3 _law_facing -/
def b_law_told : RSs := (.cons (.set (.tp (.cons (.nm 1) (.cons (.nm 2) (.cons (.nm 3) .nil)))) (.v 0)) (.cons (.ret (.tup (.cons false (.bi .len (.cons (.v 1) .nil)) (.cons false (.call 24 (.cons (.v 1) .nil)) (.cons false (.v 2) (.cons false (.v 3) .nil)))))) .nil))
def d_law_told : DefI := ⟨⟨("_law_told", none), "_law_told", "_law_told", defArgs (top 41), defBody (top 41), defScope (top 41), [], []⟩, ["_law_ring_here", "_law_flags_here", "_law_place", "_law_facing"], ["_law_ring_here"], b_law_told⟩
/-- _law_draw(_law_deck_here, _law_below): slots 0 _law_deck_here, 1 _law_below, 2 _law_rest, 3 _law_cell, 4 _law_mixed -/
def b_law_draw : RSs := (.cons (.wh (.cmp .ne (.ix (.v 0) (.c (.int 0))) (.lst .nil)) (.cons (.set (.nm 2) (.ix (.ix (.v 0) (.c (.int 0))) (.c (.int 0)))) (.cons (.ite (.cmp .gt (.v 2) (.c (.int 0))) (.cons (.set (.ix (.ix (.v 0) (.c (.int 0))) (.c (.int 0))) (.op .div (.v 2) (.v 1))) (.cons (.ret (.op .mod (.v 2) (.v 1))) .nil)) .nil) (.cons (.ex (.mm .popat (.ix (.v 0) (.c (.int 0))) (.cons (.c (.int 0)) .nil))) .nil)))) (.cons (.set (.ix (.v 0) (.c (.int 2))) (.op .add (.ix (.v 0) (.c (.int 2))) (.c (.int 1)))) (.cons (.set (.nm 3) (.op .mod (.ix (.ix (.v 0) (.c (.int 1))) (.op .mod (.ix (.v 0) (.c (.int 2))) (.bi .len (.cons (.ix (.v 0) (.c (.int 1))) .nil)))) (.c (.int 2147483629)))) (.cons (.set (.nm 4) (.op .add (.op .mul (.v 3) (.op .add (.c (.int 69621)) (.op .mul (.c (.int 2)) (.ix (.v 0) (.c (.int 2)))))) (.c (.int 30011)))) (.cons (.set (.nm 4) (.op .mod (.op .add (.v 4) (.op .mul (.op .mul (.c (.int 48271)) (.ix (.v 0) (.c (.int 2)))) (.ix (.v 0) (.c (.int 2))))) (.c (.int 2147483587)))) (.cons (.ret (.op .mod (.op .div (.op .mod (.op .mul (.v 4) (.v 4)) (.c (.int 2147483563))) (.c (.int 16))) (.v 1))) .nil))))))
def d_law_draw : DefI := ⟨⟨("_law_draw", none), "_law_draw", "_law_draw", defArgs (top 42), defBody (top 42), defScope (top 42), [], []⟩, ["_law_deck_here", "_law_below", "_law_rest", "_law_cell", "_law_mixed"], ["_law_deck_here", "_law_below"], b_law_draw⟩
/-- _law_flags(_law_deck_here, _law_size): slots 0 _law_deck_here, 1 _law_size, 2 _law_way, 3 _law_found, 4 _law_k, 5 _law_rest -/
def b_law_flags : RSs := (.cons (.par [2, 3] (.cons (.hcall 26 (.cons (.v 0) (.cons (.c (.int 5)) .nil))) (.cons (.newl .nil) .nil))) (.cons (.forr (.nm 4) (.rng1 (.v 1)) (.cons (.set (.nm 5) (.hcall 26 (.cons (.v 0) (.cons (.c (.int 12)) .nil)))) (.cons (.ite (.bor (.cons (.cmp .lt (.v 2) (.c (.int 3))) (.cons (.cmp .eq (.v 4) (.c (.int 0))) .nil))) (.cons (.ex (.mm .append (.v 3) (.cons (.cmp .lt (.v 5) (.ix (.lst (.cons false (.c (.int 6)) (.cons false (.c (.int 2)) (.cons false (.c (.int 10)) (.cons false (.c (.int 6)) (.cons false (.c (.int 6)) .nil)))))) (.v 2))) .nil))) .nil) (.cons (.ex (.mm .append (.v 3) (.cons (.cmp .ne (.ix (.v 3) (.neg (.c (.int 1)))) (.cmp .lt (.v 5) (.ix (.lst (.cons false (.c (.int 10)) (.cons false (.c (.int 3)) .nil))) (.op .sub (.v 2) (.c (.int 3)))))) .nil))) .nil)) .nil))) (.cons (.ret (.bi .tuple (.cons (.v 3) .nil))) .nil)))
def d_law_flags : DefI := ⟨⟨("_law_flags", none), "_law_flags", "_law_flags", defArgs (top 43), defBody (top 43), defScope (top 43), [], []⟩, ["_law_deck_here", "_law_size", "_law_way", "_law_found", "_law_k", "_law_rest"], ["_law_deck_here", "_law_size"], b_law_flags⟩
/-- _law_ring(_law_deck_here, _law_most): slots 0 _law_deck_here, 1 _law_most, 2 _law_size -/
def b_law_ring : RSs := (.cons (.set (.nm 2) (.op .add (.c (.int 2)) (.hcall 26 (.cons (.v 0) (.cons (.op .sub (.v 1) (.c (.int 1))) .nil))))) (.cons (.ret (.lst (.cons false (.hcall 27 (.cons (.v 0) (.cons (.v 2) .nil))) (.cons false (.hcall 26 (.cons (.v 0) (.cons (.v 2) .nil))) (.cons false (.ix (.lst (.cons false (.c (.str "right")) (.cons false (.c (.str "left")) .nil))) (.hcall 26 (.cons (.v 0) (.cons (.c (.int 2)) .nil)))) .nil))))) .nil))
def d_law_ring : DefI := ⟨⟨("_law_ring", none), "_law_ring", "_law_ring", defArgs (top 44), defBody (top 44), defScope (top 44), [], []⟩, ["_law_deck_here", "_law_most", "_law_size"], ["_law_deck_here", "_law_most"], b_law_ring⟩
/-- _law_big(_law_deck_here, _law_below): slots 0 _law_deck_here, 1 _law_below -/
def b_law_big : RSs := (.cons (.ret (.op .mod (.op .add (.op .mul (.hcall 26 (.cons (.v 0) (.cons (.op .pow (.c (.int 10)) (.c (.int 6))) .nil))) (.op .pow (.c (.int 10)) (.c (.int 7)))) (.hcall 26 (.cons (.v 0) (.cons (.op .pow (.c (.int 10)) (.c (.int 7))) .nil)))) (.v 1))) .nil)
def d_law_big : DefI := ⟨⟨("_law_big", none), "_law_big", "_law_big", defArgs (top 45), defBody (top 45), defScope (top 45), [], []⟩, ["_law_deck_here", "_law_below"], ["_law_deck_here", "_law_below"], b_law_big⟩
/-- _law_far(_law_deck_here): slots 0 _law_deck_here, 1 _law_sizes, 2 _law_size, 3 _law_count, 4 _law_place, 5 _law_pairs_here, 6 _law_k, 7 _law_wide, 8 _law_begin, 9 _law_near, 10 _law_spot -/
def b_law_far : RSs := (.cons (.set (.nm 1) (.lst (.cons false (.op .add (.c (.int 2)) (.hcall 26 (.cons (.v 0) (.cons (.c (.int 30)) .nil)))) (.cons false (.op .sub (.op .pow (.c (.int 10)) (.c (.int 12))) (.hcall 26 (.cons (.v 0) (.cons (.c (.int 3)) .nil)))) (.cons false (.op .add (.c (.int 2)) (.hcall 29 (.cons (.v 0) (.cons (.op .sub (.op .pow (.c (.int 10)) (.c (.int 12))) (.c (.int 1))) .nil)))) .nil))))) (.cons (.set (.nm 2) (.ix (.v 1) (.hcall 26 (.cons (.v 0) (.cons (.c (.int 3)) .nil))))) (.cons (.par [3, 4, 5] (.cons (.hcall 26 (.cons (.v 0) (.cons (.c (.int 21)) .nil))) (.cons (.c (.int 0)) (.cons (.newl .nil) .nil)))) (.cons (.forr (.nm 6) (.rng1 (.v 3)) (.cons (.set (.nm 7) (.ix (.lst (.cons false (.op .add (.c (.int 1)) (.hcall 26 (.cons (.v 0) (.cons (.c (.int 3)) .nil)))) (.cons false (.op .add (.c (.int 1)) (.hcall 29 (.cons (.v 0) (.cons (.bi .max (.cons (.c (.int 1)) (.cons (.op .div (.v 2) (.c (.int 30))) .nil))) .nil)))) .nil))) (.hcall 26 (.cons (.v 0) (.cons (.c (.int 2)) .nil))))) (.cons (.set (.nm 8) (.op .add (.v 4) (.op .mul (.bi .int (.cons (.bor (.cons (.cmp .gt (.v 6) (.c (.int 0))) (.cons (.cmp .eq (.hcall 26 (.cons (.v 0) (.cons (.c (.int 2)) .nil))) (.c (.int 0))) .nil))) .nil)) (.op .add (.c (.int 1)) (.hcall 29 (.cons (.v 0) (.cons (.bi .max (.cons (.c (.int 1)) (.cons (.op .div (.v 2) (.c (.int 60))) .nil))) .nil))))))) (.cons (.ite (.cmp .le (.op .add (.v 8) (.v 7)) (.v 2)) (.cons (.ex (.mm .append (.v 5) (.cons (.tup (.cons false (.v 8) (.cons false (.op .add (.v 8) (.v 7)) .nil))) .nil))) (.cons (.set (.nm 4) (.op .add (.v 8) (.v 7))) .nil)) .nil) .nil)))) (.cons (.set (.nm 9) (.ife (.cmp .ne (.v 5) (.lst .nil)) (.ix (.v 5) (.c (.int 0))) (.tup (.cons false (.c (.int 0)) (.cons false (.v 2) .nil))))) (.cons (.set (.nm 10) (.ix (.lst (.cons false (.hcall 29 (.cons (.v 0) (.cons (.v 2) .nil))) (.cons false (.ix (.v 9) (.c (.int 0))) (.cons false (.op .mod (.ix (.v 9) (.c (.int 1))) (.v 2)) (.cons false (.op .sub (.v 2) (.c (.int 1))) .nil))))) (.hcall 26 (.cons (.v 0) (.cons (.c (.int 4)) .nil))))) (.cons (.ret (.tup (.cons false (.v 2) (.cons false (.bi .tuple (.cons (.v 5) .nil)) (.cons false (.v 10) (.cons false (.ix (.lst (.cons false (.c (.str "right")) (.cons false (.c (.str "left")) .nil))) (.hcall 26 (.cons (.v 0) (.cons (.c (.int 2)) .nil)))) .nil)))))) .nil)))))))
def d_law_far : DefI := ⟨⟨("_law_far", none), "_law_far", "_law_far", defArgs (top 46), defBody (top 46), defScope (top 46), [], []⟩, ["_law_deck_here", "_law_sizes", "_law_size", "_law_count", "_law_place", "_law_pairs_here", "_law_k", "_law_wide", "_law_begin", "_law_near", "_law_spot"], ["_law_deck_here"], b_law_far⟩
/-- _law_text(_law_now): slots 0 _law_now, 1 _law_size, 2 _law_pairs_here, 3 _law_place, 4 _law_facing, 5 _law_words, 6 _law_begin, 7 _law_end -/
def b_law_text : RSs := (.cons (.set (.tp (.cons (.nm 1) (.cons (.nm 2) (.cons (.nm 3) (.cons (.nm 4) .nil))))) (.v 0)) (.cons (.set (.nm 5) (.bor (.cons (.mt .join (.c (.str " ")) (.cons (.lc false [6, 7] (.tp (.cons (.nm 6) (.cons (.nm 7) .nil))) (.it (.v 2)) .none (.op .add (.op .add (.bi .str (.cons (.v 6) .nil)) (.c (.str "-"))) (.bi .str (.cons (.v 7) .nil)))) .nil)) (.cons (.c (.str "none")) .nil)))) (.cons (.ret (.op .add (.op .add (.op .add (.op .add (.op .add (.bi .str (.cons (.v 1) .nil)) (.c (.str ": "))) (.v 5)) (.c (.str " "))) (.ix (.lst (.cons false (.c (.str ">")) (.cons false (.c (.str "<")) .nil))) (.bi .int (.cons (.cmp .eq (.v 4) (.c (.str "left"))) .nil)))) (.bi .str (.cons (.v 3) .nil)))) .nil)))
def d_law_text : DefI := ⟨⟨("_law_text", none), "_law_text", "_law_text", defArgs (top 47), defBody (top 47), defScope (top 47), [], []⟩, ["_law_now", "_law_size", "_law_pairs_here", "_law_place", "_law_facing", "_law_words", "_law_begin", "_law_end"], ["_law_now"], b_law_text⟩
/-- _law_same(_law_found, _law_due): slots 0 _law_found, 1 _law_due -/
def b_law_same : RSs := (.cons (.ret (.cmp .eq (.bi .repr (.cons (.v 0) .nil)) (.bi .repr (.cons (.v 1) .nil)))) .nil)
def d_law_same : DefI := ⟨⟨("_law_same", none), "_law_same", "_law_same", defArgs (top 48), defBody (top 48), defScope (top 48), [], []⟩, ["_law_found", "_law_due"], ["_law_found", "_law_due"], b_law_same⟩
/-- law(_law_script): slots 0 _law_script, 1 _law_deck_here, 2 _law_turn, 3 _law_now, 4 _law_kept, 5 _law_due -/
def b_law : RSs := (.cons (.set (.nm 1) (.hcall 23 (.cons (.v 0) .nil))) (.cons (.forr (.nm 2) (.rng1 (.c (.int 8))) (.cons (.forr (.nm 3) (.it (.lst (.cons false (.call 25 (.cons (.hcall 28 (.cons (.v 1) (.cons (.c (.int 42)) .nil))) .nil)) (.cons false (.hcall 30 (.cons (.v 1) .nil)) .nil)))) (.cons (.par [4, 5] (.cons (.bi .repr (.cons (.v 3) .nil)) (.cons (.call 31 (.cons (.v 3) .nil)) .nil))) (.cons (.ite (.bor (.cons (.nt (.call 32 (.cons (.lst (.cons false (.call 20 (.cons (.v 3) .nil)) (.cons false (.call 22 (.cons (.v 5) .nil)) .nil))) (.cons (.lst (.cons false (.v 5) (.cons false (.v 3) .nil))) .nil)))) (.cons (.cmp .ne (.bi .repr (.cons (.v 3) .nil)) (.v 4)) .nil))) (.cons (.ret (.c (.bl false))) .nil) .nil) .nil))) .nil)) (.cons (.ret (.c (.bl true))) .nil)))
def d_law : DefI := ⟨⟨("law", none), "law", "law", defArgs (top 49), defBody (top 49), defScope (top 49), [], []⟩, ["_law_script", "_law_deck_here", "_law_turn", "_law_now", "_law_kept", "_law_due"], ["_law_script"], b_law⟩
def ds : List DefI := [d_other_side, d_place_on, d_flag_is_up, d_put_together, d_runs_of, d_cut_runs, d_ring_runs, d_heading_of, d_word_of, d_gaps_of, d_is_between, d_is_side, d_pair_error, d_state_error, d_integer_in, d_count_in, d_pair_in, d_walker_in, d_size_in, d_pairs_text, d_state_text, d_read_pairs, d_parse_state, d_law_deck, d_law_pairs, d_law_told, d_law_draw, d_law_flags, d_law_ring, d_law_big, d_law_far, d_law_text, d_law_same, d_law]
def md : Md := mdOf cns free ts (ds.map (·.d.at_.1))
theorem ok_other_side : DOk md d_other_side := ⟨rfl, scB_ok (by decide +kernel), by decide +kernel, fun _ _ _ _ _ _ us hl => match us, hl with | [_], _ => rfl, rfl, rfl⟩
theorem ok_place_on : DOk md d_place_on := ⟨rfl, scB_ok (by decide +kernel), by decide +kernel, fun _ _ _ _ _ _ us hl => match us, hl with | [_, _, _, _], _ => rfl, rfl, rfl⟩
theorem ok_flag_is_up : DOk md d_flag_is_up := ⟨rfl, scB_ok (by decide +kernel), by decide +kernel, fun _ _ _ _ _ _ us hl => match us, hl with | [_, _], _ => rfl, rfl, rfl⟩
theorem ok_put_together : DOk md d_put_together := ⟨rfl, scB_ok (by decide +kernel), by decide +kernel, fun _ _ _ _ _ _ us hl => match us, hl with | [_], _ => rfl, rfl, rfl⟩
theorem ok_runs_of : DOk md d_runs_of := ⟨rfl, scB_ok (by decide +kernel), by decide +kernel, fun _ _ _ _ _ _ us hl => match us, hl with | [_, _], _ => rfl, rfl, rfl⟩
theorem ok_cut_runs : DOk md d_cut_runs := ⟨rfl, scB_ok (by decide +kernel), by decide +kernel, fun _ _ _ _ _ _ us hl => match us, hl with | [_, _, _], _ => rfl, rfl, rfl⟩
theorem ok_ring_runs : DOk md d_ring_runs := ⟨rfl, scB_ok (by decide +kernel), by decide +kernel, fun _ _ _ _ _ _ us hl => match us, hl with | [_, _, _, _], _ => rfl, rfl, rfl⟩
theorem ok_heading_of : DOk md d_heading_of := ⟨rfl, scB_ok (by decide +kernel), by decide +kernel, fun _ _ _ _ _ _ us hl => match us, hl with | [_], _ => rfl, rfl, rfl⟩
theorem ok_word_of : DOk md d_word_of := ⟨rfl, scB_ok (by decide +kernel), by decide +kernel, fun _ _ _ _ _ _ us hl => match us, hl with | [_], _ => rfl, rfl, rfl⟩
theorem ok_gaps_of : DOk md d_gaps_of := ⟨rfl, scB_ok (by decide +kernel), by decide +kernel, fun _ _ _ _ _ _ us hl => match us, hl with | [_], _ => rfl, rfl, rfl⟩
theorem ok_is_between : DOk md d_is_between := ⟨rfl, scB_ok (by decide +kernel), by decide +kernel, fun _ _ _ _ _ _ us hl => match us, hl with | [_, _, _], _ => rfl, rfl, rfl⟩
theorem ok_is_side : DOk md d_is_side := ⟨rfl, scB_ok (by decide +kernel), by decide +kernel, fun _ _ _ _ _ _ us hl => match us, hl with | [_], _ => rfl, rfl, rfl⟩
theorem ok_pair_error : DOk md d_pair_error := ⟨rfl, scB_ok (by decide +kernel), by decide +kernel, fun _ _ _ _ _ _ us hl => match us, hl with | [_, _], _ => rfl, rfl, rfl⟩
theorem ok_state_error : DOk md d_state_error := ⟨rfl, scB_ok (by decide +kernel), by decide +kernel, fun _ _ _ _ _ _ us hl => match us, hl with | [_], _ => rfl, rfl, rfl⟩
theorem ok_integer_in : DOk md d_integer_in := ⟨rfl, scB_ok (by decide +kernel), by decide +kernel, fun _ _ _ _ _ _ us hl => match us, hl with | [_, _], _ => rfl, rfl, rfl⟩
theorem ok_count_in : DOk md d_count_in := ⟨rfl, scB_ok (by decide +kernel), by decide +kernel, fun _ _ _ _ _ _ us hl => match us, hl with | [_], _ => rfl, rfl, rfl⟩
theorem ok_pair_in : DOk md d_pair_in := ⟨rfl, scB_ok (by decide +kernel), by decide +kernel, fun _ _ _ _ _ _ us hl => match us, hl with | [_], _ => rfl, rfl, rfl⟩
theorem ok_walker_in : DOk md d_walker_in := ⟨rfl, scB_ok (by decide +kernel), by decide +kernel, fun _ _ _ _ _ _ us hl => match us, hl with | [_], _ => rfl, rfl, rfl⟩
theorem ok_size_in : DOk md d_size_in := ⟨rfl, scB_ok (by decide +kernel), by decide +kernel, fun _ _ _ _ _ _ us hl => match us, hl with | [_], _ => rfl, rfl, rfl⟩
theorem ok_pairs_text : DOk md d_pairs_text := ⟨rfl, scB_ok (by decide +kernel), by decide +kernel, fun _ _ _ _ _ _ us hl => match us, hl with | [_], _ => rfl, rfl, rfl⟩
theorem ok_state_text : DOk md d_state_text := ⟨rfl, scB_ok (by decide +kernel), by decide +kernel, fun _ _ _ _ _ _ us hl => match us, hl with | [_], _ => rfl, rfl, rfl⟩
theorem ok_read_pairs : DOk md d_read_pairs := ⟨rfl, scB_ok (by decide +kernel), by decide +kernel, fun _ _ _ _ _ _ us hl => match us, hl with | [_], _ => rfl, rfl, rfl⟩
theorem ok_parse_state : DOk md d_parse_state := ⟨rfl, scB_ok (by decide +kernel), by decide +kernel, fun _ _ _ _ _ _ us hl => match us, hl with | [_], _ => rfl, rfl, rfl⟩
theorem ok_law_deck : DOk md d_law_deck := ⟨rfl, scB_ok (by decide +kernel), by decide +kernel, fun _ _ _ _ _ _ us hl => match us, hl with | [_], _ => rfl, rfl, rfl⟩
theorem ok_law_pairs : DOk md d_law_pairs := ⟨rfl, scB_ok (by decide +kernel), by decide +kernel, fun _ _ _ _ _ _ us hl => match us, hl with | [_], _ => rfl, rfl, rfl⟩
theorem ok_law_told : DOk md d_law_told := ⟨rfl, scB_ok (by decide +kernel), by decide +kernel, fun _ _ _ _ _ _ us hl => match us, hl with | [_], _ => rfl, rfl, rfl⟩
theorem ok_law_draw : DOk md d_law_draw := ⟨rfl, scB_ok (by decide +kernel), by decide +kernel, fun _ _ _ _ _ _ us hl => match us, hl with | [_, _], _ => rfl, rfl, rfl⟩
theorem ok_law_flags : DOk md d_law_flags := ⟨rfl, scB_ok (by decide +kernel), by decide +kernel, fun _ _ _ _ _ _ us hl => match us, hl with | [_, _], _ => rfl, rfl, rfl⟩
theorem ok_law_ring : DOk md d_law_ring := ⟨rfl, scB_ok (by decide +kernel), by decide +kernel, fun _ _ _ _ _ _ us hl => match us, hl with | [_, _], _ => rfl, rfl, rfl⟩
theorem ok_law_big : DOk md d_law_big := ⟨rfl, scB_ok (by decide +kernel), by decide +kernel, fun _ _ _ _ _ _ us hl => match us, hl with | [_, _], _ => rfl, rfl, rfl⟩
theorem ok_law_far : DOk md d_law_far := ⟨rfl, scB_ok (by decide +kernel), by decide +kernel, fun _ _ _ _ _ _ us hl => match us, hl with | [_], _ => rfl, rfl, rfl⟩
theorem ok_law_text : DOk md d_law_text := ⟨rfl, scB_ok (by decide +kernel), by decide +kernel, fun _ _ _ _ _ _ us hl => match us, hl with | [_], _ => rfl, rfl, rfl⟩
theorem ok_law_same : DOk md d_law_same := ⟨rfl, scB_ok (by decide +kernel), by decide +kernel, fun _ _ _ _ _ _ us hl => match us, hl with | [_, _], _ => rfl, rfl, rfl⟩
theorem ok_law : DOk md d_law := ⟨rfl, scB_ok (by decide +kernel), by decide +kernel, fun _ _ _ _ _ _ us hl => match us, hl with | [_], _ => rfl, rfl, rfl⟩
theorem ds_ok : ∀ D ∈ ds, DOk (mdOf cns free ts (ds.map (·.d.at_.1))) D := by
  intro D hD
  simp only [ds, List.mem_cons, List.not_mem_nil, or_false] at hD
  rcases hD with rfl | rfl | rfl | rfl | rfl | rfl | rfl | rfl | rfl | rfl | rfl | rfl | rfl | rfl | rfl | rfl | rfl | rfl | rfl | rfl | rfl | rfl | rfl | rfl | rfl | rfl | rfl | rfl | rfl | rfl | rfl | rfl | rfl | rfl
  · exact ok_other_side
  · exact ok_place_on
  · exact ok_flag_is_up
  · exact ok_put_together
  · exact ok_runs_of
  · exact ok_cut_runs
  · exact ok_ring_runs
  · exact ok_heading_of
  · exact ok_word_of
  · exact ok_gaps_of
  · exact ok_is_between
  · exact ok_is_side
  · exact ok_pair_error
  · exact ok_state_error
  · exact ok_integer_in
  · exact ok_count_in
  · exact ok_pair_in
  · exact ok_walker_in
  · exact ok_size_in
  · exact ok_pairs_text
  · exact ok_state_text
  · exact ok_read_pairs
  · exact ok_parse_state
  · exact ok_law_deck
  · exact ok_law_pairs
  · exact ok_law_told
  · exact ok_law_draw
  · exact ok_law_flags
  · exact ok_law_ring
  · exact ok_law_big
  · exact ok_law_far
  · exact ok_law_text
  · exact ok_law_same
  · exact ok_law
def loose0 : List Str := ["MAX_SIZE", "MAX_RUNS", "TurnError", "BadState", "BadText", "RIGHT", "LEFT", "other_side", "place_on", "flag_is_up", "put_together", "runs_of", "cut_runs", "ring_runs", "heading_of", "word_of", "gaps_of", "is_between", "is_side", "pair_error", "state_error", "FIGURES", "NONE", "SIGNS", "PART_DIGITS"]
def loose1 : List Str := ["integer_in", "count_in", "pair_in", "walker_in", "size_in", "pairs_text", "state_text", "read_pairs", "parse_state", "_law_deck", "_law_pairs", "_law_told", "_law_draw", "_law_flags", "_law_ring", "_law_big", "_law_far", "_law_text", "_law_same"]
def loose : List Str := loose0 ++ loose1
def lawTop : Nat := 49
def fL : Nat := 33
abbrev f_other_side : Nat := 0
abbrev f_place_on : Nat := 1
abbrev f_flag_is_up : Nat := 2
abbrev f_put_together : Nat := 3
abbrev f_runs_of : Nat := 4
abbrev f_cut_runs : Nat := 5
abbrev f_ring_runs : Nat := 6
abbrev f_heading_of : Nat := 7
abbrev f_word_of : Nat := 8
abbrev f_gaps_of : Nat := 9
abbrev f_is_between : Nat := 10
abbrev f_is_side : Nat := 11
abbrev f_pair_error : Nat := 12
abbrev f_state_error : Nat := 13
abbrev f_integer_in : Nat := 14
abbrev f_count_in : Nat := 15
abbrev f_pair_in : Nat := 16
abbrev f_walker_in : Nat := 17
abbrev f_size_in : Nat := 18
abbrev f_pairs_text : Nat := 19
abbrev f_state_text : Nat := 20
abbrev f_read_pairs : Nat := 21
abbrev f_parse_state : Nat := 22
abbrev f_law_deck : Nat := 23
abbrev f_law_pairs : Nat := 24
abbrev f_law_told : Nat := 25
abbrev f_law_draw : Nat := 26
abbrev f_law_flags : Nat := 27
abbrev f_law_ring : Nat := 28
abbrev f_law_big : Nat := 29
abbrev f_law_far : Nat := 30
abbrev f_law_text : Nat := 31
abbrev f_law_same : Nat := 32
abbrev f_law : Nat := 33
end K79

namespace K79
open PySem TF
abbrev C (w n f : Nat) : List D → List MO → R D := callF (tabOf ts) (fsOf ds) w n f
variable {w n : Nat} {M : List MO}
theorem other_side_ok (s : Str) : C w (n + 1) f_other_side [.str s] M = .ok (.str (if s == "right" then "left" else "right")) M := by
  refine (call_eq (d := ⟨b_other_side, 1⟩) rfl rfl).trans ?_
  simp only [exs_c, exs_n, ex, ev, evs, evSq, evAnd, evOr, evF, evO, evC, evI, asg, asgs, evT, Cn.d, bind_ok, bind_bad, bind_err, bind_ite, exS_ok, exS_bad, exS_ite, seq_nx, seq_ret, seq_brk, seq_cont, seq_bad, seq_ite, fin_ret, fin_nx, fin_bad, fin_ite, of_some, of_none, when_t, calm_ok, add_i, sub_i, add_s, mul_i, div_i, mod_i, pow_i, aug_add, aug_sub, eq_i, ne_i, eq_s, ne_s, eq_b, ne_b, lt_i, le_i, gt_i, ge_i, is_n, isnot_n, tr_b, tr_i, tr_t, tr_l, tr_n, asInt_i, asStr_s, asStr_i, asStr_t, asBl_b, asTup_t, isNon_n, isNon_i, isNon_s, isNon_t, isNon_l, startE, parSet, wipeE, List.map_cons, List.map_nil, List.length_cons, List.length_nil, Nat.reduceAdd, Nat.reduceSub, List.replicate, List.cons_append, List.nil_append, List.append_nil, List.getElem?_cons_zero, List.getElem?_cons_succ, List.set_cons_zero, List.set_cons_succ, if_true, if_false, Bool.false_eq_true, Bool.true_and, Bool.and_true, Bool.not_true, Bool.not_false, Nat.reduceBEq, BEq.rfl, Option.isSome_some, Option.isSome_none, reduceIte, reduceCtorEq, decide_true, decide_false, b_other_side]
  split <;> rfl
theorem place_on_ok (size place many : Int) (s : Str) (h : 0 < size) : C w (n + 1) f_place_on [.int size, .int place, .str s, .int many] M = .ok (.int (if s == "right" then (place + many) % size else (place - many) % size)) M := by
  refine (call_eq (d := ⟨b_place_on, 4⟩) rfl rfl).trans ?_
  simp only [exs_c, exs_n, ex, ev, evs, evSq, evAnd, evOr, evF, evO, evC, evI, asg, asgs, evT, Cn.d, bind_ok, bind_bad, bind_err, bind_ite, exS_ok, exS_bad, exS_ite, seq_nx, seq_ret, seq_brk, seq_cont, seq_bad, seq_ite, fin_ret, fin_nx, fin_bad, fin_ite, of_some, of_none, when_t, calm_ok, add_i, sub_i, add_s, mul_i, div_i, mod_i, pow_i, aug_add, aug_sub, eq_i, ne_i, eq_s, ne_s, eq_b, ne_b, lt_i, le_i, gt_i, ge_i, is_n, isnot_n, tr_b, tr_i, tr_t, tr_l, tr_n, asInt_i, asStr_s, asStr_i, asStr_t, asBl_b, asTup_t, isNon_n, isNon_i, isNon_s, isNon_t, isNon_l, startE, parSet, wipeE, List.map_cons, List.map_nil, List.length_cons, List.length_nil, Nat.reduceAdd, Nat.reduceSub, List.replicate, List.cons_append, List.nil_append, List.append_nil, List.getElem?_cons_zero, List.getElem?_cons_succ, List.set_cons_zero, List.set_cons_succ, if_true, if_false, Bool.false_eq_true, Bool.true_and, Bool.and_true, Bool.not_true, Bool.not_false, Nat.reduceBEq, BEq.rfl, Option.isSome_some, Option.isSome_none, reduceIte, reduceCtorEq, decide_true, decide_false, b_place_on, when_dec h]
  split <;> rfl
def pD (p : Int × Int) : D := .tup [.int p.1, .int p.2]
def up (raised : List (Int × Int)) (place : Int) : Bool := raised.any fun p => decide (p.1 ≤ place) && decide (place < p.2)
theorem bools_map {α : Type} (f : α → Bool) : ∀ l : List α, boolsOf (l.map fun a => D.bl (f a)) = some (l.map f)
  | [] => rfl
  | a :: l => by
    have e := bools_map f l
    simp only [List.map_cons, boolsOf, asBl, e]
theorem any_l (f : Int × Int → Bool) (l : List (Int × Int)) : evBi .any [.lst (l.map fun a => D.bl (f a))] M = .ok (.bl (l.any f)) M := by
  show (match boolsOf (l.map fun a => D.bl (f a)) with | some bs => R.ok (D.bl (bs.any id)) M | none => .bad) = _
  rw [bools_map]
  simp [List.any_map]
theorem walk_t (l : List D) : walkIt (.tup l) M = .ok (none, l) M := rfl
theorem walk_l (l : List D) : walkIt (.lst l) M = .ok (none, l) M := rfl
theorem walk_k (l : List D) : walkIt (.kst l) M = .ok (none, l) M := rfl
theorem walk_s (z : Str) : walkIt (.str z) M = .ok (none, signsD z) M := rfl
theorem flag_is_up_ok (raised : List (Int × Int)) (place : Int) (h : raised.length ≤ 1000) : C w (n + 1) f_flag_is_up [.tup (raised.map pD), .int place] M = .ok (.bl (up raised place)) M := by
  refine (call_eq (d := ⟨b_flag_is_up, 4⟩) rfl rfl).trans ?_
  simp only [exs_c, exs_n, ex, ev, evs, evSq, evAnd, evOr, evF, evO, evC, evI, asg, asgs, evT, Cn.d, bind_ok, bind_bad, bind_err, bind_ite, exS_ok, exS_bad, exS_ite, seq_nx, seq_ret, seq_brk, seq_cont, seq_bad, seq_ite, fin_ret, fin_nx, fin_bad, fin_ite, of_some, of_none, when_t, calm_ok, add_i, sub_i, add_s, mul_i, div_i, mod_i, pow_i, aug_add, aug_sub, eq_i, ne_i, eq_s, ne_s, eq_b, ne_b, lt_i, le_i, gt_i, ge_i, is_n, isnot_n, tr_b, tr_i, tr_t, tr_l, tr_n, asInt_i, asStr_s, asStr_i, asStr_t, asBl_b, asTup_t, isNon_n, isNon_i, isNon_s, isNon_t, isNon_l, startE, parSet, wipeE, List.map_cons, List.map_nil, List.length_cons, List.length_nil, Nat.reduceAdd, Nat.reduceSub, List.replicate, List.cons_append, List.nil_append, List.append_nil, List.getElem?_cons_zero, List.getElem?_cons_succ, List.set_cons_zero, List.set_cons_succ, if_true, if_false, Bool.false_eq_true, Bool.true_and, Bool.and_true, Bool.not_true, Bool.not_false, Nat.reduceBEq, BEq.rfl, Option.isSome_some, Option.isSome_none, reduceIte, reduceCtorEq, decide_true, decide_false, b_flag_is_up, walk_t]
  rw [lc_map (f := pD) (h := fun p => D.bl (decide (p.1 ≤ place) && decide (place < p.2)))]
  · show fin ((exS ((evBi .any [.lst (raised.map _)] M)) _ _).seq _) = _
    rw [any_l]
    rfl
  · intro p _
    simp only [exs_c, exs_n, ex, ev, evs, evSq, evAnd, evOr, evF, evO, evC, evI, asg, asgs, evT, Cn.d, bind_ok, bind_bad, bind_err, bind_ite, exS_ok, exS_bad, exS_ite, seq_nx, seq_ret, seq_brk, seq_cont, seq_bad, seq_ite, fin_ret, fin_nx, fin_bad, fin_ite, of_some, of_none, when_t, calm_ok, add_i, sub_i, add_s, mul_i, div_i, mod_i, pow_i, aug_add, aug_sub, eq_i, ne_i, eq_s, ne_s, eq_b, ne_b, lt_i, le_i, gt_i, ge_i, is_n, isnot_n, tr_b, tr_i, tr_t, tr_l, tr_n, asInt_i, asStr_s, asStr_i, asStr_t, asBl_b, asTup_t, isNon_n, isNon_i, isNon_s, isNon_t, isNon_l, startE, parSet, wipeE, List.map_cons, List.map_nil, List.length_cons, List.length_nil, Nat.reduceAdd, Nat.reduceSub, List.replicate, List.cons_append, List.nil_append, List.append_nil, List.getElem?_cons_zero, List.getElem?_cons_succ, List.set_cons_zero, List.set_cons_succ, if_true, if_false, Bool.false_eq_true, Bool.true_and, Bool.and_true, Bool.not_true, Bool.not_false, Nat.reduceBEq, BEq.rfl, Option.isSome_some, Option.isSome_none, reduceIte, reduceCtorEq, decide_true, decide_false, pD]
    cases decide (p.1 ≤ place) <;> rfl
  · have : (1000 : Nat) ≤ sizeLine := by decide
    simp
    omega
end K79

namespace K79
open PySem TF
variable {w n : Nat} {M : List MO}
/-! rules of own lists -/
theorem asRef_0 {l : List D} : asRef (.lst l :: M) (.ref 0) = some (0, l) := rfl
theorem asRef_1 {x : MO} {l : List D} : asRef (x :: .lst l :: M) (.ref 1) = some (1, l) := rfl
theorem ne_nil_0 {l : List D} (h : flatL 59 l = true) : evCmp .ne (.ref 0) (.lst []) (.lst l :: M) = .ok (.bl (!l.isEmpty)) (.lst l :: M) := by
  show R.when (false || (flatL 59 l && true)) (R.ok (D.bl (!(eqvL l []))) (.lst l :: M)) = _
  rw [h]
  cases l <;> rfl
theorem at_last {l : List D} {u : D} : L2.atI (l ++ [u]) (-1) = some u := by
  unfold L2.atI L2.ixN
  have e : (-1 + (((l ++ [u]).length : Nat) : Int)).toNat = l.length := by simp; omega
  have e2 : -(((l ++ [u]).length : Nat) : Int) ≤ -1 := by simp; omega
  rw [if_neg (by omega), if_pos e2, e]
  simp
theorem ix_last {l : List D} {u : D} : evIx (.ref 0) (.int (-1)) (.lst (l ++ [u]) :: M) = .ok u (.lst (l ++ [u]) :: M) := by
  exact ix_r rfl at_last
theorem pop_last {l : List D} {u : D} : evMm .pop (.ref 0) [] (.lst (l ++ [u]) :: M) = .ok u (.lst l :: M) := by
  show (match (l ++ [u])[(l ++ [u]).length - 1]? with | some y => R.ok y ((MO.lst (l ++ [u]) :: M).set 0 (.lst (l ++ [u]).dropLast)) | none => .bad) = _
  simp
theorem app_0 {l : List D} {u : D} (h : l.length < sizeLine) : evMm .append (.ref 0) [u] (.lst l :: M) = .ok .non (.lst (l ++ [u]) :: M) := by
  show R.when (decide (l.length < sizeLine)) (R.ok D.non ((MO.lst l :: M).set 0 (.lst (l ++ [u])))) = _
  rw [when_dec h]
  rfl
theorem ext_0 {l m : List D} (h : l.length + m.length ≤ sizeLine) : evMm .extend (.ref 0) [.lst m] (.lst l :: M) = .ok .non (.lst (l ++ m) :: M) := by
  show R.when (decide (l.length + m.length ≤ sizeLine)) (R.ok D.non ((MO.lst l :: M).set 0 (.lst (l ++ m)))) = _
  rw [when_dec h]
  rfl
theorem ix_p0 {p : Int × Int} : evIx (pD p) (.int 0) M = .ok (.int p.1) M := ix_t at_0
theorem ix_p1 {p : Int × Int} : evIx (pD p) (.int 1) M = .ok (.int p.2) M := by
  refine ix_t ?_
  unfold L2.atI L2.ixN
  simp
theorem tup_0 {l : List D} : evBi .tuple [.ref 0] (.lst l :: M) = .ok (.tup l) (.lst l :: M) := rfl
theorem line1000 : (1000000 : Nat) ≤ sizeLine := by decide
theorem asTup_pD {p : Int × Int} : asTup (pD p) = some [.int p.1, .int p.2] := rfl
theorem pD_f {i j : Int} : D.tup [.int i, .int j] = pD (i, j) := rfl
/-! put_together -/
def ptStep (found : List (Int × Int)) (p : Int × Int) : List (Int × Int) :=
  match found.getLast? with
  | some q => if q.1 = p.1 then (if 0 < q.2 + p.2 then found.dropLast ++ [(p.1, q.2 + p.2)] else found.dropLast) else (if 0 < p.2 then found ++ [p] else found)
  | none => if 0 < p.2 then found ++ [p] else found
def pt (runs : List (Int × Int)) : List (Int × Int) := runs.foldl ptStep []
theorem ptStep_len (found : List (Int × Int)) (p : Int × Int) : (ptStep found p).length ≤ found.length + 1 := by
  unfold ptStep
  split
  · split <;> split <;> simp <;> omega
  · split <;> simp
theorem fold_len : ∀ (l found : List (Int × Int)), (l.foldl ptStep found).length ≤ found.length + l.length
  | [], f => by simp
  | p :: l, f => by
    have h1 := fold_len l (ptStep f p)
    have h2 := ptStep_len f p
    simp only [List.foldl_cons, List.length_cons]
    omega
theorem pt_len (l : List (Int × Int)) : (pt l).length ≤ l.length := by
  have := fold_len l []
  simpa [pt] using this
theorem flat_pD : ∀ (k : Nat) (l : List (Int × Int)), flatL (k + 1) (l.map pD) = true := fun k l => flat_pairs l k
def ptTurn (w n : Nat) (x : D) (e : Ev) (M : List MO) : O := exS (asg ⟨C w n, tabOf ts, w⟩ (.tp (.cons (.nm 2) (.cons (.nm 3) .nil))) x e M) e fun e M => exs ⟨C w n, tabOf ts, w⟩
  (.cons (.ite (.bnd (.cons (.cmp .ne (.v 1) (.lst .nil)) (.cons (.cmp .eq (.ix (.ix (.v 1) (.neg (.c (.int 1)))) (.c (.int 0))) (.v 2)) .nil))) (.cons (.par [2, 3] (.cons (.v 2) (.cons (.op .add (.ix (.mm .pop (.v 1) .nil) (.c (.int 1))) (.v 3)) .nil))) .nil) .nil)
    (.cons (.ite (.cmp .gt (.v 3) (.c (.int 0))) (.cons (.ex (.mm .append (.v 1) (.cons (.tup (.cons false (.v 2) (.cons false (.v 3) .nil))) .nil))) .nil) .nil) .nil)) e M
theorem pt_turn (p : Int × Int) (found : List (Int × Int)) (r : D) (x y : Option D) (h : found.length < 1000) :
    ∃ x' y', ptTurn w n (pD p) [some r, some (.ref 0), x, y] (.lst (found.map pD) :: M) = .nx [some r, some (.ref 0), x', y'] (.lst ((ptStep found p).map pD) :: M) := by
  have hl := line1000
  unfold ptTurn
  rcases List.eq_nil_or_concat found with rfl | ⟨init, q, rfl⟩
  · refine ⟨some (.int p.1), some (.int p.2), ?_⟩
    by_cases h2 : 0 < p.2
    · simp only [exs_c, exs_n, ex, ev, evs, evSq, evAnd, evOr, evF, evO, evC, evI, asg, asgs, evT, Cn.d, bind_ok, bind_bad, bind_err, bind_ite, exS_ok, exS_bad, exS_ite, seq_nx, seq_ret, seq_brk, seq_cont, seq_bad, seq_ite, fin_ret, fin_nx, fin_bad, fin_ite, of_some, of_none, when_t, calm_ok, add_i, sub_i, add_s, mul_i, div_i, mod_i, pow_i, aug_add, aug_sub, eq_i, ne_i, eq_s, ne_s, eq_b, ne_b, lt_i, le_i, gt_i, ge_i, is_n, isnot_n, tr_b, tr_i, tr_t, tr_l, tr_n, asInt_i, asStr_s, asStr_i, asStr_t, asBl_b, asTup_t, isNon_n, isNon_i, isNon_s, isNon_t, isNon_l, startE, parSet, wipeE, List.map_cons, List.map_nil, List.length_cons, List.length_nil, Nat.reduceAdd, Nat.reduceSub, List.replicate, List.cons_append, List.nil_append, List.append_nil, List.getElem?_cons_zero, List.getElem?_cons_succ, List.set_cons_zero, List.set_cons_succ, if_true, if_false, Bool.false_eq_true, Bool.true_and, Bool.and_true, Bool.not_true, Bool.not_false, Nat.reduceBEq, BEq.rfl, Option.isSome_some, Option.isSome_none, reduceIte, reduceCtorEq, decide_true, decide_false, asTup_pD, pD_f, evs, evSq, ne_nil_0 (l := []) rfl, when_dec (show (0 : Nat) ≤ sizeLine by decide), when_dec (show (2 : Nat) ≤ sizeLine by decide), List.isEmpty, asRef_0, decide_eq_true h2, app_0 (show ([] : List D).length < sizeLine by decide), ptStep, List.getLast?_nil, h2]
    · simp only [exs_c, exs_n, ex, ev, evs, evSq, evAnd, evOr, evF, evO, evC, evI, asg, asgs, evT, Cn.d, bind_ok, bind_bad, bind_err, bind_ite, exS_ok, exS_bad, exS_ite, seq_nx, seq_ret, seq_brk, seq_cont, seq_bad, seq_ite, fin_ret, fin_nx, fin_bad, fin_ite, of_some, of_none, when_t, calm_ok, add_i, sub_i, add_s, mul_i, div_i, mod_i, pow_i, aug_add, aug_sub, eq_i, ne_i, eq_s, ne_s, eq_b, ne_b, lt_i, le_i, gt_i, ge_i, is_n, isnot_n, tr_b, tr_i, tr_t, tr_l, tr_n, asInt_i, asStr_s, asStr_i, asStr_t, asBl_b, asTup_t, isNon_n, isNon_i, isNon_s, isNon_t, isNon_l, startE, parSet, wipeE, List.map_cons, List.map_nil, List.length_cons, List.length_nil, Nat.reduceAdd, Nat.reduceSub, List.replicate, List.cons_append, List.nil_append, List.append_nil, List.getElem?_cons_zero, List.getElem?_cons_succ, List.set_cons_zero, List.set_cons_succ, if_true, if_false, Bool.false_eq_true, Bool.true_and, Bool.and_true, Bool.not_true, Bool.not_false, Nat.reduceBEq, BEq.rfl, Option.isSome_some, Option.isSome_none, reduceIte, reduceCtorEq, decide_true, decide_false, asTup_pD, pD_f, evs, evSq, ne_nil_0 (l := []) rfl, when_dec (show (0 : Nat) ≤ sizeLine by decide), when_dec (show (2 : Nat) ≤ sizeLine by decide), List.isEmpty, asRef_0, decide_eq_false h2, ptStep, List.getLast?_nil, h2]
  · refine ⟨some (.int p.1), some (.int (if q.1 = p.1 then q.2 + p.2 else p.2)), ?_⟩
    have hf := flat_pD 58 (init.concat q)
    rw [List.concat_eq_append] at hf h ⊢
    have e1 : (init ++ [q]).map pD = init.map pD ++ [pD q] := by simp
    have e2 : (init.map pD ++ [pD q]).isEmpty = false := by simp
    have hlen : init.length < 1000 := by simp at h; omega
    rw [e1] at hf ⊢
    have e3 : ptStep (init ++ [q]) p = if q.1 = p.1 then (if 0 < q.2 + p.2 then init ++ [(p.1, q.2 + p.2)] else init) else (if 0 < p.2 then (init ++ [q]) ++ [p] else init ++ [q]) := by
      unfold ptStep
      simp
    rw [e3]
    have ha : (init.map pD).length < sizeLine := by rw [List.length_map]; omega
    have hb : (init.map pD ++ [pD q]).length < sizeLine := by rw [List.length_append, List.length_map]; simp; omega
    by_cases hq : q.1 = p.1
    · have hq' : (q.1 == p.1) = true := by simpa using hq
      by_cases h2 : 0 < q.2 + p.2
      · simp only [exs_c, exs_n, ex, ev, evs, evSq, evAnd, evOr, evF, evO, evC, evI, asg, asgs, evT, Cn.d, bind_ok, bind_bad, bind_err, bind_ite, exS_ok, exS_bad, exS_ite, seq_nx, seq_ret, seq_brk, seq_cont, seq_bad, seq_ite, fin_ret, fin_nx, fin_bad, fin_ite, of_some, of_none, when_t, calm_ok, add_i, sub_i, add_s, mul_i, div_i, mod_i, pow_i, aug_add, aug_sub, eq_i, ne_i, eq_s, ne_s, eq_b, ne_b, lt_i, le_i, gt_i, ge_i, is_n, isnot_n, tr_b, tr_i, tr_t, tr_l, tr_n, asInt_i, asStr_s, asStr_i, asStr_t, asBl_b, asTup_t, isNon_n, isNon_i, isNon_s, isNon_t, isNon_l, startE, parSet, wipeE, List.map_cons, List.map_nil, List.length_cons, List.length_nil, Nat.reduceAdd, Nat.reduceSub, List.replicate, List.cons_append, List.nil_append, List.append_nil, List.getElem?_cons_zero, List.getElem?_cons_succ, List.set_cons_zero, List.set_cons_succ, if_true, if_false, Bool.false_eq_true, Bool.true_and, Bool.and_true, Bool.not_true, Bool.not_false, Nat.reduceBEq, BEq.rfl, Option.isSome_some, Option.isSome_none, reduceIte, reduceCtorEq, decide_true, decide_false, asTup_pD, pD_f, ne_nil_0 hf, when_dec (show (0 : Nat) ≤ sizeLine by decide), when_dec (show (2 : Nat) ≤ sizeLine by decide), e2, ix_last, ix_p0, asRef_0, pop_last, ix_p1, hq', app_0 ha, hq, h2, List.map_append]
      · simp only [exs_c, exs_n, ex, ev, evs, evSq, evAnd, evOr, evF, evO, evC, evI, asg, asgs, evT, Cn.d, bind_ok, bind_bad, bind_err, bind_ite, exS_ok, exS_bad, exS_ite, seq_nx, seq_ret, seq_brk, seq_cont, seq_bad, seq_ite, fin_ret, fin_nx, fin_bad, fin_ite, of_some, of_none, when_t, calm_ok, add_i, sub_i, add_s, mul_i, div_i, mod_i, pow_i, aug_add, aug_sub, eq_i, ne_i, eq_s, ne_s, eq_b, ne_b, lt_i, le_i, gt_i, ge_i, is_n, isnot_n, tr_b, tr_i, tr_t, tr_l, tr_n, asInt_i, asStr_s, asStr_i, asStr_t, asBl_b, asTup_t, isNon_n, isNon_i, isNon_s, isNon_t, isNon_l, startE, parSet, wipeE, List.map_cons, List.map_nil, List.length_cons, List.length_nil, Nat.reduceAdd, Nat.reduceSub, List.replicate, List.cons_append, List.nil_append, List.append_nil, List.getElem?_cons_zero, List.getElem?_cons_succ, List.set_cons_zero, List.set_cons_succ, if_true, if_false, Bool.false_eq_true, Bool.true_and, Bool.and_true, Bool.not_true, Bool.not_false, Nat.reduceBEq, BEq.rfl, Option.isSome_some, Option.isSome_none, reduceIte, reduceCtorEq, decide_true, decide_false, asTup_pD, pD_f, ne_nil_0 hf, when_dec (show (0 : Nat) ≤ sizeLine by decide), when_dec (show (2 : Nat) ≤ sizeLine by decide), e2, ix_last, ix_p0, asRef_0, pop_last, ix_p1, hq', app_0 ha, hq, h2, List.map_append]
    · have hq' : (q.1 == p.1) = false := by simpa using hq
      by_cases h2 : 0 < p.2
      · simp only [exs_c, exs_n, ex, ev, evs, evSq, evAnd, evOr, evF, evO, evC, evI, asg, asgs, evT, Cn.d, bind_ok, bind_bad, bind_err, bind_ite, exS_ok, exS_bad, exS_ite, seq_nx, seq_ret, seq_brk, seq_cont, seq_bad, seq_ite, fin_ret, fin_nx, fin_bad, fin_ite, of_some, of_none, when_t, calm_ok, add_i, sub_i, add_s, mul_i, div_i, mod_i, pow_i, aug_add, aug_sub, eq_i, ne_i, eq_s, ne_s, eq_b, ne_b, lt_i, le_i, gt_i, ge_i, is_n, isnot_n, tr_b, tr_i, tr_t, tr_l, tr_n, asInt_i, asStr_s, asStr_i, asStr_t, asBl_b, asTup_t, isNon_n, isNon_i, isNon_s, isNon_t, isNon_l, startE, parSet, wipeE, List.map_cons, List.map_nil, List.length_cons, List.length_nil, Nat.reduceAdd, Nat.reduceSub, List.replicate, List.cons_append, List.nil_append, List.append_nil, List.getElem?_cons_zero, List.getElem?_cons_succ, List.set_cons_zero, List.set_cons_succ, if_true, if_false, Bool.false_eq_true, Bool.true_and, Bool.and_true, Bool.not_true, Bool.not_false, Nat.reduceBEq, BEq.rfl, Option.isSome_some, Option.isSome_none, reduceIte, reduceCtorEq, decide_true, decide_false, asTup_pD, pD_f, ne_nil_0 hf, when_dec (show (0 : Nat) ≤ sizeLine by decide), when_dec (show (2 : Nat) ≤ sizeLine by decide), e2, ix_last, ix_p0, asRef_0, pop_last, ix_p1, hq', app_0 hb, hq, h2, List.map_append]
      · simp only [exs_c, exs_n, ex, ev, evs, evSq, evAnd, evOr, evF, evO, evC, evI, asg, asgs, evT, Cn.d, bind_ok, bind_bad, bind_err, bind_ite, exS_ok, exS_bad, exS_ite, seq_nx, seq_ret, seq_brk, seq_cont, seq_bad, seq_ite, fin_ret, fin_nx, fin_bad, fin_ite, of_some, of_none, when_t, calm_ok, add_i, sub_i, add_s, mul_i, div_i, mod_i, pow_i, aug_add, aug_sub, eq_i, ne_i, eq_s, ne_s, eq_b, ne_b, lt_i, le_i, gt_i, ge_i, is_n, isnot_n, tr_b, tr_i, tr_t, tr_l, tr_n, asInt_i, asStr_s, asStr_i, asStr_t, asBl_b, asTup_t, isNon_n, isNon_i, isNon_s, isNon_t, isNon_l, startE, parSet, wipeE, List.map_cons, List.map_nil, List.length_cons, List.length_nil, Nat.reduceAdd, Nat.reduceSub, List.replicate, List.cons_append, List.nil_append, List.append_nil, List.getElem?_cons_zero, List.getElem?_cons_succ, List.set_cons_zero, List.set_cons_succ, if_true, if_false, Bool.false_eq_true, Bool.true_and, Bool.and_true, Bool.not_true, Bool.not_false, Nat.reduceBEq, BEq.rfl, Option.isSome_some, Option.isSome_none, reduceIte, reduceCtorEq, decide_true, decide_false, asTup_pD, pD_f, ne_nil_0 hf, when_dec (show (0 : Nat) ≤ sizeLine by decide), when_dec (show (2 : Nat) ≤ sizeLine by decide), e2, ix_last, ix_p0, asRef_0, pop_last, ix_p1, hq', app_0 hb, hq, h2, List.map_append]
end K79

namespace K79
open PySem TF
variable {w n : Nat} {M : List MO}
theorem put_ok (runs : List (Int × Int)) (h : runs.length ≤ 900) : ∃ M', C w (n + 1) f_put_together [.lst (runs.map pD)] [] = .ok (.tup ((pt runs).map pD)) M' := by
  obtain ⟨e', M', h1, h2⟩ := for_ind (turn := ptTurn w n) (f := pD) (fun dn e M => M = [.lst ((dn.foldl ptStep []).map pD)] ∧ ∃ x y, e = [some (.lst (runs.map pD)), some (.ref 0), x, y]) runs [] [some (.lst (runs.map pD)), some (.ref 0), none, none] [.lst []]
    (fun dn a r e M hd ⟨hM, x, y, he⟩ => by
      subst hM he
      have hlen : (dn.foldl ptStep []).length < 1000 := by
        have h1 := fold_len dn []
        have h2 : dn.length ≤ runs.length := by
          have := congrArg List.length hd
          simp at this
          omega
        simp at h1
        omega
      obtain ⟨x', y', e1⟩ := pt_turn (w := w) (n := n) (M := []) a (dn.foldl ptStep []) (.lst (runs.map pD)) x y hlen
      exact ⟨_, _, .inl e1, by simp, x', y', rfl⟩) ⟨rfl, none, none, rfl⟩
  obtain ⟨hM, x, y, he⟩ := h2
  subst hM he
  refine ⟨[.lst ((pt runs).map pD)], (call_eq (d := ⟨b_put_together, 4⟩) rfl rfl).trans ?_⟩
  show fin ((forLoop none (ptTurn w n) (runs.map pD) [some (.lst (runs.map pD)), some (.ref 0), none, none] [.lst []]).seq fun e M => exs ⟨C w n, tabOf ts, w⟩ (.cons (.ret (.bi .tuple (.cons (.v 1) .nil))) .nil) e M) = _
  rw [h1]
  simp only [exs_c, exs_n, ex, ev, evs, evSq, evAnd, evOr, evF, evO, evC, evI, asg, asgs, evT, Cn.d, bind_ok, bind_bad, bind_err, bind_ite, exS_ok, exS_bad, exS_ite, seq_nx, seq_ret, seq_brk, seq_cont, seq_bad, seq_ite, fin_ret, fin_nx, fin_bad, fin_ite, of_some, of_none, when_t, calm_ok, add_i, sub_i, add_s, mul_i, div_i, mod_i, pow_i, aug_add, aug_sub, eq_i, ne_i, eq_s, ne_s, eq_b, ne_b, lt_i, le_i, gt_i, ge_i, is_n, isnot_n, tr_b, tr_i, tr_t, tr_l, tr_n, asInt_i, asStr_s, asStr_i, asStr_t, asBl_b, asTup_t, isNon_n, isNon_i, isNon_s, isNon_t, isNon_l, startE, parSet, wipeE, List.map_cons, List.map_nil, List.length_cons, List.length_nil, Nat.reduceAdd, Nat.reduceSub, List.replicate, List.cons_append, List.nil_append, List.append_nil, List.getElem?_cons_zero, List.getElem?_cons_succ, List.set_cons_zero, List.set_cons_succ, if_true, if_false, Bool.false_eq_true, Bool.true_and, Bool.and_true, Bool.not_true, Bool.not_false, Nat.reduceBEq, BEq.rfl, Option.isSome_some, Option.isSome_none, reduceIte, reduceCtorEq, decide_true, decide_false, tup_0]
  rfl
end K79

namespace K79
open PySem TF
variable {w n : Nat} {M : List MO}
theorem pure_pD : ∀ l : List (Int × Int), pureL (l.map pD) = true
  | [] => rfl
  | p :: l => by
    show ((pD p).pure && pureL (l.map pD)) = true
    rw [pure_pD l]
    rfl
theorem pure_app : ∀ (l m : List D), pureL (l ++ m) = (pureL l && pureL m)
  | [], m => by simp [pureL]
  | d :: l, m => by
    show (d.pure && pureL (l ++ m)) = ((d.pure && pureL l) && pureL m)
    rw [pure_app l m, Bool.and_assoc]
theorem pcall_ok {l : List D} {d : D} {M M' : List MO} (hp : pureL l = true) (hd : d.pure = true) : pcall (.ok d M') l M = .ok d M := by
  unfold pcall
  dsimp only
  rw [hp, hd, when_t, when_t]
/-! runs_of -/
def roStep (s : Int × List (Int × Int)) (p : Int × Int) : Int × List (Int × Int) := (p.2, s.2 ++ [(0, p.1 - s.1), (1, p.2 - p.1)])
def ro (raised : List (Int × Int)) : Int × List (Int × Int) := raised.foldl roStep (0, [])
theorem ro_len : ∀ (l : List (Int × Int)) (s : Int × List (Int × Int)), (l.foldl roStep s).2.length = s.2.length + 2 * l.length
  | [], s => by simp
  | p :: l, s => by
    rw [List.foldl_cons, ro_len l]
    simp [roStep]
    omega
def roTurn (w n : Nat) (x : D) (e : Ev) (M : List MO) : O := exS (asg ⟨C w n, tabOf ts, w⟩ (.tp (.cons (.nm 4) (.cons (.nm 5) .nil))) x e M) e fun e M => exs ⟨C w n, tabOf ts, w⟩
  (.cons (.ex (.mm .extend (.v 2) (.cons (.lst (.cons false (.tup (.cons false (.c (.int 0)) (.cons false (.op .sub (.v 4) (.v 3)) .nil))) (.cons false (.tup (.cons false (.c (.int 1)) (.cons false (.op .sub (.v 5) (.v 4)) .nil))) .nil))) .nil))) (.cons (.set (.nm 3) (.v 5)) .nil)) e M
theorem ro_turn (p : Int × Int) (s : Int × List (Int × Int)) (a b : D) (x y : Option D) (h : s.2.length < 5000) :
    ∃ x' y', roTurn w n (pD p) [some a, some b, some (.ref 0), some (.int s.1), x, y] (.lst (s.2.map pD) :: M) = .nx [some a, some b, some (.ref 0), some (.int (roStep s p).1), x', y'] (.lst ((roStep s p).2.map pD) :: M) := by
  have hl := line1000
  refine ⟨some (.int p.1), some (.int p.2), ?_⟩
  unfold roTurn
  have hx : (s.2.map pD).length + 2 ≤ sizeLine := by rw [List.length_map]; omega
  simp only [exs_c, exs_n, ex, ev, evs, evSq, evAnd, evOr, evF, evO, evC, evI, asg, asgs, evT, Cn.d, bind_ok, bind_bad, bind_err, bind_ite, exS_ok, exS_bad, exS_ite, seq_nx, seq_ret, seq_brk, seq_cont, seq_bad, seq_ite, fin_ret, fin_nx, fin_bad, fin_ite, of_some, of_none, when_t, calm_ok, add_i, sub_i, add_s, mul_i, div_i, mod_i, pow_i, aug_add, aug_sub, eq_i, ne_i, eq_s, ne_s, eq_b, ne_b, lt_i, le_i, gt_i, ge_i, is_n, isnot_n, tr_b, tr_i, tr_t, tr_l, tr_n, asInt_i, asStr_s, asStr_i, asStr_t, asBl_b, asTup_t, isNon_n, isNon_i, isNon_s, isNon_t, isNon_l, startE, parSet, wipeE, List.map_cons, List.map_nil, List.length_cons, List.length_nil, Nat.reduceAdd, Nat.reduceSub, List.replicate, List.cons_append, List.nil_append, List.append_nil, List.getElem?_cons_zero, List.getElem?_cons_succ, List.set_cons_zero, List.set_cons_succ, if_true, if_false, Bool.false_eq_true, Bool.true_and, Bool.and_true, Bool.not_true, Bool.not_false, Nat.reduceBEq, BEq.rfl, Option.isSome_some, Option.isSome_none, reduceIte, reduceCtorEq, decide_true, decide_false, asTup_pD, pD_f, when_dec (show (2 : Nat) ≤ sizeLine by decide), asRef_0, ext_0 (l := s.2.map pD) (m := [pD (0, p.1 - s.1), pD (1, p.2 - p.1)]) hx, roStep, List.map_append]
theorem runs_of_ok (size : Int) (raised : List (Int × Int)) (h : raised.length ≤ 100) : ∃ M', C w (n + 2) f_runs_of [.int size, .tup (raised.map pD)] [] = .ok (.tup ((pt ((ro raised).2 ++ [(0, size - (ro raised).1)])).map pD)) M' := by
  obtain ⟨e', M', h1, h2⟩ := for_ind (turn := roTurn w (n + 1)) (f := pD) (fun dn e M => M = [.lst ((dn.foldl roStep (0, [])).2.map pD)] ∧ ∃ x y, e = [some (.int size), some (.tup (raised.map pD)), some (.ref 0), some (.int (dn.foldl roStep (0, [])).1), x, y]) raised []
    [some (.int size), some (.tup (raised.map pD)), some (.ref 0), some (.int 0), none, none] [.lst []]
    (fun dn a r e M hd ⟨hM, x, y, he⟩ => by
      subst hM he
      have hlen : (dn.foldl roStep (0, [])).2.length < 5000 := by
        have h1 := ro_len dn (0, [])
        have h2 : dn.length ≤ raised.length := by
          have := congrArg List.length hd
          simp at this
          omega
        simp at h1
        omega
      obtain ⟨x', y', e1⟩ := ro_turn (w := w) (n := n + 1) (M := []) a (dn.foldl roStep (0, [])) (.int size) (.tup (raised.map pD)) x y hlen
      exact ⟨_, _, .inl e1, by simp, x', y', by simp⟩) ⟨rfl, none, none, rfl⟩
  obtain ⟨hM, x, y, he⟩ := h2
  subst hM he
  refine ⟨[.lst ((ro raised).2.map pD)], (call_eq (d := ⟨b_runs_of, 6⟩) rfl rfl).trans ?_⟩
  show fin ((forLoop none (roTurn w (n + 1)) (raised.map pD) [some (.int size), some (.tup (raised.map pD)), some (.ref 0), some (.int 0), none, none] [.lst []]).seq fun e M => exs ⟨C w (n + 1), tabOf ts, w⟩ (.cons (.ret (.call 3 (.cons (.lst (.cons true (.v 2) (.cons false (.tup (.cons false (.c (.int 0)) (.cons false (.op .sub (.v 0) (.v 3)) .nil))) .nil))) .nil))) .nil) e M) = _
  rw [h1]
  have hz : ((ro raised).2 ++ [(0, size - (ro raised).1)]).length ≤ 900 := by
    have := ro_len raised (0, [])
    simp [ro] at this ⊢
    omega
  obtain ⟨M2, e2⟩ := put_ok (w := w) (n := n) ((ro raised).2 ++ [(0, size - (ro raised).1)]) hz
  have hz2 : ((ro raised).2.map pD ++ [pD (0, size - (ro raised).1)]).length ≤ sizeLine := by
    have := line1000
    simp at hz ⊢
    omega
  have e3 : ((ro raised).2 ++ [(0, size - (ro raised).1)]).map pD = (ro raised).2.map pD ++ [pD (0, size - (ro raised).1)] := by simp
  rw [e3] at e2
  have hs : seqV [MO.lst ((ro raised).2.map pD)] (.ref 0) = some (true, (ro raised).2.map pD) := rfl
  simp only [exs_c, exs_n, ex, ev, evs, evSq, evAnd, evOr, evF, evO, evC, evI, asg, asgs, evT, Cn.d, bind_ok, bind_bad, bind_err, bind_ite, exS_ok, exS_bad, exS_ite, seq_nx, seq_ret, seq_brk, seq_cont, seq_bad, seq_ite, fin_ret, fin_nx, fin_bad, fin_ite, of_some, of_none, when_t, calm_ok, add_i, sub_i, add_s, mul_i, div_i, mod_i, pow_i, aug_add, aug_sub, eq_i, ne_i, eq_s, ne_s, eq_b, ne_b, lt_i, le_i, gt_i, ge_i, is_n, isnot_n, tr_b, tr_i, tr_t, tr_l, tr_n, asInt_i, asStr_s, asStr_i, asStr_t, asBl_b, asTup_t, isNon_n, isNon_i, isNon_s, isNon_t, isNon_l, startE, parSet, wipeE, List.map_cons, List.map_nil, List.length_cons, List.length_nil, Nat.reduceAdd, Nat.reduceSub, List.replicate, List.cons_append, List.nil_append, List.append_nil, List.getElem?_cons_zero, List.getElem?_cons_succ, List.set_cons_zero, List.set_cons_succ, if_true, if_false, Bool.false_eq_true, Bool.true_and, Bool.and_true, Bool.not_true, Bool.not_false, Nat.reduceBEq, BEq.rfl, Option.isSome_some, Option.isSome_none, reduceIte, reduceCtorEq, decide_true, decide_false, pD_f, hs, Option.map_some, when_dec (show (2 : Nat) ≤ sizeLine by decide), show (List.foldl roStep (0, []) raised) = ro raised from rfl, when_dec hz2]
  rw [show C w (n + 1) 3 _ [] = _ from e2, pcall_ok (by simp [pureL, D.pure, pure_app, pure_pD, pD]) (by simp [D.pure, pure_pD])]
  simp only [exs_c, exs_n, ex, ev, evs, evSq, evAnd, evOr, evF, evO, evC, evI, asg, asgs, evT, Cn.d, bind_ok, bind_bad, bind_err, bind_ite, exS_ok, exS_bad, exS_ite, seq_nx, seq_ret, seq_brk, seq_cont, seq_bad, seq_ite, fin_ret, fin_nx, fin_bad, fin_ite, of_some, of_none, when_t, calm_ok, add_i, sub_i, add_s, mul_i, div_i, mod_i, pow_i, aug_add, aug_sub, eq_i, ne_i, eq_s, ne_s, eq_b, ne_b, lt_i, le_i, gt_i, ge_i, is_n, isnot_n, tr_b, tr_i, tr_t, tr_l, tr_n, asInt_i, asStr_s, asStr_i, asStr_t, asBl_b, asTup_t, isNon_n, isNon_i, isNon_s, isNon_t, isNon_l, startE, parSet, wipeE, List.map_cons, List.map_nil, List.length_cons, List.length_nil, Nat.reduceAdd, Nat.reduceSub, List.replicate, List.cons_append, List.nil_append, List.append_nil, List.getElem?_cons_zero, List.getElem?_cons_succ, List.set_cons_zero, List.set_cons_succ, if_true, if_false, Bool.false_eq_true, Bool.true_and, Bool.and_true, Bool.not_true, Bool.not_false, Nat.reduceBEq, BEq.rfl, Option.isSome_some, Option.isSome_none, reduceIte, reduceCtorEq, decide_true, decide_false]
end K79

namespace K79
open PySem TF
variable {w n : Nat} {M : List MO}
theorem max_i {i j : Int} : evBi .max [.int i, .int j] M = .ok (.int (if j > i then j else i)) M := rfl
theorem min_i {i j : Int} : evBi .min [.int i, .int j] M = .ok (.int (if j < i then j else i)) M := rfl
def crStep (first many : Int) (s : Int × List (Int × Int)) (p : Int × Int) : Int × List (Int × Int) :=
  (s.1 + p.2, s.2 ++ [(p.1, if (if first + many < s.1 + p.2 then first + many else s.1 + p.2) - (if first > s.1 then first else s.1) > 0 then (if first + many < s.1 + p.2 then first + many else s.1 + p.2) - (if first > s.1 then first else s.1) else 0)])
def cr (runs : List (Int × Int)) (first many : Int) : List (Int × Int) := (runs.foldl (crStep first many) (0, [])).2
def cut (runs : List (Int × Int)) (first many : Int) : List (Int × Int) := pt (cr runs first many)
theorem cr_len (first many : Int) : ∀ (l : List (Int × Int)) (s : Int × List (Int × Int)), (l.foldl (crStep first many) s).2.length = s.2.length + l.length
  | [], s => by simp
  | p :: l, s => by
    rw [List.foldl_cons, cr_len first many l]
    simp [crStep]
    omega
theorem cut_len (runs : List (Int × Int)) (first many : Int) : (cut runs first many).length ≤ runs.length := by
  have h1 := pt_len (cr runs first many)
  have h2 := cr_len first many runs (0, [])
  simp at h2
  unfold cut
  unfold cr at h1 ⊢
  omega
def crTurn (w n : Nat) (x : D) (e : Ev) (M : List MO) : O := exS (asg ⟨C w n, tabOf ts, w⟩ (.tp (.cons (.nm 5) (.cons (.nm 6) .nil))) x e M) e fun e M => exs ⟨C w n, tabOf ts, w⟩
  (.cons (.par [7, 8] (.cons (.bi .max (.cons (.v 4) (.cons (.v 1) .nil))) (.cons (.bi .min (.cons (.op .add (.v 4) (.v 6)) (.cons (.op .add (.v 1) (.v 2)) .nil))) .nil))) (.cons (.ex (.mm .append (.v 3) (.cons (.tup (.cons false (.v 5) (.cons false (.bi .max (.cons (.c (.int 0)) (.cons (.op .sub (.v 8) (.v 7)) .nil))) .nil))) .nil))) (.cons (.aug 4 .add (.v 6)) .nil))) e M
theorem cr_turn (p : Int × Int) (s : Int × List (Int × Int)) (first many : Int) (a : D) (x5 x6 x7 x8 : Option D) (h : s.2.length < 5000) :
    ∃ y5 y6 y7 y8, crTurn w n (pD p) [some a, some (.int first), some (.int many), some (.ref 0), some (.int s.1), x5, x6, x7, x8] (.lst (s.2.map pD) :: M) = .nx [some a, some (.int first), some (.int many), some (.ref 0), some (.int (crStep first many s p).1), y5, y6, y7, y8] (.lst ((crStep first many s p).2.map pD) :: M) := by
  have hl := line1000
  refine ⟨some (.int p.1), some (.int p.2), some (.int (if first > s.1 then first else s.1)), some (.int (if first + many < s.1 + p.2 then first + many else s.1 + p.2)), ?_⟩
  unfold crTurn
  have hx : (s.2.map pD).length < sizeLine := by rw [List.length_map]; omega
  simp only [exs_c, exs_n, ex, ev, evs, evSq, evAnd, evOr, evF, evO, evC, evI, asg, asgs, evT, Cn.d, bind_ok, bind_bad, bind_err, bind_ite, exS_ok, exS_bad, exS_ite, seq_nx, seq_ret, seq_brk, seq_cont, seq_bad, seq_ite, fin_ret, fin_nx, fin_bad, fin_ite, of_some, of_none, when_t, calm_ok, add_i, sub_i, add_s, mul_i, div_i, mod_i, pow_i, aug_add, aug_sub, eq_i, ne_i, eq_s, ne_s, eq_b, ne_b, lt_i, le_i, gt_i, ge_i, is_n, isnot_n, tr_b, tr_i, tr_t, tr_l, tr_n, asInt_i, asStr_s, asStr_i, asStr_t, asBl_b, asTup_t, isNon_n, isNon_i, isNon_s, isNon_t, isNon_l, startE, parSet, wipeE, List.map_cons, List.map_nil, List.length_cons, List.length_nil, Nat.reduceAdd, Nat.reduceSub, List.replicate, List.cons_append, List.nil_append, List.append_nil, List.getElem?_cons_zero, List.getElem?_cons_succ, List.set_cons_zero, List.set_cons_succ, if_true, if_false, Bool.false_eq_true, Bool.true_and, Bool.and_true, Bool.not_true, Bool.not_false, Nat.reduceBEq, BEq.rfl, Option.isSome_some, Option.isSome_none, reduceIte, reduceCtorEq, decide_true, decide_false, asTup_pD, pD_f, when_dec (show (2 : Nat) ≤ sizeLine by decide), asRef_0, max_i, min_i, app_0 hx, crStep, List.map_append]
theorem cut_ok (runs : List (Int × Int)) (first many : Int) (h : runs.length ≤ 900) : ∃ M', C w (n + 2) f_cut_runs [.tup (runs.map pD), .int first, .int many] [] = .ok (.tup ((cut runs first many).map pD)) M' := by
  obtain ⟨e', M', h1, h2⟩ := for_ind (turn := crTurn w (n + 1)) (f := pD) (fun dn e M => M = [.lst ((dn.foldl (crStep first many) (0, [])).2.map pD)] ∧ ∃ x5 x6 x7 x8, e = [some (.tup (runs.map pD)), some (.int first), some (.int many), some (.ref 0), some (.int (dn.foldl (crStep first many) (0, [])).1), x5, x6, x7, x8]) runs []
    [some (.tup (runs.map pD)), some (.int first), some (.int many), some (.ref 0), some (.int 0), none, none, none, none] [.lst []]
    (fun dn a r e M hd ⟨hM, x5, x6, x7, x8, he⟩ => by
      subst hM he
      have hlen : (dn.foldl (crStep first many) (0, [])).2.length < 5000 := by
        have h1 := cr_len first many dn (0, [])
        have h2 : dn.length ≤ runs.length := by
          have := congrArg List.length hd
          simp at this
          omega
        simp at h1
        omega
      obtain ⟨y5, y6, y7, y8, e1⟩ := cr_turn (w := w) (n := n + 1) (M := []) a (dn.foldl (crStep first many) (0, [])) first many (.tup (runs.map pD)) x5 x6 x7 x8 hlen
      exact ⟨_, _, .inl e1, by simp, y5, y6, y7, y8, by simp⟩) ⟨rfl, none, none, none, none, rfl⟩
  obtain ⟨hM, x5, x6, x7, x8, he⟩ := h2
  subst hM he
  refine ⟨[.dead], (call_eq (d := ⟨b_cut_runs, 9⟩) rfl rfl).trans ?_⟩
  show fin ((forLoop none (crTurn w (n + 1)) (runs.map pD) [some (.tup (runs.map pD)), some (.int first), some (.int many), some (.ref 0), some (.int 0), none, none, none, none] [.lst []]).seq fun e M => exs ⟨C w (n + 1), tabOf ts, w⟩ (.cons (.ret (.call 3 (.cons (.fz (.v 3)) .nil))) .nil) e M) = _
  rw [h1]
  have hz : (cr runs first many).length ≤ 900 := by
    have := cr_len first many runs (0, [])
    simp [cr] at this ⊢
    omega
  obtain ⟨M2, e2⟩ := put_ok (w := w) (n := n) (cr runs first many) hz
  simp only [exs_c, exs_n, ex, ev, evs, evSq, evAnd, evOr, evF, evO, evC, evI, asg, asgs, evT, Cn.d, bind_ok, bind_bad, bind_err, bind_ite, exS_ok, exS_bad, exS_ite, seq_nx, seq_ret, seq_brk, seq_cont, seq_bad, seq_ite, fin_ret, fin_nx, fin_bad, fin_ite, of_some, of_none, when_t, calm_ok, add_i, sub_i, add_s, mul_i, div_i, mod_i, pow_i, aug_add, aug_sub, eq_i, ne_i, eq_s, ne_s, eq_b, ne_b, lt_i, le_i, gt_i, ge_i, is_n, isnot_n, tr_b, tr_i, tr_t, tr_l, tr_n, asInt_i, asStr_s, asStr_i, asStr_t, asBl_b, asTup_t, isNon_n, isNon_i, isNon_s, isNon_t, isNon_l, startE, parSet, wipeE, List.map_cons, List.map_nil, List.length_cons, List.length_nil, Nat.reduceAdd, Nat.reduceSub, List.replicate, List.cons_append, List.nil_append, List.append_nil, List.getElem?_cons_zero, List.getElem?_cons_succ, List.set_cons_zero, List.set_cons_succ, if_true, if_false, Bool.false_eq_true, Bool.true_and, Bool.and_true, Bool.not_true, Bool.not_false, Nat.reduceBEq, BEq.rfl, Option.isSome_some, Option.isSome_none, reduceIte, reduceCtorEq, decide_true, decide_false, asRef_0, show (List.foldl (crStep first many) (0, []) runs).2 = cr runs first many from rfl]
  rw [show C w (n + 1) 3 _ [] = _ from e2, pcall_ok (by simp [pureL, D.pure, pure_pD]) (by simp [D.pure, pure_pD])]
  simp only [exs_c, exs_n, ex, ev, evs, evSq, evAnd, evOr, evF, evO, evC, evI, asg, asgs, evT, Cn.d, bind_ok, bind_bad, bind_err, bind_ite, exS_ok, exS_bad, exS_ite, seq_nx, seq_ret, seq_brk, seq_cont, seq_bad, seq_ite, fin_ret, fin_nx, fin_bad, fin_ite, of_some, of_none, when_t, calm_ok, add_i, sub_i, add_s, mul_i, div_i, mod_i, pow_i, aug_add, aug_sub, eq_i, ne_i, eq_s, ne_s, eq_b, ne_b, lt_i, le_i, gt_i, ge_i, is_n, isnot_n, tr_b, tr_i, tr_t, tr_l, tr_n, asInt_i, asStr_s, asStr_i, asStr_t, asBl_b, asTup_t, isNon_n, isNon_i, isNon_s, isNon_t, isNon_l, startE, parSet, wipeE, List.map_cons, List.map_nil, List.length_cons, List.length_nil, Nat.reduceAdd, Nat.reduceSub, List.replicate, List.cons_append, List.nil_append, List.append_nil, List.getElem?_cons_zero, List.getElem?_cons_succ, List.set_cons_zero, List.set_cons_succ, if_true, if_false, Bool.false_eq_true, Bool.true_and, Bool.and_true, Bool.not_true, Bool.not_false, Nat.reduceBEq, BEq.rfl, Option.isSome_some, Option.isSome_none, reduceIte, reduceCtorEq, decide_true, decide_false]
  rfl
/-! ring_runs -/
def rr (size : Int) (raised : List (Int × Int)) (place : Int) (left : Bool) : List (Int × Int) :=
  pt (cut (if left then (pt ((ro raised).2 ++ [(0, size - (ro raised).1)])).reverse else pt ((ro raised).2 ++ [(0, size - (ro raised).1)])) (if left then size - 1 - place else place) (size - (if left then size - 1 - place else place)) ++
    cut (if left then (pt ((ro raised).2 ++ [(0, size - (ro raised).1)])).reverse else pt ((ro raised).2 ++ [(0, size - (ro raised).1)])) 0 (if left then size - 1 - place else place))
theorem rv_t {l : List D} : evRv (.tup l) M = .ok (.tup l.reverse) M := rfl
theorem seqV_t {l : List D} : seqV M (.tup l) = some (false, l) := rfl
theorem ring_ok (size place : Int) (raised : List (Int × Int)) (side : Str) (h : raised.length ≤ 100) : ∃ M', C w (n + 3) f_ring_runs [.int size, .tup (raised.map pD), .int place, .str side] [] = .ok (.tup ((rr size raised place (side == "left")).map pD)) M' := by
  have hl := line1000
  refine ⟨[], (call_eq (d := ⟨b_ring_runs, 5⟩) rfl rfl).trans ?_⟩
  obtain ⟨M1, e1⟩ := runs_of_ok (w := w) (n := n) size raised h
  have hr : (pt ((ro raised).2 ++ [(0, size - (ro raised).1)])).length ≤ 201 := by
    have h1 := pt_len ((ro raised).2 ++ [(0, size - (ro raised).1)])
    have h2 := ro_len raised (0, [])
    simp [ro] at h1 h2 ⊢
    omega
  have tail : ∀ (runs : List (Int × Int)) (pl : Int), runs.length ≤ 201 → ∀ (a b : D), fin (exs ⟨C w (n + 2), tabOf ts, w⟩ (.cons (.ret (.call 3 (.cons (.lst (.cons true (.call 5 (.cons (.v 4) (.cons (.v 2) (.cons (.op .sub (.v 0) (.v 2)) .nil)))) (.cons true (.call 5 (.cons (.v 4) (.cons (.c (.int 0)) (.cons (.v 2) .nil)))) .nil))) .nil))) .nil)
      [some (.int size), some a, some (.int pl), some b, some (.tup (runs.map pD))] []) = .ok (.tup ((pt (cut runs pl (size - pl) ++ cut runs 0 pl)).map pD)) [] := by
    intro runs pl hr a b
    obtain ⟨M2, e2⟩ := cut_ok (w := w) (n := n) runs pl (size - pl) (by omega)
    obtain ⟨M3, e3⟩ := cut_ok (w := w) (n := n) runs 0 pl (by omega)
    have hz : (cut runs pl (size - pl) ++ cut runs 0 pl).length ≤ 900 := by
      have h1 := cut_len runs pl (size - pl)
      have h2 := cut_len runs 0 pl
      rw [List.length_append]
      omega
    obtain ⟨M4, e4⟩ := put_ok (w := w) (n := n + 1) (cut runs pl (size - pl) ++ cut runs 0 pl) hz
    rw [List.map_append] at e4
    simp only [exs_c, exs_n, ex, ev, evs, evSq, evAnd, evOr, evF, evO, evC, evI, asg, asgs, evT, Cn.d, bind_ok, bind_bad, bind_err, bind_ite, exS_ok, exS_bad, exS_ite, seq_nx, seq_ret, seq_brk, seq_cont, seq_bad, seq_ite, fin_ret, fin_nx, fin_bad, fin_ite, of_some, of_none, when_t, calm_ok, add_i, sub_i, add_s, mul_i, div_i, mod_i, pow_i, aug_add, aug_sub, eq_i, ne_i, eq_s, ne_s, eq_b, ne_b, lt_i, le_i, gt_i, ge_i, is_n, isnot_n, tr_b, tr_i, tr_t, tr_l, tr_n, asInt_i, asStr_s, asStr_i, asStr_t, asBl_b, asTup_t, isNon_n, isNon_i, isNon_s, isNon_t, isNon_l, startE, parSet, wipeE, List.map_cons, List.map_nil, List.length_cons, List.length_nil, Nat.reduceAdd, Nat.reduceSub, List.replicate, List.cons_append, List.nil_append, List.append_nil, List.getElem?_cons_zero, List.getElem?_cons_succ, List.set_cons_zero, List.set_cons_succ, if_true, if_false, Bool.false_eq_true, Bool.true_and, Bool.and_true, Bool.not_true, Bool.not_false, Nat.reduceBEq, BEq.rfl, Option.isSome_some, Option.isSome_none, reduceIte, reduceCtorEq, decide_true, decide_false]
    rw [show C w (n + 2) 5 _ [] = _ from e2, pcall_ok (by simp [pureL, D.pure, pure_pD]) (by simp [D.pure, pure_pD])]
    simp only [exs_c, exs_n, ex, ev, evs, evSq, evAnd, evOr, evF, evO, evC, evI, asg, asgs, evT, Cn.d, bind_ok, bind_bad, bind_err, bind_ite, exS_ok, exS_bad, exS_ite, seq_nx, seq_ret, seq_brk, seq_cont, seq_bad, seq_ite, fin_ret, fin_nx, fin_bad, fin_ite, of_some, of_none, when_t, calm_ok, add_i, sub_i, add_s, mul_i, div_i, mod_i, pow_i, aug_add, aug_sub, eq_i, ne_i, eq_s, ne_s, eq_b, ne_b, lt_i, le_i, gt_i, ge_i, is_n, isnot_n, tr_b, tr_i, tr_t, tr_l, tr_n, asInt_i, asStr_s, asStr_i, asStr_t, asBl_b, asTup_t, isNon_n, isNon_i, isNon_s, isNon_t, isNon_l, startE, parSet, wipeE, List.map_cons, List.map_nil, List.length_cons, List.length_nil, Nat.reduceAdd, Nat.reduceSub, List.replicate, List.cons_append, List.nil_append, List.append_nil, List.getElem?_cons_zero, List.getElem?_cons_succ, List.set_cons_zero, List.set_cons_succ, if_true, if_false, Bool.false_eq_true, Bool.true_and, Bool.and_true, Bool.not_true, Bool.not_false, Nat.reduceBEq, BEq.rfl, Option.isSome_some, Option.isSome_none, reduceIte, reduceCtorEq, decide_true, decide_false, seqV_t, Option.map_some]
    rw [show C w (n + 2) 5 _ [] = _ from e3, pcall_ok (by simp [pureL, D.pure, pure_pD]) (by simp [D.pure, pure_pD])]
    simp only [exs_c, exs_n, ex, ev, evs, evSq, evAnd, evOr, evF, evO, evC, evI, asg, asgs, evT, Cn.d, bind_ok, bind_bad, bind_err, bind_ite, exS_ok, exS_bad, exS_ite, seq_nx, seq_ret, seq_brk, seq_cont, seq_bad, seq_ite, fin_ret, fin_nx, fin_bad, fin_ite, of_some, of_none, when_t, calm_ok, add_i, sub_i, add_s, mul_i, div_i, mod_i, pow_i, aug_add, aug_sub, eq_i, ne_i, eq_s, ne_s, eq_b, ne_b, lt_i, le_i, gt_i, ge_i, is_n, isnot_n, tr_b, tr_i, tr_t, tr_l, tr_n, asInt_i, asStr_s, asStr_i, asStr_t, asBl_b, asTup_t, isNon_n, isNon_i, isNon_s, isNon_t, isNon_l, startE, parSet, wipeE, List.map_cons, List.map_nil, List.length_cons, List.length_nil, Nat.reduceAdd, Nat.reduceSub, List.replicate, List.cons_append, List.nil_append, List.append_nil, List.getElem?_cons_zero, List.getElem?_cons_succ, List.set_cons_zero, List.set_cons_succ, if_true, if_false, Bool.false_eq_true, Bool.true_and, Bool.and_true, Bool.not_true, Bool.not_false, Nat.reduceBEq, BEq.rfl, Option.isSome_some, Option.isSome_none, reduceIte, reduceCtorEq, decide_true, decide_false, seqV_t, Option.map_some]
    rw [when_dec (by
      have := hz
      simp at this ⊢
      omega)]
    simp only [exs_c, exs_n, ex, ev, evs, evSq, evAnd, evOr, evF, evO, evC, evI, asg, asgs, evT, Cn.d, bind_ok, bind_bad, bind_err, bind_ite, exS_ok, exS_bad, exS_ite, seq_nx, seq_ret, seq_brk, seq_cont, seq_bad, seq_ite, fin_ret, fin_nx, fin_bad, fin_ite, of_some, of_none, when_t, calm_ok, add_i, sub_i, add_s, mul_i, div_i, mod_i, pow_i, aug_add, aug_sub, eq_i, ne_i, eq_s, ne_s, eq_b, ne_b, lt_i, le_i, gt_i, ge_i, is_n, isnot_n, tr_b, tr_i, tr_t, tr_l, tr_n, asInt_i, asStr_s, asStr_i, asStr_t, asBl_b, asTup_t, isNon_n, isNon_i, isNon_s, isNon_t, isNon_l, startE, parSet, wipeE, List.map_cons, List.map_nil, List.length_cons, List.length_nil, Nat.reduceAdd, Nat.reduceSub, List.replicate, List.cons_append, List.nil_append, List.append_nil, List.getElem?_cons_zero, List.getElem?_cons_succ, List.set_cons_zero, List.set_cons_succ, if_true, if_false, Bool.false_eq_true, Bool.true_and, Bool.and_true, Bool.not_true, Bool.not_false, Nat.reduceBEq, BEq.rfl, Option.isSome_some, Option.isSome_none, reduceIte, reduceCtorEq, decide_true, decide_false]
    rw [show C w (n + 2) 3 _ [] = _ from e4, pcall_ok (by simp [pureL, D.pure, pure_pD, pure_app]) (by simp [D.pure, pure_pD])]
    simp only [exs_c, exs_n, ex, ev, evs, evSq, evAnd, evOr, evF, evO, evC, evI, asg, asgs, evT, Cn.d, bind_ok, bind_bad, bind_err, bind_ite, exS_ok, exS_bad, exS_ite, seq_nx, seq_ret, seq_brk, seq_cont, seq_bad, seq_ite, fin_ret, fin_nx, fin_bad, fin_ite, of_some, of_none, when_t, calm_ok, add_i, sub_i, add_s, mul_i, div_i, mod_i, pow_i, aug_add, aug_sub, eq_i, ne_i, eq_s, ne_s, eq_b, ne_b, lt_i, le_i, gt_i, ge_i, is_n, isnot_n, tr_b, tr_i, tr_t, tr_l, tr_n, asInt_i, asStr_s, asStr_i, asStr_t, asBl_b, asTup_t, isNon_n, isNon_i, isNon_s, isNon_t, isNon_l, startE, parSet, wipeE, List.map_cons, List.map_nil, List.length_cons, List.length_nil, Nat.reduceAdd, Nat.reduceSub, List.replicate, List.cons_append, List.nil_append, List.append_nil, List.getElem?_cons_zero, List.getElem?_cons_succ, List.set_cons_zero, List.set_cons_succ, if_true, if_false, Bool.false_eq_true, Bool.true_and, Bool.and_true, Bool.not_true, Bool.not_false, Nat.reduceBEq, BEq.rfl, Option.isSome_some, Option.isSome_none, reduceIte, reduceCtorEq, decide_true, decide_false]
  unfold b_ring_runs
  rw [exs_c]
  simp only [ex, ev, evs, evSq, evAnd, evOr, evF, evO, evC, evI, asg, asgs, evT, Cn.d, bind_ok, bind_bad, bind_err, bind_ite, exS_ok, exS_bad, exS_ite, seq_nx, seq_ret, seq_brk, seq_cont, seq_bad, seq_ite, fin_ret, fin_nx, fin_bad, fin_ite, of_some, of_none, when_t, calm_ok, add_i, sub_i, add_s, mul_i, div_i, mod_i, pow_i, aug_add, aug_sub, eq_i, ne_i, eq_s, ne_s, eq_b, ne_b, lt_i, le_i, gt_i, ge_i, is_n, isnot_n, tr_b, tr_i, tr_t, tr_l, tr_n, asInt_i, asStr_s, asStr_i, asStr_t, asBl_b, asTup_t, isNon_n, isNon_i, isNon_s, isNon_t, isNon_l, startE, parSet, wipeE, List.map_cons, List.map_nil, List.length_cons, List.length_nil, Nat.reduceAdd, Nat.reduceSub, List.replicate, List.cons_append, List.nil_append, List.append_nil, List.getElem?_cons_zero, List.getElem?_cons_succ, List.set_cons_zero, List.set_cons_succ, if_true, if_false, Bool.false_eq_true, Bool.true_and, Bool.and_true, Bool.not_true, Bool.not_false, Nat.reduceBEq, BEq.rfl, Option.isSome_some, Option.isSome_none, reduceIte, reduceCtorEq, decide_true, decide_false]
  rw [show callF (tabOf ts) (fsOf ds) w (n + 2) 4 _ [] = _ from e1, pcall_ok (by simp [pureL, D.pure, pure_pD]) (by simp [D.pure, pure_pD])]
  simp only [ex, ev, evs, evSq, evAnd, evOr, evF, evO, evC, evI, asg, asgs, evT, Cn.d, bind_ok, bind_bad, bind_err, bind_ite, exS_ok, exS_bad, exS_ite, seq_nx, seq_ret, seq_brk, seq_cont, seq_bad, seq_ite, fin_ret, fin_nx, fin_bad, fin_ite, of_some, of_none, when_t, calm_ok, add_i, sub_i, add_s, mul_i, div_i, mod_i, pow_i, aug_add, aug_sub, eq_i, ne_i, eq_s, ne_s, eq_b, ne_b, lt_i, le_i, gt_i, ge_i, is_n, isnot_n, tr_b, tr_i, tr_t, tr_l, tr_n, asInt_i, asStr_s, asStr_i, asStr_t, asBl_b, asTup_t, isNon_n, isNon_i, isNon_s, isNon_t, isNon_l, startE, parSet, wipeE, List.map_cons, List.map_nil, List.length_cons, List.length_nil, Nat.reduceAdd, Nat.reduceSub, List.replicate, List.cons_append, List.nil_append, List.append_nil, List.getElem?_cons_zero, List.getElem?_cons_succ, List.set_cons_zero, List.set_cons_succ, if_true, if_false, Bool.false_eq_true, Bool.true_and, Bool.and_true, Bool.not_true, Bool.not_false, Nat.reduceBEq, BEq.rfl, Option.isSome_some, Option.isSome_none, reduceIte, reduceCtorEq, decide_true, decide_false]
  rw [exs_c]
  cases hs : (side == "left") with
  | true =>
    refine step (e := [some (.int size), some (.tup (raised.map pD)), some (.int (size - 1 - place)), some (.str side), some (.tup ((pt ((ro raised).2 ++ [(0, size - (ro raised).1)])).map pD).reverse)]) (M := []) (by simp only [exs_c, exs_n, ex, ev, evs, evSq, evAnd, evOr, evF, evO, evC, evI, asg, asgs, evT, Cn.d, bind_ok, bind_bad, bind_err, bind_ite, exS_ok, exS_bad, exS_ite, seq_nx, seq_ret, seq_brk, seq_cont, seq_bad, seq_ite, fin_ret, fin_nx, fin_bad, fin_ite, of_some, of_none, when_t, calm_ok, add_i, sub_i, add_s, mul_i, div_i, mod_i, pow_i, aug_add, aug_sub, eq_i, ne_i, eq_s, ne_s, eq_b, ne_b, lt_i, le_i, gt_i, ge_i, is_n, isnot_n, tr_b, tr_i, tr_t, tr_l, tr_n, asInt_i, asStr_s, asStr_i, asStr_t, asBl_b, asTup_t, isNon_n, isNon_i, isNon_s, isNon_t, isNon_l, startE, parSet, wipeE, List.map_cons, List.map_nil, List.length_cons, List.length_nil, Nat.reduceAdd, Nat.reduceSub, List.replicate, List.cons_append, List.nil_append, List.append_nil, List.getElem?_cons_zero, List.getElem?_cons_succ, List.set_cons_zero, List.set_cons_succ, if_true, if_false, Bool.false_eq_true, Bool.true_and, Bool.and_true, Bool.not_true, Bool.not_false, Nat.reduceBEq, BEq.rfl, Option.isSome_some, Option.isSome_none, reduceIte, reduceCtorEq, decide_true, decide_false, hs, rv_t]) ?_
    have := tail (pt ((ro raised).2 ++ [(0, size - (ro raised).1)])).reverse (size - 1 - place) (by rw [List.length_reverse]; exact hr) (.tup (raised.map pD)) (.str side)
    rw [List.map_reverse] at this
    exact this
  | false =>
    refine step (e := [some (.int size), some (.tup (raised.map pD)), some (.int place), some (.str side), some (.tup ((pt ((ro raised).2 ++ [(0, size - (ro raised).1)])).map pD))]) (M := []) (by simp only [exs_c, exs_n, ex, ev, evs, evSq, evAnd, evOr, evF, evO, evC, evI, asg, asgs, evT, Cn.d, bind_ok, bind_bad, bind_err, bind_ite, exS_ok, exS_bad, exS_ite, seq_nx, seq_ret, seq_brk, seq_cont, seq_bad, seq_ite, fin_ret, fin_nx, fin_bad, fin_ite, of_some, of_none, when_t, calm_ok, add_i, sub_i, add_s, mul_i, div_i, mod_i, pow_i, aug_add, aug_sub, eq_i, ne_i, eq_s, ne_s, eq_b, ne_b, lt_i, le_i, gt_i, ge_i, is_n, isnot_n, tr_b, tr_i, tr_t, tr_l, tr_n, asInt_i, asStr_s, asStr_i, asStr_t, asBl_b, asTup_t, isNon_n, isNon_i, isNon_s, isNon_t, isNon_l, startE, parSet, wipeE, List.map_cons, List.map_nil, List.length_cons, List.length_nil, Nat.reduceAdd, Nat.reduceSub, List.replicate, List.cons_append, List.nil_append, List.append_nil, List.getElem?_cons_zero, List.getElem?_cons_succ, List.set_cons_zero, List.set_cons_succ, if_true, if_false, Bool.false_eq_true, Bool.true_and, Bool.and_true, Bool.not_true, Bool.not_false, Nat.reduceBEq, BEq.rfl, Option.isSome_some, Option.isSome_none, reduceIte, reduceCtorEq, decide_true, decide_false, hs, rv_t]) ?_
    exact tail (pt ((ro raised).2 ++ [(0, size - (ro raised).1)])) place hr (.tup (raised.map pD)) (.str side)
end K79

namespace K79
open PySem TF
variable {w n : Nat} {M : List MO}
def stD (size : Int) (raised : List (Int × Int)) (place : Int) (facing : Str) : D := .tup [.int size, .tup (raised.map pD), .int place, .str facing]
theorem asTup_st {size place : Int} {raised : List (Int × Int)} {facing : Str} : asTup (stD size raised place facing) = some [.int size, .tup (raised.map pD), .int place, .str facing] := rfl
theorem pure_st {size place : Int} {raised : List (Int × Int)} {facing : Str} : (stD size raised place facing).pure = true := by simp [stD, D.pure, pureL, pure_pD]
def hdT (x : Str × Int × Int) : D := .tup [.str x.1, .int x.2.1, .int x.2.2]
def other (s : Str) : Str := if s == "right" then "left" else "right"
def pon (size place : Int) (s : Str) (many : Int) : Int := if s == "right" then (place + many) % size else (place - many) % size
def hd (size : Int) (raised : List (Int × Int)) (place : Int) (facing : Str) : Str × Int × Int :=
  if up raised (pon size place facing (-1)) then (facing, place, 0) else if up raised place then (other facing, pon size place facing (-1), 1) else (facing, place, 2)
theorem heading_ok (size place : Int) (raised : List (Int × Int)) (facing : Str) (hs : 0 < size) (h : raised.length ≤ 100) : C w (n + 2) f_heading_of [stD size raised place facing] [] = .ok (hdT (hd size raised place facing)) [] := by
  refine (call_eq (d := ⟨b_heading_of, 6⟩) rfl rfl).trans ?_
  have e1 := place_on_ok (w := w) (n := n) (M := []) size place (-1) facing hs
  have e2 := flag_is_up_ok (w := w) (n := n) (M := []) raised (pon size place facing (-1)) (by omega)
  have e3 := flag_is_up_ok (w := w) (n := n) (M := []) raised place (by omega)
  have e4 := other_side_ok (w := w) (n := n) (M := []) facing
  unfold b_heading_of
  rw [exs_c]
  refine step (e := [some (stD size raised place facing), some (.int size), some (.tup (raised.map pD)), some (.int place), some (.str facing), none]) (M := []) (by simp only [exs_c, exs_n, ex, ev, evs, evSq, evAnd, evOr, evF, evO, evC, evI, asg, asgs, evT, Cn.d, bind_ok, bind_bad, bind_err, bind_ite, exS_ok, exS_bad, exS_ite, seq_nx, seq_ret, seq_brk, seq_cont, seq_bad, seq_ite, fin_ret, fin_nx, fin_bad, fin_ite, of_some, of_none, when_t, calm_ok, add_i, sub_i, add_s, mul_i, div_i, mod_i, pow_i, aug_add, aug_sub, eq_i, ne_i, eq_s, ne_s, eq_b, ne_b, lt_i, le_i, gt_i, ge_i, is_n, isnot_n, tr_b, tr_i, tr_t, tr_l, tr_n, asInt_i, asStr_s, asStr_i, asStr_t, asBl_b, asTup_t, isNon_n, isNon_i, isNon_s, isNon_t, isNon_l, startE, parSet, wipeE, List.map_cons, List.map_nil, List.length_cons, List.length_nil, Nat.reduceAdd, Nat.reduceSub, List.replicate, List.cons_append, List.nil_append, List.append_nil, List.getElem?_cons_zero, List.getElem?_cons_succ, List.set_cons_zero, List.set_cons_succ, if_true, if_false, Bool.false_eq_true, Bool.true_and, Bool.and_true, Bool.not_true, Bool.not_false, Nat.reduceBEq, BEq.rfl, Option.isSome_some, Option.isSome_none, reduceIte, reduceCtorEq, decide_true, decide_false, asTup_st]) ?_
  rw [exs_c]
  refine step (e := [some (stD size raised place facing), some (.int size), some (.tup (raised.map pD)), some (.int place), some (.str facing), some (.int (pon size place facing (-1)))]) (M := []) (by
    simp only [exs_c, exs_n, ex, ev, evs, evSq, evAnd, evOr, evF, evO, evC, evI, asg, asgs, evT, Cn.d, bind_ok, bind_bad, bind_err, bind_ite, exS_ok, exS_bad, exS_ite, seq_nx, seq_ret, seq_brk, seq_cont, seq_bad, seq_ite, fin_ret, fin_nx, fin_bad, fin_ite, of_some, of_none, when_t, calm_ok, add_i, sub_i, add_s, mul_i, div_i, mod_i, pow_i, aug_add, aug_sub, eq_i, ne_i, eq_s, ne_s, eq_b, ne_b, lt_i, le_i, gt_i, ge_i, is_n, isnot_n, tr_b, tr_i, tr_t, tr_l, tr_n, asInt_i, asStr_s, asStr_i, asStr_t, asBl_b, asTup_t, isNon_n, isNon_i, isNon_s, isNon_t, isNon_l, startE, parSet, wipeE, List.map_cons, List.map_nil, List.length_cons, List.length_nil, Nat.reduceAdd, Nat.reduceSub, List.replicate, List.cons_append, List.nil_append, List.append_nil, List.getElem?_cons_zero, List.getElem?_cons_succ, List.set_cons_zero, List.set_cons_succ, if_true, if_false, Bool.false_eq_true, Bool.true_and, Bool.and_true, Bool.not_true, Bool.not_false, Nat.reduceBEq, BEq.rfl, Option.isSome_some, Option.isSome_none, reduceIte, reduceCtorEq, decide_true, decide_false]
    rw [show callF (tabOf ts) (fsOf ds) w (n + 1) 1 _ [] = _ from e1, pcall_ok rfl rfl]
    rfl) ?_
  have p1 : pureL [D.tup (raised.map pD), D.int (pon size place facing (-1))] = true := by simp [pureL, D.pure, pure_pD]
  have p2 : pureL [D.tup (raised.map pD), D.int place] = true := by simp [pureL, D.pure, pure_pD]
  have c2 : callF (tabOf ts) (fsOf ds) w (n + 1) 2 [.tup (raised.map pD), .int (pon size place facing (-1))] [] = _ := e2
  have c3 : callF (tabOf ts) (fsOf ds) w (n + 1) 2 [.tup (raised.map pD), .int place] [] = _ := e3
  have c4 : callF (tabOf ts) (fsOf ds) w (n + 1) 0 [.str facing] [] = _ := e4
  unfold hd
  cases h1 : up raised (pon size place facing (-1)) with
  | true =>
    rw [h1] at c2
    simp only [exs_c, exs_n, ex, ev, evs, evSq, evAnd, evOr, evF, evO, evC, evI, asg, asgs, evT, Cn.d, bind_ok, bind_bad, bind_err, bind_ite, exS_ok, exS_bad, exS_ite, seq_nx, seq_ret, seq_brk, seq_cont, seq_bad, seq_ite, fin_ret, fin_nx, fin_bad, fin_ite, of_some, of_none, when_t, calm_ok, add_i, sub_i, add_s, mul_i, div_i, mod_i, pow_i, aug_add, aug_sub, eq_i, ne_i, eq_s, ne_s, eq_b, ne_b, lt_i, le_i, gt_i, ge_i, is_n, isnot_n, tr_b, tr_i, tr_t, tr_l, tr_n, asInt_i, asStr_s, asStr_i, asStr_t, asBl_b, asTup_t, isNon_n, isNon_i, isNon_s, isNon_t, isNon_l, startE, parSet, wipeE, List.map_cons, List.map_nil, List.length_cons, List.length_nil, Nat.reduceAdd, Nat.reduceSub, List.replicate, List.cons_append, List.nil_append, List.append_nil, List.getElem?_cons_zero, List.getElem?_cons_succ, List.set_cons_zero, List.set_cons_succ, if_true, if_false, Bool.false_eq_true, Bool.true_and, Bool.and_true, Bool.not_true, Bool.not_false, Nat.reduceBEq, BEq.rfl, Option.isSome_some, Option.isSome_none, reduceIte, reduceCtorEq, decide_true, decide_false, c2, pcall_ok p1 (show (D.bl true).pure = true from rfl), when_dec (show (3 : Nat) ≤ sizeLine by decide)]
    rfl
  | false =>
    rw [h1] at c2
    cases h2 : up raised place with
    | true =>
      rw [h2] at c3
      simp only [exs_c, exs_n, ex, ev, evs, evSq, evAnd, evOr, evF, evO, evC, evI, asg, asgs, evT, Cn.d, bind_ok, bind_bad, bind_err, bind_ite, exS_ok, exS_bad, exS_ite, seq_nx, seq_ret, seq_brk, seq_cont, seq_bad, seq_ite, fin_ret, fin_nx, fin_bad, fin_ite, of_some, of_none, when_t, calm_ok, add_i, sub_i, add_s, mul_i, div_i, mod_i, pow_i, aug_add, aug_sub, eq_i, ne_i, eq_s, ne_s, eq_b, ne_b, lt_i, le_i, gt_i, ge_i, is_n, isnot_n, tr_b, tr_i, tr_t, tr_l, tr_n, asInt_i, asStr_s, asStr_i, asStr_t, asBl_b, asTup_t, isNon_n, isNon_i, isNon_s, isNon_t, isNon_l, startE, parSet, wipeE, List.map_cons, List.map_nil, List.length_cons, List.length_nil, Nat.reduceAdd, Nat.reduceSub, List.replicate, List.cons_append, List.nil_append, List.append_nil, List.getElem?_cons_zero, List.getElem?_cons_succ, List.set_cons_zero, List.set_cons_succ, if_true, if_false, Bool.false_eq_true, Bool.true_and, Bool.and_true, Bool.not_true, Bool.not_false, Nat.reduceBEq, BEq.rfl, Option.isSome_some, Option.isSome_none, reduceIte, reduceCtorEq, decide_true, decide_false, c2, c3, c4, pcall_ok p1 (show (D.bl false).pure = true from rfl), pcall_ok p2 (show (D.bl true).pure = true from rfl), pcall_ok (show pureL [D.str facing] = true from rfl) (show (D.str (if facing == "right" then "left" else "right")).pure = true from rfl), when_dec (show (3 : Nat) ≤ sizeLine by decide)]
      rfl
    | false =>
      rw [h2] at c3
      simp only [exs_c, exs_n, ex, ev, evs, evSq, evAnd, evOr, evF, evO, evC, evI, asg, asgs, evT, Cn.d, bind_ok, bind_bad, bind_err, bind_ite, exS_ok, exS_bad, exS_ite, seq_nx, seq_ret, seq_brk, seq_cont, seq_bad, seq_ite, fin_ret, fin_nx, fin_bad, fin_ite, of_some, of_none, when_t, calm_ok, add_i, sub_i, add_s, mul_i, div_i, mod_i, pow_i, aug_add, aug_sub, eq_i, ne_i, eq_s, ne_s, eq_b, ne_b, lt_i, le_i, gt_i, ge_i, is_n, isnot_n, tr_b, tr_i, tr_t, tr_l, tr_n, asInt_i, asStr_s, asStr_i, asStr_t, asBl_b, asTup_t, isNon_n, isNon_i, isNon_s, isNon_t, isNon_l, startE, parSet, wipeE, List.map_cons, List.map_nil, List.length_cons, List.length_nil, Nat.reduceAdd, Nat.reduceSub, List.replicate, List.cons_append, List.nil_append, List.append_nil, List.getElem?_cons_zero, List.getElem?_cons_succ, List.set_cons_zero, List.set_cons_succ, if_true, if_false, Bool.false_eq_true, Bool.true_and, Bool.and_true, Bool.not_true, Bool.not_false, Nat.reduceBEq, BEq.rfl, Option.isSome_some, Option.isSome_none, reduceIte, reduceCtorEq, decide_true, decide_false, c2, c3, pcall_ok p1 (show (D.bl false).pure = true from rfl), pcall_ok p2 (show (D.bl false).pure = true from rfl), when_dec (show (3 : Nat) ≤ sizeLine by decide)]
      rfl
/-! word_of -/
def wd (size : Int) (raised : List (Int × Int)) (place : Int) (facing : Str) : List (Int × Int) :=
  pt ((if decide (0 < (hd size raised place facing).2.2) || up raised (hd size raised place facing).2.1 then 1 else 0, 1) :: cut (rr size raised (hd size raised place facing).2.1 ((hd size raised place facing).1 == "left")) 1 (size - 2))
theorem int_b {b : Bool} : evBi .int [.bl b] M = .ok (.int (if b then 1 else 0)) M := rfl
theorem rr_len (size place : Int) (raised : List (Int × Int)) (l : Bool) : (rr size raised place l).length ≤ 4 * raised.length + 2 := by
  unfold rr
  generalize hA : (if l = true then (pt ((ro raised).2 ++ [(0, size - (ro raised).1)])).reverse else pt ((ro raised).2 ++ [(0, size - (ro raised).1)])) = A
  have ha : A.length ≤ 2 * raised.length + 1 := by
    have h1 := pt_len ((ro raised).2 ++ [(0, size - (ro raised).1)])
    have h2 := ro_len raised (0, [])
    have h3 : ((ro raised).2 ++ [(0, size - (ro raised).1)]).length = 2 * raised.length + 1 := by
      rw [List.length_append]
      show (raised.foldl roStep (0, [])).2.length + 1 = _
      rw [h2]
      simp
    rw [← hA]
    split
    · rw [List.length_reverse]; omega
    · omega
  have h1 := pt_len (cut A (if l = true then size - 1 - place else place) (size - (if l = true then size - 1 - place else place)) ++ cut A 0 (if l = true then size - 1 - place else place))
  have h2 := cut_len A (if l = true then size - 1 - place else place) (size - (if l = true then size - 1 - place else place))
  have h3 := cut_len A 0 (if l = true then size - 1 - place else place)
  rw [List.length_append] at h1
  omega
theorem word_ok (size place : Int) (raised : List (Int × Int)) (facing : Str) (hs : 0 < size) (h : raised.length ≤ 100) : C w (n + 4) f_word_of [stD size raised place facing] [] = .ok (.tup ((wd size raised place facing).map pD)) [] := by
  have hl := line1000
  refine (call_eq (d := ⟨b_word_of, 10⟩) rfl rfl).trans ?_
  unfold b_word_of
  rw [exs_c]
  refine step (e := [some (stD size raised place facing), some (.int size), some (.tup (raised.map pD)), some (.int place), some (.str facing), none, none, none, none, none]) (M := []) (by simp only [exs_c, exs_n, ex, ev, evs, evSq, evAnd, evOr, evF, evO, evC, evI, asg, asgs, evT, Cn.d, bind_ok, bind_bad, bind_err, bind_ite, exS_ok, exS_bad, exS_ite, seq_nx, seq_ret, seq_brk, seq_cont, seq_bad, seq_ite, fin_ret, fin_nx, fin_bad, fin_ite, of_some, of_none, when_t, calm_ok, add_i, sub_i, add_s, mul_i, div_i, mod_i, pow_i, aug_add, aug_sub, eq_i, ne_i, eq_s, ne_s, eq_b, ne_b, lt_i, le_i, gt_i, ge_i, is_n, isnot_n, tr_b, tr_i, tr_t, tr_l, tr_n, asInt_i, asStr_s, asStr_i, asStr_t, asBl_b, asTup_t, isNon_n, isNon_i, isNon_s, isNon_t, isNon_l, startE, parSet, wipeE, List.map_cons, List.map_nil, List.length_cons, List.length_nil, Nat.reduceAdd, Nat.reduceSub, List.replicate, List.cons_append, List.nil_append, List.append_nil, List.getElem?_cons_zero, List.getElem?_cons_succ, List.set_cons_zero, List.set_cons_succ, if_true, if_false, Bool.false_eq_true, Bool.true_and, Bool.and_true, Bool.not_true, Bool.not_false, Nat.reduceBEq, BEq.rfl, Option.isSome_some, Option.isSome_none, reduceIte, reduceCtorEq, decide_true, decide_false, asTup_st]) ?_
  have e1 := heading_ok (w := w) (n := n + 1) size place raised facing hs h
  unfold wd
  generalize hd size raised place facing = x at *
  rw [exs_c]
  refine step (e := [some (stD size raised place facing), some (.int size), some (.tup (raised.map pD)), some (.int place), some (.str facing), some (.str x.1), some (.int x.2.1), some (.int x.2.2), none, none]) (M := []) (by
    simp only [exs_c, exs_n, ex, ev, evs, evSq, evAnd, evOr, evF, evO, evC, evI, asg, asgs, evT, Cn.d, bind_ok, bind_bad, bind_err, bind_ite, exS_ok, exS_bad, exS_ite, seq_nx, seq_ret, seq_brk, seq_cont, seq_bad, seq_ite, fin_ret, fin_nx, fin_bad, fin_ite, of_some, of_none, when_t, calm_ok, add_i, sub_i, add_s, mul_i, div_i, mod_i, pow_i, aug_add, aug_sub, eq_i, ne_i, eq_s, ne_s, eq_b, ne_b, lt_i, le_i, gt_i, ge_i, is_n, isnot_n, tr_b, tr_i, tr_t, tr_l, tr_n, asInt_i, asStr_s, asStr_i, asStr_t, asBl_b, asTup_t, isNon_n, isNon_i, isNon_s, isNon_t, isNon_l, startE, parSet, wipeE, List.map_cons, List.map_nil, List.length_cons, List.length_nil, Nat.reduceAdd, Nat.reduceSub, List.replicate, List.cons_append, List.nil_append, List.append_nil, List.getElem?_cons_zero, List.getElem?_cons_succ, List.set_cons_zero, List.set_cons_succ, if_true, if_false, Bool.false_eq_true, Bool.true_and, Bool.and_true, Bool.not_true, Bool.not_false, Nat.reduceBEq, BEq.rfl, Option.isSome_some, Option.isSome_none, reduceIte, reduceCtorEq, decide_true, decide_false]
    rw [show callF (tabOf ts) (fsOf ds) w (n + 3) 7 _ [] = _ from e1, pcall_ok (by simp [pureL, pure_st]) rfl]
    simp only [exs_c, exs_n, ex, ev, evs, evSq, evAnd, evOr, evF, evO, evC, evI, asg, asgs, evT, Cn.d, bind_ok, bind_bad, bind_err, bind_ite, exS_ok, exS_bad, exS_ite, seq_nx, seq_ret, seq_brk, seq_cont, seq_bad, seq_ite, fin_ret, fin_nx, fin_bad, fin_ite, of_some, of_none, when_t, calm_ok, add_i, sub_i, add_s, mul_i, div_i, mod_i, pow_i, aug_add, aug_sub, eq_i, ne_i, eq_s, ne_s, eq_b, ne_b, lt_i, le_i, gt_i, ge_i, is_n, isnot_n, tr_b, tr_i, tr_t, tr_l, tr_n, asInt_i, asStr_s, asStr_i, asStr_t, asBl_b, asTup_t, isNon_n, isNon_i, isNon_s, isNon_t, isNon_l, startE, parSet, wipeE, List.map_cons, List.map_nil, List.length_cons, List.length_nil, Nat.reduceAdd, Nat.reduceSub, List.replicate, List.cons_append, List.nil_append, List.append_nil, List.getElem?_cons_zero, List.getElem?_cons_succ, List.set_cons_zero, List.set_cons_succ, if_true, if_false, Bool.false_eq_true, Bool.true_and, Bool.and_true, Bool.not_true, Bool.not_false, Nat.reduceBEq, BEq.rfl, Option.isSome_some, Option.isSome_none, reduceIte, reduceCtorEq, decide_true, decide_false, hdT]) ?_
  have e2 := flag_is_up_ok (w := w) (n := n + 2) (M := []) raised x.2.1 (by omega)
  have c2 : callF (tabOf ts) (fsOf ds) w (n + 3) 2 [.tup (raised.map pD), .int x.2.1] [] = _ := e2
  have p2 : pureL [D.tup (raised.map pD), D.int x.2.1] = true := by simp [pureL, D.pure, pure_pD]
  rw [exs_c]
  refine step (e := [some (stD size raised place facing), some (.int size), some (.tup (raised.map pD)), some (.int place), some (.str facing), some (.str x.1), some (.int x.2.1), some (.int x.2.2), some (.int (if decide (0 < x.2.2) || up raised x.2.1 then 1 else 0)), none]) (M := []) (by
    by_cases h0 : 0 < x.2.2
    · simp only [exs_c, exs_n, ex, ev, evs, evSq, evAnd, evOr, evF, evO, evC, evI, asg, asgs, evT, Cn.d, bind_ok, bind_bad, bind_err, bind_ite, exS_ok, exS_bad, exS_ite, seq_nx, seq_ret, seq_brk, seq_cont, seq_bad, seq_ite, fin_ret, fin_nx, fin_bad, fin_ite, of_some, of_none, when_t, calm_ok, add_i, sub_i, add_s, mul_i, div_i, mod_i, pow_i, aug_add, aug_sub, eq_i, ne_i, eq_s, ne_s, eq_b, ne_b, lt_i, le_i, gt_i, ge_i, is_n, isnot_n, tr_b, tr_i, tr_t, tr_l, tr_n, asInt_i, asStr_s, asStr_i, asStr_t, asBl_b, asTup_t, isNon_n, isNon_i, isNon_s, isNon_t, isNon_l, startE, parSet, wipeE, List.map_cons, List.map_nil, List.length_cons, List.length_nil, Nat.reduceAdd, Nat.reduceSub, List.replicate, List.cons_append, List.nil_append, List.append_nil, List.getElem?_cons_zero, List.getElem?_cons_succ, List.set_cons_zero, List.set_cons_succ, if_true, if_false, Bool.false_eq_true, Bool.true_and, Bool.and_true, Bool.not_true, Bool.not_false, Nat.reduceBEq, BEq.rfl, Option.isSome_some, Option.isSome_none, reduceIte, reduceCtorEq, decide_true, decide_false, h0, int_b]
      rfl
    · simp only [exs_c, exs_n, ex, ev, evs, evSq, evAnd, evOr, evF, evO, evC, evI, asg, asgs, evT, Cn.d, bind_ok, bind_bad, bind_err, bind_ite, exS_ok, exS_bad, exS_ite, seq_nx, seq_ret, seq_brk, seq_cont, seq_bad, seq_ite, fin_ret, fin_nx, fin_bad, fin_ite, of_some, of_none, when_t, calm_ok, add_i, sub_i, add_s, mul_i, div_i, mod_i, pow_i, aug_add, aug_sub, eq_i, ne_i, eq_s, ne_s, eq_b, ne_b, lt_i, le_i, gt_i, ge_i, is_n, isnot_n, tr_b, tr_i, tr_t, tr_l, tr_n, asInt_i, asStr_s, asStr_i, asStr_t, asBl_b, asTup_t, isNon_n, isNon_i, isNon_s, isNon_t, isNon_l, startE, parSet, wipeE, List.map_cons, List.map_nil, List.length_cons, List.length_nil, Nat.reduceAdd, Nat.reduceSub, List.replicate, List.cons_append, List.nil_append, List.append_nil, List.getElem?_cons_zero, List.getElem?_cons_succ, List.set_cons_zero, List.set_cons_succ, if_true, if_false, Bool.false_eq_true, Bool.true_and, Bool.and_true, Bool.not_true, Bool.not_false, Nat.reduceBEq, BEq.rfl, Option.isSome_some, Option.isSome_none, reduceIte, reduceCtorEq, decide_true, decide_false, h0, c2, pcall_ok p2 (show (D.bl (up raised x.2.1)).pure = true from rfl), int_b, Bool.false_or]) ?_
  obtain ⟨M3, e3⟩ := ring_ok (w := w) (n := n) size x.2.1 raised x.1 h
  have hR := rr_len size x.2.1 raised (x.1 == "left")
  generalize (if decide (0 < x.2.2) || up raised x.2.1 then (1 : Int) else 0) = first at *
  generalize hrr : rr size raised x.2.1 (x.1 == "left") = A at *
  rw [exs_c]
  refine step (e := [some (stD size raised place facing), some (.int size), some (.tup (raised.map pD)), some (.int place), some (.str facing), some (.str x.1), some (.int x.2.1), some (.int x.2.2), some (.int first), some (.tup (A.map pD))]) (M := []) (by
    simp only [exs_c, exs_n, ex, ev, evs, evSq, evAnd, evOr, evF, evO, evC, evI, asg, asgs, evT, Cn.d, bind_ok, bind_bad, bind_err, bind_ite, exS_ok, exS_bad, exS_ite, seq_nx, seq_ret, seq_brk, seq_cont, seq_bad, seq_ite, fin_ret, fin_nx, fin_bad, fin_ite, of_some, of_none, when_t, calm_ok, add_i, sub_i, add_s, mul_i, div_i, mod_i, pow_i, aug_add, aug_sub, eq_i, ne_i, eq_s, ne_s, eq_b, ne_b, lt_i, le_i, gt_i, ge_i, is_n, isnot_n, tr_b, tr_i, tr_t, tr_l, tr_n, asInt_i, asStr_s, asStr_i, asStr_t, asBl_b, asTup_t, isNon_n, isNon_i, isNon_s, isNon_t, isNon_l, startE, parSet, wipeE, List.map_cons, List.map_nil, List.length_cons, List.length_nil, Nat.reduceAdd, Nat.reduceSub, List.replicate, List.cons_append, List.nil_append, List.append_nil, List.getElem?_cons_zero, List.getElem?_cons_succ, List.set_cons_zero, List.set_cons_succ, if_true, if_false, Bool.false_eq_true, Bool.true_and, Bool.and_true, Bool.not_true, Bool.not_false, Nat.reduceBEq, BEq.rfl, Option.isSome_some, Option.isSome_none, reduceIte, reduceCtorEq, decide_true, decide_false]
    rw [show callF (tabOf ts) (fsOf ds) w (n + 3) 6 _ [] = _ from e3, pcall_ok (by simp [pureL, D.pure, pure_pD]) (by simp [D.pure, pure_pD])]
    simp only [exs_c, exs_n, ex, ev, evs, evSq, evAnd, evOr, evF, evO, evC, evI, asg, asgs, evT, Cn.d, bind_ok, bind_bad, bind_err, bind_ite, exS_ok, exS_bad, exS_ite, seq_nx, seq_ret, seq_brk, seq_cont, seq_bad, seq_ite, fin_ret, fin_nx, fin_bad, fin_ite, of_some, of_none, when_t, calm_ok, add_i, sub_i, add_s, mul_i, div_i, mod_i, pow_i, aug_add, aug_sub, eq_i, ne_i, eq_s, ne_s, eq_b, ne_b, lt_i, le_i, gt_i, ge_i, is_n, isnot_n, tr_b, tr_i, tr_t, tr_l, tr_n, asInt_i, asStr_s, asStr_i, asStr_t, asBl_b, asTup_t, isNon_n, isNon_i, isNon_s, isNon_t, isNon_l, startE, parSet, wipeE, List.map_cons, List.map_nil, List.length_cons, List.length_nil, Nat.reduceAdd, Nat.reduceSub, List.replicate, List.cons_append, List.nil_append, List.append_nil, List.getElem?_cons_zero, List.getElem?_cons_succ, List.set_cons_zero, List.set_cons_succ, if_true, if_false, Bool.false_eq_true, Bool.true_and, Bool.and_true, Bool.not_true, Bool.not_false, Nat.reduceBEq, BEq.rfl, Option.isSome_some, Option.isSome_none, reduceIte, reduceCtorEq, decide_true, decide_false]) ?_
  obtain ⟨M4, e4⟩ := cut_ok (w := w) (n := n + 1) A 1 (size - 2) (by omega)
  have hc := cut_len A 1 (size - 2)
  obtain ⟨M5, e5⟩ := put_ok (w := w) (n := n + 2) ((first, 1) :: cut A 1 (size - 2)) (by rw [List.length_cons]; omega)
  rw [List.map_cons] at e5
  simp only [exs_c, exs_n, ex, ev, evs, evSq, evAnd, evOr, evF, evO, evC, evI, asg, asgs, evT, Cn.d, bind_ok, bind_bad, bind_err, bind_ite, exS_ok, exS_bad, exS_ite, seq_nx, seq_ret, seq_brk, seq_cont, seq_bad, seq_ite, fin_ret, fin_nx, fin_bad, fin_ite, of_some, of_none, when_t, calm_ok, add_i, sub_i, add_s, mul_i, div_i, mod_i, pow_i, aug_add, aug_sub, eq_i, ne_i, eq_s, ne_s, eq_b, ne_b, lt_i, le_i, gt_i, ge_i, is_n, isnot_n, tr_b, tr_i, tr_t, tr_l, tr_n, asInt_i, asStr_s, asStr_i, asStr_t, asBl_b, asTup_t, isNon_n, isNon_i, isNon_s, isNon_t, isNon_l, startE, parSet, wipeE, List.map_cons, List.map_nil, List.length_cons, List.length_nil, Nat.reduceAdd, Nat.reduceSub, List.replicate, List.cons_append, List.nil_append, List.append_nil, List.getElem?_cons_zero, List.getElem?_cons_succ, List.set_cons_zero, List.set_cons_succ, if_true, if_false, Bool.false_eq_true, Bool.true_and, Bool.and_true, Bool.not_true, Bool.not_false, Nat.reduceBEq, BEq.rfl, Option.isSome_some, Option.isSome_none, reduceIte, reduceCtorEq, decide_true, decide_false, when_dec (show (2 : Nat) ≤ sizeLine by decide), pD_f]
  rw [show callF (tabOf ts) (fsOf ds) w (n + 3) 5 _ [] = _ from e4, pcall_ok (by simp [pureL, D.pure, pure_pD]) (by simp [D.pure, pure_pD])]
  simp only [exs_c, exs_n, ex, ev, evs, evSq, evAnd, evOr, evF, evO, evC, evI, asg, asgs, evT, Cn.d, bind_ok, bind_bad, bind_err, bind_ite, exS_ok, exS_bad, exS_ite, seq_nx, seq_ret, seq_brk, seq_cont, seq_bad, seq_ite, fin_ret, fin_nx, fin_bad, fin_ite, of_some, of_none, when_t, calm_ok, add_i, sub_i, add_s, mul_i, div_i, mod_i, pow_i, aug_add, aug_sub, eq_i, ne_i, eq_s, ne_s, eq_b, ne_b, lt_i, le_i, gt_i, ge_i, is_n, isnot_n, tr_b, tr_i, tr_t, tr_l, tr_n, asInt_i, asStr_s, asStr_i, asStr_t, asBl_b, asTup_t, isNon_n, isNon_i, isNon_s, isNon_t, isNon_l, startE, parSet, wipeE, List.map_cons, List.map_nil, List.length_cons, List.length_nil, Nat.reduceAdd, Nat.reduceSub, List.replicate, List.cons_append, List.nil_append, List.append_nil, List.getElem?_cons_zero, List.getElem?_cons_succ, List.set_cons_zero, List.set_cons_succ, if_true, if_false, Bool.false_eq_true, Bool.true_and, Bool.and_true, Bool.not_true, Bool.not_false, Nat.reduceBEq, BEq.rfl, Option.isSome_some, Option.isSome_none, reduceIte, reduceCtorEq, decide_true, decide_false, seqV_t, Option.map_some]
  rw [when_dec (by rw [List.length_map]; omega)]
  simp only [exs_c, exs_n, ex, ev, evs, evSq, evAnd, evOr, evF, evO, evC, evI, asg, asgs, evT, Cn.d, bind_ok, bind_bad, bind_err, bind_ite, exS_ok, exS_bad, exS_ite, seq_nx, seq_ret, seq_brk, seq_cont, seq_bad, seq_ite, fin_ret, fin_nx, fin_bad, fin_ite, of_some, of_none, when_t, calm_ok, add_i, sub_i, add_s, mul_i, div_i, mod_i, pow_i, aug_add, aug_sub, eq_i, ne_i, eq_s, ne_s, eq_b, ne_b, lt_i, le_i, gt_i, ge_i, is_n, isnot_n, tr_b, tr_i, tr_t, tr_l, tr_n, asInt_i, asStr_s, asStr_i, asStr_t, asBl_b, asTup_t, isNon_n, isNon_i, isNon_s, isNon_t, isNon_l, startE, parSet, wipeE, List.map_cons, List.map_nil, List.length_cons, List.length_nil, Nat.reduceAdd, Nat.reduceSub, List.replicate, List.cons_append, List.nil_append, List.append_nil, List.getElem?_cons_zero, List.getElem?_cons_succ, List.set_cons_zero, List.set_cons_succ, if_true, if_false, Bool.false_eq_true, Bool.true_and, Bool.and_true, Bool.not_true, Bool.not_false, Nat.reduceBEq, BEq.rfl, Option.isSome_some, Option.isSome_none, reduceIte, reduceCtorEq, decide_true, decide_false]
  rw [show callF (tabOf ts) (fsOf ds) w (n + 3) 3 _ [] = _ from e5, pcall_ok (by simp [pureL, D.pure, pure_pD]; rfl) (by simp [D.pure, pure_pD])]
  simp only [exs_c, exs_n, ex, ev, evs, evSq, evAnd, evOr, evF, evO, evC, evI, asg, asgs, evT, Cn.d, bind_ok, bind_bad, bind_err, bind_ite, exS_ok, exS_bad, exS_ite, seq_nx, seq_ret, seq_brk, seq_cont, seq_bad, seq_ite, fin_ret, fin_nx, fin_bad, fin_ite, of_some, of_none, when_t, calm_ok, add_i, sub_i, add_s, mul_i, div_i, mod_i, pow_i, aug_add, aug_sub, eq_i, ne_i, eq_s, ne_s, eq_b, ne_b, lt_i, le_i, gt_i, ge_i, is_n, isnot_n, tr_b, tr_i, tr_t, tr_l, tr_n, asInt_i, asStr_s, asStr_i, asStr_t, asBl_b, asTup_t, isNon_n, isNon_i, isNon_s, isNon_t, isNon_l, startE, parSet, wipeE, List.map_cons, List.map_nil, List.length_cons, List.length_nil, Nat.reduceAdd, Nat.reduceSub, List.replicate, List.cons_append, List.nil_append, List.append_nil, List.getElem?_cons_zero, List.getElem?_cons_succ, List.set_cons_zero, List.set_cons_succ, if_true, if_false, Bool.false_eq_true, Bool.true_and, Bool.and_true, Bool.not_true, Bool.not_false, Nat.reduceBEq, BEq.rfl, Option.isSome_some, Option.isSome_none, reduceIte, reduceCtorEq, decide_true, decide_false]
end K79

namespace K79
open PySem TF
variable {w n : Nat} {M : List MO}
theorem cut_mid {x y : D} {mid : List D} : cutD (x :: (mid ++ [y])) (some 1) (some (-1)) = mid := by
  have h1 : HT.sIx (x :: (mid ++ [y])).length 0 (some 1) = 1 := by
    simp [HT.sIx]
    try omega
  have h2 : HT.sIx (x :: (mid ++ [y])).length (x :: (mid ++ [y])).length (some (-1)) = mid.length + 1 := by
    simp [HT.sIx]
    try omega
  unfold cutD
  rw [h1, h2]
  simp
theorem gaps_ok (word : List (Int × Int)) (h1 : word ≠ []) (hl : word.length ≤ 900) : ∃ g : List Int, C w (n + 1) f_gaps_of [.tup (word.map pD)] [] = .ok (.lst (g.map D.int)) [] ∧
    (g.length = word.length ∧ (word.head?.map (·.1)) = (word.getLast?.map (·.1)) ∨ (g.length + 1 = word.length ∧ 2 ≤ word.length ∧ (word.head?.map (·.1)) ≠ (word.getLast?.map (·.1)))) := by
  have hL := line1000
  have first : ∀ (e : Ev) (_ : e = [some (.tup (word.map pD)), none, none, none]), ex ⟨callF (tabOf ts) (fsOf ds) w n, tabOf ts, w⟩ (.setlc 1 (.lc false [2, 3] (.tp (.cons (.nm 2) (.cons (.nm 3) .nil))) (.it (.v 0)) .none (.v 3))) e [] = .nx [some (.tup (word.map pD)), some (.lst (word.map fun p => D.int p.2)), none, none] [] := by
    rintro e rfl
    simp only [exs_c, exs_n, ex, ev, evs, evSq, evAnd, evOr, evF, evO, evC, evI, asg, asgs, evT, Cn.d, bind_ok, bind_bad, bind_err, bind_ite, exS_ok, exS_bad, exS_ite, seq_nx, seq_ret, seq_brk, seq_cont, seq_bad, seq_ite, fin_ret, fin_nx, fin_bad, fin_ite, of_some, of_none, when_t, calm_ok, add_i, sub_i, add_s, mul_i, div_i, mod_i, pow_i, aug_add, aug_sub, eq_i, ne_i, eq_s, ne_s, eq_b, ne_b, lt_i, le_i, gt_i, ge_i, is_n, isnot_n, tr_b, tr_i, tr_t, tr_l, tr_n, asInt_i, asStr_s, asStr_i, asStr_t, asBl_b, asTup_t, isNon_n, isNon_i, isNon_s, isNon_t, isNon_l, startE, parSet, wipeE, List.map_cons, List.map_nil, List.length_cons, List.length_nil, Nat.reduceAdd, Nat.reduceSub, List.replicate, List.cons_append, List.nil_append, List.append_nil, List.getElem?_cons_zero, List.getElem?_cons_succ, List.set_cons_zero, List.set_cons_succ, if_true, if_false, Bool.false_eq_true, Bool.true_and, Bool.and_true, Bool.not_true, Bool.not_false, Nat.reduceBEq, BEq.rfl, Option.isSome_some, Option.isSome_none, reduceIte, reduceCtorEq, decide_true, decide_false, walk_t]
    rw [lc_map (f := pD) (h := fun p => D.int p.2)]
    · simp only [exs_c, exs_n, ex, ev, evs, evSq, evAnd, evOr, evF, evO, evC, evI, asg, asgs, evT, Cn.d, bind_ok, bind_bad, bind_err, bind_ite, exS_ok, exS_bad, exS_ite, seq_nx, seq_ret, seq_brk, seq_cont, seq_bad, seq_ite, fin_ret, fin_nx, fin_bad, fin_ite, of_some, of_none, when_t, calm_ok, add_i, sub_i, add_s, mul_i, div_i, mod_i, pow_i, aug_add, aug_sub, eq_i, ne_i, eq_s, ne_s, eq_b, ne_b, lt_i, le_i, gt_i, ge_i, is_n, isnot_n, tr_b, tr_i, tr_t, tr_l, tr_n, asInt_i, asStr_s, asStr_i, asStr_t, asBl_b, asTup_t, isNon_n, isNon_i, isNon_s, isNon_t, isNon_l, startE, parSet, wipeE, List.map_cons, List.map_nil, List.length_cons, List.length_nil, Nat.reduceAdd, Nat.reduceSub, List.replicate, List.cons_append, List.nil_append, List.append_nil, List.getElem?_cons_zero, List.getElem?_cons_succ, List.set_cons_zero, List.set_cons_succ, if_true, if_false, Bool.false_eq_true, Bool.true_and, Bool.and_true, Bool.not_true, Bool.not_false, Nat.reduceBEq, BEq.rfl, Option.isSome_some, Option.isSome_none, reduceIte, reduceCtorEq, decide_true, decide_false, lcEnd]
    · intro p _
      simp only [exs_c, exs_n, ex, ev, evs, evSq, evAnd, evOr, evF, evO, evC, evI, asg, asgs, evT, Cn.d, bind_ok, bind_bad, bind_err, bind_ite, exS_ok, exS_bad, exS_ite, seq_nx, seq_ret, seq_brk, seq_cont, seq_bad, seq_ite, fin_ret, fin_nx, fin_bad, fin_ite, of_some, of_none, when_t, calm_ok, add_i, sub_i, add_s, mul_i, div_i, mod_i, pow_i, aug_add, aug_sub, eq_i, ne_i, eq_s, ne_s, eq_b, ne_b, lt_i, le_i, gt_i, ge_i, is_n, isnot_n, tr_b, tr_i, tr_t, tr_l, tr_n, asInt_i, asStr_s, asStr_i, asStr_t, asBl_b, asTup_t, isNon_n, isNon_i, isNon_s, isNon_t, isNon_l, startE, parSet, wipeE, List.map_cons, List.map_nil, List.length_cons, List.length_nil, Nat.reduceAdd, Nat.reduceSub, List.replicate, List.cons_append, List.nil_append, List.append_nil, List.getElem?_cons_zero, List.getElem?_cons_succ, List.set_cons_zero, List.set_cons_succ, if_true, if_false, Bool.false_eq_true, Bool.true_and, Bool.and_true, Bool.not_true, Bool.not_false, Nat.reduceBEq, BEq.rfl, Option.isSome_some, Option.isSome_none, reduceIte, reduceCtorEq, decide_true, decide_false, asTup_pD]
    · simp
      omega
  obtain ⟨a, r, rfl⟩ := List.exists_cons_of_ne_nil h1
  rcases List.eq_nil_or_concat r with rfl | ⟨mid, q, rfl⟩
  · refine ⟨[a.2], (call_eq (d := ⟨b_gaps_of, 4⟩) rfl rfl).trans ?_, .inl ⟨rfl, rfl⟩⟩
    unfold b_gaps_of
    rw [exs_c]
    refine step (first _ rfl) ?_
    have e1 : evIx (.tup [pD a]) (.int 0) ([] : List MO) = .ok (pD a) [] := ix_t at_0
    have e2 : evIx (.tup [pD a]) (.int (-1)) ([] : List MO) = .ok (pD a) [] := ix_t (at_last (l := []))
    simp only [exs_c, exs_n, ex, ev, evs, evSq, evAnd, evOr, evF, evO, evC, evI, asg, asgs, evT, Cn.d, bind_ok, bind_bad, bind_err, bind_ite, exS_ok, exS_bad, exS_ite, seq_nx, seq_ret, seq_brk, seq_cont, seq_bad, seq_ite, fin_ret, fin_nx, fin_bad, fin_ite, of_some, of_none, when_t, calm_ok, add_i, sub_i, add_s, mul_i, div_i, mod_i, pow_i, aug_add, aug_sub, eq_i, ne_i, eq_s, ne_s, eq_b, ne_b, lt_i, le_i, gt_i, ge_i, is_n, isnot_n, tr_b, tr_i, tr_t, tr_l, tr_n, asInt_i, asStr_s, asStr_i, asStr_t, asBl_b, asTup_t, isNon_n, isNon_i, isNon_s, isNon_t, isNon_l, startE, parSet, wipeE, List.map_cons, List.map_nil, List.length_cons, List.length_nil, Nat.reduceAdd, Nat.reduceSub, List.replicate, List.cons_append, List.nil_append, List.append_nil, List.getElem?_cons_zero, List.getElem?_cons_succ, List.set_cons_zero, List.set_cons_succ, if_true, if_false, Bool.false_eq_true, Bool.true_and, Bool.and_true, Bool.not_true, Bool.not_false, Nat.reduceBEq, BEq.rfl, Option.isSome_some, Option.isSome_none, reduceIte, reduceCtorEq, decide_true, decide_false, e1, e2, ix_p0]
  · rw [List.concat_eq_append] at *
    have e0 : (a :: (mid ++ [q])).map pD = pD a :: (mid.map pD ++ [pD q]) := by simp
    have e1 : evIx (.tup ((a :: (mid ++ [q])).map pD)) (.int 0) ([] : List MO) = .ok (pD a) [] := by rw [e0]; exact ix_t at_0
    have e2 : evIx (.tup ((a :: (mid ++ [q])).map pD)) (.int (-1)) ([] : List MO) = .ok (pD q) [] := by
      rw [e0, ← List.cons_append]
      exact ix_t at_last
    have hlast : (a :: (mid ++ [q])).getLast? = some q := by rw [← List.cons_append, List.getLast?_append]; simp
    by_cases hq : a.1 = q.1
    · have hq' : (a.1 == q.1) = true := by simpa using hq
      refine ⟨(a :: (mid ++ [q])).map (·.2), (call_eq (d := ⟨b_gaps_of, 4⟩) rfl rfl).trans ?_, .inl ⟨by simp, by rw [hlast]; simp [hq]⟩⟩
      unfold b_gaps_of
      rw [exs_c]
      refine step (first _ rfl) ?_
      generalize hW : (a :: (mid ++ [q])).map pD = W at *
      simp only [exs_c, exs_n, ex, ev, evs, evSq, evAnd, evOr, evF, evO, evC, evI, asg, asgs, evT, Cn.d, bind_ok, bind_bad, bind_err, bind_ite, exS_ok, exS_bad, exS_ite, seq_nx, seq_ret, seq_brk, seq_cont, seq_bad, seq_ite, fin_ret, fin_nx, fin_bad, fin_ite, of_some, of_none, when_t, calm_ok, add_i, sub_i, add_s, mul_i, div_i, mod_i, pow_i, aug_add, aug_sub, eq_i, ne_i, eq_s, ne_s, eq_b, ne_b, lt_i, le_i, gt_i, ge_i, is_n, isnot_n, tr_b, tr_i, tr_t, tr_l, tr_n, asInt_i, asStr_s, asStr_i, asStr_t, asBl_b, asTup_t, isNon_n, isNon_i, isNon_s, isNon_t, isNon_l, startE, parSet, wipeE, List.map_cons, List.map_nil, List.length_cons, List.length_nil, Nat.reduceAdd, Nat.reduceSub, List.replicate, List.cons_append, List.nil_append, List.append_nil, List.getElem?_cons_zero, List.getElem?_cons_succ, List.set_cons_zero, List.set_cons_succ, if_true, if_false, Bool.false_eq_true, Bool.true_and, Bool.and_true, Bool.not_true, Bool.not_false, Nat.reduceBEq, BEq.rfl, Option.isSome_some, Option.isSome_none, reduceIte, reduceCtorEq, decide_true, decide_false, e1, e2, ix_p0, hq']
      simp
    · have hq' : (a.1 == q.1) = false := by simpa using hq
      refine ⟨(mid.map (·.2)) ++ [q.2 + a.2], (call_eq (d := ⟨b_gaps_of, 4⟩) rfl rfl).trans ?_, .inr ⟨by simp, by simp, by rw [hlast]; simpa using hq⟩⟩
      unfold b_gaps_of
      rw [exs_c]
      refine step (first _ rfl) ?_
      have f0 : ((a :: (mid ++ [q])).map fun p => D.int p.2) = D.int a.2 :: (mid.map (fun p => D.int p.2) ++ [D.int q.2]) := by simp
      have f1 : evIx (.lst ((a :: (mid ++ [q])).map fun p => D.int p.2)) (.int 0) ([] : List MO) = .ok (.int a.2) [] := by rw [f0]; exact ix_l at_0
      have f2 : evIx (.lst ((a :: (mid ++ [q])).map fun p => D.int p.2)) (.int (-1)) ([] : List MO) = .ok (.int q.2) [] := by
        rw [f0, ← List.cons_append]
        exact ix_l at_last
      have f3 : evSl (.lst ((a :: (mid ++ [q])).map fun p => D.int p.2)) (some 1) (some (-1)) ([] : List MO) = .ok (.lst (mid.map fun p => D.int p.2)) [] := by
        rw [f0]
        show R.ok (D.lst (cutD _ _ _)) [] = _
        rw [cut_mid]
      have f4 : seqV ([] : List MO) (.lst (mid.map fun p => D.int p.2)) = some (true, mid.map fun p => D.int p.2) := rfl
      have hz : (mid.map (fun p => D.int p.2) ++ [D.int (q.2 + a.2)]).length ≤ sizeLine := by
        simp at hl ⊢
        omega
      generalize hW : (a :: (mid ++ [q])).map pD = W at *
      generalize hV : ((a :: (mid ++ [q])).map fun p => D.int p.2) = V at *
      simp only [exs_c, exs_n, ex, ev, evs, evSq, evAnd, evOr, evF, evO, evC, evI, asg, asgs, evT, Cn.d, bind_ok, bind_bad, bind_err, bind_ite, exS_ok, exS_bad, exS_ite, seq_nx, seq_ret, seq_brk, seq_cont, seq_bad, seq_ite, fin_ret, fin_nx, fin_bad, fin_ite, of_some, of_none, when_t, calm_ok, add_i, sub_i, add_s, mul_i, div_i, mod_i, pow_i, aug_add, aug_sub, eq_i, ne_i, eq_s, ne_s, eq_b, ne_b, lt_i, le_i, gt_i, ge_i, is_n, isnot_n, tr_b, tr_i, tr_t, tr_l, tr_n, asInt_i, asStr_s, asStr_i, asStr_t, asBl_b, asTup_t, isNon_n, isNon_i, isNon_s, isNon_t, isNon_l, startE, parSet, wipeE, List.map_cons, List.map_nil, List.length_cons, List.length_nil, Nat.reduceAdd, Nat.reduceSub, List.replicate, List.cons_append, List.nil_append, List.append_nil, List.getElem?_cons_zero, List.getElem?_cons_succ, List.set_cons_zero, List.set_cons_succ, if_true, if_false, Bool.false_eq_true, Bool.true_and, Bool.and_true, Bool.not_true, Bool.not_false, Nat.reduceBEq, BEq.rfl, Option.isSome_some, Option.isSome_none, reduceIte, reduceCtorEq, decide_true, decide_false, e1, e2, ix_p0, hq', f1, f2, f3, f4, Option.map_some, when_dec hz]
      simp
/-! checks of values -/
theorem isT_ii {i : Int} : isT M "int" (.int i) = some true := by simp [isT, tyD, tyB]
theorem isT_bi {i : Int} : isT M "bool" (.int i) = some false := by simp [isT, tyD, tyB]
theorem isT_ss {i : Str} : isT M "str" (.str i) = some true := by simp [isT, tyD, tyB]
theorem isT_tt {i : List D} : isT M "tuple" (.tup i) = some true := by simp [isT, tyD, tyB]
theorem between_ok (v low high : Int) : C w (n + 1) f_is_between [.int v, .int low, .int high] M = .ok (.bl (decide (low ≤ v) && decide (v ≤ high))) M := by
  refine (call_eq (d := ⟨b_is_between, 3⟩) rfl rfl).trans ?_
  simp only [exs_c, exs_n, ex, ev, evs, evSq, evAnd, evOr, evF, evO, evC, evI, asg, asgs, evT, Cn.d, bind_ok, bind_bad, bind_err, bind_ite, exS_ok, exS_bad, exS_ite, seq_nx, seq_ret, seq_brk, seq_cont, seq_bad, seq_ite, fin_ret, fin_nx, fin_bad, fin_ite, of_some, of_none, when_t, calm_ok, add_i, sub_i, add_s, mul_i, div_i, mod_i, pow_i, aug_add, aug_sub, eq_i, ne_i, eq_s, ne_s, eq_b, ne_b, lt_i, le_i, gt_i, ge_i, is_n, isnot_n, tr_b, tr_i, tr_t, tr_l, tr_n, asInt_i, asStr_s, asStr_i, asStr_t, asBl_b, asTup_t, isNon_n, isNon_i, isNon_s, isNon_t, isNon_l, startE, parSet, wipeE, List.map_cons, List.map_nil, List.length_cons, List.length_nil, Nat.reduceAdd, Nat.reduceSub, List.replicate, List.cons_append, List.nil_append, List.append_nil, List.getElem?_cons_zero, List.getElem?_cons_succ, List.set_cons_zero, List.set_cons_succ, if_true, if_false, Bool.false_eq_true, Bool.true_and, Bool.and_true, Bool.not_true, Bool.not_false, Nat.reduceBEq, BEq.rfl, Option.isSome_some, Option.isSome_none, reduceIte, reduceCtorEq, decide_true, decide_false, b_is_between, isT_ii, isT_bi]
  cases decide (low ≤ v) <;> rfl
theorem side_ok (s : Str) (h : s = "right" ∨ s = "left") : C w (n + 1) f_is_side [.str s] M = .ok (.bl true) M := by
  refine (call_eq (d := ⟨b_is_side, 1⟩) rfl rfl).trans ?_
  have hi : evCmp .isin (.str s) (.tup [.str "right", .str "left"]) M = .ok (.bl true) M := by
    rcases h with rfl | rfl <;> rfl
  simp only [exs_c, exs_n, ex, ev, evs, evSq, evAnd, evOr, evF, evO, evC, evI, asg, asgs, evT, Cn.d, bind_ok, bind_bad, bind_err, bind_ite, exS_ok, exS_bad, exS_ite, seq_nx, seq_ret, seq_brk, seq_cont, seq_bad, seq_ite, fin_ret, fin_nx, fin_bad, fin_ite, of_some, of_none, when_t, calm_ok, add_i, sub_i, add_s, mul_i, div_i, mod_i, pow_i, aug_add, aug_sub, eq_i, ne_i, eq_s, ne_s, eq_b, ne_b, lt_i, le_i, gt_i, ge_i, is_n, isnot_n, tr_b, tr_i, tr_t, tr_l, tr_n, asInt_i, asStr_s, asStr_i, asStr_t, asBl_b, asTup_t, isNon_n, isNon_i, isNon_s, isNon_t, isNon_l, startE, parSet, wipeE, List.map_cons, List.map_nil, List.length_cons, List.length_nil, Nat.reduceAdd, Nat.reduceSub, List.replicate, List.cons_append, List.nil_append, List.append_nil, List.getElem?_cons_zero, List.getElem?_cons_succ, List.set_cons_zero, List.set_cons_succ, if_true, if_false, Bool.false_eq_true, Bool.true_and, Bool.and_true, Bool.not_true, Bool.not_false, Nat.reduceBEq, BEq.rfl, Option.isSome_some, Option.isSome_none, reduceIte, reduceCtorEq, decide_true, decide_false, b_is_side, isT_ss, when_dec (show (2 : Nat) ≤ sizeLine by decide), hi]
end K79

namespace K79
open PySem TF
variable {w n : Nat} {M : List MO}
def okP (size : Int) : Int → List (Int × Int) → Prop
  | _, [] => True
  | least, p :: r => least ≤ p.1 ∧ p.1 + 1 ≤ p.2 ∧ p.2 ≤ size ∧ okP size (p.2 + 1) r
def lst (l0 : Int) (dn : List (Int × Int)) : Int := dn.foldl (fun _ p => p.2 + 1) l0
theorem okP_at {size : Int} : ∀ (dn : List (Int × Int)) (l0 : Int) (a : Int × Int) (r : List (Int × Int)), okP size l0 (dn ++ a :: r) → lst l0 dn ≤ a.1 ∧ a.1 + 1 ≤ a.2 ∧ a.2 ≤ size
  | [], l0, a, r, h => ⟨h.1, h.2.1, h.2.2.1⟩
  | p :: dn, l0, a, r, h => okP_at dn (p.2 + 1) a r h.2.2.2
def en (q : (Int × Int) × Nat) : D := .tup [.int (q.2 : Nat), pD q.1]
theorem asTup_en {q : (Int × Int) × Nat} : asTup (en q) = some [.int (q.2 : Nat), pD q.1] := rfl
theorem enum_map : ∀ (l : List (Int × Int)) (k : Nat), enumD k (l.map pD) = (l.zipIdx k).map en
  | [], _ => rfl
  | p :: l, k => by
    simp only [List.map_cons, enumD, List.zipIdx_cons, enum_map l (k + 1)]
    rfl
theorem isT_tp {p : Int × Int} : isT M "tuple" (pD p) = some true := isT_tt
theorem len_p {p : Int × Int} : evBi .len [pD p] M = .ok (.int 2) M := rfl
theorem len_t {l : List D} : evBi .len [.tup l] M = .ok (.int l.length) M := rfl
theorem len_l {l : List D} : evBi .len [.lst l] M = .ok (.int l.length) M := rfl
def peTurn (w n : Nat) (x : D) (e : Ev) (M : List MO) : O := exS (asg ⟨C w n, tabOf ts, w⟩ (.tp (.cons (.nm 3) (.cons (.nm 4) .nil))) x e M) e fun e M => exs ⟨C w n, tabOf ts, w⟩
  (.cons (.ite (.bor (.cons (.nt (.isi (.v 4) "tuple")) (.cons (.cmp .ne (.bi .len (.cons (.v 4) .nil)) (.c (.int 2))) (.cons (.nt (.call 10 (.cons (.ix (.v 4) (.c (.int 0))) (.cons (.v 2) (.cons (.op .sub (.v 0) (.c (.int 1))) .nil))))) .nil)))) (.cons (.ret (.v 3)) .nil) .nil) (.cons (.ite (.nt (.call 10 (.cons (.ix (.v 4) (.c (.int 1))) (.cons (.op .add (.ix (.v 4) (.c (.int 0))) (.c (.int 1))) (.cons (.v 0) .nil))))) (.cons (.ret (.v 3)) .nil) .nil) (.cons (.set (.nm 2) (.op .add (.ix (.v 4) (.c (.int 1))) (.c (.int 1)))) .nil))) e M
theorem pe_turn (size least : Int) (q : (Int × Int) × Nat) (b : D) (x y : Option D) (h1 : least ≤ q.1.1) (h2 : q.1.1 + 1 ≤ q.1.2) (h3 : q.1.2 ≤ size) :
    ∃ x' y', peTurn w (n + 1) (en q) [some (.int size), some b, some (.int least), x, y] [] = .nx [some (.int size), some b, some (.int (q.1.2 + 1)), x', y'] [] := by
  refine ⟨some (.int (q.2 : Nat)), some (pD q.1), ?_⟩
  unfold peTurn
  have c1 : C w (n + 1) 10 [.int q.1.1, .int least, .int (size - 1)] [] = .ok (.bl true) [] := by
    have := between_ok (w := w) (n := n) (M := []) q.1.1 least (size - 1)
    rw [decide_eq_true h1, decide_eq_true (show q.1.1 ≤ size - 1 by omega)] at this
    exact this
  have c2 : C w (n + 1) 10 [.int q.1.2, .int (q.1.1 + 1), .int size] [] = .ok (.bl true) [] := by
    have := between_ok (w := w) (n := n) (M := []) q.1.2 (q.1.1 + 1) size
    rw [decide_eq_true h2, decide_eq_true h3] at this
    exact this
  simp only [exs_c, exs_n, ex, ev, evs, evSq, evAnd, evOr, evF, evO, evC, evI, asg, asgs, evT, Cn.d, bind_ok, bind_bad, bind_err, bind_ite, exS_ok, exS_bad, exS_ite, seq_nx, seq_ret, seq_brk, seq_cont, seq_bad, seq_ite, fin_ret, fin_nx, fin_bad, fin_ite, of_some, of_none, when_t, calm_ok, add_i, sub_i, add_s, mul_i, div_i, mod_i, pow_i, aug_add, aug_sub, eq_i, ne_i, eq_s, ne_s, eq_b, ne_b, lt_i, le_i, gt_i, ge_i, is_n, isnot_n, tr_b, tr_i, tr_t, tr_l, tr_n, asInt_i, asStr_s, asStr_i, asStr_t, asBl_b, asTup_t, isNon_n, isNon_i, isNon_s, isNon_t, isNon_l, startE, parSet, wipeE, List.map_cons, List.map_nil, List.length_cons, List.length_nil, Nat.reduceAdd, Nat.reduceSub, List.replicate, List.cons_append, List.nil_append, List.append_nil, List.getElem?_cons_zero, List.getElem?_cons_succ, List.set_cons_zero, List.set_cons_succ, if_true, if_false, Bool.false_eq_true, Bool.true_and, Bool.and_true, Bool.not_true, Bool.not_false, Nat.reduceBEq, BEq.rfl, Option.isSome_some, Option.isSome_none, reduceIte, reduceCtorEq, decide_true, decide_false, asTup_en, isT_tp, len_p, ix_p0, ix_p1, c1, c2, pcall_ok (show pureL [D.int q.1.1, D.int least, D.int (size - 1)] = true from rfl) (show (D.bl true).pure = true from rfl), pcall_ok (show pureL [D.int q.1.2, D.int (q.1.1 + 1), D.int size] = true from rfl) (show (D.bl true).pure = true from rfl)]
theorem lst_map (l0 : Int) (dn : List ((Int × Int) × Nat)) (a : (Int × Int) × Nat) : lst l0 ((dn ++ [a]).map (·.1)) = a.1.2 + 1 := by
  simp [lst]
theorem pair_error_ok (size : Int) (pairs : List (Int × Int)) (h : okP size 0 pairs) : C w (n + 2) f_pair_error [.int size, .tup (pairs.map pD)] [] = .ok .non [] := by
  obtain ⟨e', M', h1, h2⟩ := for_ind (turn := peTurn w (n + 1)) (f := en) (fun dn e M => M = [] ∧ ∃ x y, e = [some (.int size), some (.tup (pairs.map pD)), some (.int (lst 0 (dn.map (·.1)))), x, y]) (pairs.zipIdx 0) []
    [some (.int size), some (.tup (pairs.map pD)), some (.int 0), none, none] []
    (fun dn a r e M hd ⟨hM, x, y, he⟩ => by
      subst hM he
      have e0 : pairs = dn.map (·.1) ++ a.1 :: r.map (·.1) := by
        have := congrArg (List.map (·.1)) hd
        simp at this
        exact this
      rw [e0] at h
      obtain ⟨k1, k2, k3⟩ := okP_at _ _ _ _ h
      obtain ⟨x', y', e1⟩ := pe_turn (w := w) (n := n) size (lst 0 (dn.map (·.1))) a (.tup (pairs.map pD)) x y k1 k2 k3
      exact ⟨_, _, .inl e1, rfl, x', y', by rw [lst_map]⟩) ⟨rfl, none, none, rfl⟩
  obtain ⟨hM, x, y, he⟩ := h2
  subst hM he
  refine (call_eq (d := ⟨b_pair_error, 5⟩) rfl rfl).trans ?_
  show fin ((forLoop none (peTurn w (n + 1)) (enumD 0 (pairs.map pD)) [some (.int size), some (.tup (pairs.map pD)), some (.int 0), none, none] []).seq fun e M => exs ⟨C w (n + 1), tabOf ts, w⟩ (.cons (.ret (.c .non)) .nil) e M) = _
  rw [enum_map, h1]
  simp only [exs_c, exs_n, ex, ev, evs, evSq, evAnd, evOr, evF, evO, evC, evI, asg, asgs, evT, Cn.d, bind_ok, bind_bad, bind_err, bind_ite, exS_ok, exS_bad, exS_ite, seq_nx, seq_ret, seq_brk, seq_cont, seq_bad, seq_ite, fin_ret, fin_nx, fin_bad, fin_ite, of_some, of_none, when_t, calm_ok, add_i, sub_i, add_s, mul_i, div_i, mod_i, pow_i, aug_add, aug_sub, eq_i, ne_i, eq_s, ne_s, eq_b, ne_b, lt_i, le_i, gt_i, ge_i, is_n, isnot_n, tr_b, tr_i, tr_t, tr_l, tr_n, asInt_i, asStr_s, asStr_i, asStr_t, asBl_b, asTup_t, isNon_n, isNon_i, isNon_s, isNon_t, isNon_l, startE, parSet, wipeE, List.map_cons, List.map_nil, List.length_cons, List.length_nil, Nat.reduceAdd, Nat.reduceSub, List.replicate, List.cons_append, List.nil_append, List.append_nil, List.getElem?_cons_zero, List.getElem?_cons_succ, List.set_cons_zero, List.set_cons_succ, if_true, if_false, Bool.false_eq_true, Bool.true_and, Bool.and_true, Bool.not_true, Bool.not_false, Nat.reduceBEq, BEq.rfl, Option.isSome_some, Option.isSome_none, reduceIte, reduceCtorEq, decide_true, decide_false]
theorem pureI : ∀ l : List Int, pureL (l.map D.int) = true
  | [] => rfl
  | i :: l => by
    show (true && pureL (l.map D.int)) = true
    rw [pureI l]
    rfl
theorem state_error_ok (size place : Int) (raised : List (Int × Int)) (facing : Str) (hs : 2 ≤ size) (hs2 : size ≤ 1000000000000) (hp : 0 ≤ place) (hp2 : place < size) (hr : okP size 0 raised) (hl : raised.length ≤ 41) (hf : facing = "right" ∨ facing = "left")
    (hw : ∃ g : List Int, C w (n + 4) f_gaps_of [.tup ((wd size raised place facing).map pD)] [] = .ok (.lst (g.map D.int)) [] ∧ g.length ≤ 41) : C w (n + 5) f_state_error [stD size raised place facing] [] = .ok .non [] := by
  refine (call_eq (d := ⟨b_state_error, 6⟩) rfl rfl).trans ?_
  unfold b_state_error
  have b0 : ∀ (v low high : Int) (_ : low ≤ v) (_ : v ≤ high), callF (tabOf ts) (fsOf ds) w (n + 4) 10 [.int v, .int low, .int high] [] = .ok (.bl true) [] := fun v low high h1 h2 => by
    have := between_ok (w := w) (n := n + 3) (M := []) v low high
    rw [decide_eq_true h1, decide_eq_true h2] at this
    exact this
  have b1 := b0 size 2 1000000000000 hs hs2
  have b2 := b0 place 0 (size - 1) hp (by omega)
  have c3 : callF (tabOf ts) (fsOf ds) w (n + 4) 12 [.int size, .tup (raised.map pD)] [] = _ := pair_error_ok (w := w) (n := n + 2) size raised hr
  have c4 : callF (tabOf ts) (fsOf ds) w (n + 4) 11 [.str facing] [] = _ := side_ok (w := w) (n := n + 3) (M := []) facing hf
  have c5 : callF (tabOf ts) (fsOf ds) w (n + 4) 8 [stD size raised place facing] [] = _ := word_ok (w := w) (n := n) size place raised facing (by omega) (by omega)
  obtain ⟨g, c6, hg⟩ := hw
  have c6 : callF (tabOf ts) (fsOf ds) w (n + 4) 9 [.tup ((wd size raised place facing).map pD)] [] = _ := c6
  have i1 : isT ([] : List MO) "tuple" (stD size raised place facing) = some true := isT_tt
  have i2 : evBi .len [stD size raised place facing] ([] : List MO) = .ok (.int 4) [] := rfl
  have g1 : ¬ (41 < ((g.map D.int).length : Int)) := by rw [List.length_map]; omega
  have g2 : ¬ (41 < ((raised.map pD).length : Int)) := by rw [List.length_map]; omega
  simp only [exs_c, exs_n, ex, ev, evs, evSq, evAnd, evOr, evF, evO, evC, evI, asg, asgs, evT, Cn.d, bind_ok, bind_bad, bind_err, bind_ite, exS_ok, exS_bad, exS_ite, seq_nx, seq_ret, seq_brk, seq_cont, seq_bad, seq_ite, fin_ret, fin_nx, fin_bad, fin_ite, of_some, of_none, when_t, calm_ok, add_i, sub_i, add_s, mul_i, div_i, mod_i, pow_i, aug_add, aug_sub, eq_i, ne_i, eq_s, ne_s, eq_b, ne_b, lt_i, le_i, gt_i, ge_i, is_n, isnot_n, tr_b, tr_i, tr_t, tr_l, tr_n, asInt_i, asStr_s, asStr_i, asStr_t, asBl_b, asTup_t, isNon_n, isNon_i, isNon_s, isNon_t, isNon_l, startE, parSet, wipeE, List.map_cons, List.map_nil, List.length_cons, List.length_nil, Nat.reduceAdd, Nat.reduceSub, List.replicate, List.cons_append, List.nil_append, List.append_nil, List.getElem?_cons_zero, List.getElem?_cons_succ, List.set_cons_zero, List.set_cons_succ, if_true, if_false, Bool.false_eq_true, Bool.true_and, Bool.and_true, Bool.not_true, Bool.not_false, Nat.reduceBEq, BEq.rfl, Option.isSome_some, Option.isSome_none, reduceIte, reduceCtorEq, decide_true, decide_false, i1, i2, asTup_st, b1, b2, c3, c4, c5, c6, isT_tt, len_t, len_l, g1, g2, pcall_ok (show pureL [D.int size, D.int 2, D.int 1000000000000] = true from rfl) (show (D.bl true).pure = true from rfl), pcall_ok (show pureL [D.int place, D.int 0, D.int (size - 1)] = true from rfl) (show (D.bl true).pure = true from rfl),
    pcall_ok (show pureL [D.int size, D.tup (raised.map pD)] = true by simp [pureL, D.pure, pure_pD]) (show D.non.pure = true from rfl), pcall_ok (show pureL [D.str facing] = true from rfl) (show (D.bl true).pure = true from rfl),
    pcall_ok (show pureL [stD size raised place facing] = true by simp [pureL, pure_st]) (show (D.tup ((wd size raised place facing).map pD)).pure = true by simp [D.pure, pure_pD]),
    pcall_ok (show pureL [D.tup ((wd size raised place facing).map pD)] = true by simp [pureL, D.pure, pure_pD]) (show (D.lst (g.map D.int)).pure = true by simp [D.pure, pureI])]
end K79

namespace K79
open PySem TF
abbrev Rs := List (Int × Int)
def Alt : Rs → Prop
  | [] => True
  | [_] => True
  | p :: q :: r => p.1 ≠ q.1 ∧ Alt (q :: r)
theorem alt_prefix : ∀ (l m : Rs), Alt (l ++ m) → Alt l
  | [], _, _ => trivial
  | [_], _, _ => trivial
  | p :: q :: r, m, h => ⟨h.1, alt_prefix (q :: r) m h.2⟩
theorem alt_snoc : ∀ (l : Rs) (q p : Int × Int), Alt (l ++ [q]) → q.1 ≠ p.1 → Alt (l ++ [q] ++ [p])
  | [], q, p, _, h => ⟨h, trivial⟩
  | [a], q, p, h, k => ⟨h.1, k, trivial⟩
  | a :: b :: r, q, p, h, k => ⟨h.1, alt_snoc (b :: r) q p h.2 k⟩
theorem alt_last : ∀ (l : Rs) (q q' : Int × Int), Alt (l ++ [q]) → q'.1 = q.1 → Alt (l ++ [q'])
  | [], _, _, _, _ => trivial
  | [a], q, q', h, k => ⟨by rw [k]; exact h.1, trivial⟩
  | a :: b :: r, q, q', h, k => ⟨h.1, alt_last (b :: r) q q' h.2 k⟩
theorem alt_rev : ∀ l : Rs, Alt l → Alt l.reverse
  | [], _ => trivial
  | [_], _ => trivial
  | p :: q :: r, h => by
    have ih := alt_rev (q :: r) h.2
    rw [List.reverse_cons] at ih ⊢
    rw [List.reverse_cons]
    exact alt_snoc _ _ _ ih (Ne.symm h.1)
def Bits (l : Rs) : Prop := ∀ p ∈ l, p.1 = 0 ∨ p.1 = 1
def Pos (l : Rs) : Prop := ∀ p ∈ l, 0 < p.2
theorem alt_par : ∀ (l : Rs) (p q : Int × Int), Alt (p :: l) → Bits (p :: l) → (p :: l).getLast? = some q → q.1 = if (p :: l).length % 2 = 1 then p.1 else 1 - p.1
  | [], p, q, _, _, e => by
    cases e
    rfl
  | r :: l, p, q, h, b, e => by
    have ih := alt_par l r q h.2 (fun x hx => b x (List.mem_cons_of_mem _ hx)) (by rw [List.getLast?_cons_cons] at e; exact e)
    have b1 := b p (List.mem_cons_self ..)
    have b2 := b r (List.mem_cons_of_mem _ (List.mem_cons_self ..))
    have hne := h.1
    simp only [List.length_cons] at ih ⊢
    rw [ih]
    split <;> split <;> omega
/-! put_together -/
structure Good (l : Rs) : Prop where
  alt : Alt l
  pos : Pos l
theorem good_step {found : Rs} (p : Int × Int) (g : Good found) : Good (ptStep found p) := by
  unfold ptStep
  split
  · rename_i q e
    obtain ⟨init, rfl⟩ : ∃ init, found = init ++ [q] := by
      rcases List.eq_nil_or_concat found with rfl | ⟨init, x, rfl⟩
      · cases e
      · rw [List.concat_eq_append] at e ⊢
        rw [List.getLast?_append] at e
        simp at e
        exact ⟨init, by rw [e]⟩
    split
    · rename_i hq
      split
      · rename_i h2
        rw [List.dropLast_concat]
        refine ⟨alt_last _ _ _ g.alt hq.symm, fun x hx => ?_⟩
        rcases List.mem_append.mp hx with hx | hx
        · exact g.pos x (List.mem_append_left _ hx)
        · simp at hx
          subst hx
          exact h2
      · rw [List.dropLast_concat]
        exact ⟨alt_prefix _ _ g.alt, fun x hx => g.pos x (List.mem_append_left _ hx)⟩
    · rename_i hq
      split
      · rename_i h2
        refine ⟨alt_snoc _ _ _ g.alt hq, fun x hx => ?_⟩
        rcases List.mem_append.mp hx with hx | hx
        · exact g.pos x hx
        · simp at hx
          subst hx
          exact h2
      · exact g
  · split
    · rename_i e h2
      have : found = [] := by
        cases found with
        | nil => rfl
        | cons a l => simp at e
      subst this
      exact ⟨trivial, fun x hx => by simp at hx; subst hx; exact h2⟩
    · exact g
theorem good_fold : ∀ (l found : Rs), Good found → Good (l.foldl ptStep found)
  | [], _, g => g
  | p :: l, found, g => good_fold l _ (good_step p g)
theorem pt_good (l : Rs) : Good (pt l) := good_fold l [] ⟨trivial, fun x hx => by cases hx⟩
theorem bits_step {found : Rs} {p : Int × Int} (b : Bits found) (hp : p.1 = 0 ∨ p.1 = 1) : Bits (ptStep found p) := by
  have hd : Bits found.dropLast := fun x hx => b x (List.dropLast_subset _ hx)
  have h1 : ∀ (l : Rs) (q : Int × Int), Bits l → (q.1 = 0 ∨ q.1 = 1) → Bits (l ++ [q]) := fun l q bl hq x hx => by
    rcases List.mem_append.mp hx with hx | hx
    · exact bl x hx
    · simp at hx; subst hx; exact hq
  unfold ptStep
  split
  · split
    · split
      · exact h1 _ _ hd hp
      · exact hd
    · split
      · exact h1 _ _ b hp
      · exact b
  · split
    · exact h1 _ _ b hp
    · exact b
theorem bits_fold : ∀ (l found : Rs), Bits found → Bits l → Bits (l.foldl ptStep found)
  | [], _, b, _ => b
  | p :: l, found, b, h => bits_fold l _ (bits_step b (h p (List.mem_cons_self ..))) fun x hx => h x (List.mem_cons_of_mem _ hx)
theorem pt_bits {l : Rs} (h : Bits l) : Bits (pt l) := bits_fold l [] (fun x hx => by cases hx) h
/-- the number of items that count -/
def np (l : Rs) : Nat := (l.filter fun p => decide (0 < p.2)).length
theorem np_cons (p : Int × Int) (l : Rs) : np (p :: l) = (if 0 < p.2 then 1 else 0) + np l := by
  unfold np
  rw [List.filter_cons]
  split <;> rename_i h
  · rw [if_pos (of_decide_eq_true h), List.length_cons]; omega
  · rw [if_neg (by simpa using h)]; omega
theorem np_app (l m : Rs) : np (l ++ m) = np l + np m := by simp [np, List.filter_append]
theorem np_le (l : Rs) : np l ≤ l.length := List.length_filter_le ..
theorem step_np (found : Rs) (p : Int × Int) : (ptStep found p).length ≤ found.length + (if 0 < p.2 then 1 else 0) := by
  unfold ptStep
  split
  · rename_i q e
    have hn : 0 < found.length := by
      cases found with
      | nil => cases e
      | cons a l => simp
    split
    · split <;> simp <;> omega
    · split <;> simp_all
  · split <;> simp_all
theorem fold_np : ∀ (l found : Rs), (l.foldl ptStep found).length ≤ found.length + np l
  | [], f => by simp [np]
  | p :: l, f => by
    have h1 := fold_np l (ptStep f p)
    have h2 := step_np f p
    rw [np_cons, List.foldl_cons]
    omega
theorem pt_np (l : Rs) : (pt l).length ≤ np l := by
  have := fold_np l []
  simpa [pt] using this
/-- it stays -/
theorem step_ne {found : Rs} {p : Int × Int} (h : found ≠ []) (g : Pos found) (hp : 0 ≤ p.2) : ptStep found p ≠ [] := by
  unfold ptStep
  split
  · rename_i q e
    have hq : 0 < q.2 := g q (List.mem_of_getLast? e)
    split
    · rw [if_pos (by omega)]
      simp
    · split
      · simp
      · exact h
  · split
    · simp
    · exact h
theorem fold_ne : ∀ (l found : Rs), found ≠ [] → Good found → (∀ p ∈ l, 0 ≤ p.2) → l.foldl ptStep found ≠ []
  | [], _, h, _, _ => h
  | p :: l, found, h, g, hp => fold_ne l _ (step_ne h g.pos (hp p (List.mem_cons_self ..))) (good_step p g) fun x hx => hp x (List.mem_cons_of_mem _ hx)
/-! cut_runs -/
theorem cr_app (first many : Int) : ∀ (l : Rs) (b : Int) (acc : Rs), (l.foldl (crStep first many) (b, acc)).2 = acc ++ (l.foldl (crStep first many) (b, [])).2
  | [], b, acc => by simp
  | p :: l, b, acc => by
    simp only [List.foldl_cons, crStep, List.nil_append]
    rw [cr_app first many l _ (acc ++ _), cr_app first many l _ [_], List.append_assoc]
def crB (first many b : Int) (l : Rs) : Rs := (l.foldl (crStep first many) (b, [])).2
theorem crB_nil (first many b : Int) : crB first many b [] = [] := rfl
theorem crB_cons (first many b : Int) (p : Int × Int) (l : Rs) : crB first many b (p :: l) = (p.1, if (if first + many < b + p.2 then first + many else b + p.2) - (if first > b then first else b) > 0 then (if first + many < b + p.2 then first + many else b + p.2) - (if first > b then first else b) else 0) :: crB first many (b + p.2) l := by
  unfold crB
  simp only [List.foldl_cons, crStep, List.nil_append]
  rw [cr_app]
  rfl
theorem crB_bits (first many : Int) : ∀ (l : Rs) (b : Int), Bits l → Bits (crB first many b l)
  | [], _, _ => fun x hx => by cases hx
  | p :: l, b, h => by
    rw [crB_cons]
    intro x hx
    rcases List.mem_cons.mp hx with rfl | hx
    · exact h p (List.mem_cons_self ..)
    · exact crB_bits first many l _ (fun y hy => h y (List.mem_cons_of_mem _ hy)) x hx
theorem crB_nn (first many : Int) : ∀ (l : Rs) (b : Int), ∀ p ∈ crB first many b l, 0 ≤ p.2
  | [], _ => fun x hx => by cases hx
  | p :: l, b => by
    rw [crB_cons]
    intro x hx
    rcases List.mem_cons.mp hx with rfl | hx
    · show 0 ≤ (if _ > 0 then _ else 0)
      split <;> omega
    · exact crB_nn first many l _ x hx
/-- disjoint parts of a stretch -/
theorem crB_np (first many : Int) : ∀ (l : Rs) (b : Int), Pos l → (np (crB first many b l) : Int) ≤ (if first + many - (if first > b then first else b) > 0 then first + many - (if first > b then first else b) else 0)
  | [], b, _ => by
    rw [crB_nil]
    show ((0 : Nat) : Int) ≤ _
    split <;> omega
  | p :: l, b, h => by
    have hp := h p (List.mem_cons_self ..)
    have ih := crB_np first many l (b + p.2) fun x hx => h x (List.mem_cons_of_mem _ hx)
    rw [crB_cons, np_cons]
    dsimp only
    have hp : 0 < p.2 := hp
    generalize np (crB first many (b + p.2) l) = m at *
    generalize p.2 = v at *
    split at ih <;> split at ih <;> (repeat' split) <;> omega
theorem seg_pos {F E b e : Int} : (0 < (if (if E < e then E else e) - (if F > b then F else b) > 0 then (if E < e then E else e) - (if F > b then F else b) else 0)) ↔ (b < E ∧ F < e ∧ F < E ∧ b < e) := by
  constructor
  · intro h
    (repeat' split at h) <;> omega
  · intro h
    (repeat' split) <;> omega
/-- two parts that meet: one run may lie in both -/
theorem crB_two (place size : Int) : ∀ (l : Rs) (b : Int), Pos l → np (crB place (size - place) b l) + np (crB 0 place b l) ≤ l.length + (if b < place then 1 else 0)
  | [], b, _ => by
    rw [crB_nil, crB_nil]
    simp [np]
  | p :: l, b, h => by
    have hp : 0 < p.2 := h p (List.mem_cons_self ..)
    have ih := crB_two place size l (b + p.2) fun x hx => h x (List.mem_cons_of_mem _ hx)
    rw [crB_cons, np_cons, crB_cons, np_cons, List.length_cons]
    dsimp only
    simp only [seg_pos]
    generalize np (crB place (size - place) (b + p.2) l) = m1 at *
    generalize np (crB 0 place (b + p.2) l) = m2 at *
    generalize p.2 = v at *
    have u1 : (if b < place + (size - place) ∧ place < b + v ∧ place < place + (size - place) ∧ b < b + v then 1 else 0) ≤ (if place < b + v then 1 else 0) := by
      split <;> split <;> omega
    have u2 : (if b < 0 + place ∧ 0 < b + v ∧ 0 < 0 + place ∧ b < b + v then 1 else 0) ≤ (if b < place then 1 else 0) := by
      split <;> split <;> omega
    have u3 : (if place < b + v then 1 else 0) + (if b + v < place then 1 else 0) ≤ 1 := by
      split <;> split <;> omega
    omega
end K79

namespace K79
open PySem TF
def NN (l : Rs) : Prop := ∀ p ∈ l, 0 ≤ p.2
theorem Pos.nn {l : Rs} (h : Pos l) : NN l := fun p hp => Int.le_of_lt (h p hp)
def sm (l : Rs) : Int := (l.map (·.2)).sum
theorem sm_app (l m : Rs) : sm (l ++ m) = sm l + sm m := by simp [sm]
theorem sm_cons (p : Int × Int) (l : Rs) : sm (p :: l) = p.2 + sm l := by simp [sm]
theorem sm_rev (l : Rs) : sm l.reverse = sm l := by
  induction l with
  | nil => rfl
  | cons p l ih => rw [List.reverse_cons, sm_app, sm_cons, ih, sm_cons]; simp [sm]; omega
theorem split_last {found : Rs} {q : Int × Int} (e : found.getLast? = some q) : ∃ init, found = init ++ [q] := by
  rcases List.eq_nil_or_concat found with rfl | ⟨init, x, rfl⟩
  · cases e
  · rw [List.concat_eq_append] at e ⊢
    rw [List.getLast?_append] at e
    simp at e
    exact ⟨init, by rw [e]⟩
theorem sm_step {found : Rs} {p : Int × Int} (g : Pos found) (hp : 0 ≤ p.2) : sm (ptStep found p) = sm found + p.2 := by
  unfold ptStep
  split
  · rename_i q e
    obtain ⟨init, rfl⟩ := split_last e
    have hq : 0 < q.2 := g q (by simp)
    split
    · rw [if_pos (by omega), List.dropLast_concat, sm_app, sm_app]
      simp [sm]
      omega
    · split
      · rw [sm_app]
        simp [sm]
      · omega
  · rename_i e
    split
    · rw [sm_app]
      simp [sm]
    · omega
theorem sm_fold : ∀ (l found : Rs), Good found → NN l → sm (l.foldl ptStep found) = sm found + sm l
  | [], f, _, _ => by simp [sm]
  | p :: l, f, g, h => by
    rw [List.foldl_cons, sm_fold l _ (good_step p g) (fun x hx => h x (List.mem_cons_of_mem _ hx)), sm_step g.pos (h p (List.mem_cons_self ..)), sm_cons]
    omega
theorem pt_sm {l : Rs} (h : NN l) : sm (pt l) = sm l := by
  have := sm_fold l [] ⟨trivial, fun x hx => by cases hx⟩ h
  simpa [pt, sm] using this
/-- nothing to put together -/
theorem fold_good : ∀ (l found : Rs), Good (found ++ l) → l.foldl ptStep found = found ++ l
  | [], f, _ => by simp
  | p :: l, f, g => by
    have hp : 0 < p.2 := g.pos p (by simp)
    have e1 : ptStep f p = f ++ [p] := by
      unfold ptStep
      split
      · rename_i q e
        obtain ⟨init, rfl⟩ := split_last e
        have hne : q.1 ≠ p.1 := by
          have : Alt (init ++ ([q, p] ++ l)) := by
            have := g.alt
            simpa using this
          have h2 := alt_prefix (init ++ [q, p]) l (by simpa using this)
          have aux : ∀ (i : Rs), Alt (i ++ [q, p]) → q.1 ≠ p.1 := by
            intro i
            induction i with
            | nil => intro h; exact h.1
            | cons a i ih =>
              intro h
              cases i with
              | nil => exact h.2.1
              | cons b i => exact ih h.2
          exact aux init h2
        rw [if_neg hne, if_pos hp]
      · rw [if_pos hp]
    rw [List.foldl_cons, e1, fold_good l (f ++ [p]) (by simpa using g)]
    simp
theorem pt_of_good {l : Rs} (g : Good l) : pt l = l := by
  have := fold_good l [] (by simpa using g)
  simpa [pt] using this
/-- where the last, the first number comes from -/
theorem last_step {found : Rs} {p : Int × Int} (g : Pos found) (hp : 0 < p.2) : ((ptStep found p).getLast?.map (·.1)) = some p.1 := by
  unfold ptStep
  split
  · rename_i q e
    obtain ⟨init, rfl⟩ := split_last e
    have hq : 0 < q.2 := g q (by simp)
    split
    · rw [if_pos (by omega)]
      simp
    · first | (rw [if_pos hp]; simp) | simp
  · first | (rw [if_pos hp]; simp) | simp
theorem head_step {found : Rs} {p : Int × Int} {v : Int} (g : Pos found) (hp : 0 ≤ p.2) (h : (found.head?.map (·.1)) = some v) : ((ptStep found p).head?.map (·.1)) = some v := by
  unfold ptStep
  split
  · rename_i q e
    obtain ⟨init, rfl⟩ := split_last e
    have hq : 0 < q.2 := g q (by simp)
    split
    · rename_i hqp
      rw [if_pos (by omega), List.dropLast_concat]
      cases init with
      | nil => simp at h ⊢; rw [← hqp]; exact h
      | cons a i => simpa using h
    · split
      · cases init with
        | nil => simpa using h
        | cons a i => simpa using h
      · exact h
  · rename_i e
    cases found with
    | nil => cases h
    | cons a l => simp at e
theorem head_fold {v : Int} : ∀ (l found : Rs), Good found → NN l → (found.head?.map (·.1)) = some v → ((l.foldl ptStep found).head?.map (·.1)) = some v
  | [], _, _, _, h => h
  | p :: l, f, g, nn, h => head_fold l _ (good_step p g) (fun x hx => nn x (List.mem_cons_of_mem _ hx)) (head_step g.pos (nn p (List.mem_cons_self ..)) h)
theorem pt_head {p : Int × Int} {l : Rs} (hp : 0 < p.2) (h : NN l) : ((pt (p :: l)).head?.map (·.1)) = some p.1 := by
  have e1 : ptStep [] p = [p] := by simp [ptStep, hp]
  have := head_fold (v := p.1) l [p] ⟨trivial, fun x hx => by simp at hx; subst hx; exact hp⟩ h rfl
  unfold pt
  rw [List.foldl_cons, e1]
  exact this
theorem pt_last {p : Int × Int} {l : Rs} (hp : 0 < p.2) : ((pt (l ++ [p])).getLast?.map (·.1)) = some p.1 := by
  unfold pt
  rw [List.foldl_append]
  exact last_step (good_fold l [] ⟨trivial, fun x hx => by cases hx⟩).pos hp
theorem crB_app (first many : Int) : ∀ (l : Rs) (b : Int) (m : Rs), crB first many b (l ++ m) = crB first many b l ++ crB first many (b + sm l) m
  | [], b, m => by simp [crB_nil, sm]
  | p :: l, b, m => by
    rw [List.cons_append, crB_cons, crB_cons, crB_app first many l (b + p.2) m, sm_cons, Int.add_assoc]
    rfl
theorem cut_eq (runs : Rs) (first many : Int) : cut runs first many = pt (crB first many 0 runs) := rfl
/-- the two halves of a ring, joined -/
theorem two_len {R : Rs} {place size : Int} (g : Good R) (b : Bits R) (hs : sm R = size) (h0 : 0 ≤ place) (h1 : place < size) {p : Nat} (hl : R.length ≤ 2 * p + 1) : (pt (cut R place (size - place) ++ cut R 0 place)).length ≤ 2 * p + 1 := by
  have c1 := pt_np (crB place (size - place) 0 R)
  have c2 := pt_np (crB 0 place 0 R)
  have c3 := crB_two place size R 0 g.pos
  have c4 := pt_len (cut R place (size - place) ++ cut R 0 place)
  rw [List.length_append] at c4
  rw [← cut_eq] at c1 c2
  by_cases h2 : R.length ≤ 2 * p
  · split at c3 <;> omega
  by_cases h3 : place ≤ 0
  · rw [if_neg (by omega)] at c3
    omega
  -- the join
  obtain ⟨a, r, rfl⟩ : ∃ a r, R = a :: r := by
    cases R with
    | nil => simp at h2
    | cons a r => exact ⟨a, r, rfl⟩
  obtain ⟨init, q, hq⟩ : ∃ init q, a :: r = init ++ [q] := by
    rcases List.eq_nil_or_concat (a :: r) with e | ⟨init, q, e⟩
    · cases e
    · exact ⟨init, q, by rw [e, List.concat_eq_append]⟩
  have hlast : (a :: r).getLast? = some q := by rw [hq, List.getLast?_append]; simp
  have par := alt_par r a q g.alt b hlast
  rw [if_pos (by omega)] at par
  have hqp : 0 < q.2 := g.pos q (by rw [hq]; simp)
  have hap : 0 < a.2 := g.pos a (by simp)
  have hsum : sm init + q.2 = size := by rw [← hs, hq, sm_app]; simp [sm]
  have l1 : ((cut (a :: r) place (size - place)).getLast?.map (·.1)) = some q.1 := by
    rw [cut_eq, hq, crB_app, Int.zero_add, crB_cons, crB_nil]
    exact pt_last (seg_pos.mpr ⟨by omega, by omega, by omega, by omega⟩)
  have l2 : ((cut (a :: r) 0 place).head?.map (·.1)) = some a.1 := by
    rw [cut_eq, crB_cons]
    exact pt_head (seg_pos.mpr ⟨by omega, by omega, by omega, by omega⟩) (crB_nn 0 place r (0 + a.2))
  have g1 : Good (cut (a :: r) place (size - place)) := pt_good _
  have g2 : Good (cut (a :: r) 0 place) := pt_good _
  generalize cut (a :: r) place (size - place) = A at *
  generalize cut (a :: r) 0 place = B at *
  cases B with
  | nil => cases l2
  | cons x B =>
    have hx : x.1 = a.1 := by simpa using l2
    obtain ⟨y, hy⟩ : ∃ y, A.getLast? = some y := by
      cases e : A.getLast? with
      | none => rw [e] at l1; cases l1
      | some y => exact ⟨y, rfl⟩
    have hyq : y.1 = q.1 := by rw [hy] at l1; simpa using l1
    have hxp : 0 < x.2 := g2.pos x (by simp)
    have e1 : pt (A ++ x :: B) = B.foldl ptStep (ptStep A x) := by
      unfold pt
      rw [List.foldl_append, fold_good A [] (by simpa using g1), List.nil_append, List.foldl_cons]
    have e2 : (ptStep A x).length ≤ A.length := by
      unfold ptStep
      rw [hy]
      dsimp only
      rw [if_pos (by omega)]
      obtain ⟨i, rfl⟩ := split_last hy
      split <;> simp
    have e3 := fold_len B (ptStep A x)
    rw [e1]
    simp only [List.length_cons] at c2 c3 c4 hl
    split at c3 <;> omega
/-! the ring's runs -/
theorem ro_bits : ∀ (l : Rs) (s : Int × Rs), Bits s.2 → Bits (l.foldl roStep s).2
  | [], s, h => h
  | p :: l, s, h => ro_bits l _ (by
    intro x hx
    rcases List.mem_append.mp hx with hx | hx
    · exact h x hx
    · simp at hx
      rcases hx with rfl | rfl
      · exact .inl rfl
      · exact .inr rfl)
theorem ro_nn {size : Int} : ∀ (l : Rs) (s : Int × Rs) (least : Int), okP size least l → s.1 ≤ least → NN s.2 → s.1 ≤ size → NN (l.foldl roStep s).2 ∧ (l.foldl roStep s).1 ≤ size ∧ sm (l.foldl roStep s).2 = sm s.2 + (l.foldl roStep s).1 - s.1
  | [], s, _, _, _, h, hz => ⟨h, hz, by simp⟩
  | p :: l, s, least, ok, hle, h, hz => by
    obtain ⟨k1, k2, k3, k4⟩ := ok
    have := ro_nn l (roStep s p) (p.2 + 1) k4 (by show p.2 ≤ p.2 + 1; omega) (by
      intro x hx
      rcases List.mem_append.mp hx with hx | hx
      · exact h x hx
      · simp at hx
        rcases hx with rfl | rfl
        · show 0 ≤ p.1 - s.1; omega
        · show 0 ≤ p.2 - p.1; omega) k3
    refine ⟨this.1, this.2.1, ?_⟩
    rw [List.foldl_cons, this.2.2]
    show sm (s.2 ++ [(0, p.1 - s.1), (1, p.2 - p.1)]) + _ - p.2 = _
    rw [sm_app]
    simp [sm]
    omega
theorem rr_bound {size place : Int} {raised : Rs} {left : Bool} (ok : okP size 0 raised) (h0 : 0 ≤ place) (h1 : place < size) : (rr size raised place left).length ≤ 2 * raised.length + 1 ∧ Good (rr size raised place left) ∧ Bits (rr size raised place left) := by
  obtain ⟨n1, n2, n3⟩ := ro_nn raised (0, []) 0 ok (Int.le_refl _) (fun x hx => by cases hx) (by show (0 : Int) ≤ size; omega)
  have hB : Bits ((ro raised).2 ++ [(0, size - (ro raised).1)]) := by
    intro x hx
    rcases List.mem_append.mp hx with hx | hx
    · exact ro_bits raised (0, []) (fun x hx => by cases hx) x hx
    · simp at hx
      subst hx
      exact .inl rfl
  have hN : NN ((ro raised).2 ++ [(0, size - (ro raised).1)]) := by
    intro x hx
    rcases List.mem_append.mp hx with hx | hx
    · exact n1 x hx
    · simp at hx
      subst hx
      show 0 ≤ size - (ro raised).1
      have : (ro raised).1 ≤ size := n2
      omega
  have hS : sm ((ro raised).2 ++ [(0, size - (ro raised).1)]) = size := by
    have n3 : sm (ro raised).2 = sm ([] : Rs) + (ro raised).1 - 0 := n3
    rw [sm_app, n3]
    simp [sm]
    omega
  have hL : ((ro raised).2 ++ [(0, size - (ro raised).1)]).length = 2 * raised.length + 1 := by
    rw [List.length_append]
    show (raised.foldl roStep (0, [])).2.length + 1 = _
    rw [ro_len]
    simp
  have gR := pt_good ((ro raised).2 ++ [(0, size - (ro raised).1)])
  have bR := pt_bits hB
  have sR := pt_sm hN
  have lR := pt_len ((ro raised).2 ++ [(0, size - (ro raised).1)])
  rw [hS] at sR
  rw [hL] at lR
  generalize hR : pt ((ro raised).2 ++ [(0, size - (ro raised).1)]) = R at *
  have cbits : ∀ (X : Rs) (a m : Int), Bits X → Bits (cut X a m) := fun X a m hx => pt_bits (crB_bits a m X 0 hx)
  have jb : ∀ (X Y : Rs), Bits X → Bits Y → Bits (X ++ Y) := fun X Y hx hy z hz => (List.mem_append.mp hz).elim (hx z) (hy z)
  unfold rr
  rw [hR]
  cases left with
  | false =>
    simp only [Bool.false_eq_true, if_false]
    exact ⟨two_len gR bR sR h0 h1 lR, pt_good _, pt_bits (jb _ _ (cbits _ _ _ bR) (cbits _ _ _ bR))⟩
  | true =>
    simp only [if_true]
    have gR' : Good R.reverse := ⟨alt_rev R gR.alt, fun x hx => gR.pos x (List.mem_reverse.mp hx)⟩
    have bR' : Bits R.reverse := fun x hx => bR x (List.mem_reverse.mp hx)
    exact ⟨two_len gR' bR' (by rw [sm_rev]; exact sR) (by omega) (by omega) (by rw [List.length_reverse]; exact lR), pt_good _, pt_bits (jb _ _ (cbits _ _ _ bR') (cbits _ _ _ bR'))⟩
theorem wd_facts {size place : Int} {raised : Rs} {facing : Str} (ok : okP size 0 raised) (hs : 2 ≤ size) (h0 : 0 ≤ place) (h1 : place < size) (hb : raised.length ≤ 20 ∨ size ≤ 42) :
    wd size raised place facing ≠ [] ∧ ((wd size raised place facing).length ≤ 41 ∨ ((wd size raised place facing).length = 42 ∧ ((wd size raised place facing).head?.map (·.1)) ≠ ((wd size raised place facing).getLast?.map (·.1)))) := by
  have hpl : 0 ≤ (hd size raised place facing).2.1 ∧ (hd size raised place facing).2.1 < size := by
    have hm : 0 ≤ pon size place facing (-1) ∧ pon size place facing (-1) < size := by
      unfold pon
      split
      · exact ⟨Int.emod_nonneg _ (by omega), Int.emod_lt_of_pos _ (by omega)⟩
      · exact ⟨Int.emod_nonneg _ (by omega), Int.emod_lt_of_pos _ (by omega)⟩
    unfold hd
    split
    · exact ⟨h0, h1⟩
    · split
      · exact hm
      · exact ⟨h0, h1⟩
  obtain ⟨r1, r2, r3⟩ := rr_bound (left := (hd size raised place facing).1 == "left") ok hpl.1 hpl.2
  unfold wd
  generalize hf : (if decide (0 < (hd size raised place facing).2.2) || up raised (hd size raised place facing).2.1 then (1 : Int) else 0) = first
  have hfb : first = 0 ∨ first = 1 := by
    rw [← hf]
    split
    · exact .inr rfl
    · exact .inl rfl
  generalize rr size raised (hd size raised place facing).2.1 ((hd size raised place facing).1 == "left") = A at *
  have cg : Good (cut A 1 (size - 2)) := pt_good _
  have cb : Bits (cut A 1 (size - 2)) := pt_bits (crB_bits _ _ _ _ r3)
  have cl := cut_len A 1 (size - 2)
  have c2 : ((cut A 1 (size - 2)).length : Int) ≤ size - 2 := by
    have h1 := pt_np (crB 1 (size - 2) 0 A)
    have h2 := crB_np 1 (size - 2) A 0 r2.pos
    rw [if_pos (show (1 : Int) > 0 by omega)] at h2
    have h3 : (cut A 1 (size - 2)).length ≤ np (crB 1 (size - 2) 0 A) := h1
    split at h2 <;> omega
  have wl := pt_len ((first, 1) :: cut A 1 (size - 2))
  rw [List.length_cons] at wl
  have hh := pt_head (p := (first, 1)) (l := cut A 1 (size - 2)) (show (0 : Int) < 1 by decide) cg.pos.nn
  have wg := pt_good ((first, 1) :: cut A 1 (size - 2))
  have wb : Bits (pt ((first, 1) :: cut A 1 (size - 2))) := pt_bits (fun x hx => by
    rcases List.mem_cons.mp hx with rfl | hx
    · exact hfb
    · exact cb x hx)
  generalize pt ((first, 1) :: cut A 1 (size - 2)) = W at *
  cases W with
  | nil => cases hh
  | cons a r =>
    refine ⟨by simp, ?_⟩
    by_cases h41 : (a :: r).length ≤ 41
    · exact .inl h41
    · refine .inr ⟨by omega, ?_⟩
      obtain ⟨q, hq⟩ : ∃ q, (a :: r).getLast? = some q := by
        cases e : (a :: r).getLast? with
        | none => simp at e
        | some y => exact ⟨y, rfl⟩
      have par := alt_par r a q wg.alt wb hq
      rw [if_neg (by omega)] at par
      rw [hq]
      simp
      have := wb a (by simp)
      omega
end K79

namespace K79
open PySem TF SX L2
variable {w n : Nat} {M : List MO}
abbrev nm (i : Int) : List Nat := TL.numL i.toNat
theorem str_i {i : Int} (h : 0 ≤ i) : Str.ofString (toString i) = S (nm i) := by
  obtain ⟨k, rfl⟩ := Int.eq_ofNat_of_zero_le h
  exact TL.ext_tl (TL.tl_num k)
theorem nm_len {i : Int} (h : 0 ≤ i) {k : Nat} (hk : 0 < k) (h2 : i < 10 ^ k) : (nm i).length ≤ k := by
  refine TL.numL_len hk ?_
  have : ((i.toNat : Nat) : Int) < ((10 ^ k : Nat) : Int) := by
    rw [Int.toNat_of_nonneg h]
    simpa using h2
  exact Int.ofNat_lt.mp this
theorem nm_pos (i : Int) : 1 ≤ (nm i).length := by
  have := TL.numL_ne i.toNat
  cases e : nm i with
  | nil => exact absurd e this
  | cons a r => simp
theorem int_s {i : Int} (h : 0 ≤ i) (hl : (nm i).length ≤ 640) : intText? (S (nm i)) = some i := by
  obtain ⟨k, rfl⟩ := Int.eq_ofNat_of_zero_le h
  rw [← str_i h]
  exact TL.int_num (by have : (TL.numL k).length ≤ 640 := hl; omega)
theorem numL_zero : ∀ (n : Nat) (r : List Nat), TL.numL n = 48 :: r → n = 0 := by
  intro n
  induction n using Nat.strongRecOn with
  | _ n ih =>
    intro r e
    by_cases h : n < 10
    · rw [TL.numL_lt h] at e
      have := (List.cons.inj e).1
      omega
    · rw [TL.numL_step (by omega)] at e
      cases q : TL.numL (n / 10) with
      | nil => exact absurd q (TL.numL_ne _)
      | cons a s =>
        rw [q] at e
        have h1 : a = 48 := (List.cons.inj e).1
        subst h1
        have := ih (n / 10) (by omega) s q
        omega
abbrev szl : Nat := sizeLine
theorem cut_to1 (l : List Nat) : cutS (S l) none (some 1) = S (l.take 1) := by
  have e : HT.sIx (S l).length (S l).length (some 1) = min 1 l.length := by rw [S_len]; exact HT.sIx_nat _ _ 1
  unfold cutS
  rw [e]
  show S (((l.drop 0).take (min 1 l.length - 0))) = _
  cases l <;> simp
theorem cut_tl (c : Nat) (l : List Nat) : cutS (S (c :: l)) (some 1) none = S l := by
  have e : HT.sIx (S (c :: l)).length 0 (some 1) = min 1 (c :: l).length := by rw [S_len]; exact HT.sIx_nat _ _ 1
  unfold cutS
  rw [e, HT.sIx_none, S_len]
  show S (((c :: l).drop (min 1 (l.length + 1))).take ((l.length + 1) - min 1 (l.length + 1))) = _
  rw [show min 1 (l.length + 1) = 1 by omega]
  simp
theorem cut_init (l : List Nat) (c : Nat) : cutS (S (l ++ [c])) none (some (-1)) = S l := by
  unfold cutS
  rw [S_len]
  have e : HT.sIx (l ++ [c]).length (l ++ [c]).length (some (-1)) = l.length := by
    unfold HT.sIx
    simp
    omega
  rw [e, HT.sIx_none]
  show S (((l ++ [c]).drop 0).take (l.length - 0)) = _
  simp
theorem cut_last (l : List Nat) (c : Nat) : cutS (S (l ++ [c])) (some (-1)) none = S [c] := by
  unfold cutS
  rw [S_len]
  have e : HT.sIx (l ++ [c]).length 0 (some (-1)) = l.length := by
    unfold HT.sIx
    simp
    omega
  rw [e, HT.sIx_none]
  show S (((l ++ [c]).drop l.length).take ((l ++ [c]).length - l.length)) = _
  simp
theorem sl_str {z : Str} {lo hi : Option Int} (h : z.length ≤ sizeLine) : evSl (.str z) lo hi M = .ok (.str (cutS z lo hi)) M := by
  show R.when (decide (z.length ≤ sizeLine)) (R.ok (D.str (cutS z lo hi)) M) = _
  rw [when_dec h]
theorem len_s {l : List Nat} (h : l.length ≤ sizeLine) : evBi .len [.str (S l)] M = .ok (.int l.length) M := by
  show R.when (decide ((S l).length ≤ sizeLine)) (R.ok (D.int (S l).length) M) = _
  rw [S_len, when_dec h]
theorem ix_s {c : Nat} {l : List Nat} (h : (c :: l).length ≤ sizeLine) : evIx (.str (S (c :: l))) (.int 0) M = .ok (.str (S [c])) M := by
  show R.when (decide ((S (c :: l)).length ≤ sizeLine)) (R.of ((atI (S (c :: l)).cps.toList 0).map fun c => D.str ⟨#[c]⟩) M) = _
  rw [S_len, when_dec h]
  show R.of ((atI (c :: l) 0).map fun c => D.str ⟨#[c]⟩) M = _
  rw [show atI (c :: l) 0 = some c by unfold atI ixN; simp]
  rfl
def dig : List Nat := [48, 49, 50, 51, 52, 53, 54, 55, 56, 57]
theorem dig_s : ("0123456789" : Str).cps.toList = dig := by decide +kernel
theorem lit_dash : ("-" : Str) = S [45] := by decide +kernel
theorem lit_sp : (" " : Str) = S [32] := by decide +kernel
theorem lit_0 : ("0" : Str) = S [48] := by decide +kernel
theorem lit_col : (":" : Str) = S [58] := by decide +kernel
theorem lit_cs : (": " : Str) = S [58, 32] := by decide +kernel
theorem lit_gt : (">" : Str) = S [62] := by decide +kernel
theorem lit_lt : ("<" : Str) = S [60] := by decide +kernel
def noneL : List Nat := [110, 111, 110, 101]
theorem lit_none : ("none" : Str) = S noneL := by decide +kernel
theorem notin_c (c : Nat) : evCmp .notin (.str ⟨#[c]⟩) (.str "0123456789") M = .ok (.bl (!decide (c ∈ dig))) M := by
  show R.ok (D.bl (true != decide (c ∈ ("0123456789" : Str).cps.toList))) M = _
  rw [dig_s]
  cases decide (c ∈ dig) <;> rfl
theorem any_g {α : Type} (f : α → Bool) (l : List α) : evBi .any [.lst (l.map fun a => D.bl (f a))] M = .ok (.bl (l.any f)) M := by
  show (match boolsOf (l.map fun a => D.bl (f a)) with | some bs => R.ok (D.bl (bs.any id)) M | none => .bad) = _
  rw [bools_map]
  simp [List.any_map]
theorem big640 : (1000 : Nat) ≤ sizeLine := by decide
theorem beq_S {a b : List Nat} : (S a == S b) = (a == b) := S_beq a b
theorem int_evs {l : List Nat} {i : Int} (h : intText? (S l) = some i) (hl : l.length ≤ 640) : evBi .int [.str (S l)] M = .ok (.int i) M := by
  show (match intText? (S l) with | some n => R.when (decide ((S l).length ≤ 640)) (R.ok (D.int n) M) | none => .bad) = _
  rw [h, S_len]
  exact when_dec hl
theorem nm_dig {i : Int} {c : Nat} (h : c ∈ nm i) : c ∈ dig := by
  have := TL.numL_digits i.toNat c h
  unfold dig
  have h1 : 48 ≤ c ∧ c ≤ 57 := this
  simp only [List.mem_cons, List.not_mem_nil, or_false]
  omega
theorem integer_ok (i : Int) (h : 0 ≤ i) (h2 : i < 10 ^ 13) : C w (n + 1) f_integer_in [.str (S (nm i)), .int 13] M = .ok (.int i) M := by
  refine (call_eq (d := ⟨b_integer_in, 4⟩) rfl rfl).trans ?_
  have l13 := nm_len h (by decide) h2
  have l1 := nm_pos i
  have lz : (nm i).length ≤ sizeLine := by have := big640; omega
  have e0 : (List.take 1 (nm i) == [45]) = false := by
    cases e : nm i with
    | nil => rfl
    | cons c r =>
      have := nm_dig (i := i) (c := c) (by rw [e]; exact List.mem_cons_self ..)
      unfold dig at this
      simp at this ⊢
      omega
  have e1 : decide ((1 : Int) ≤ ((nm i).length : Int)) = true := decide_eq_true (by omega)
  have e2 : decide (((nm i).length : Int) ≤ 13) = true := decide_eq_true (by omega)
  have e3 : (nm i).any (fun c => !decide (c ∈ dig)) = false := by
    rw [List.any_eq_false]
    intro c hc
    simp [nm_dig hc]
  have e4 := int_evs (M := M) (int_s h (by omega)) (by omega)
  simp only [exs_c, exs_n, ex, ev, evs, evSq, evAnd, evOr, evF, evO, evC, evI, asg, asgs, evT, Cn.d, bind_ok, bind_bad, bind_err, bind_ite, exS_ok, exS_bad, exS_ite, seq_nx, seq_ret, seq_brk, seq_cont, seq_bad, seq_ite, fin_ret, fin_nx, fin_bad, fin_ite, of_some, of_none, when_t, calm_ok, add_i, sub_i, add_s, mul_i, div_i, mod_i, pow_i, aug_add, aug_sub, eq_i, ne_i, eq_s, ne_s, eq_b, ne_b, lt_i, le_i, gt_i, ge_i, is_n, isnot_n, tr_b, tr_i, tr_t, tr_l, tr_n, asInt_i, asStr_s, asStr_i, asStr_t, asBl_b, asTup_t, isNon_n, isNon_i, isNon_s, isNon_t, isNon_l, startE, parSet, wipeE, List.map_cons, List.map_nil, List.length_cons, List.length_nil, Nat.reduceAdd, Nat.reduceSub, List.replicate, List.cons_append, List.nil_append, List.append_nil, List.getElem?_cons_zero, List.getElem?_cons_succ, List.set_cons_zero, List.set_cons_succ, if_true, if_false, Bool.false_eq_true, Bool.true_and, Bool.and_true, Bool.not_true, Bool.not_false, Nat.reduceBEq, BEq.rfl, Option.isSome_some, Option.isSome_none, reduceIte, reduceCtorEq, decide_true, decide_false, b_integer_in, sl_str (z := S (nm i)) (by rw [S_len]; exact lz), cut_to1, lit_dash, lit_0, beq_S, e0, len_s lz, e1, e2, walk_s]
  rw [show signsD (S (nm i)) = (nm i).map fun c => D.str ⟨#[c]⟩ from rfl, lc_map (h := fun c => D.bl (!decide (c ∈ dig)))]
  · simp only [exs_c, exs_n, ex, ev, evs, evSq, evAnd, evOr, evF, evO, evC, evI, asg, asgs, evT, Cn.d, bind_ok, bind_bad, bind_err, bind_ite, exS_ok, exS_bad, exS_ite, seq_nx, seq_ret, seq_brk, seq_cont, seq_bad, seq_ite, fin_ret, fin_nx, fin_bad, fin_ite, of_some, of_none, when_t, calm_ok, add_i, sub_i, add_s, mul_i, div_i, mod_i, pow_i, aug_add, aug_sub, eq_i, ne_i, eq_s, ne_s, eq_b, ne_b, lt_i, le_i, gt_i, ge_i, is_n, isnot_n, tr_b, tr_i, tr_t, tr_l, tr_n, asInt_i, asStr_s, asStr_i, asStr_t, asBl_b, asTup_t, isNon_n, isNon_i, isNon_s, isNon_t, isNon_l, startE, parSet, wipeE, List.map_cons, List.map_nil, List.length_cons, List.length_nil, Nat.reduceAdd, Nat.reduceSub, List.replicate, List.cons_append, List.nil_append, List.append_nil, List.getElem?_cons_zero, List.getElem?_cons_succ, List.set_cons_zero, List.set_cons_succ, if_true, if_false, Bool.false_eq_true, Bool.true_and, Bool.and_true, Bool.not_true, Bool.not_false, Nat.reduceBEq, BEq.rfl, Option.isSome_some, Option.isSome_none, reduceIte, reduceCtorEq, decide_true, decide_false, lcEnd, any_g, e3]
    cases e : nm i with
    | nil => rw [e] at l1; simp at l1
    | cons c r =>
      rw [e] at lz e4
      simp only [exs_c, exs_n, ex, ev, evs, evSq, evAnd, evOr, evF, evO, evC, evI, asg, asgs, evT, Cn.d, bind_ok, bind_bad, bind_err, bind_ite, exS_ok, exS_bad, exS_ite, seq_nx, seq_ret, seq_brk, seq_cont, seq_bad, seq_ite, fin_ret, fin_nx, fin_bad, fin_ite, of_some, of_none, when_t, calm_ok, add_i, sub_i, add_s, mul_i, div_i, mod_i, pow_i, aug_add, aug_sub, eq_i, ne_i, eq_s, ne_s, eq_b, ne_b, lt_i, le_i, gt_i, ge_i, is_n, isnot_n, tr_b, tr_i, tr_t, tr_l, tr_n, asInt_i, asStr_s, asStr_i, asStr_t, asBl_b, asTup_t, isNon_n, isNon_i, isNon_s, isNon_t, isNon_l, startE, parSet, wipeE, List.map_cons, List.map_nil, List.length_cons, List.length_nil, Nat.reduceAdd, Nat.reduceSub, List.replicate, List.cons_append, List.nil_append, List.append_nil, List.getElem?_cons_zero, List.getElem?_cons_succ, List.set_cons_zero, List.set_cons_succ, if_true, if_false, Bool.false_eq_true, Bool.true_and, Bool.and_true, Bool.not_true, Bool.not_false, Nat.reduceBEq, BEq.rfl, Option.isSome_some, Option.isSome_none, reduceIte, reduceCtorEq, decide_true, decide_false, ix_s lz, beq_S, e4]
      by_cases hc : c = 48
      · subst hc
        have z := numL_zero _ _ e
        have : nm i = [48] := by
          show TL.numL i.toNat = _
          rw [z]
          decide +kernel
        rw [e] at this
        rw [(List.cons.inj this).2]
        simp only [exs_c, exs_n, ex, ev, evs, evSq, evAnd, evOr, evF, evO, evC, evI, asg, asgs, evT, Cn.d, bind_ok, bind_bad, bind_err, bind_ite, exS_ok, exS_bad, exS_ite, seq_nx, seq_ret, seq_brk, seq_cont, seq_bad, seq_ite, fin_ret, fin_nx, fin_bad, fin_ite, of_some, of_none, when_t, calm_ok, add_i, sub_i, add_s, mul_i, div_i, mod_i, pow_i, aug_add, aug_sub, eq_i, ne_i, eq_s, ne_s, eq_b, ne_b, lt_i, le_i, gt_i, ge_i, is_n, isnot_n, tr_b, tr_i, tr_t, tr_l, tr_n, asInt_i, asStr_s, asStr_i, asStr_t, asBl_b, asTup_t, isNon_n, isNon_i, isNon_s, isNon_t, isNon_l, startE, parSet, wipeE, List.map_cons, List.map_nil, List.length_cons, List.length_nil, Nat.reduceAdd, Nat.reduceSub, List.replicate, List.cons_append, List.nil_append, List.append_nil, List.getElem?_cons_zero, List.getElem?_cons_succ, List.set_cons_zero, List.set_cons_succ, if_true, if_false, Bool.false_eq_true, Bool.true_and, Bool.and_true, Bool.not_true, Bool.not_false, Nat.reduceBEq, BEq.rfl, Option.isSome_some, Option.isSome_none, reduceIte, reduceCtorEq, decide_true, decide_false]
      · have : ([c] == [48]) = false := by simp [hc]
        simp only [exs_c, exs_n, ex, ev, evs, evSq, evAnd, evOr, evF, evO, evC, evI, asg, asgs, evT, Cn.d, bind_ok, bind_bad, bind_err, bind_ite, exS_ok, exS_bad, exS_ite, seq_nx, seq_ret, seq_brk, seq_cont, seq_bad, seq_ite, fin_ret, fin_nx, fin_bad, fin_ite, of_some, of_none, when_t, calm_ok, add_i, sub_i, add_s, mul_i, div_i, mod_i, pow_i, aug_add, aug_sub, eq_i, ne_i, eq_s, ne_s, eq_b, ne_b, lt_i, le_i, gt_i, ge_i, is_n, isnot_n, tr_b, tr_i, tr_t, tr_l, tr_n, asInt_i, asStr_s, asStr_i, asStr_t, asBl_b, asTup_t, isNon_n, isNon_i, isNon_s, isNon_t, isNon_l, startE, parSet, wipeE, List.map_cons, List.map_nil, List.length_cons, List.length_nil, Nat.reduceAdd, Nat.reduceSub, List.replicate, List.cons_append, List.nil_append, List.append_nil, List.getElem?_cons_zero, List.getElem?_cons_succ, List.set_cons_zero, List.set_cons_succ, if_true, if_false, Bool.false_eq_true, Bool.true_and, Bool.and_true, Bool.not_true, Bool.not_false, Nat.reduceBEq, BEq.rfl, Option.isSome_some, Option.isSome_none, reduceIte, reduceCtorEq, decide_true, decide_false, this]
  · intro c _
    simp only [exs_c, exs_n, ex, ev, evs, evSq, evAnd, evOr, evF, evO, evC, evI, asg, asgs, evT, Cn.d, bind_ok, bind_bad, bind_err, bind_ite, exS_ok, exS_bad, exS_ite, seq_nx, seq_ret, seq_brk, seq_cont, seq_bad, seq_ite, fin_ret, fin_nx, fin_bad, fin_ite, of_some, of_none, when_t, calm_ok, add_i, sub_i, add_s, mul_i, div_i, mod_i, pow_i, aug_add, aug_sub, eq_i, ne_i, eq_s, ne_s, eq_b, ne_b, lt_i, le_i, gt_i, ge_i, is_n, isnot_n, tr_b, tr_i, tr_t, tr_l, tr_n, asInt_i, asStr_s, asStr_i, asStr_t, asBl_b, asTup_t, isNon_n, isNon_i, isNon_s, isNon_t, isNon_l, startE, parSet, wipeE, List.map_cons, List.map_nil, List.length_cons, List.length_nil, Nat.reduceAdd, Nat.reduceSub, List.replicate, List.cons_append, List.nil_append, List.append_nil, List.getElem?_cons_zero, List.getElem?_cons_succ, List.set_cons_zero, List.set_cons_succ, if_true, if_false, Bool.false_eq_true, Bool.true_and, Bool.and_true, Bool.not_true, Bool.not_false, Nat.reduceBEq, BEq.rfl, Option.isSome_some, Option.isSome_none, reduceIte, reduceCtorEq, decide_true, decide_false, notin_c]
  · simp
    omega
end K79

namespace K79
open PySem TF SX L2
variable {w n : Nat} {M : List MO}
theorem integer_no (c : Nat) (l : List Nat) (hc : c ≠ 45) (hd : c ∉ dig) (hl : l.length ≤ 12) : C w (n + 1) f_integer_in [.str (S (c :: l)), .int 13] M = .ok .non M := by
  refine (call_eq (d := ⟨b_integer_in, 4⟩) rfl rfl).trans ?_
  have lz : (c :: l).length ≤ sizeLine := by have := big640; simp; omega
  have e0 : (List.take 1 (c :: l) == [45]) = false := by simp [hc]
  have e1 : decide ((1 : Int) ≤ ((c :: l).length : Int)) = true := decide_eq_true (by simp; omega)
  have e2 : decide (((c :: l).length : Int) ≤ 13) = true := decide_eq_true (by simp; omega)
  have e3 : (c :: l).any (fun c => !decide (c ∈ dig)) = true := by simp [hd]
  have e5 := len_s (M := M) lz
  generalize hz : c :: l = z at *
  simp only [exs_c, exs_n, ex, ev, evs, evSq, evAnd, evOr, evF, evO, evC, evI, asg, asgs, evT, Cn.d, bind_ok, bind_bad, bind_err, bind_ite, exS_ok, exS_bad, exS_ite, seq_nx, seq_ret, seq_brk, seq_cont, seq_bad, seq_ite, fin_ret, fin_nx, fin_bad, fin_ite, of_some, of_none, when_t, calm_ok, add_i, sub_i, add_s, mul_i, div_i, mod_i, pow_i, aug_add, aug_sub, eq_i, ne_i, eq_s, ne_s, eq_b, ne_b, lt_i, le_i, gt_i, ge_i, is_n, isnot_n, tr_b, tr_i, tr_t, tr_l, tr_n, asInt_i, asStr_s, asStr_i, asStr_t, asBl_b, asTup_t, isNon_n, isNon_i, isNon_s, isNon_t, isNon_l, startE, parSet, wipeE, List.map_cons, List.map_nil, List.length_cons, List.length_nil, Nat.reduceAdd, Nat.reduceSub, List.replicate, List.cons_append, List.nil_append, List.append_nil, List.getElem?_cons_zero, List.getElem?_cons_succ, List.set_cons_zero, List.set_cons_succ, if_true, if_false, Bool.false_eq_true, Bool.true_and, Bool.and_true, Bool.not_true, Bool.not_false, Nat.reduceBEq, BEq.rfl, Option.isSome_some, Option.isSome_none, reduceIte, reduceCtorEq, decide_true, decide_false, b_integer_in, sl_str (z := S z) (by rw [S_len]; exact lz), cut_to1, lit_dash, lit_0, beq_S, e0, e5, e1, e2, walk_s]
  rw [show signsD (S z) = z.map fun c => D.str ⟨#[c]⟩ from rfl, lc_map (h := fun c => D.bl (!decide (c ∈ dig)))]
  · simp only [exs_c, exs_n, ex, ev, evs, evSq, evAnd, evOr, evF, evO, evC, evI, asg, asgs, evT, Cn.d, bind_ok, bind_bad, bind_err, bind_ite, exS_ok, exS_bad, exS_ite, seq_nx, seq_ret, seq_brk, seq_cont, seq_bad, seq_ite, fin_ret, fin_nx, fin_bad, fin_ite, of_some, of_none, when_t, calm_ok, add_i, sub_i, add_s, mul_i, div_i, mod_i, pow_i, aug_add, aug_sub, eq_i, ne_i, eq_s, ne_s, eq_b, ne_b, lt_i, le_i, gt_i, ge_i, is_n, isnot_n, tr_b, tr_i, tr_t, tr_l, tr_n, asInt_i, asStr_s, asStr_i, asStr_t, asBl_b, asTup_t, isNon_n, isNon_i, isNon_s, isNon_t, isNon_l, startE, parSet, wipeE, List.map_cons, List.map_nil, List.length_cons, List.length_nil, Nat.reduceAdd, Nat.reduceSub, List.replicate, List.cons_append, List.nil_append, List.append_nil, List.getElem?_cons_zero, List.getElem?_cons_succ, List.set_cons_zero, List.set_cons_succ, if_true, if_false, Bool.false_eq_true, Bool.true_and, Bool.and_true, Bool.not_true, Bool.not_false, Nat.reduceBEq, BEq.rfl, Option.isSome_some, Option.isSome_none, reduceIte, reduceCtorEq, decide_true, decide_false, lcEnd, any_g, e3]
  · intro c _
    simp only [exs_c, exs_n, ex, ev, evs, evSq, evAnd, evOr, evF, evO, evC, evI, asg, asgs, evT, Cn.d, bind_ok, bind_bad, bind_err, bind_ite, exS_ok, exS_bad, exS_ite, seq_nx, seq_ret, seq_brk, seq_cont, seq_bad, seq_ite, fin_ret, fin_nx, fin_bad, fin_ite, of_some, of_none, when_t, calm_ok, add_i, sub_i, add_s, mul_i, div_i, mod_i, pow_i, aug_add, aug_sub, eq_i, ne_i, eq_s, ne_s, eq_b, ne_b, lt_i, le_i, gt_i, ge_i, is_n, isnot_n, tr_b, tr_i, tr_t, tr_l, tr_n, asInt_i, asStr_s, asStr_i, asStr_t, asBl_b, asTup_t, isNon_n, isNon_i, isNon_s, isNon_t, isNon_l, startE, parSet, wipeE, List.map_cons, List.map_nil, List.length_cons, List.length_nil, Nat.reduceAdd, Nat.reduceSub, List.replicate, List.cons_append, List.nil_append, List.append_nil, List.getElem?_cons_zero, List.getElem?_cons_succ, List.set_cons_zero, List.set_cons_succ, if_true, if_false, Bool.false_eq_true, Bool.true_and, Bool.and_true, Bool.not_true, Bool.not_false, Nat.reduceBEq, BEq.rfl, Option.isSome_some, Option.isSome_none, reduceIte, reduceCtorEq, decide_true, decide_false, notin_c]
  · simp
    omega
theorem pcall_ok2 {f : Nat} {l : List D} {d : D} (h : C w n f l [] = .ok d []) (hl : pureL l = true) (hd : d.pure = true) : pcall (C w n f l []) l M = .ok d M := by
  rw [h]
  exact pcall_ok hl hd
theorem count_ok (i : Int) (h : 0 ≤ i) (h2 : i < 10 ^ 13) : C w (n + 2) f_count_in [.str (S (nm i))] M = .ok (.int i) M := by
  refine (call_eq (d := ⟨b_count_in, 2⟩) rfl rfl).trans ?_
  have e : callF (tabOf ts) (fsOf ds) w (n + 1) 14 [.str (S (nm i)), .int 13] [] = _ := integer_ok (w := w) (n := n) (M := []) i h h2
  have e0 : decide ((0 : Int) ≤ i) = true := decide_eq_true h
  simp only [exs_c, exs_n, ex, ev, evs, evSq, evAnd, evOr, evF, evO, evC, evI, asg, asgs, evT, Cn.d, bind_ok, bind_bad, bind_err, bind_ite, exS_ok, exS_bad, exS_ite, seq_nx, seq_ret, seq_brk, seq_cont, seq_bad, seq_ite, fin_ret, fin_nx, fin_bad, fin_ite, of_some, of_none, when_t, calm_ok, add_i, sub_i, add_s, mul_i, div_i, mod_i, pow_i, aug_add, aug_sub, eq_i, ne_i, eq_s, ne_s, eq_b, ne_b, lt_i, le_i, gt_i, ge_i, is_n, isnot_n, tr_b, tr_i, tr_t, tr_l, tr_n, asInt_i, asStr_s, asStr_i, asStr_t, asBl_b, asTup_t, isNon_n, isNon_i, isNon_s, isNon_t, isNon_l, startE, parSet, wipeE, List.map_cons, List.map_nil, List.length_cons, List.length_nil, Nat.reduceAdd, Nat.reduceSub, List.replicate, List.cons_append, List.nil_append, List.append_nil, List.getElem?_cons_zero, List.getElem?_cons_succ, List.set_cons_zero, List.set_cons_succ, if_true, if_false, Bool.false_eq_true, Bool.true_and, Bool.and_true, Bool.not_true, Bool.not_false, Nat.reduceBEq, BEq.rfl, Option.isSome_some, Option.isSome_none, reduceIte, reduceCtorEq, decide_true, decide_false, b_count_in, e, pcall_ok (show pureL [D.str (S (nm i)), .int 13] = true from rfl) (show (D.int i).pure = true from rfl), e0]
theorem count_no (c : Nat) (l : List Nat) (hc : c ≠ 45) (hd : c ∉ dig) (hl : l.length ≤ 12) : C w (n + 2) f_count_in [.str (S (c :: l))] M = .ok .non M := by
  refine (call_eq (d := ⟨b_count_in, 2⟩) rfl rfl).trans ?_
  have e : callF (tabOf ts) (fsOf ds) w (n + 1) 14 [.str (S (c :: l)), .int 13] [] = _ := integer_no (w := w) (n := n) (M := []) c l hc hd hl
  simp only [exs_c, exs_n, ex, ev, evs, evSq, evAnd, evOr, evF, evO, evC, evI, asg, asgs, evT, Cn.d, bind_ok, bind_bad, bind_err, bind_ite, exS_ok, exS_bad, exS_ite, seq_nx, seq_ret, seq_brk, seq_cont, seq_bad, seq_ite, fin_ret, fin_nx, fin_bad, fin_ite, of_some, of_none, when_t, calm_ok, add_i, sub_i, add_s, mul_i, div_i, mod_i, pow_i, aug_add, aug_sub, eq_i, ne_i, eq_s, ne_s, eq_b, ne_b, lt_i, le_i, gt_i, ge_i, is_n, isnot_n, tr_b, tr_i, tr_t, tr_l, tr_n, asInt_i, asStr_s, asStr_i, asStr_t, asBl_b, asTup_t, isNon_n, isNon_i, isNon_s, isNon_t, isNon_l, startE, parSet, wipeE, List.map_cons, List.map_nil, List.length_cons, List.length_nil, Nat.reduceAdd, Nat.reduceSub, List.replicate, List.cons_append, List.nil_append, List.append_nil, List.getElem?_cons_zero, List.getElem?_cons_succ, List.set_cons_zero, List.set_cons_succ, if_true, if_false, Bool.false_eq_true, Bool.true_and, Bool.and_true, Bool.not_true, Bool.not_false, Nat.reduceBEq, BEq.rfl, Option.isSome_some, Option.isSome_none, reduceIte, reduceCtorEq, decide_true, decide_false, b_count_in, e, pcall_ok (show pureL [D.str (S (c :: l)), .int 13] = true from rfl) (show D.non.pure = true from rfl)]
def pw (p : Int × Int) : List Nat := nm p.1 ++ 45 :: nm p.2
def okN (i : Int) : Prop := 0 ≤ i ∧ i < 10 ^ 13
theorem split_s {a b : List Nat} (hb : b ≠ []) (hk : b.all (· < 256) = true) (hl : a.length + 2 ≤ sizeLine) : evMt .split (.str (S a)) [.str (S b)] M = .ok (.lst ((TL.spl b 0 [] a).map fun x => D.str (S x))) M := by
  show R.when (!((S b).length == 0) && decide ((S a).length + 2 ≤ sizeLine)) (R.ok (D.lst ((Txt.split (S a) (S b)).map D.str)) M) = _
  rw [S_len, S_len, split_S hb hk, decide_eq_true hl]
  have : (b.length == 0) = false := by cases b <;> simp at hb ⊢
  rw [this, List.map_map]
  rfl
theorem dash_nm {i : Int} : (45 : Nat) ∉ nm i := TL.numL_free (.inl (by decide))
theorem sp_nm {i : Int} : (32 : Nat) ∉ nm i := TL.numL_free (.inl (by decide))
theorem spl_pw (p : Int × Int) : TL.spl [45] 0 [] (pw p) = [nm p.1, nm p.2] := TL.spl_join (parts := [nm p.1, nm p.2]) (by simp) (fun q hq => by
  rcases List.mem_cons.mp hq with rfl | hq
  · exact dash_nm
  · rw [List.mem_singleton.mp hq]
    exact dash_nm)
theorem pw_len {p : Int × Int} (h1 : okN p.1) (h2 : okN p.2) : (pw p).length ≤ 27 := by
  have a := nm_len h1.1 (by decide) h1.2
  have b := nm_len h2.1 (by decide) h2.2
  unfold pw
  simp
  omega
theorem fsl {x : List Nat} : D.str (S x) = D.str (S x) := rfl
theorem pair_ok (p : Int × Int) (h1 : okN p.1) (h2 : okN p.2) : C w (n + 3) f_pair_in [.str (S (pw p))] M = .ok (pD p) M := by
  refine (call_eq (d := ⟨b_pair_in, 3⟩) rfl rfl).trans ?_
  have e1 : callF (tabOf ts) (fsOf ds) w (n + 2) 15 [.str (S (nm p.1))] [] = _ := count_ok (w := w) (n := n) (M := []) p.1 h1.1 h1.2
  have e2 : callF (tabOf ts) (fsOf ds) w (n + 2) 15 [.str (S (nm p.2))] [] = _ := count_ok (w := w) (n := n) (M := []) p.2 h2.1 h2.2
  have hl := pw_len h1 h2
  have q : ((TL.spl [45] 0 [] (pw p)).map fun x => D.str (S x)) = [p.1, p.2].map fun i => D.str (S (nm i)) := by rw [spl_pw]; rfl
  simp only [exs_c, exs_n, ex, ev, evs, evSq, evAnd, evOr, evF, evO, evC, evI, asg, asgs, evT, Cn.d, bind_ok, bind_bad, bind_err, bind_ite, exS_ok, exS_bad, exS_ite, seq_nx, seq_ret, seq_brk, seq_cont, seq_bad, seq_ite, fin_ret, fin_nx, fin_bad, fin_ite, of_some, of_none, when_t, calm_ok, add_i, sub_i, add_s, mul_i, div_i, mod_i, pow_i, aug_add, aug_sub, eq_i, ne_i, eq_s, ne_s, eq_b, ne_b, lt_i, le_i, gt_i, ge_i, is_n, isnot_n, tr_b, tr_i, tr_t, tr_l, tr_n, asInt_i, asStr_s, asStr_i, asStr_t, asBl_b, asTup_t, isNon_n, isNon_i, isNon_s, isNon_t, isNon_l, startE, parSet, wipeE, List.map_cons, List.map_nil, List.length_cons, List.length_nil, Nat.reduceAdd, Nat.reduceSub, List.replicate, List.cons_append, List.nil_append, List.append_nil, List.getElem?_cons_zero, List.getElem?_cons_succ, List.set_cons_zero, List.set_cons_succ, if_true, if_false, Bool.false_eq_true, Bool.true_and, Bool.and_true, Bool.not_true, Bool.not_false, Nat.reduceBEq, BEq.rfl, Option.isSome_some, Option.isSome_none, reduceIte, reduceCtorEq, decide_true, decide_false, b_pair_in, lit_dash, split_s (a := pw p) (b := [45]) (by simp) rfl (by have := big640; omega), q, walk_l]
  rw [← List.map_nil (f := fun i => D.str (S (nm i))), ← List.map_cons (f := fun i => D.str (S (nm i))), ← List.map_cons (f := fun i => D.str (S (nm i))), lc_map (h := D.int)]
  · simp only [exs_c, exs_n, ex, ev, evs, evSq, evAnd, evOr, evF, evO, evC, evI, asg, asgs, evT, Cn.d, bind_ok, bind_bad, bind_err, bind_ite, exS_ok, exS_bad, exS_ite, seq_nx, seq_ret, seq_brk, seq_cont, seq_bad, seq_ite, fin_ret, fin_nx, fin_bad, fin_ite, of_some, of_none, when_t, calm_ok, add_i, sub_i, add_s, mul_i, div_i, mod_i, pow_i, aug_add, aug_sub, eq_i, ne_i, eq_s, ne_s, eq_b, ne_b, lt_i, le_i, gt_i, ge_i, is_n, isnot_n, tr_b, tr_i, tr_t, tr_l, tr_n, asInt_i, asStr_s, asStr_i, asStr_t, asBl_b, asTup_t, isNon_n, isNon_i, isNon_s, isNon_t, isNon_l, startE, parSet, wipeE, List.map_cons, List.map_nil, List.length_cons, List.length_nil, Nat.reduceAdd, Nat.reduceSub, List.replicate, List.cons_append, List.nil_append, List.append_nil, List.getElem?_cons_zero, List.getElem?_cons_succ, List.set_cons_zero, List.set_cons_succ, if_true, if_false, Bool.false_eq_true, Bool.true_and, Bool.and_true, Bool.not_true, Bool.not_false, Nat.reduceBEq, BEq.rfl, Option.isSome_some, Option.isSome_none, reduceIte, reduceCtorEq, decide_true, decide_false, lcEnd]
    rfl
  · intro i hi
    rcases List.mem_cons.mp hi with rfl | hi
    · simp only [exs_c, exs_n, ex, ev, evs, evSq, evAnd, evOr, evF, evO, evC, evI, asg, asgs, evT, Cn.d, bind_ok, bind_bad, bind_err, bind_ite, exS_ok, exS_bad, exS_ite, seq_nx, seq_ret, seq_brk, seq_cont, seq_bad, seq_ite, fin_ret, fin_nx, fin_bad, fin_ite, of_some, of_none, when_t, calm_ok, add_i, sub_i, add_s, mul_i, div_i, mod_i, pow_i, aug_add, aug_sub, eq_i, ne_i, eq_s, ne_s, eq_b, ne_b, lt_i, le_i, gt_i, ge_i, is_n, isnot_n, tr_b, tr_i, tr_t, tr_l, tr_n, asInt_i, asStr_s, asStr_i, asStr_t, asBl_b, asTup_t, isNon_n, isNon_i, isNon_s, isNon_t, isNon_l, startE, parSet, wipeE, List.map_cons, List.map_nil, List.length_cons, List.length_nil, Nat.reduceAdd, Nat.reduceSub, List.replicate, List.cons_append, List.nil_append, List.append_nil, List.getElem?_cons_zero, List.getElem?_cons_succ, List.set_cons_zero, List.set_cons_succ, if_true, if_false, Bool.false_eq_true, Bool.true_and, Bool.and_true, Bool.not_true, Bool.not_false, Nat.reduceBEq, BEq.rfl, Option.isSome_some, Option.isSome_none, reduceIte, reduceCtorEq, decide_true, decide_false, e1, pcall_ok (show pureL [D.str (S (nm p.1))] = true from rfl) (show (D.int p.1).pure = true from rfl)]
    · rw [List.mem_singleton.mp hi]
      simp only [exs_c, exs_n, ex, ev, evs, evSq, evAnd, evOr, evF, evO, evC, evI, asg, asgs, evT, Cn.d, bind_ok, bind_bad, bind_err, bind_ite, exS_ok, exS_bad, exS_ite, seq_nx, seq_ret, seq_brk, seq_cont, seq_bad, seq_ite, fin_ret, fin_nx, fin_bad, fin_ite, of_some, of_none, when_t, calm_ok, add_i, sub_i, add_s, mul_i, div_i, mod_i, pow_i, aug_add, aug_sub, eq_i, ne_i, eq_s, ne_s, eq_b, ne_b, lt_i, le_i, gt_i, ge_i, is_n, isnot_n, tr_b, tr_i, tr_t, tr_l, tr_n, asInt_i, asStr_s, asStr_i, asStr_t, asBl_b, asTup_t, isNon_n, isNon_i, isNon_s, isNon_t, isNon_l, startE, parSet, wipeE, List.map_cons, List.map_nil, List.length_cons, List.length_nil, Nat.reduceAdd, Nat.reduceSub, List.replicate, List.cons_append, List.nil_append, List.append_nil, List.getElem?_cons_zero, List.getElem?_cons_succ, List.set_cons_zero, List.set_cons_succ, if_true, if_false, Bool.false_eq_true, Bool.true_and, Bool.and_true, Bool.not_true, Bool.not_false, Nat.reduceBEq, BEq.rfl, Option.isSome_some, Option.isSome_none, reduceIte, reduceCtorEq, decide_true, decide_false, e2, pcall_ok (show pureL [D.str (S (nm p.2))] = true from rfl) (show (D.int p.2).pure = true from rfl)]
  · have := big640
    simp
    omega
theorem pair_no (c : Nat) (l : List Nat) (hc : c ≠ 45) (hd : c ∉ dig) (hm : 45 ∉ l) (hl : l.length ≤ 12) : C w (n + 3) f_pair_in [.str (S (c :: l))] M = .ok .non M := by
  refine (call_eq (d := ⟨b_pair_in, 3⟩) rfl rfl).trans ?_
  have e1 : callF (tabOf ts) (fsOf ds) w (n + 2) 15 [.str (S (c :: l))] [] = _ := count_no (w := w) (n := n) (M := []) c l hc hd hl
  have q : ((TL.spl [45] 0 [] (c :: l)).map fun x => D.str (S x)) = [()].map fun _ => D.str (S (c :: l)) := by
    have : TL.spl [45] 0 [] (c :: l) = [c :: l] := TL.spl_join (parts := [c :: l]) (by simp) (fun q hq => by
      rw [List.mem_singleton.mp hq]
      intro h
      rcases List.mem_cons.mp h with h | h
      · exact hc h.symm
      · exact hm h)
    rw [this]
    rfl
  simp only [exs_c, exs_n, ex, ev, evs, evSq, evAnd, evOr, evF, evO, evC, evI, asg, asgs, evT, Cn.d, bind_ok, bind_bad, bind_err, bind_ite, exS_ok, exS_bad, exS_ite, seq_nx, seq_ret, seq_brk, seq_cont, seq_bad, seq_ite, fin_ret, fin_nx, fin_bad, fin_ite, of_some, of_none, when_t, calm_ok, add_i, sub_i, add_s, mul_i, div_i, mod_i, pow_i, aug_add, aug_sub, eq_i, ne_i, eq_s, ne_s, eq_b, ne_b, lt_i, le_i, gt_i, ge_i, is_n, isnot_n, tr_b, tr_i, tr_t, tr_l, tr_n, asInt_i, asStr_s, asStr_i, asStr_t, asBl_b, asTup_t, isNon_n, isNon_i, isNon_s, isNon_t, isNon_l, startE, parSet, wipeE, List.map_cons, List.map_nil, List.length_cons, List.length_nil, Nat.reduceAdd, Nat.reduceSub, List.replicate, List.cons_append, List.nil_append, List.append_nil, List.getElem?_cons_zero, List.getElem?_cons_succ, List.set_cons_zero, List.set_cons_succ, if_true, if_false, Bool.false_eq_true, Bool.true_and, Bool.and_true, Bool.not_true, Bool.not_false, Nat.reduceBEq, BEq.rfl, Option.isSome_some, Option.isSome_none, reduceIte, reduceCtorEq, decide_true, decide_false, b_pair_in, lit_dash, split_s (a := c :: l) (b := [45]) (by simp) rfl (by have := big640; simp; omega), q, walk_l]
  rw [← List.map_nil (f := fun (_ : Unit) => D.str (S (c :: l))), ← List.map_cons (a := ()) (f := fun (_ : Unit) => D.str (S (c :: l))), lc_map (h := fun _ => D.non)]
  · simp only [exs_c, exs_n, ex, ev, evs, evSq, evAnd, evOr, evF, evO, evC, evI, asg, asgs, evT, Cn.d, bind_ok, bind_bad, bind_err, bind_ite, exS_ok, exS_bad, exS_ite, seq_nx, seq_ret, seq_brk, seq_cont, seq_bad, seq_ite, fin_ret, fin_nx, fin_bad, fin_ite, of_some, of_none, when_t, calm_ok, add_i, sub_i, add_s, mul_i, div_i, mod_i, pow_i, aug_add, aug_sub, eq_i, ne_i, eq_s, ne_s, eq_b, ne_b, lt_i, le_i, gt_i, ge_i, is_n, isnot_n, tr_b, tr_i, tr_t, tr_l, tr_n, asInt_i, asStr_s, asStr_i, asStr_t, asBl_b, asTup_t, isNon_n, isNon_i, isNon_s, isNon_t, isNon_l, startE, parSet, wipeE, List.map_cons, List.map_nil, List.length_cons, List.length_nil, Nat.reduceAdd, Nat.reduceSub, List.replicate, List.cons_append, List.nil_append, List.append_nil, List.getElem?_cons_zero, List.getElem?_cons_succ, List.set_cons_zero, List.set_cons_succ, if_true, if_false, Bool.false_eq_true, Bool.true_and, Bool.and_true, Bool.not_true, Bool.not_false, Nat.reduceBEq, BEq.rfl, Option.isSome_some, Option.isSome_none, reduceIte, reduceCtorEq, decide_true, decide_false, lcEnd]
    rfl
  · intro i hi
    simp only [exs_c, exs_n, ex, ev, evs, evSq, evAnd, evOr, evF, evO, evC, evI, asg, asgs, evT, Cn.d, bind_ok, bind_bad, bind_err, bind_ite, exS_ok, exS_bad, exS_ite, seq_nx, seq_ret, seq_brk, seq_cont, seq_bad, seq_ite, fin_ret, fin_nx, fin_bad, fin_ite, of_some, of_none, when_t, calm_ok, add_i, sub_i, add_s, mul_i, div_i, mod_i, pow_i, aug_add, aug_sub, eq_i, ne_i, eq_s, ne_s, eq_b, ne_b, lt_i, le_i, gt_i, ge_i, is_n, isnot_n, tr_b, tr_i, tr_t, tr_l, tr_n, asInt_i, asStr_s, asStr_i, asStr_t, asBl_b, asTup_t, isNon_n, isNon_i, isNon_s, isNon_t, isNon_l, startE, parSet, wipeE, List.map_cons, List.map_nil, List.length_cons, List.length_nil, Nat.reduceAdd, Nat.reduceSub, List.replicate, List.cons_append, List.nil_append, List.append_nil, List.getElem?_cons_zero, List.getElem?_cons_succ, List.set_cons_zero, List.set_cons_succ, if_true, if_false, Bool.false_eq_true, Bool.true_and, Bool.and_true, Bool.not_true, Bool.not_false, Nat.reduceBEq, BEq.rfl, Option.isSome_some, Option.isSome_none, reduceIte, reduceCtorEq, decide_true, decide_false, e1, pcall_ok (show pureL [D.str (S (c :: l))] = true from rfl) (show D.non.pure = true from rfl)]
  · have := big640
    simp
    omega
def sgn (facing : Str) : Nat := if facing == "left" then 60 else 62
theorem tab_gt : ((tabOf ts) 0).lookup (S [62]) = some (.str "right") := by decide +kernel
theorem tab_lt : ((tabOf ts) 0).lookup (S [60]) = some (.str "left") := by decide +kernel
theorem asStr_S {l : List Nat} : asStr (.str (S l)) = some (S l) := rfl
theorem walker_ok (place : Int) (facing : Str) (hf : facing = "right" ∨ facing = "left") (h1 : okN place) : C w (n + 3) f_walker_in [.str (S (sgn facing :: nm place))] M = .ok (.tup [.int place, .str facing]) M := by
  refine (call_eq (d := ⟨b_walker_in, 2⟩) rfl rfl).trans ?_
  have e1 : callF (tabOf ts) (fsOf ds) w (n + 2) 15 [.str (S (nm place))] [] = _ := count_ok (w := w) (n := n) (M := []) place h1.1 h1.2
  have l13 := nm_len h1.1 (by decide) h1.2
  have lz : (sgn facing :: nm place).length ≤ sizeLine := by have := big640; simp; omega
  have t : ((tabOf ts) 0).lookup (S [sgn facing]) = some (.str facing) := by
    rcases hf with rfl | rfl
    · exact tab_gt
    · exact tab_lt
  have tk : List.take 1 (sgn facing :: nm place) = [sgn facing] := rfl
  generalize sgn facing = c at *
  simp only [exs_c, exs_n, ex, ev, evs, evSq, evAnd, evOr, evF, evO, evC, evI, asg, asgs, evT, Cn.d, bind_ok, bind_bad, bind_err, bind_ite, exS_ok, exS_bad, exS_ite, seq_nx, seq_ret, seq_brk, seq_cont, seq_bad, seq_ite, fin_ret, fin_nx, fin_bad, fin_ite, of_some, of_none, when_t, calm_ok, add_i, sub_i, add_s, mul_i, div_i, mod_i, pow_i, aug_add, aug_sub, eq_i, ne_i, eq_s, ne_s, eq_b, ne_b, lt_i, le_i, gt_i, ge_i, is_n, isnot_n, tr_b, tr_i, tr_t, tr_l, tr_n, asInt_i, asStr_s, asStr_i, asStr_t, asBl_b, asTup_t, isNon_n, isNon_i, isNon_s, isNon_t, isNon_l, startE, parSet, wipeE, List.map_cons, List.map_nil, List.length_cons, List.length_nil, Nat.reduceAdd, Nat.reduceSub, List.replicate, List.cons_append, List.nil_append, List.append_nil, List.getElem?_cons_zero, List.getElem?_cons_succ, List.set_cons_zero, List.set_cons_succ, if_true, if_false, Bool.false_eq_true, Bool.true_and, Bool.and_true, Bool.not_true, Bool.not_false, Nat.reduceBEq, BEq.rfl, Option.isSome_some, Option.isSome_none, reduceIte, reduceCtorEq, decide_true, decide_false, b_walker_in, sl_str (z := S (c :: nm place)) (by rw [S_len]; exact lz), cut_to1, cut_tl, tk, asStr_S, t, ix_s lz, e1, pcall_ok (show pureL [D.str (S (nm place))] = true from rfl) (show (D.int place).pure = true from rfl), when_dec (show (2 : Nat) ≤ sizeLine by decide)]
  rfl
theorem size_ok (i : Int) (h1 : 2 ≤ i) (h2 : i ≤ 1000000000000) : C w (n + 3) f_size_in [.str (S (nm i ++ [58]))] M = .ok (.int i) M := by
  refine (call_eq (d := ⟨b_size_in, 2⟩) rfl rfl).trans ?_
  have e1 : callF (tabOf ts) (fsOf ds) w (n + 2) 15 [.str (S (nm i))] [] = _ := count_ok (w := w) (n := n) (M := []) i (by omega) (by omega)
  have l13 := nm_len (i := i) (k := 13) (by omega) (by decide) (by omega)
  have lz : (nm i ++ [58]).length ≤ sizeLine := by have := big640; simp; omega
  have g1 : decide ((2 : Int) ≤ i) = true := decide_eq_true h1
  have g2 : decide (i ≤ (1000000000000 : Int)) = true := decide_eq_true h2
  simp only [exs_c, exs_n, ex, ev, evs, evSq, evAnd, evOr, evF, evO, evC, evI, asg, asgs, evT, Cn.d, bind_ok, bind_bad, bind_err, bind_ite, exS_ok, exS_bad, exS_ite, seq_nx, seq_ret, seq_brk, seq_cont, seq_bad, seq_ite, fin_ret, fin_nx, fin_bad, fin_ite, of_some, of_none, when_t, calm_ok, add_i, sub_i, add_s, mul_i, div_i, mod_i, pow_i, aug_add, aug_sub, eq_i, ne_i, eq_s, ne_s, eq_b, ne_b, lt_i, le_i, gt_i, ge_i, is_n, isnot_n, tr_b, tr_i, tr_t, tr_l, tr_n, asInt_i, asStr_s, asStr_i, asStr_t, asBl_b, asTup_t, isNon_n, isNon_i, isNon_s, isNon_t, isNon_l, startE, parSet, wipeE, List.map_cons, List.map_nil, List.length_cons, List.length_nil, Nat.reduceAdd, Nat.reduceSub, List.replicate, List.cons_append, List.nil_append, List.append_nil, List.getElem?_cons_zero, List.getElem?_cons_succ, List.set_cons_zero, List.set_cons_succ, if_true, if_false, Bool.false_eq_true, Bool.true_and, Bool.and_true, Bool.not_true, Bool.not_false, Nat.reduceBEq, BEq.rfl, Option.isSome_some, Option.isSome_none, reduceIte, reduceCtorEq, decide_true, decide_false, b_size_in, sl_str (z := S (nm i ++ [58])) (by rw [S_len]; exact lz), cut_init, cut_last, lit_col, beq_S, e1, pcall_ok (show pureL [D.str (S (nm i))] = true from rfl) (show (D.int i).pure = true from rfl), g1, g2]
end K79

namespace K79
open PySem TF SX L2
variable {w n : Nat} {M : List MO}
theorem pow1900 : (10 ^ 13 : Nat) < 2 ^ 1900 := by decide +kernel
theorem when_nat {α : Type} {i : Int} {r : R α} (h : okN i) : R.when (decide (i.natAbs < 2 ^ 1900)) r = r := when_dec (by
  have h1 := h.1
  have h2 := h.2
  have : i.natAbs < 10 ^ 13 := by omega
  exact Nat.lt_trans this pow1900)
theorem str_bi {i : Int} (h : okN i) : evBi .str [.int i] M = .ok (.str (S (nm i))) M := by
  show R.when (decide (i.natAbs < 2 ^ 1900)) (R.ok (D.str (Str.ofString (toString i))) M) = _
  rw [when_nat h, str_i h.1]
theorem line10000 : (10000 : Nat) ≤ sizeLine := by decide
theorem big_le {k : Nat} (h : k ≤ 10000) : k ≤ sizeLine := Nat.le_trans h line10000
theorem emp_S : Str.empty = S [] := rfl
theorem when_le {α : Type} {k : Nat} {r : R α} (h : k ≤ 10000) : R.when (decide (k ≤ sizeLine)) r = r := when_dec (big_le h)
theorem strs_map : ∀ l : List (List Nat), strsOf (l.map fun x => D.str (S x)) = some (l.map S)
  | [] => rfl
  | a :: l => by
    have e := strs_map l
    simp only [List.map_cons, strsOf, asStr_s, e]
theorem join_s {l : List (List Nat)} (h : (l.map (·.length)).sum + l.length ≤ 10000) : evMt .join (.str (S [32])) [.lst (l.map fun x => D.str (S x))] M = .ok (.str (S (TL.joinL [32] l))) M := by
  show (match strsOf (l.map fun x => D.str (S x)) with | some ys => R.when (decide ((ys.map (fun x : Str => x.length)).sum + ys.length * (S [32]).length ≤ 16777216)) (R.ok (D.str (Txt.join (S [32]) ys)) M) | none => .bad) = _
  rw [strs_map]
  dsimp only
  rw [lens, S_len, join_S, List.length_map]
  refine when_dec ?_
  simp
  omega
theorem joinL_len : ∀ l : List (List Nat), (TL.joinL [32] l).length ≤ (l.map (·.length)).sum + l.length
  | [] => by simp [TL.joinL]
  | [p] => by simp [TL.joinL]
  | p :: q :: r => by
    have := joinL_len (q :: r)
    simp [TL.joinL] at this ⊢
    omega
theorem joinL_snoc : ∀ (l : List (List Nat)) (x : List Nat), l ≠ [] → TL.joinL [32] (l ++ [x]) = TL.joinL [32] l ++ [32] ++ x
  | [], _, h => absurd rfl h
  | [p], x, _ => by simp [TL.joinL]
  | p :: q :: r, x, _ => by
    have := joinL_snoc (q :: r) x (by simp)
    simp [TL.joinL] at this ⊢
    rw [this]
theorem joinL_cons {a : List Nat} {l : List (List Nat)} (h : l ≠ []) : TL.joinL [32] (a :: l) = a ++ [32] ++ TL.joinL [32] l := by
  cases l with
  | nil => exact absurd rfl h
  | cons b r => simp [TL.joinL]
def okR (raised : Rs) : Prop := ∀ p ∈ raised, okN p.1 ∧ okN p.2
theorem pw_app (p : Int × Int) : nm p.1 ++ [45] ++ nm p.2 = pw p := by simp [pw]
theorem pws_len : ∀ {raised : Rs}, okR raised → ((raised.map pw).map (·.length)).sum ≤ 27 * raised.length
  | [], _ => by simp
  | p :: r, h => by
    have h1 := pws_len (raised := r) fun q hq => h q (List.mem_cons_of_mem _ hq)
    have h2 := pw_len (h p (List.mem_cons_self ..)).1 (h p (List.mem_cons_self ..)).2
    simp only [List.map_cons, List.sum_cons, List.length_cons]
    omega
theorem pw_pos (p : Int × Int) : 0 < (pw p).length := by unfold pw; simp; omega
def ptx (raised : Rs) : List Nat := if raised = [] then noneL else TL.joinL [32] (raised.map pw)
theorem joinL_pos {p : Int × Int} {r : Rs} : 0 < (TL.joinL [32] ((p :: r).map pw)).length := by
  have := pw_pos p
  cases r with
  | nil => simpa [TL.joinL] using this
  | cons q r =>
    simp [TL.joinL]
    omega
theorem ptx_len {raised : Rs} (h : okR raised) (hl : raised.length ≤ 41) : (ptx raised).length ≤ 1200 := by
  unfold ptx
  split
  · decide
  · have h1 := joinL_len (raised.map pw)
    have h2 := pws_len h
    simp only [List.length_map] at h1 h2
    omega
theorem cat_len {a b : List Nat} : (a ++ b).length = a.length + b.length := List.length_append
theorem or_text {raised : Rs} (h : okR raised) (hl : raised.length ≤ 41) : (R.of (trB M (.str (S (TL.joinL [32] (raised.map pw))))) M).bind (fun k M => if k then R.ok (D.str (S (TL.joinL [32] (raised.map pw)))) M else .ok (.str (S noneL)) M) = .ok (.str (S (ptx raised))) M := by
  have h1 := joinL_len (raised.map pw)
  have h2 := pws_len h
  simp only [List.length_map] at h1 h2
  have e1 := tr_s (M := M) (a := S (TL.joinL [32] (raised.map pw))) (by rw [S_len]; exact big_le (by omega))
  rw [e1, S_len]
  unfold ptx
  cases raised with
  | nil => rfl
  | cons p r =>
    have := joinL_pos (p := p) (r := r)
    have q : (((TL.joinL [32] ((p :: r).map pw)).length : Int) != 0) = true := by
      rw [bne_iff_ne]
      omega
    rw [q]
    rfl
theorem pairs_text_ok (raised : Rs) (h : okR raised) (hl : raised.length ≤ 41) : C w (n + 1) f_pairs_text [.tup (raised.map pD)] M = .ok (.str (S (ptx raised))) M := by
  refine (call_eq (d := ⟨b_pairs_text, 3⟩) rfl rfl).trans ?_
  have h2 := pws_len h
  simp only [exs_c, exs_n, ex, ev, evs, evSq, evAnd, evOr, evF, evO, evC, evI, asg, asgs, evT, Cn.d, bind_ok, bind_bad, bind_err, bind_ite, exS_ok, exS_bad, exS_ite, seq_nx, seq_ret, seq_brk, seq_cont, seq_bad, seq_ite, fin_ret, fin_nx, fin_bad, fin_ite, of_some, of_none, when_t, calm_ok, add_i, sub_i, add_s, mul_i, div_i, mod_i, pow_i, aug_add, aug_sub, eq_i, ne_i, eq_s, ne_s, eq_b, ne_b, lt_i, le_i, gt_i, ge_i, is_n, isnot_n, tr_b, tr_i, tr_t, tr_l, tr_n, asInt_i, asStr_s, asStr_i, asStr_t, asBl_b, asTup_t, isNon_n, isNon_i, isNon_s, isNon_t, isNon_l, startE, parSet, wipeE, List.map_cons, List.map_nil, List.length_cons, List.length_nil, Nat.reduceAdd, Nat.reduceSub, List.replicate, List.cons_append, List.nil_append, List.append_nil, List.getElem?_cons_zero, List.getElem?_cons_succ, List.set_cons_zero, List.set_cons_succ, if_true, if_false, Bool.false_eq_true, Bool.true_and, Bool.and_true, Bool.not_true, Bool.not_false, Nat.reduceBEq, BEq.rfl, Option.isSome_some, Option.isSome_none, reduceIte, reduceCtorEq, decide_true, decide_false, b_pairs_text, walk_t, lit_sp, lit_none]
  rw [lc_map (f := pD) (h := fun p => D.str (S (pw p)))]
  · have j := join_s (M := M) (l := raised.map pw) (by simp only [List.length_map] at h2 ⊢; omega)
    rw [List.map_map] at j
    have j : evMt .join (.str (S [32])) [.lst (raised.map fun p => D.str (S (pw p)))] M = _ := j
    simp only [exs_c, exs_n, ex, ev, evs, evSq, evAnd, evOr, evF, evO, evC, evI, asg, asgs, evT, Cn.d, bind_ok, bind_bad, bind_err, bind_ite, exS_ok, exS_bad, exS_ite, seq_nx, seq_ret, seq_brk, seq_cont, seq_bad, seq_ite, fin_ret, fin_nx, fin_bad, fin_ite, of_some, of_none, when_t, calm_ok, add_i, sub_i, add_s, mul_i, div_i, mod_i, pow_i, aug_add, aug_sub, eq_i, ne_i, eq_s, ne_s, eq_b, ne_b, lt_i, le_i, gt_i, ge_i, is_n, isnot_n, tr_b, tr_i, tr_t, tr_l, tr_n, asInt_i, asStr_s, asStr_i, asStr_t, asBl_b, asTup_t, isNon_n, isNon_i, isNon_s, isNon_t, isNon_l, startE, parSet, wipeE, List.map_cons, List.map_nil, List.length_cons, List.length_nil, Nat.reduceAdd, Nat.reduceSub, List.replicate, List.cons_append, List.nil_append, List.append_nil, List.getElem?_cons_zero, List.getElem?_cons_succ, List.set_cons_zero, List.set_cons_succ, if_true, if_false, Bool.false_eq_true, Bool.true_and, Bool.and_true, Bool.not_true, Bool.not_false, Nat.reduceBEq, BEq.rfl, Option.isSome_some, Option.isSome_none, reduceIte, reduceCtorEq, decide_true, decide_false, lcEnd, j, asStr_S]
    rw [or_text h hl]
    rfl
  · intro p hp
    have hp := h p hp
    have l1 := nm_len hp.1.1 (by decide) hp.1.2
    have l2 := nm_len hp.2.1 (by decide) hp.2.2
    simp only [exs_c, exs_n, ex, ev, evs, evSq, evAnd, evOr, evF, evO, evC, evI, asg, asgs, evT, Cn.d, bind_ok, bind_bad, bind_err, bind_ite, exS_ok, exS_bad, exS_ite, seq_nx, seq_ret, seq_brk, seq_cont, seq_bad, seq_ite, fin_ret, fin_nx, fin_bad, fin_ite, of_some, of_none, when_t, calm_ok, add_i, sub_i, add_s, mul_i, div_i, mod_i, pow_i, aug_add, aug_sub, eq_i, ne_i, eq_s, ne_s, eq_b, ne_b, lt_i, le_i, gt_i, ge_i, is_n, isnot_n, tr_b, tr_i, tr_t, tr_l, tr_n, asInt_i, asStr_s, asStr_i, asStr_t, asBl_b, asTup_t, isNon_n, isNon_i, isNon_s, isNon_t, isNon_l, startE, parSet, wipeE, List.map_cons, List.map_nil, List.length_cons, List.length_nil, Nat.reduceAdd, Nat.reduceSub, List.replicate, List.cons_append, List.nil_append, List.append_nil, List.getElem?_cons_zero, List.getElem?_cons_succ, List.set_cons_zero, List.set_cons_succ, if_true, if_false, Bool.false_eq_true, Bool.true_and, Bool.and_true, Bool.not_true, Bool.not_false, Nat.reduceBEq, BEq.rfl, Option.isSome_some, Option.isSome_none, reduceIte, reduceCtorEq, decide_true, decide_false, asTup_pD, when_nat hp.1, when_nat hp.2, str_i hp.1.1, str_i hp.2.1, S_len, emp_S, S_cat, lit_dash, when_le (show (nm p.1).length ≤ 10000 by omega), when_le (show (nm p.2).length ≤ 10000 by omega), when_le (show (nm p.1 ++ [45]).length ≤ 10000 by rw [cat_len]; simp; omega), when_le (show (nm p.1 ++ [45] ++ nm p.2).length ≤ 10000 by rw [cat_len, cat_len]; simp; omega)]
    rw [pw_app]
  · exact big_le (by simp; omega)
def stx (size : Int) (raised : Rs) (place : Int) (facing : Str) : List Nat := nm size ++ [58, 32] ++ ptx raised ++ [32] ++ [sgn facing] ++ nm place
theorem rl_s : (("right" : Str) == "left") = false := by decide +kernel
theorem ll_s : (("left" : Str) == "left") = true := by decide +kernel
theorem state_text_ok (size place : Int) (raised : Rs) (facing : Str) (hs : okN size) (hp : okN place) (h : okR raised) (hl : raised.length ≤ 41) (hf : facing = "right" ∨ facing = "left") : C w (n + 2) f_state_text [stD size raised place facing] M = .ok (.str (S (stx size raised place facing))) M := by
  refine (call_eq (d := ⟨b_state_text, 6⟩) rfl rfl).trans ?_
  have e1 : callF (tabOf ts) (fsOf ds) w (n + 1) 19 [.tup (raised.map pD)] [] = _ := pairs_text_ok (w := w) (n := n) (M := []) raised h hl
  have l1 := nm_len hs.1 (by decide) hs.2
  have l2 := nm_len hp.1 (by decide) hp.2
  have l3 := ptx_len h hl
  have pc := pcall_ok (M := M) (M' := []) (show pureL [D.tup (raised.map pD)] = true by simp [pureL, D.pure, pure_pD]) (show (D.str (S (ptx raised))).pure = true from rfl)
  have w1 : ∀ c : Nat, (nm size ++ [58, 32] ++ ptx raised ++ [32] ++ [c] ++ nm place).length ≤ 10000 := fun c => by simp [cat_len]; omega
  have k1 : (nm size).length ≤ 10000 := by omega
  have k2 : (nm size ++ [58, 32]).length ≤ 10000 := by simp [cat_len]; omega
  have k3 : (nm size ++ [58, 32] ++ ptx raised).length ≤ 10000 := by simp [cat_len]; omega
  have k4 : (nm size ++ [58, 32] ++ ptx raised ++ [32]).length ≤ 10000 := by simp [cat_len]; omega
  have k5 : ∀ c : Nat, (nm size ++ [58, 32] ++ ptx raised ++ [32] ++ [c]).length ≤ 10000 := fun c => by simp [cat_len]; omega
  have k6 : (ptx raised).length ≤ 10000 := by omega
  have k7 : (nm place).length ≤ 10000 := by omega
  have k8 : ∀ c : Nat, [c].length ≤ 10000 := fun c => by simp
  unfold stx
  rcases hf with rfl | rfl
  · have sg : sgn "right" = 62 := by unfold sgn; rw [rl_s]; rfl
    rw [sg]
    simp only [exs_c, exs_n, ex, ev, evs, evSq, evAnd, evOr, evF, evO, evC, evI, asg, asgs, evT, Cn.d, bind_ok, bind_bad, bind_err, bind_ite, exS_ok, exS_bad, exS_ite, seq_nx, seq_ret, seq_brk, seq_cont, seq_bad, seq_ite, fin_ret, fin_nx, fin_bad, fin_ite, of_some, of_none, when_t, calm_ok, add_i, sub_i, add_s, mul_i, div_i, mod_i, pow_i, aug_add, aug_sub, eq_i, ne_i, eq_s, ne_s, eq_b, ne_b, lt_i, le_i, gt_i, ge_i, is_n, isnot_n, tr_b, tr_i, tr_t, tr_l, tr_n, asInt_i, asStr_s, asStr_i, asStr_t, asBl_b, asTup_t, isNon_n, isNon_i, isNon_s, isNon_t, isNon_l, startE, parSet, wipeE, List.map_cons, List.map_nil, List.length_cons, List.length_nil, Nat.reduceAdd, Nat.reduceSub, List.replicate, List.cons_append, List.nil_append, List.append_nil, List.getElem?_cons_zero, List.getElem?_cons_succ, List.set_cons_zero, List.set_cons_succ, if_true, if_false, Bool.false_eq_true, Bool.true_and, Bool.and_true, Bool.not_true, Bool.not_false, Nat.reduceBEq, BEq.rfl, Option.isSome_some, Option.isSome_none, reduceIte, reduceCtorEq, decide_true, decide_false, b_state_text, asTup_st, rl_s, e1, pc, lit_cs, lit_sp, lit_gt, emp_S, S_cat, S_len, when_nat hs, when_nat hp, str_i hs.1, str_i hp.1, when_le k1, when_le k2, when_le k3, when_le k4, when_le (k5 62), when_le (w1 62), when_le k6, when_le k7]
    have z : R.when (α := D) (decide (1 ≤ sizeLine)) = id := by funext r; exact when_dec (by decide)
    simp only [z, id]
    simp only [exs_c, exs_n, ex, ev, evs, evSq, evAnd, evOr, evF, evO, evC, evI, asg, asgs, evT, Cn.d, bind_ok, bind_bad, bind_err, bind_ite, exS_ok, exS_bad, exS_ite, seq_nx, seq_ret, seq_brk, seq_cont, seq_bad, seq_ite, fin_ret, fin_nx, fin_bad, fin_ite, of_some, of_none, when_t, calm_ok, add_i, sub_i, add_s, mul_i, div_i, mod_i, pow_i, aug_add, aug_sub, eq_i, ne_i, eq_s, ne_s, eq_b, ne_b, lt_i, le_i, gt_i, ge_i, is_n, isnot_n, tr_b, tr_i, tr_t, tr_l, tr_n, asInt_i, asStr_s, asStr_i, asStr_t, asBl_b, asTup_t, isNon_n, isNon_i, isNon_s, isNon_t, isNon_l, startE, parSet, wipeE, List.map_cons, List.map_nil, List.length_cons, List.length_nil, Nat.reduceAdd, Nat.reduceSub, List.replicate, List.cons_append, List.nil_append, List.append_nil, List.getElem?_cons_zero, List.getElem?_cons_succ, List.set_cons_zero, List.set_cons_succ, if_true, if_false, Bool.false_eq_true, Bool.true_and, Bool.and_true, Bool.not_true, Bool.not_false, Nat.reduceBEq, BEq.rfl, Option.isSome_some, Option.isSome_none, reduceIte, reduceCtorEq, decide_true, decide_false, S_cat, S_len, when_le (k5 62), when_le (w1 62), k6, k7, lit_sp]
  · have sg : sgn "left" = 60 := by unfold sgn; rw [ll_s]; rfl
    rw [sg]
    simp only [exs_c, exs_n, ex, ev, evs, evSq, evAnd, evOr, evF, evO, evC, evI, asg, asgs, evT, Cn.d, bind_ok, bind_bad, bind_err, bind_ite, exS_ok, exS_bad, exS_ite, seq_nx, seq_ret, seq_brk, seq_cont, seq_bad, seq_ite, fin_ret, fin_nx, fin_bad, fin_ite, of_some, of_none, when_t, calm_ok, add_i, sub_i, add_s, mul_i, div_i, mod_i, pow_i, aug_add, aug_sub, eq_i, ne_i, eq_s, ne_s, eq_b, ne_b, lt_i, le_i, gt_i, ge_i, is_n, isnot_n, tr_b, tr_i, tr_t, tr_l, tr_n, asInt_i, asStr_s, asStr_i, asStr_t, asBl_b, asTup_t, isNon_n, isNon_i, isNon_s, isNon_t, isNon_l, startE, parSet, wipeE, List.map_cons, List.map_nil, List.length_cons, List.length_nil, Nat.reduceAdd, Nat.reduceSub, List.replicate, List.cons_append, List.nil_append, List.append_nil, List.getElem?_cons_zero, List.getElem?_cons_succ, List.set_cons_zero, List.set_cons_succ, if_true, if_false, Bool.false_eq_true, Bool.true_and, Bool.and_true, Bool.not_true, Bool.not_false, Nat.reduceBEq, BEq.rfl, Option.isSome_some, Option.isSome_none, reduceIte, reduceCtorEq, decide_true, decide_false, b_state_text, asTup_st, ll_s, e1, pc, lit_cs, lit_sp, lit_lt, emp_S, S_cat, S_len, when_nat hs, when_nat hp, str_i hs.1, str_i hp.1, when_le k1, when_le k2, when_le k3, when_le k4, when_le (k5 60), when_le (w1 60), when_le k6, when_le k7]
    have z : R.when (α := D) (decide (1 ≤ sizeLine)) = id := by funext r; exact when_dec (by decide)
    simp only [z, id]
    simp only [exs_c, exs_n, ex, ev, evs, evSq, evAnd, evOr, evF, evO, evC, evI, asg, asgs, evT, Cn.d, bind_ok, bind_bad, bind_err, bind_ite, exS_ok, exS_bad, exS_ite, seq_nx, seq_ret, seq_brk, seq_cont, seq_bad, seq_ite, fin_ret, fin_nx, fin_bad, fin_ite, of_some, of_none, when_t, calm_ok, add_i, sub_i, add_s, mul_i, div_i, mod_i, pow_i, aug_add, aug_sub, eq_i, ne_i, eq_s, ne_s, eq_b, ne_b, lt_i, le_i, gt_i, ge_i, is_n, isnot_n, tr_b, tr_i, tr_t, tr_l, tr_n, asInt_i, asStr_s, asStr_i, asStr_t, asBl_b, asTup_t, isNon_n, isNon_i, isNon_s, isNon_t, isNon_l, startE, parSet, wipeE, List.map_cons, List.map_nil, List.length_cons, List.length_nil, Nat.reduceAdd, Nat.reduceSub, List.replicate, List.cons_append, List.nil_append, List.append_nil, List.getElem?_cons_zero, List.getElem?_cons_succ, List.set_cons_zero, List.set_cons_succ, if_true, if_false, Bool.false_eq_true, Bool.true_and, Bool.and_true, Bool.not_true, Bool.not_false, Nat.reduceBEq, BEq.rfl, Option.isSome_some, Option.isSome_none, reduceIte, reduceCtorEq, decide_true, decide_false, S_cat, S_len, when_le (k5 60), when_le (w1 60), k6, k7, lit_sp]
theorem add_S {a b : List Nat} (h : a.length + b.length ≤ 10000) : evOp .add (.str (S a)) (.str (S b)) M = .ok (.str (S (a ++ b))) M := by
  rw [add_s, S_len, S_len, S_cat]
  exact when_le h
theorem law_text_ok (size place : Int) (raised : Rs) (facing : Str) (hs : okN size) (hp : okN place) (h : okR raised) (hl : raised.length ≤ 41) (hf : facing = "right" ∨ facing = "left") : C w (n + 1) f_law_text [stD size raised place facing] M = .ok (.str (S (stx size raised place facing))) M := by
  refine (call_eq (d := ⟨b_law_text, 8⟩) rfl rfl).trans ?_
  have l1 := nm_len hs.1 (by decide) hs.2
  have l2 := nm_len hp.1 (by decide) hp.2
  have l3 := ptx_len h hl
  have h2 := pws_len h
  unfold b_law_text
  rw [exs_c]
  refine step (e := [some (stD size raised place facing), some (.int size), some (.tup (raised.map pD)), some (.int place), some (.str facing), none, none, none]) (M := M) (by simp only [exs_c, exs_n, ex, ev, evs, evSq, evAnd, evOr, evF, evO, evC, evI, asg, asgs, evT, Cn.d, bind_ok, bind_bad, bind_err, bind_ite, exS_ok, exS_bad, exS_ite, seq_nx, seq_ret, seq_brk, seq_cont, seq_bad, seq_ite, fin_ret, fin_nx, fin_bad, fin_ite, of_some, of_none, when_t, calm_ok, add_i, sub_i, add_s, mul_i, div_i, mod_i, pow_i, aug_add, aug_sub, eq_i, ne_i, eq_s, ne_s, eq_b, ne_b, lt_i, le_i, gt_i, ge_i, is_n, isnot_n, tr_b, tr_i, tr_t, tr_l, tr_n, asInt_i, asStr_s, asStr_i, asStr_t, asBl_b, asTup_t, isNon_n, isNon_i, isNon_s, isNon_t, isNon_l, startE, parSet, wipeE, List.map_cons, List.map_nil, List.length_cons, List.length_nil, Nat.reduceAdd, Nat.reduceSub, List.replicate, List.cons_append, List.nil_append, List.append_nil, List.getElem?_cons_zero, List.getElem?_cons_succ, List.set_cons_zero, List.set_cons_succ, if_true, if_false, Bool.false_eq_true, Bool.true_and, Bool.and_true, Bool.not_true, Bool.not_false, Nat.reduceBEq, BEq.rfl, Option.isSome_some, Option.isSome_none, reduceIte, reduceCtorEq, decide_true, decide_false, asTup_st]) ?_
  rw [exs_c]
  refine step (e := [some (stD size raised place facing), some (.int size), some (.tup (raised.map pD)), some (.int place), some (.str facing), some (.str (S (ptx raised))), none, none]) (M := M) ?_ ?_
  · simp only [exs_c, exs_n, ex, ev, evs, evSq, evAnd, evOr, evF, evO, evC, evI, asg, asgs, evT, Cn.d, bind_ok, bind_bad, bind_err, bind_ite, exS_ok, exS_bad, exS_ite, seq_nx, seq_ret, seq_brk, seq_cont, seq_bad, seq_ite, fin_ret, fin_nx, fin_bad, fin_ite, of_some, of_none, when_t, calm_ok, add_i, sub_i, add_s, mul_i, div_i, mod_i, pow_i, aug_add, aug_sub, eq_i, ne_i, eq_s, ne_s, eq_b, ne_b, lt_i, le_i, gt_i, ge_i, is_n, isnot_n, tr_b, tr_i, tr_t, tr_l, tr_n, asInt_i, asStr_s, asStr_i, asStr_t, asBl_b, asTup_t, isNon_n, isNon_i, isNon_s, isNon_t, isNon_l, startE, parSet, wipeE, List.map_cons, List.map_nil, List.length_cons, List.length_nil, Nat.reduceAdd, Nat.reduceSub, List.replicate, List.cons_append, List.nil_append, List.append_nil, List.getElem?_cons_zero, List.getElem?_cons_succ, List.set_cons_zero, List.set_cons_succ, if_true, if_false, Bool.false_eq_true, Bool.true_and, Bool.and_true, Bool.not_true, Bool.not_false, Nat.reduceBEq, BEq.rfl, Option.isSome_some, Option.isSome_none, reduceIte, reduceCtorEq, decide_true, decide_false, walk_t, lit_sp, lit_none]
    rw [lc_map (f := pD) (h := fun p => D.str (S (pw p)))]
    · have j := join_s (M := M) (l := raised.map pw) (by simp only [List.length_map] at h2 ⊢; omega)
      rw [List.map_map] at j
      have j : evMt .join (.str (S [32])) [.lst (raised.map fun p => D.str (S (pw p)))] M = _ := j
      simp only [exs_c, exs_n, ex, ev, evs, evSq, evAnd, evOr, evF, evO, evC, evI, asg, asgs, evT, Cn.d, bind_ok, bind_bad, bind_err, bind_ite, exS_ok, exS_bad, exS_ite, seq_nx, seq_ret, seq_brk, seq_cont, seq_bad, seq_ite, fin_ret, fin_nx, fin_bad, fin_ite, of_some, of_none, when_t, calm_ok, add_i, sub_i, add_s, mul_i, div_i, mod_i, pow_i, aug_add, aug_sub, eq_i, ne_i, eq_s, ne_s, eq_b, ne_b, lt_i, le_i, gt_i, ge_i, is_n, isnot_n, tr_b, tr_i, tr_t, tr_l, tr_n, asInt_i, asStr_s, asStr_i, asStr_t, asBl_b, asTup_t, isNon_n, isNon_i, isNon_s, isNon_t, isNon_l, startE, parSet, wipeE, List.map_cons, List.map_nil, List.length_cons, List.length_nil, Nat.reduceAdd, Nat.reduceSub, List.replicate, List.cons_append, List.nil_append, List.append_nil, List.getElem?_cons_zero, List.getElem?_cons_succ, List.set_cons_zero, List.set_cons_succ, if_true, if_false, Bool.false_eq_true, Bool.true_and, Bool.and_true, Bool.not_true, Bool.not_false, Nat.reduceBEq, BEq.rfl, Option.isSome_some, Option.isSome_none, reduceIte, reduceCtorEq, decide_true, decide_false, lcEnd, j, asStr_S]
      rw [or_text h hl]
      rfl
    · intro p hp
      have hp := h p hp
      have l1 := nm_len hp.1.1 (by decide) hp.1.2
      have l2 := nm_len hp.2.1 (by decide) hp.2.2
      simp only [ev, evs, evC, asg, asgs, asTup_pD, bind_ok, calm_ok, wipeE, List.length_cons, List.getElem?_cons_zero, List.getElem?_cons_succ, List.set_cons_zero, List.set_cons_succ, if_true, str_bi hp.1, str_bi hp.2, Cn.d, lit_dash, add_S (show (nm p.1).length + [45].length ≤ 10000 by simp; omega), add_S (show (nm p.1 ++ [45]).length + (nm p.2).length ≤ 10000 by simp; omega), pw_app]
    · exact big_le (by simp; omega)
  · have k1 : (nm size).length + [58, 32].length ≤ 10000 := by simp; omega
    have k2 : (nm size ++ [58, 32]).length + (ptx raised).length ≤ 10000 := by simp [cat_len]; omega
    have k3 : (nm size ++ [58, 32] ++ ptx raised).length + [32].length ≤ 10000 := by simp [cat_len]; omega
    have k4 : ∀ c : Nat, (nm size ++ [58, 32] ++ ptx raised ++ [32]).length + [c].length ≤ 10000 := fun c => by simp [cat_len]; omega
    have k5 : ∀ c : Nat, (nm size ++ [58, 32] ++ ptx raised ++ [32] ++ [c]).length + (nm place).length ≤ 10000 := fun c => by simp [cat_len]; omega
    unfold stx
    have i0 : evIx (.lst [.str (S [62]), .str (S [60])]) (.int 0) M = .ok (.str (S [62])) M := rfl
    have i1 : evIx (.lst [.str (S [62]), .str (S [60])]) (.int 1) M = .ok (.str (S [60])) M := rfl
    have z2 : ∀ r : R D, R.when (decide (2 ≤ sizeLine)) r = r := fun r => when_dec (show (2 : Nat) ≤ sizeLine by decide)
    rcases hf with rfl | rfl
    · have sg : sgn "right" = 62 := by unfold sgn; rw [rl_s]; rfl
      rw [sg]
      simp only [exs_c, exs_n, ex, ev, evs, evSq, of_some, bind_ok, exS_ok, seq_ret, fin_ret, Cn.d, List.getElem?_cons_zero, List.getElem?_cons_succ, str_bi hs, str_bi hp, lit_cs, lit_sp, lit_gt, lit_lt, eq_s, rl_s, int_b, Bool.false_eq_true, if_false, if_true, List.cons_append, List.nil_append, List.length_cons, List.length_nil, Nat.reduceAdd, z2, i0, i1, add_S k1, add_S k2, add_S k3, add_S (k4 62), add_S (k5 62)]
    · have sg : sgn "left" = 60 := by unfold sgn; rw [ll_s]; rfl
      rw [sg]
      simp only [exs_c, exs_n, ex, ev, evs, evSq, of_some, bind_ok, exS_ok, seq_ret, fin_ret, Cn.d, List.getElem?_cons_zero, List.getElem?_cons_succ, str_bi hs, str_bi hp, lit_cs, lit_sp, lit_gt, lit_lt, eq_s, ll_s, int_b, Bool.false_eq_true, if_false, if_true, List.cons_append, List.nil_append, List.length_cons, List.length_nil, Nat.reduceAdd, z2, i0, i1, add_S k1, add_S k2, add_S k3, add_S (k4 60), add_S (k5 60)]
end K79

namespace K79
open PySem TF SX L2
variable {w n : Nat} {M : List MO}
def sw (x : List Nat) : D := .str (S x)
def mid (raised : Rs) : List (List Nat) := if raised = [] then [noneL] else raised.map pw
def wds (size : Int) (raised : Rs) (place : Int) (facing : Str) : List (List Nat) := (nm size ++ [58]) :: (mid raised ++ [sgn facing :: nm place])
theorem mid_ne (raised : Rs) : mid raised ≠ [] := by
  unfold mid
  split
  · simp
  · simpa
theorem mid_ptx (raised : Rs) : TL.joinL [32] (mid raised) = ptx raised := by
  unfold mid ptx
  split <;> rfl
theorem stx_join (size place : Int) (raised : Rs) (facing : Str) : TL.joinL [32] (wds size raised place facing) = stx size raised place facing := by
  unfold wds stx
  rw [joinL_cons (by simp), joinL_snoc _ _ (mid_ne raised), mid_ptx]
  simp
theorem sgn_cases (facing : Str) : sgn facing = 60 ∨ sgn facing = 62 := by
  unfold sgn
  split
  · exact .inl rfl
  · exact .inr rfl
theorem sp_pw (p : Int × Int) : (32 : Nat) ∉ pw p := by
  unfold pw
  intro h
  rcases List.mem_append.mp h with h | h
  · exact sp_nm h
  · rcases List.mem_cons.mp h with h | h
    · cases h
    · exact sp_nm h
theorem wds_free (size place : Int) (raised : Rs) (facing : Str) : ∀ q ∈ wds size raised place facing, (32 : Nat) ∉ q := by
  intro q hq
  rcases List.mem_cons.mp hq with rfl | hq
  · intro h
    rcases List.mem_append.mp h with h | h
    · exact sp_nm h
    · simp at h
  · rcases List.mem_append.mp hq with hq | hq
    · unfold mid at hq
      split at hq
      · rw [List.mem_singleton.mp hq]
        decide
      · obtain ⟨p, _, rfl⟩ := List.mem_map.mp hq
        exact sp_pw p
    · rw [List.mem_singleton.mp hq]
      intro h
      rcases List.mem_cons.mp h with h | h
      · rcases sgn_cases facing with e | e <;> (rw [e] at h; cases h)
      · exact sp_nm h
theorem stx_split (size place : Int) (raised : Rs) (facing : Str) : TL.spl [32] 0 [] (stx size raised place facing) = wds size raised place facing := by
  rw [← stx_join]
  exact TL.spl_join (by simp [wds]) (wds_free size place raised facing)
def rpTurn (w n : Nat) (x : D) (e : Ev) (M : List MO) : O := exS (asg ⟨C w n, tabOf ts, w⟩ (.tp (.cons (.nm 2) (.cons (.nm 3) .nil))) x e M) e fun e M => exs ⟨C w n, tabOf ts, w⟩
  (.cons (.ite (.cmp .gt (.v 2) (.c (.int 0))) (.cons (.set (.nm 4) (.call 16 (.cons (.v 3) .nil))) (.cons (.ite (.cmp .is (.v 4) (.c .non)) (.cons (.ret (.tup (.cons false (.bi .tuple (.cons (.v 1) .nil)) (.cons false (.v 2) .nil)))) .nil) .nil) (.cons (.ex (.mm .append (.v 1) (.cons (.v 4) .nil))) .nil))) .nil) .nil) e M
theorem for_nx {turn : D → Ev → List MO → O} {x : D} {xs : List D} {e e' : Ev} {M M' : List MO} (h : turn x e M = .nx e' M') : forLoop none turn (x :: xs) e M = forLoop none turn xs e' M' := by
  simp only [forLoop, okGuard, if_true, h]
theorem for_ret {turn : D → Ev → List MO → O} {x d : D} {xs : List D} {e : Ev} {M M' : List MO} (h : turn x e M = .ret d M') : forLoop none turn (x :: xs) e M = .ret d M' := by
  simp only [forLoop, okGuard, if_true, h]
theorem isNon_pD {p : Int × Int} : isNon (pD p) = false := rfl
theorem stepr {o : O} {d : D} {g : Ev → List MO → O} (h : o = .ret d M) : fin (o.seq g) = .ok d M := by rw [h]; rfl
theorem forr_enum {γ : Gm} {g : RG} {a : RE} {b : RSs} {e : Ev} {d : D} {l : List D} (h1 : ev γ a e M = .ok d M) (h2 : walkOf d M = .ok (none, l) M) : ex γ (.forr g (.enum a) b) e M = forLoop none (fun x e M => exS (asg γ g x e M) e fun e M => exs γ b e M) (enumD 0 l) e M := by
  simp only [ex, evI, h1, bind_ok, h2, exS_ok]
theorem rp_pair (W : D) (k : Nat) (hk : 1 ≤ k) (p : Int × Int) (acc : Rs) (x y z : Option D) (h1 : okN p.1) (h2 : okN p.2) (hl : acc.length ≤ 100) :
    rpTurn w (n + 3) (.tup [.int (k : Nat), sw (pw p)]) [some W, some (.ref 0), x, y, z] [.lst (acc.map pD)] = .nx [some W, some (.ref 0), some (.int (k : Nat)), some (sw (pw p)), some (pD p)] [.lst ((acc ++ [p]).map pD)] := by
  have e1 : C w (n + 3) 16 [sw (pw p)] [] = _ := pair_ok (w := w) (n := n) (M := []) p h1 h2
  have hk : decide ((0 : Int) < (k : Nat)) = true := decide_eq_true (by omega)
  unfold rpTurn
  have a0 := app_0 (M := []) (l := acc.map pD) (u := pD p) (by rw [List.length_map]; exact Nat.lt_of_le_of_lt hl (by decide))
  simp only [exs_c, exs_n, ex, ev, evs, evSq, evAnd, evOr, evF, evO, evC, evI, asg, asgs, evT, Cn.d, bind_ok, bind_bad, bind_err, bind_ite, exS_ok, exS_bad, exS_ite, seq_nx, seq_ret, seq_brk, seq_cont, seq_bad, seq_ite, fin_ret, fin_nx, fin_bad, fin_ite, of_some, of_none, when_t, calm_ok, add_i, sub_i, add_s, mul_i, div_i, mod_i, pow_i, aug_add, aug_sub, eq_i, ne_i, eq_s, ne_s, eq_b, ne_b, lt_i, le_i, gt_i, ge_i, is_n, isnot_n, tr_b, tr_i, tr_t, tr_l, tr_n, asInt_i, asStr_s, asStr_i, asStr_t, asBl_b, asTup_t, isNon_n, isNon_i, isNon_s, isNon_t, isNon_l, startE, parSet, wipeE, List.map_cons, List.map_nil, List.length_cons, List.length_nil, Nat.reduceAdd, Nat.reduceSub, List.replicate, List.cons_append, List.nil_append, List.append_nil, List.getElem?_cons_zero, List.getElem?_cons_succ, List.set_cons_zero, List.set_cons_succ, if_true, if_false, Bool.false_eq_true, Bool.true_and, Bool.and_true, Bool.not_true, Bool.not_false, Nat.reduceBEq, BEq.rfl, Option.isSome_some, Option.isSome_none, reduceIte, reduceCtorEq, decide_true, decide_false, hk, e1, pcall_ok (show pureL [sw (pw p)] = true from rfl) (show (pD p).pure = true from rfl), isNon_pD, asRef_0, a0]
  rw [List.map_append]
  rfl
theorem rp_last (W : D) (k : Nat) (hk : 1 ≤ k) (c : Nat) (l : List Nat) (acc : Rs) (x y z : Option D) (hc : c ≠ 45) (hd : c ∉ dig) (hm : 45 ∉ l) (hl : l.length ≤ 12) :
    rpTurn w (n + 3) (.tup [.int (k : Nat), sw (c :: l)]) [some W, some (.ref 0), x, y, z] [.lst (acc.map pD)] = .ret (.tup [.tup (acc.map pD), .int (k : Nat)]) [.lst (acc.map pD)] := by
  have e1 : C w (n + 3) 16 [sw (c :: l)] [] = _ := pair_no (w := w) (n := n) (M := []) c l hc hd hm hl
  have hk : decide ((0 : Int) < (k : Nat)) = true := decide_eq_true (by omega)
  unfold rpTurn
  simp only [exs_c, exs_n, ex, ev, evs, evSq, evAnd, evOr, evF, evO, evC, evI, asg, asgs, evT, Cn.d, bind_ok, bind_bad, bind_err, bind_ite, exS_ok, exS_bad, exS_ite, seq_nx, seq_ret, seq_brk, seq_cont, seq_bad, seq_ite, fin_ret, fin_nx, fin_bad, fin_ite, of_some, of_none, when_t, calm_ok, add_i, sub_i, add_s, mul_i, div_i, mod_i, pow_i, aug_add, aug_sub, eq_i, ne_i, eq_s, ne_s, eq_b, ne_b, lt_i, le_i, gt_i, ge_i, is_n, isnot_n, tr_b, tr_i, tr_t, tr_l, tr_n, asInt_i, asStr_s, asStr_i, asStr_t, asBl_b, asTup_t, isNon_n, isNon_i, isNon_s, isNon_t, isNon_l, startE, parSet, wipeE, List.map_cons, List.map_nil, List.length_cons, List.length_nil, Nat.reduceAdd, Nat.reduceSub, List.replicate, List.cons_append, List.nil_append, List.append_nil, List.getElem?_cons_zero, List.getElem?_cons_succ, List.set_cons_zero, List.set_cons_succ, if_true, if_false, Bool.false_eq_true, Bool.true_and, Bool.and_true, Bool.not_true, Bool.not_false, Nat.reduceBEq, BEq.rfl, Option.isSome_some, Option.isSome_none, reduceIte, reduceCtorEq, decide_true, decide_false, hk, e1, pcall_ok (show pureL [sw (c :: l)] = true from rfl) (show D.non.pure = true from rfl), tup_0, when_dec (show (2 : Nat) ≤ sizeLine by decide)]
theorem rp_loop (W : D) (c : Nat) (l : List Nat) (hc : c ≠ 45) (hd : c ∉ dig) (hm : 45 ∉ l) (hl : l.length ≤ 12) : ∀ (rest : Rs) (k : Nat) (acc : Rs) (x y z : Option D), okR rest → acc.length + rest.length ≤ 41 → 1 ≤ k →
    forLoop none (rpTurn w (n + 3)) (enumD k ((rest.map pw ++ [c :: l]).map sw)) [some W, some (.ref 0), x, y, z] [.lst (acc.map pD)] = .ret (.tup [.tup ((acc ++ rest).map pD), .int (k + rest.length : Nat)]) [.lst ((acc ++ rest).map pD)]
  | [], k, acc, x, y, z, _, _, hk => by
    rw [List.append_nil]
    exact for_ret (rp_last W k hk c l acc x y z hc hd hm hl)
  | p :: rest, k, acc, x, y, z, ho, hz, hk => by
    simp only [List.length_cons] at hz
    have hp := ho p (List.mem_cons_self ..)
    refine (for_nx (rp_pair W k hk p acc x y z hp.1 hp.2 (by omega))).trans ?_
    refine (rp_loop W c l hc hd hm hl rest (k + 1) (acc ++ [p]) _ _ _ (fun q hq => ho q (List.mem_cons_of_mem _ hq)) (by simp; omega) (by omega)).trans ?_
    rw [List.append_assoc, List.length_cons, show k + 1 + rest.length = k + (rest.length + 1) by omega]
    rfl
theorem cut_12 {a b : D} {r : List D} : cutD (a :: b :: r) (some 1) (some 2) = [b] := by
  unfold cutD
  have e1 : HT.sIx (a :: b :: r).length 0 (some 1) = 1 := by unfold HT.sIx; simp
  have e2 : HT.sIx (a :: b :: r).length (a :: b :: r).length (some 2) = 2 := by unfold HT.sIx; simp
  rw [e1, e2]
  rfl
theorem okS {a : List Nat} (h : ∀ c ∈ a, c < 0x110000) : okStr (S a) = true := by
  unfold okStr
  rw [← Array.all_toList]
  show a.all _ = true
  rw [List.all_eq_true]
  intro c hc
  exact decide_eq_true (h c hc)
theorem nm_small {i : Int} {c : Nat} (h : c ∈ nm i) : c < 0x110000 := by
  have := nm_dig h
  unfold dig at this
  simp at this
  omega
theorem pw_small {p : Int × Int} {c : Nat} (h : c ∈ pw p) : c < 0x110000 := by
  unfold pw at h
  rcases List.mem_append.mp h with h | h
  · exact nm_small h
  · rcases List.mem_cons.mp h with h | h
    · omega
    · exact nm_small h
theorem none_small {c : Nat} (h : c ∈ noneL) : c < 0x110000 := by
  unfold noneL at h
  simp at h
  omega
theorem eq_l1 {a b : List Nat} (ha : ∀ c ∈ a, c < 0x110000) (hb : ∀ c ∈ b, c < 0x110000) : evCmp .eq (.lst [sw a]) (.lst [sw b]) M = .ok (.bl (a == b)) M := by
  show R.when (false || ((D.lst [sw a]).flat 60 && (D.lst [sw b]).flat 60)) (R.ok (D.bl ((D.lst [sw a]).eqv (D.lst [sw b]))) M) = _
  have e1 : (D.lst [sw a]).flat 60 = true := by simp [D.flat, flatL, sw, okS ha]
  have e2 : (D.lst [sw b]).flat 60 = true := by simp [D.flat, flatL, sw, okS hb]
  have e3 : (D.lst [sw a]).eqv (D.lst [sw b]) = (S a == S b) := by simp [D.eqv, eqvL, sw]
  rw [e1, e2, e3, beq_S]
  rfl
theorem sl_l {l : List D} {lo hi : Option Int} : evSl (.lst l) lo hi M = .ok (.lst (cutD l lo hi)) M := rfl
theorem pw_none (p : Int × Int) : (pw p == noneL) = false := by
  rw [beq_eq_false_iff_ne]
  intro e
  have : (45 : Nat) ∈ pw p := by unfold pw; simp
  rw [e] at this
  exact absurd this (by decide)
theorem read_pairs_ok (size place : Int) (raised : Rs) (facing : Str) (hs : okN size) (hp : 0 ≤ place ∧ place < 10 ^ 12) (h : okR raised) (hl : raised.length ≤ 41) : ∃ M', C w (n + 4) f_read_pairs [.lst ((wds size raised place facing).map sw)] [] = .ok (.tup [.tup (raised.map pD), .int (if raised = [] then 2 else raised.length + 1 : Nat)]) M' := by
  have hc : sgn facing ≠ 45 ∧ sgn facing ∉ dig := by rcases sgn_cases facing with e | e <;> rw [e] <;> decide
  have hlen := nm_len hp.1 (k := 12) (by decide) hp.2
  cases raised with
  | nil =>
    refine ⟨[], (call_eq (d := ⟨b_read_pairs, 5⟩) rfl rfl).trans ?_⟩
    have e0 : (wds size [] place facing).map sw = sw (nm size ++ [58]) :: sw noneL :: [sw (sgn facing :: nm place)] := rfl
    rw [e0]
    simp only [exs_c, exs_n, ex, ev, evs, evSq, evAnd, evOr, evF, evO, evC, evI, asg, asgs, evT, Cn.d, bind_ok, bind_bad, bind_err, bind_ite, exS_ok, exS_bad, exS_ite, seq_nx, seq_ret, seq_brk, seq_cont, seq_bad, seq_ite, fin_ret, fin_nx, fin_bad, fin_ite, of_some, of_none, when_t, calm_ok, add_i, sub_i, add_s, mul_i, div_i, mod_i, pow_i, aug_add, aug_sub, eq_i, ne_i, eq_s, ne_s, eq_b, ne_b, lt_i, le_i, gt_i, ge_i, is_n, isnot_n, tr_b, tr_i, tr_t, tr_l, tr_n, asInt_i, asStr_s, asStr_i, asStr_t, asBl_b, asTup_t, isNon_n, isNon_i, isNon_s, isNon_t, isNon_l, startE, parSet, wipeE, List.map_cons, List.map_nil, List.length_cons, List.length_nil, Nat.reduceAdd, Nat.reduceSub, List.replicate, List.cons_append, List.nil_append, List.append_nil, List.getElem?_cons_zero, List.getElem?_cons_succ, List.set_cons_zero, List.set_cons_succ, if_true, if_false, Bool.false_eq_true, Bool.true_and, Bool.and_true, Bool.not_true, Bool.not_false, Nat.reduceBEq, BEq.rfl, Option.isSome_some, Option.isSome_none, reduceIte, reduceCtorEq, decide_true, decide_false, b_read_pairs, sl_l, cut_12, lit_none]
    rw [show D.str (S noneL) = sw noneL from rfl]
    simp only [exs_c, exs_n, ex, ev, evs, evSq, evAnd, evOr, evF, evO, evC, evI, asg, asgs, evT, Cn.d, bind_ok, bind_bad, bind_err, bind_ite, exS_ok, exS_bad, exS_ite, seq_nx, seq_ret, seq_brk, seq_cont, seq_bad, seq_ite, fin_ret, fin_nx, fin_bad, fin_ite, of_some, of_none, when_t, calm_ok, add_i, sub_i, add_s, mul_i, div_i, mod_i, pow_i, aug_add, aug_sub, eq_i, ne_i, eq_s, ne_s, eq_b, ne_b, lt_i, le_i, gt_i, ge_i, is_n, isnot_n, tr_b, tr_i, tr_t, tr_l, tr_n, asInt_i, asStr_s, asStr_i, asStr_t, asBl_b, asTup_t, isNon_n, isNon_i, isNon_s, isNon_t, isNon_l, startE, parSet, wipeE, List.map_cons, List.map_nil, List.length_cons, List.length_nil, Nat.reduceAdd, Nat.reduceSub, List.replicate, List.cons_append, List.nil_append, List.append_nil, List.getElem?_cons_zero, List.getElem?_cons_succ, List.set_cons_zero, List.set_cons_succ, if_true, if_false, Bool.false_eq_true, Bool.true_and, Bool.and_true, Bool.not_true, Bool.not_false, Nat.reduceBEq, BEq.rfl, Option.isSome_some, Option.isSome_none, reduceIte, reduceCtorEq, decide_true, decide_false, eq_l1 (fun _ => none_small) (fun _ => none_small), when_dec (show (1 : Nat) ≤ sizeLine by decide), when_dec (show (0 : Nat) ≤ sizeLine by decide), when_dec (show (2 : Nat) ≤ sizeLine by decide)]
    rfl
  | cons p r =>
    refine ⟨[.lst ((p :: r).map pD)], (call_eq (d := ⟨b_read_pairs, 5⟩) rfl rfl).trans ?_⟩
    have e0 : (wds size (p :: r) place facing).map sw = sw (nm size ++ [58]) :: sw (pw p) :: ((r.map pw ++ [sgn facing :: nm place]).map sw) := by
      unfold wds mid
      rw [if_neg (by simp)]
      rfl
    generalize hW : D.lst ((wds size (p :: r) place facing).map sw) = W
    have first : rpTurn w (n + 3) (.tup [.int (0 : Nat), sw (nm size ++ [58])]) [some W, some (.ref 0), none, none, none] [.lst ([].map pD)] = .nx [some W, some (.ref 0), some (.int (0 : Nat)), some (sw (nm size ++ [58])), none] [.lst ([].map pD)] := by
      unfold rpTurn
      simp only [exs_c, exs_n, ex, ev, evs, evSq, evAnd, evOr, evF, evO, evC, evI, asg, asgs, evT, Cn.d, bind_ok, bind_bad, bind_err, bind_ite, exS_ok, exS_bad, exS_ite, seq_nx, seq_ret, seq_brk, seq_cont, seq_bad, seq_ite, fin_ret, fin_nx, fin_bad, fin_ite, of_some, of_none, when_t, calm_ok, add_i, sub_i, add_s, mul_i, div_i, mod_i, pow_i, aug_add, aug_sub, eq_i, ne_i, eq_s, ne_s, eq_b, ne_b, lt_i, le_i, gt_i, ge_i, is_n, isnot_n, tr_b, tr_i, tr_t, tr_l, tr_n, asInt_i, asStr_s, asStr_i, asStr_t, asBl_b, asTup_t, isNon_n, isNon_i, isNon_s, isNon_t, isNon_l, startE, parSet, wipeE, List.map_cons, List.map_nil, List.length_cons, List.length_nil, Nat.reduceAdd, Nat.reduceSub, List.replicate, List.cons_append, List.nil_append, List.append_nil, List.getElem?_cons_zero, List.getElem?_cons_succ, List.set_cons_zero, List.set_cons_succ, if_true, if_false, Bool.false_eq_true, Bool.true_and, Bool.and_true, Bool.not_true, Bool.not_false, Nat.reduceBEq, BEq.rfl, Option.isSome_some, Option.isSome_none, reduceIte, reduceCtorEq, decide_true, decide_false]
      rfl
    unfold b_read_pairs
    rw [exs_c]
    refine step (e := [some W, none, none, none, none]) (M := []) (by
      rw [← hW, e0]
      simp only [exs_c, exs_n, ex, ev, evs, evSq, evAnd, evOr, evF, evO, evC, evI, asg, asgs, evT, Cn.d, bind_ok, bind_bad, bind_err, bind_ite, exS_ok, exS_bad, exS_ite, seq_nx, seq_ret, seq_brk, seq_cont, seq_bad, seq_ite, fin_ret, fin_nx, fin_bad, fin_ite, of_some, of_none, when_t, calm_ok, add_i, sub_i, add_s, mul_i, div_i, mod_i, pow_i, aug_add, aug_sub, eq_i, ne_i, eq_s, ne_s, eq_b, ne_b, lt_i, le_i, gt_i, ge_i, is_n, isnot_n, tr_b, tr_i, tr_t, tr_l, tr_n, asInt_i, asStr_s, asStr_i, asStr_t, asBl_b, asTup_t, isNon_n, isNon_i, isNon_s, isNon_t, isNon_l, startE, parSet, wipeE, List.map_cons, List.map_nil, List.length_cons, List.length_nil, Nat.reduceAdd, Nat.reduceSub, List.replicate, List.cons_append, List.nil_append, List.append_nil, List.getElem?_cons_zero, List.getElem?_cons_succ, List.set_cons_zero, List.set_cons_succ, if_true, if_false, Bool.false_eq_true, Bool.true_and, Bool.and_true, Bool.not_true, Bool.not_false, Nat.reduceBEq, BEq.rfl, Option.isSome_some, Option.isSome_none, reduceIte, reduceCtorEq, decide_true, decide_false, sl_l, cut_12, lit_none]
      rw [show D.str (S noneL) = sw noneL from rfl]
      simp only [exs_c, exs_n, ex, ev, evs, evSq, evAnd, evOr, evF, evO, evC, evI, asg, asgs, evT, Cn.d, bind_ok, bind_bad, bind_err, bind_ite, exS_ok, exS_bad, exS_ite, seq_nx, seq_ret, seq_brk, seq_cont, seq_bad, seq_ite, fin_ret, fin_nx, fin_bad, fin_ite, of_some, of_none, when_t, calm_ok, add_i, sub_i, add_s, mul_i, div_i, mod_i, pow_i, aug_add, aug_sub, eq_i, ne_i, eq_s, ne_s, eq_b, ne_b, lt_i, le_i, gt_i, ge_i, is_n, isnot_n, tr_b, tr_i, tr_t, tr_l, tr_n, asInt_i, asStr_s, asStr_i, asStr_t, asBl_b, asTup_t, isNon_n, isNon_i, isNon_s, isNon_t, isNon_l, startE, parSet, wipeE, List.map_cons, List.map_nil, List.length_cons, List.length_nil, Nat.reduceAdd, Nat.reduceSub, List.replicate, List.cons_append, List.nil_append, List.append_nil, List.getElem?_cons_zero, List.getElem?_cons_succ, List.set_cons_zero, List.set_cons_succ, if_true, if_false, Bool.false_eq_true, Bool.true_and, Bool.and_true, Bool.not_true, Bool.not_false, Nat.reduceBEq, BEq.rfl, Option.isSome_some, Option.isSome_none, reduceIte, reduceCtorEq, decide_true, decide_false, eq_l1 (fun _ => pw_small) (fun _ => none_small), pw_none, when_dec (show (1 : Nat) ≤ sizeLine by decide)]) ?_
    rw [exs_c]
    refine step (e := [some W, some (.ref 0), none, none, none]) (M := [.lst ([].map pD)]) (by simp only [exs_c, exs_n, ex, ev, evs, evSq, evAnd, evOr, evF, evO, evC, evI, asg, asgs, evT, Cn.d, bind_ok, bind_bad, bind_err, bind_ite, exS_ok, exS_bad, exS_ite, seq_nx, seq_ret, seq_brk, seq_cont, seq_bad, seq_ite, fin_ret, fin_nx, fin_bad, fin_ite, of_some, of_none, when_t, calm_ok, add_i, sub_i, add_s, mul_i, div_i, mod_i, pow_i, aug_add, aug_sub, eq_i, ne_i, eq_s, ne_s, eq_b, ne_b, lt_i, le_i, gt_i, ge_i, is_n, isnot_n, tr_b, tr_i, tr_t, tr_l, tr_n, asInt_i, asStr_s, asStr_i, asStr_t, asBl_b, asTup_t, isNon_n, isNon_i, isNon_s, isNon_t, isNon_l, startE, parSet, wipeE, List.map_cons, List.map_nil, List.length_cons, List.length_nil, Nat.reduceAdd, Nat.reduceSub, List.replicate, List.cons_append, List.nil_append, List.append_nil, List.getElem?_cons_zero, List.getElem?_cons_succ, List.set_cons_zero, List.set_cons_succ, if_true, if_false, Bool.false_eq_true, Bool.true_and, Bool.and_true, Bool.not_true, Bool.not_false, Nat.reduceBEq, BEq.rfl, Option.isSome_some, Option.isSome_none, reduceIte, reduceCtorEq, decide_true, decide_false, when_dec (show (0 : Nat) ≤ sizeLine by decide)]) ?_
    have lp : forLoop none (rpTurn w (n + 3)) (enumD 0 ((wds size (p :: r) place facing).map sw)) [some W, some (.ref 0), none, none, none] [.lst ([].map pD)] = .ret (.tup [.tup ((p :: r).map pD), .int ((p :: r).length + 1 : Nat)]) [.lst ((p :: r).map pD)] := by
      rw [e0]
      refine (for_nx first).trans ?_
      have := rp_loop (w := w) (n := n) W (sgn facing) (nm place) hc.1 hc.2 dash_nm hlen (p :: r) 1 [] (some (.int (0 : Nat))) (some (sw (nm size ++ [58]))) none h (by simpa using hl) (by omega)
      rw [List.nil_append, Nat.add_comm 1] at this
      exact this
    rw [exs_c]
    subst hW
    rw [if_neg (by simp)]
    exact stepr ((forr_enum (l := (wds size (p :: r) place facing).map sw) rfl rfl).trans lp)
theorem okP_okR {size : Int} (hs : size ≤ 1000000000000) : ∀ {raised : Rs} {least : Int}, 0 ≤ least → okP size least raised → okR raised
  | [], _, _, _ => fun p hp => by cases hp
  | p :: r, least, h0, h => fun q hq => by
    rcases List.mem_cons.mp hq with rfl | hq
    · obtain ⟨h1, h2, h3, _⟩ := h
      exact ⟨⟨by omega, by omega⟩, by omega, by omega⟩
    · exact okP_okR hs (least := p.2 + 1) (by obtain ⟨h1, h2, _⟩ := h; omega) h.2.2.2 q hq
theorem state_error_full (size place : Int) (raised : Rs) (facing : Str) (hs : 2 ≤ size) (hs2 : size ≤ 1000000000000) (hp : 0 ≤ place) (hp2 : place < size) (hr : okP size 0 raised) (hl : raised.length ≤ 41) (hb : raised.length ≤ 20 ∨ size ≤ 42) (hf : facing = "right" ∨ facing = "left") : C w (n + 5) f_state_error [stD size raised place facing] [] = .ok .non [] := by
  refine state_error_ok size place raised facing hs hs2 hp hp2 hr hl hf ?_
  obtain ⟨f1, f2⟩ := wd_facts (facing := facing) hr hs hp hp2 hb
  obtain ⟨g, e, hg⟩ := gaps_ok (w := w) (n := n + 3) (wd size raised place facing) f1 (by rcases f2 with f2 | f2 <;> omega)
  refine ⟨g, e, ?_⟩
  rcases f2 with f2 | f2
  · rcases hg with hg | hg <;> omega
  · rcases hg with hg | hg
    · exact absurd hg.2 f2.2
    · omega
end K79

namespace K79
open PySem TF SX L2
variable {w n : Nat} {M : List MO}
theorem at_nat {l : List D} {k : Nat} {u : D} (h : l[k]? = some u) : atI l (k : Int) = some u := by
  have hk : k < l.length := (List.getElem?_eq_some_iff.mp h).1
  unfold atI ixN
  have h1 : (0 : Int) ≤ (k : Int) := by omega
  have h2 : (k : Int) < (l.length : Int) := by omega
  simp [h1, h2, h]
theorem mid_len (raised : Rs) : (if raised = [] then 2 else raised.length + 1 : Nat) = (mid raised).length + 1 := by
  unfold mid
  split <;> simp
theorem wds_len (size place : Int) (raised : Rs) (facing : Str) : (wds size raised place facing).length = (mid raised).length + 2 := by simp [wds]
theorem wds_last (size place : Int) (raised : Rs) (facing : Str) : ((wds size raised place facing).map sw)[(mid raised).length + 1]? = some (sw (sgn facing :: nm place)) := by
  simp [wds]
theorem stx_len (size place : Int) (raised : Rs) (facing : Str) (hs : okN size) (hp : okN place) (h : okR raised) (hl : raised.length ≤ 41) : (stx size raised place facing).length ≤ 2000 := by
  have l1 := nm_len hs.1 (by decide) hs.2
  have l2 := nm_len hp.1 (by decide) hp.2
  have l3 := ptx_len h hl
  simp [stx]
  omega
theorem pure_sw : ∀ l : List (List Nat), pureL (l.map sw) = true
  | [] => rfl
  | a :: l => by
    have := pure_sw l
    simp [pureL, D.pure, sw, this]
theorem at_1 {a b : D} {l : List D} : atI (a :: b :: l) 1 = some b := by
  unfold atI ixN
  have h2 : (1 : Int) < ((a :: b :: l).length : Int) := by simp; omega
  rw [if_pos (by decide), if_pos h2]
  rfl
theorem parse_ok (size place : Int) (raised : Rs) (facing : Str) (hs : 2 ≤ size) (hs2 : size ≤ 1000000000000) (hp : 0 ≤ place) (hp2 : place < size) (hr : okP size 0 raised) (hl : raised.length ≤ 41) (hb : raised.length ≤ 20 ∨ size ≤ 42) (hf : facing = "right" ∨ facing = "left") :
    C w (n + 6) f_parse_state [.str (S (stx size raised place facing))] [] = .ok (stD size raised place facing) [] := by
  refine (call_eq (d := ⟨b_parse_state, 8⟩) rfl rfl).trans ?_
  have oS : okN size := ⟨by omega, by omega⟩
  have oP : okN place := ⟨by omega, by omega⟩
  have oR := okP_okR hs2 (Int.le_refl 0) hr
  have l0 := stx_len size place raised facing oS oP oR hl
  have sp := split_s (M := []) (a := stx size raised place facing) (b := [32]) (by simp) rfl (big_le (by omega))
  rw [stx_split] at sp
  have sp : evMt .split (.str (S (stx size raised place facing))) [.str (S [32])] [] = .ok (.lst ((wds size raised place facing).map sw)) [] := sp
  have x0 : evIx (.lst ((wds size raised place facing).map sw)) (.int 0) [] = .ok (sw (nm size ++ [58])) [] := ix_l at_0
  have c1 : callF (tabOf ts) (fsOf ds) w (n + 5) 18 [sw (nm size ++ [58])] [] = _ := size_ok (w := w) (n := n + 2) (M := []) size hs hs2
  obtain ⟨M2, c2⟩ := read_pairs_ok (w := w) (n := n + 1) size place raised facing oS ⟨hp, by omega⟩ oR hl
  rw [mid_len] at c2
  have c2 : callF (tabOf ts) (fsOf ds) w (n + 5) 21 [.lst ((wds size raised place facing).map sw)] [] = _ := c2
  have c3 : callF (tabOf ts) (fsOf ds) w (n + 5) 17 [sw (sgn facing :: nm place)] [] = _ := walker_ok (w := w) (n := n + 2) (M := []) place facing hf oP
  have c4 : callF (tabOf ts) (fsOf ds) w (n + 5) 13 [stD size raised place facing] [] = _ := state_error_full (w := w) (n := n) size place raised facing hs hs2 hp hp2 hr hl hb hf
  have x1 : evIx (.lst ((wds size raised place facing).map sw)) (.int ((mid raised).length + 1 : Nat)) [] = .ok (sw (sgn facing :: nm place)) [] := ix_l (at_nat (wds_last ..))
  have q1 : (((mid raised).length + 1 : Nat) == (((wds size raised place facing).map sw).length : Int)) = false := by
    rw [List.length_map, wds_len, beq_eq_false_iff_ne]
    omega
  have q2 : ((((mid raised).length + 1 : Nat) : Int) == 1) = false := by
    have := mid_ne raised
    have : 0 < (mid raised).length := List.length_pos_iff.mpr this
    rw [beq_eq_false_iff_ne]
    omega
  have q3 : decide ((((mid raised).length + 1 : Nat) : Int) + 1 < (((wds size raised place facing).map sw).length : Int)) = false := by
    rw [List.length_map, wds_len]
    exact decide_eq_false (by omega)
  have y0 : evIx (.tup [.int place, .str facing]) (.int 0) [] = .ok (.int place) [] := ix_t at_0
  have y1 : evIx (.tup [.int place, .str facing]) (.int 1) [] = .ok (.str facing) [] := ix_t at_1
  have p2 := pcall_ok (M := []) (M' := M2) (show pureL [D.lst ((wds size raised place facing).map sw)] = true by simp [pureL, D.pure, pure_sw]) (show (D.tup [.tup (raised.map pD), .int ((mid raised).length + 1 : Nat)]).pure = true by simp [D.pure, pureL, pure_pD])
  have p4 := pcall_ok (M := []) (M' := []) (show pureL [stD size raised place facing] = true by simp [pureL, pure_st]) (show D.non.pure = true from rfl)
  have p1 := pcall_ok (M := []) (M' := []) (show pureL [sw (nm size ++ [58])] = true from rfl) (show (D.int size).pure = true from rfl)
  have p3 := pcall_ok (M := []) (M' := []) (show pureL [sw (sgn facing :: nm place)] = true from rfl) (show (D.tup [.int place, .str facing]).pure = true from rfl)
  have st : D.tup [.int size, .tup (raised.map pD), .int place, .str facing] = stD size raised place facing := rfl
  generalize (wds size raised place facing).map sw = W at *
  generalize ((mid raised).length + 1 : Nat) = I at *
  have l1 : evBi .len [.lst W] [] = .ok (.int W.length) [] := len_l
  have s1 : asStr (.str (S (stx size raised place facing))) = some (S (stx size raised place facing)) := rfl
  simp only [exs_c, exs_n, ex, ev, evs, evSq, evAnd, evOr, evF, evO, evC, evI, asg, asgs, evT, Cn.d, bind_ok, bind_bad, bind_err, bind_ite, exS_ok, exS_bad, exS_ite, seq_nx, seq_ret, seq_brk, seq_cont, seq_bad, seq_ite, fin_ret, fin_nx, fin_bad, fin_ite, of_some, of_none, when_t, calm_ok, add_i, sub_i, add_s, mul_i, div_i, mod_i, pow_i, aug_add, aug_sub, eq_i, ne_i, eq_s, ne_s, eq_b, ne_b, lt_i, le_i, gt_i, ge_i, is_n, isnot_n, tr_b, tr_i, tr_t, tr_l, tr_n, asInt_i, asStr_s, asStr_i, asStr_t, asBl_b, asTup_t, isNon_n, isNon_i, isNon_s, isNon_t, isNon_l, startE, parSet, wipeE, List.map_cons, List.map_nil, List.length_cons, List.length_nil, Nat.reduceAdd, Nat.reduceSub, List.replicate, List.cons_append, List.nil_append, List.append_nil, List.getElem?_cons_zero, List.getElem?_cons_succ, List.set_cons_zero, List.set_cons_succ, if_true, if_false, Bool.false_eq_true, Bool.true_and, Bool.and_true, Bool.not_true, Bool.not_false, Nat.reduceBEq, BEq.rfl, Option.isSome_some, Option.isSome_none, reduceIte, reduceCtorEq, decide_true, decide_false, b_parse_state, isT_ss, lit_sp, sp, x0, c1, c2, c3, p1, p2, p3, l1, x1, q1, q2, q3, y0, y1, when_dec (show (4 : Nat) ≤ sizeLine by decide), st, c4, p4]
end K79

namespace K79
open PySem TF SX L2
variable {w n : Nat} {M : List MO}
structure Dk where
  bigs : List Int
  cells : List Int
  j : Int
def dm (d : Dk) (T : List MO) : List MO := .lst (d.bigs.map D.int) :: .lst [.ref 0, .lst (d.cells.map D.int), .int d.j] :: T
structure Ok (d : Dk) (k : Nat) : Prop where
  len : d.bigs.length ≤ 63
  nn : ∀ b ∈ d.bigs, 0 ≤ b
  ne : d.cells ≠ []
  j0 : 0 ≤ d.j
  jk : d.j ≤ k
theorem flat_ints : ∀ (l : List Int) (m : Nat), flatL (m + 1) (l.map D.int) = true
  | [], _ => rfl
  | a :: l, m => by
    have := flat_ints l m
    simp [flatL, D.flat, this]
def drCond : RE := .cmp .ne (.ix (.v 0) (.c (.int 0))) (.lst .nil)
def drBody : RSs := (.cons (.set (.nm 2) (.ix (.ix (.v 0) (.c (.int 0))) (.c (.int 0)))) (.cons (.ite (.cmp .gt (.v 2) (.c (.int 0))) (.cons (.set (.ix (.ix (.v 0) (.c (.int 0))) (.c (.int 0))) (.op .div (.v 2) (.v 1))) (.cons (.ret (.op .mod (.v 2) (.v 1))) .nil)) .nil) (.cons (.ex (.mm .popat (.ix (.v 0) (.c (.int 0))) (.cons (.c (.int 0)) .nil))) .nil)))
theorem ix_10 {X0 : MO} {a b c : D} {T : List MO} : evIx (.ref 1) (.int 0) (X0 :: .lst [a, b, c] :: T) = .ok a (X0 :: .lst [a, b, c] :: T) := ix_r rfl at_0
theorem ix_11 {X0 : MO} {a b c : D} {T : List MO} : evIx (.ref 1) (.int 1) (X0 :: .lst [a, b, c] :: T) = .ok b (X0 :: .lst [a, b, c] :: T) := ix_r rfl at_1
theorem ix_12 {X0 : MO} {a b c : D} {T : List MO} : evIx (.ref 1) (.int 2) (X0 :: .lst [a, b, c] :: T) = .ok c (X0 :: .lst [a, b, c] :: T) := ix_r rfl rfl
theorem ix_00 {a : D} {l : List D} {T : List MO} : evIx (.ref 0) (.int 0) (.lst (a :: l) :: T) = .ok a (.lst (a :: l) :: T) := ix_r rfl at_0
theorem ix0_len {l : Nat} : ixN (l + 1) 0 = some 0 := by
  unfold ixN
  rw [if_pos (by decide), if_pos (by omega)]
  rfl
theorem set_00 {a x : D} {l : List D} {T : List MO} : evSetIx (.ref 0) (.int 0) x (.lst (a :: l) :: T) = .ok () (.lst (x :: l) :: T) := by
  show (match ixN (a :: l).length 0 with | some k => R.ok () ((MO.lst (a :: l) :: T).set 0 (.lst ((a :: l).set k x))) | none => .bad) = _
  rw [List.length_cons, ix0_len]
  rfl
theorem set_12 {X0 : MO} {a b c x : D} {T : List MO} : evSetIx (.ref 1) (.int 2) x (X0 :: .lst [a, b, c] :: T) = .ok () (X0 :: .lst [a, b, x] :: T) := rfl
theorem popat_0 {a : D} {l : List D} {T : List MO} : evMm .popat (.ref 0) [.int 0] (.lst (a :: l) :: T) = .ok a (.lst l :: T) := by
  have e : seqIndex? 0 (a :: l).length = some 0 := by
    unfold seqIndex?
    simp
  show R.when _ (match seqIndex? 0 (a :: l).length with | some k => (match (a :: l)[k]? with | some y => R.ok y ((MO.lst (a :: l) :: T).set 0 (.lst ((a :: l).eraseIdx k))) | none => .bad) | none => .bad) = _
  rw [e]
  rfl
theorem wide_of {i : Int} (h0 : 0 ≤ i) (h : i ≤ 10 ^ 13) : wideB i = true := by
  unfold wideB
  have : (10 ^ 13 : Nat) < 2 ^ 8000 := Nat.lt_of_lt_of_le (show 10 ^ 13 < 2 ^ 64 by decide) (Nat.pow_le_pow_right (by decide) (by decide))
  exact decide_eq_true (by have : i.natAbs ≤ 10 ^ 13 := by omega
                           omega)
theorem small_of {i : Int} (h0 : 0 ≤ i) (h : i < 10 ^ 19) : smallB i = true := by
  unfold smallB
  exact decide_eq_true (by have : i.natAbs < 10 ^ 19 := by omega
                           have : (10 ^ 19 : Nat) ≤ 2 ^ 64 := by decide
                           omega)
theorem dr_loop (below : Int) (hb : 0 < below) (hb2 : below ≤ 10 ^ 13) (X1 : List D) (T : List MO) (hX : ∃ b c, X1 = [.ref 0, b, c]) : ∀ (bigs : List Int) (fuel : Nat) (x y z : Option D), bigs.length < fuel → (∀ b ∈ bigs, 0 ≤ b) →
    (∃ x', whLoop (evT ⟨C w n, tabOf ts, w⟩ drCond) (exs ⟨C w n, tabOf ts, w⟩ drBody) fuel [some (.ref 1), some (.int below), x, y, z] (.lst (bigs.map D.int) :: .lst X1 :: T) = .nx [some (.ref 1), some (.int below), x', y, z] (.lst ([].map D.int) :: .lst X1 :: T)) ∨
    (∃ (r : Int) (b' : List Int), whLoop (evT ⟨C w n, tabOf ts, w⟩ drCond) (exs ⟨C w n, tabOf ts, w⟩ drBody) fuel [some (.ref 1), some (.int below), x, y, z] (.lst (bigs.map D.int) :: .lst X1 :: T) = .ret (.int r) (.lst (b'.map D.int) :: .lst X1 :: T) ∧ 0 ≤ r ∧ r < below ∧ b'.length ≤ bigs.length ∧ ∀ b ∈ b', 0 ≤ b)
  | [], 0, _, _, _, h, _ => absurd h (by simp)
  | _ :: _, 0, _, _, _, h, _ => absurd h (by simp)
  | [], fuel + 1, x, y, z, _, _ => by
    obtain ⟨b, c, rfl⟩ := hX
    refine .inl ⟨x, ?_⟩
    have e : evT ⟨C w n, tabOf ts, w⟩ drCond [some (.ref 1), some (.int below), x, y, z] (.lst ([].map D.int) :: .lst [.ref 0, b, c] :: T) = .ok false (.lst ([].map D.int) :: .lst [.ref 0, b, c] :: T) := by
      simp only [exs_c, exs_n, ex, ev, evs, evSq, evAnd, evOr, evF, evO, evC, evI, asg, asgs, evT, Cn.d, bind_ok, bind_bad, bind_err, bind_ite, exS_ok, exS_bad, exS_ite, seq_nx, seq_ret, seq_brk, seq_cont, seq_bad, seq_ite, fin_ret, fin_nx, fin_bad, fin_ite, of_some, of_none, when_t, calm_ok, add_i, sub_i, add_s, mul_i, div_i, mod_i, pow_i, aug_add, aug_sub, eq_i, ne_i, eq_s, ne_s, eq_b, ne_b, lt_i, le_i, gt_i, ge_i, is_n, isnot_n, tr_b, tr_i, tr_t, tr_l, tr_n, asInt_i, asStr_s, asStr_i, asStr_t, asBl_b, asTup_t, isNon_n, isNon_i, isNon_s, isNon_t, isNon_l, startE, parSet, wipeE, List.map_cons, List.map_nil, List.length_cons, List.length_nil, Nat.reduceAdd, Nat.reduceSub, List.replicate, List.cons_append, List.nil_append, List.append_nil, List.getElem?_cons_zero, List.getElem?_cons_succ, List.set_cons_zero, List.set_cons_succ, if_true, if_false, Bool.false_eq_true, Bool.true_and, Bool.and_true, Bool.not_true, Bool.not_false, Nat.reduceBEq, BEq.rfl, Option.isSome_some, Option.isSome_none, reduceIte, reduceCtorEq, decide_true, decide_false, drCond, ix_10, when_dec (show (0 : Nat) ≤ sizeLine by decide)]
      rw [ne_nil_0 rfl]
      rfl
    simp only [whLoop, e]
  | b0 :: bigs, fuel + 1, x, y, z, hf, hn => by
    obtain ⟨b, c, rfl⟩ := hX
    simp only [List.length_cons] at hf
    have e : evT ⟨C w n, tabOf ts, w⟩ drCond [some (.ref 1), some (.int below), x, y, z] (.lst ((b0 :: bigs).map D.int) :: .lst [.ref 0, b, c] :: T) = .ok true (.lst ((b0 :: bigs).map D.int) :: .lst [.ref 0, b, c] :: T) := by
      simp only [exs_c, exs_n, ex, ev, evs, evSq, evAnd, evOr, evF, evO, evC, evI, asg, asgs, evT, Cn.d, bind_ok, bind_bad, bind_err, bind_ite, exS_ok, exS_bad, exS_ite, seq_nx, seq_ret, seq_brk, seq_cont, seq_bad, seq_ite, fin_ret, fin_nx, fin_bad, fin_ite, of_some, of_none, when_t, calm_ok, add_i, sub_i, add_s, mul_i, div_i, mod_i, pow_i, aug_add, aug_sub, eq_i, ne_i, eq_s, ne_s, eq_b, ne_b, lt_i, le_i, gt_i, ge_i, is_n, isnot_n, tr_b, tr_i, tr_t, tr_l, tr_n, asInt_i, asStr_s, asStr_i, asStr_t, asBl_b, asTup_t, isNon_n, isNon_i, isNon_s, isNon_t, isNon_l, startE, parSet, wipeE, List.map_cons, List.map_nil, List.length_cons, List.length_nil, Nat.reduceAdd, Nat.reduceSub, List.replicate, List.cons_append, List.nil_append, List.append_nil, List.getElem?_cons_zero, List.getElem?_cons_succ, List.set_cons_zero, List.set_cons_succ, if_true, if_false, Bool.false_eq_true, Bool.true_and, Bool.and_true, Bool.not_true, Bool.not_false, Nat.reduceBEq, BEq.rfl, Option.isSome_some, Option.isSome_none, reduceIte, reduceCtorEq, decide_true, decide_false, drCond, ix_10, when_dec (show (0 : Nat) ≤ sizeLine by decide)]
      rw [show evCmp .ne (.ref 0) (.lst []) (.lst (D.int b0 :: bigs.map D.int) :: .lst [.ref 0, b, c] :: T) = _ from ne_nil_0 (flat_ints (b0 :: bigs) 58)]
      rfl
    by_cases h0 : 0 < b0
    · refine .inr ⟨b0 % below, (b0 / below) :: bigs, ?_, Int.emod_nonneg _ (by omega), Int.emod_lt_of_pos _ hb, by simp, ?_⟩
      · have eb : exs ⟨C w n, tabOf ts, w⟩ drBody [some (.ref 1), some (.int below), x, y, z] (.lst ((b0 :: bigs).map D.int) :: .lst [.ref 0, b, c] :: T) = .ret (.int (b0 % below)) (.lst (((b0 / below) :: bigs).map D.int) :: .lst [.ref 0, b, c] :: T) := by
          simp only [exs_c, exs_n, ex, ev, evs, evSq, evAnd, evOr, evF, evO, evC, evI, asg, asgs, evT, Cn.d, bind_ok, bind_bad, bind_err, bind_ite, exS_ok, exS_bad, exS_ite, seq_nx, seq_ret, seq_brk, seq_cont, seq_bad, seq_ite, fin_ret, fin_nx, fin_bad, fin_ite, of_some, of_none, when_t, calm_ok, add_i, sub_i, add_s, mul_i, div_i, mod_i, pow_i, aug_add, aug_sub, eq_i, ne_i, eq_s, ne_s, eq_b, ne_b, lt_i, le_i, gt_i, ge_i, is_n, isnot_n, tr_b, tr_i, tr_t, tr_l, tr_n, asInt_i, asStr_s, asStr_i, asStr_t, asBl_b, asTup_t, isNon_n, isNon_i, isNon_s, isNon_t, isNon_l, startE, parSet, wipeE, List.map_cons, List.map_nil, List.length_cons, List.length_nil, Nat.reduceAdd, Nat.reduceSub, List.replicate, List.cons_append, List.nil_append, List.append_nil, List.getElem?_cons_zero, List.getElem?_cons_succ, List.set_cons_zero, List.set_cons_succ, if_true, if_false, Bool.false_eq_true, Bool.true_and, Bool.and_true, Bool.not_true, Bool.not_false, Nat.reduceBEq, BEq.rfl, Option.isSome_some, Option.isSome_none, reduceIte, reduceCtorEq, decide_true, decide_false, drBody, ix_10, ix_00, decide_eq_true h0, decide_eq_true hb, wide_of (Int.le_of_lt hb) hb2, set_00]
        simp only [whLoop, e, eb]
      · intro q hq
        rcases List.mem_cons.mp hq with rfl | hq
        · exact Int.ediv_nonneg (by omega) (by omega)
        · exact hn q (List.mem_cons_of_mem _ hq)
    · have eb : exs ⟨C w n, tabOf ts, w⟩ drBody [some (.ref 1), some (.int below), x, y, z] (.lst ((b0 :: bigs).map D.int) :: .lst [.ref 0, b, c] :: T) = .nx [some (.ref 1), some (.int below), some (.int b0), y, z] (.lst (bigs.map D.int) :: .lst [.ref 0, b, c] :: T) := by
        simp only [exs_c, exs_n, ex, ev, evs, evSq, evAnd, evOr, evF, evO, evC, evI, asg, asgs, evT, Cn.d, bind_ok, bind_bad, bind_err, bind_ite, exS_ok, exS_bad, exS_ite, seq_nx, seq_ret, seq_brk, seq_cont, seq_bad, seq_ite, fin_ret, fin_nx, fin_bad, fin_ite, of_some, of_none, when_t, calm_ok, add_i, sub_i, add_s, mul_i, div_i, mod_i, pow_i, aug_add, aug_sub, eq_i, ne_i, eq_s, ne_s, eq_b, ne_b, lt_i, le_i, gt_i, ge_i, is_n, isnot_n, tr_b, tr_i, tr_t, tr_l, tr_n, asInt_i, asStr_s, asStr_i, asStr_t, asBl_b, asTup_t, isNon_n, isNon_i, isNon_s, isNon_t, isNon_l, startE, parSet, wipeE, List.map_cons, List.map_nil, List.length_cons, List.length_nil, Nat.reduceAdd, Nat.reduceSub, List.replicate, List.cons_append, List.nil_append, List.append_nil, List.getElem?_cons_zero, List.getElem?_cons_succ, List.set_cons_zero, List.set_cons_succ, if_true, if_false, Bool.false_eq_true, Bool.true_and, Bool.and_true, Bool.not_true, Bool.not_false, Nat.reduceBEq, BEq.rfl, Option.isSome_some, Option.isSome_none, reduceIte, reduceCtorEq, decide_true, decide_false, drBody, ix_10, ix_00, decide_eq_false h0, popat_0, asRef_0]
      rcases dr_loop below hb hb2 [.ref 0, b, c] T ⟨b, c, rfl⟩ bigs fuel (some (.int b0)) y z (by omega) (fun q hq => hn q (List.mem_cons_of_mem _ hq)) with ⟨x', h1⟩ | ⟨r, b', h1, h2, h3, h4, h5⟩
      · refine .inl ⟨x', ?_⟩
        simp only [whLoop, e, eb]
        exact h1
      · refine .inr ⟨r, b', ?_, h2, h3, by simp; omega, h5⟩
        simp only [whLoop, e, eb]
        exact h1
end K79

namespace K79
open PySem TF SX L2
variable {w n : Nat} {M : List MO}
theorem ok_mono {d : Dk} {k k' : Nat} (h : Ok d k) (hk : k ≤ k') : Ok d k' := ⟨h.len, h.nn, h.ne, h.j0, by have := h.jk; omega⟩
theorem mulL {i j : Int} (h : smallB i = true) : evOp .mul (.int i) (.int j) M = .ok (.int (i * j)) M := by
  rw [mul_i, h]
  rfl
theorem mulR {i j : Int} (h : smallB j = true) : evOp .mul (.int i) (.int j) M = .ok (.int (i * j)) M := by
  rw [mul_i, h, Bool.or_true]
  rfl
theorem modP {i j : Int} (h : 0 < j) : evOp .mod (.int i) (.int j) M = .ok (.int (i % j)) M := by
  rw [mod_i]
  exact when_dec h
theorem divP {i j : Int} (h : 0 < j) (h2 : j ≤ 10 ^ 13) : evOp .div (.int i) (.int j) M = .ok (.int (i / j)) M := by
  rw [div_i, decide_eq_true h, wide_of (Int.le_of_lt h) h2]
  rfl
theorem draw_ok (hw : 64 ≤ w) {d : Dk} {k : Nat} (T : List MO) (h : Ok d k) (hk : k ≤ 1000000) {below : Int} (hb : 0 < below) (hb2 : below ≤ 10 ^ 13) :
    ∃ (r : Int) (d' : Dk), C w (n + 1) f_law_draw [.ref 1, .int below] (dm d T) = .ok (.int r) (dm d' T) ∧ Ok d' (k + 1) ∧ 0 ≤ r ∧ r < below := by
  have hce : C w (n + 1) f_law_draw [.ref 1, .int below] (dm d T) = _ := call_eq (d := ⟨b_law_draw, 5⟩) rfl rfl
  rw [hce]
  unfold b_law_draw
  rw [exs_c]
  have hwh : ∀ e M, ex ⟨C w n, tabOf ts, w⟩ (.wh drCond drBody) e M = whLoop (evT ⟨C w n, tabOf ts, w⟩ drCond) (exs ⟨C w n, tabOf ts, w⟩ drBody) w e M := fun _ _ => rfl
  rcases dr_loop (w := w) (n := n) below hb hb2 [.ref 0, .lst (d.cells.map D.int), .int d.j] T ⟨_, _, rfl⟩ d.bigs w none none none (by have := h.len; omega) h.nn with ⟨x', h1⟩ | ⟨r, b', h1, h2, h3, h4, h5⟩
  · have h1 := (hwh _ _).trans h1
    obtain ⟨q, hq⟩ : ∃ q, d.cells[((d.j + 1) % (d.cells.length : Int)).toNat]? = some q := by
      have hl : 0 < d.cells.length := List.length_pos_iff.mpr h.ne
      have h1 := Int.emod_nonneg (d.j + 1) (show (d.cells.length : Int) ≠ 0 by omega)
      have h2 := Int.emod_lt_of_pos (d.j + 1) (show (0 : Int) < (d.cells.length : Int) by omega)
      exact ⟨_, List.getElem?_eq_getElem (h := by omega)⟩
    have hl : (0 : Int) < (d.cells.map D.int).length := by
      have := List.length_pos_iff.mpr h.ne
      rw [List.length_map]
      omega
    have at1 : atI (d.cells.map D.int) ((d.j + 1) % ((d.cells.map D.int).length : Int)) = some (.int q) := by
      have h1 := Int.emod_nonneg (d.j + 1) (show ((d.cells.map D.int).length : Int) ≠ 0 by omega)
      have e := Int.toNat_of_nonneg h1
      rw [← e]
      refine at_nat ?_
      rw [List.getElem?_map, List.length_map, hq]
      rfl
    have c0 := Int.emod_nonneg q (show (2147483629 : Int) ≠ 0 by decide)
    have c1 := Int.emod_lt_of_pos q (show (0 : Int) < 2147483629 by decide)
    have j0 := h.j0
    have jk := h.jk
    refine ⟨((((q % 2147483629) * (69621 + 2 * (d.j + 1)) + 30011 + 48271 * (d.j + 1) * (d.j + 1)) % 2147483587) * (((q % 2147483629) * (69621 + 2 * (d.j + 1)) + 30011 + 48271 * (d.j + 1) * (d.j + 1)) % 2147483587)) % 2147483563 / 16 % below, ⟨[], d.cells, d.j + 1⟩, ?_, ⟨by simp, by simp, h.ne, by show 0 ≤ d.j + 1; omega, by show d.j + 1 ≤ ((k + 1 : Nat) : Int); omega⟩, ?_⟩
    · refine step h1 ?_
      generalize hcl : d.cells.map D.int = cl at *
      rw [exs_c]
      refine step (e := [some (.ref 1), some (.int below), x', none, none]) (M := dm ⟨[], d.cells, d.j + 1⟩ T) ?_ ?_
      · unfold dm
        rw [hcl]
        simp only [exs_c, exs_n, ex, ev, evs, evSq, evAnd, evOr, evF, evO, evC, evI, asg, asgs, evT, Cn.d, bind_ok, bind_bad, bind_err, bind_ite, exS_ok, exS_bad, exS_ite, seq_nx, seq_ret, seq_brk, seq_cont, seq_bad, seq_ite, fin_ret, fin_nx, fin_bad, fin_ite, of_some, of_none, when_t, calm_ok, add_i, sub_i, add_s, mul_i, div_i, mod_i, pow_i, aug_add, aug_sub, eq_i, ne_i, eq_s, ne_s, eq_b, ne_b, lt_i, le_i, gt_i, ge_i, is_n, isnot_n, tr_b, tr_i, tr_t, tr_l, tr_n, asInt_i, asStr_s, asStr_i, asStr_t, asBl_b, asTup_t, isNon_n, isNon_i, isNon_s, isNon_t, isNon_l, startE, parSet, wipeE, List.map_cons, List.map_nil, List.length_cons, List.length_nil, Nat.reduceAdd, Nat.reduceSub, List.replicate, List.cons_append, List.nil_append, List.append_nil, List.getElem?_cons_zero, List.getElem?_cons_succ, List.set_cons_zero, List.set_cons_succ, if_true, if_false, Bool.false_eq_true, Bool.true_and, Bool.and_true, Bool.not_true, Bool.not_false, Nat.reduceBEq, BEq.rfl, Option.isSome_some, Option.isSome_none, reduceIte, reduceCtorEq, decide_true, decide_false, ix_12, set_12]
      rw [exs_c]
      refine step (e := [some (.ref 1), some (.int below), x', some (.int (q % 2147483629)), none]) (M := dm ⟨[], d.cells, d.j + 1⟩ T) ?_ ?_
      · unfold dm
        rw [hcl]
        simp only [exs_c, exs_n, ex, ev, evs, evSq, evAnd, evOr, evF, evO, evC, evI, asg, asgs, evT, Cn.d, bind_ok, bind_bad, bind_err, bind_ite, exS_ok, exS_bad, exS_ite, seq_nx, seq_ret, seq_brk, seq_cont, seq_bad, seq_ite, fin_ret, fin_nx, fin_bad, fin_ite, of_some, of_none, when_t, calm_ok, add_i, sub_i, add_s, mul_i, div_i, mod_i, pow_i, aug_add, aug_sub, eq_i, ne_i, eq_s, ne_s, eq_b, ne_b, lt_i, le_i, gt_i, ge_i, is_n, isnot_n, tr_b, tr_i, tr_t, tr_l, tr_n, asInt_i, asStr_s, asStr_i, asStr_t, asBl_b, asTup_t, isNon_n, isNon_i, isNon_s, isNon_t, isNon_l, startE, parSet, wipeE, List.map_cons, List.map_nil, List.length_cons, List.length_nil, Nat.reduceAdd, Nat.reduceSub, List.replicate, List.cons_append, List.nil_append, List.append_nil, List.getElem?_cons_zero, List.getElem?_cons_succ, List.set_cons_zero, List.set_cons_succ, if_true, if_false, Bool.false_eq_true, Bool.true_and, Bool.and_true, Bool.not_true, Bool.not_false, Nat.reduceBEq, BEq.rfl, Option.isSome_some, Option.isSome_none, reduceIte, reduceCtorEq, decide_true, decide_false, ix_12, ix_11, len_l, when_dec hl, ix_l at1, when_dec (show (0 : Int) < 2147483629 by decide)]
      generalize q % 2147483629 = c at *
      rw [exs_c]
      refine step (e := [some (.ref 1), some (.int below), x', some (.int c), some (.int (c * (69621 + 2 * (d.j + 1)) + 30011))]) (M := dm ⟨[], d.cells, d.j + 1⟩ T) ?_ ?_
      · unfold dm
        simp only [ex, ev, bind_ok, exS_ok, asg, Cn.d, List.getElem?_cons_zero, List.getElem?_cons_succ, List.set_cons_zero, List.set_cons_succ, ix_12, mulL (small_of c0 (by omega)), mulL (show smallB 2 = true from rfl), add_i]
      generalize c * (69621 + 2 * (d.j + 1)) + 30011 = mx at *
      rw [exs_c]
      refine step (e := [some (.ref 1), some (.int below), x', some (.int c), some (.int ((mx + 48271 * (d.j + 1) * (d.j + 1)) % 2147483587))]) (M := dm ⟨[], d.cells, d.j + 1⟩ T) ?_ ?_
      · unfold dm
        simp only [ex, ev, bind_ok, exS_ok, asg, Cn.d, List.getElem?_cons_zero, List.getElem?_cons_succ, List.set_cons_zero, List.set_cons_succ, ix_12, mulR (small_of (show 0 ≤ d.j + 1 by omega) (by omega)), add_i, modP (show (0 : Int) < 2147483587 by decide)]
      have m0 := Int.emod_nonneg (mx + 48271 * (d.j + 1) * (d.j + 1)) (show (2147483587 : Int) ≠ 0 by decide)
      have m1 := Int.emod_lt_of_pos (mx + 48271 * (d.j + 1) * (d.j + 1)) (show (0 : Int) < 2147483587 by decide)
      generalize (mx + 48271 * (d.j + 1) * (d.j + 1)) % 2147483587 = m at *
      simp only [exs_c, ex, ev, bind_ok, exS_ok, seq_ret, fin_ret, Cn.d, List.getElem?_cons_zero, List.getElem?_cons_succ, mulL (small_of m0 (by omega)), modP (show (0 : Int) < 2147483563 by decide), divP (show (0 : Int) < 16 by decide) (by decide), modP hb]
    · exact ⟨Int.emod_nonneg _ (by omega), Int.emod_lt_of_pos _ hb⟩
  · have h1 := (hwh _ _).trans h1
    exact ⟨r, ⟨b', d.cells, d.j⟩, stepr h1, ⟨by have := h.len; show b'.length ≤ 63; omega, h5, h.ne, h.j0, by have := h.jk; show d.j ≤ ((k + 1 : Nat) : Int); omega⟩, h2, h3⟩
theorem pow_6 : evOp .pow (.int 10) (.int 6) M = .ok (.int 1000000) M := rfl
theorem pow_7 : evOp .pow (.int 10) (.int 7) M = .ok (.int 10000000) M := rfl
theorem pow_12 : evOp .pow (.int 10) (.int 12) M = .ok (.int 1000000000000) M := rfl
theorem pow_18 : evOp .pow (.int 10) (.int 18) M = .ok (.int 1000000000000000000) M := rfl
theorem big_ok (hw : 64 ≤ w) {d : Dk} {k : Nat} (T : List MO) (h : Ok d k) (hk : k ≤ 900000) {below : Int} (hb : 0 < below) :
    ∃ (r : Int) (d' : Dk), C w (n + 2) f_law_big [.ref 1, .int below] (dm d T) = .ok (.int r) (dm d' T) ∧ Ok d' (k + 2) ∧ 0 ≤ r ∧ r < below := by
  obtain ⟨r1, d1, e1, o1, a1, b1⟩ := draw_ok (w := w) (n := n) hw T h (by omega) (show (0 : Int) < 1000000 by decide) (by decide)
  obtain ⟨r2, d2, e2, o2, a2, b2⟩ := draw_ok (w := w) (n := n) hw T o1 (by omega) (show (0 : Int) < 10000000 by decide) (by decide)
  refine ⟨(r1 * 10000000 + r2) % below, d2, ?_, o2, Int.emod_nonneg _ (by omega), Int.emod_lt_of_pos _ hb⟩
  refine (call_eq (d := ⟨b_law_big, 2⟩) rfl rfl).trans ?_
  have e1 : callF (tabOf ts) (fsOf ds) w (n + 1) 26 [.ref 1, .int 1000000] (dm d T) = _ := e1
  have e2 : callF (tabOf ts) (fsOf ds) w (n + 1) 26 [.ref 1, .int 10000000] (dm d1 T) = _ := e2
  simp only [b_law_big, startE, List.map_cons, List.map_nil, List.length_cons, List.length_nil, Nat.reduceAdd, Nat.reduceSub, List.replicate, List.cons_append, List.nil_append, exs_c, ex, ev, evs, bind_ok, exS_ok, seq_ret, fin_ret, Cn.d, List.getElem?_cons_zero, List.getElem?_cons_succ, pow_6, pow_7, e1, e2, mulR (show smallB 10000000 = true from rfl), add_i, modP hb]
/-! own list behind the deck -/
theorem dm_len {d : Dk} {T : List MO} : (dm d T).length = T.length + 2 := rfl
theorem dm_snoc {d : Dk} {T : List MO} {x : MO} : dm d T ++ [x] = dm d (T ++ [x]) := rfl
theorem dm_get {d : Dk} {T : List MO} {x : MO} : (dm d (T ++ [x]))[T.length + 2]? = some x := by
  show (T ++ [x])[T.length]? = some x
  simp
theorem asRef_T {d : Dk} {T : List MO} {l : List D} : asRef (dm d (T ++ [.lst l])) (.ref (T.length + 2)) = some (T.length + 2, l) := by
  show (match (dm d (T ++ [.lst l]))[T.length + 2]? with | some (.lst l) => some (T.length + 2, l) | _ => none) = _
  rw [dm_get]
theorem dm_set {d : Dk} {T : List MO} {x y : MO} : (dm d (T ++ [x])).set (T.length + 2) y = dm d (T ++ [y]) := by
  show _ :: _ :: (T ++ [x]).set T.length y = _
  simp [dm]
theorem app_T {d : Dk} {T : List MO} {l : List D} {u : D} (h : l.length < sizeLine) : evMm .append (.ref (T.length + 2)) [u] (dm d (T ++ [.lst l])) = .ok .non (dm d (T ++ [.lst (l ++ [u])])) := by
  unfold evMm
  rw [asRef_T]
  show R.when (decide (l.length < sizeLine)) (R.ok D.non ((dm d (T ++ [.lst l])).set (T.length + 2) (.lst (l ++ [u])))) = _
  rw [when_dec h, dm_set]
theorem ix_T {d : Dk} {T : List MO} {l : List D} {i : Int} {u : D} (h : atI l i = some u) : evIx (.ref (T.length + 2)) (.int i) (dm d (T ++ [.lst l])) = .ok u (dm d (T ++ [.lst l])) := ix_r dm_get h
theorem seqV_T {d : Dk} {T : List MO} {l : List D} : seqV (dm d (T ++ [.lst l])) (.ref (T.length + 2)) = some (true, l) := by
  show (match (dm d (T ++ [.lst l]))[T.length + 2]? with | some (.lst l) => some (true, l) | _ => none) = _
  rw [dm_get]
theorem tup_T {d : Dk} {T : List MO} {l : List D} : evBi .tuple [.ref (T.length + 2)] (dm d (T ++ [.lst l])) = .ok (.tup l) (dm d (T ++ [.lst l])) := by
  show (match seqV (dm d (T ++ [.lst l])) (.ref (T.length + 2)) with | some (_, l) => R.ok (D.tup l) _ | none => .bad) = _
  rw [seqV_T]
theorem rngD_map : ∀ (m k : Nat), rngD 0 k m = (List.range' k m).map fun (i : Nat) => D.int (0 + (i : Int))
  | 0, _ => rfl
  | m + 1, k => by
    rw [List.range'_succ, List.map_cons, ← rngD_map m (k + 1)]
    rfl
theorem range_at {m : Nat} {dn r : List Nat} {a : Nat} (h : List.range' 0 m = dn ++ a :: r) : a = dn.length := by
  have e : (List.range' 0 m)[dn.length]? = some a := by rw [h]; simp
  have hl : dn.length < m := by
    have := congrArg List.length h
    simp at this
    omega
  rw [List.getElem?_range' hl] at e
  simp at e
  omega
end K79

namespace K79
open PySem TF SX L2
variable {w n : Nat} {M : List MO}
theorem ix5 {i : Int} (h0 : 0 ≤ i) (h1 : i < 5) : ∃ v : Int, ∀ M, evIx (.lst [.int 6, .int 2, .int 10, .int 6, .int 6]) (.int i) M = .ok (.int v) M := by
  have : i = 0 ∨ i = 1 ∨ i = 2 ∨ i = 3 ∨ i = 4 := by omega
  rcases this with rfl | rfl | rfl | rfl | rfl
  · exact ⟨6, fun _ => rfl⟩
  · exact ⟨2, fun _ => rfl⟩
  · exact ⟨10, fun _ => rfl⟩
  · exact ⟨6, fun _ => rfl⟩
  · exact ⟨6, fun _ => rfl⟩
theorem ix2 {i : Int} (h0 : 0 ≤ i) (h1 : i < 2) : ∃ v : Int, ∀ M, evIx (.lst [.int 10, .int 3]) (.int i) M = .ok (.int v) M := by
  have : i = 0 ∨ i = 1 := by omega
  rcases this with rfl | rfl
  · exact ⟨10, fun _ => rfl⟩
  · exact ⟨3, fun _ => rfl⟩
theorem ixF {i : Int} (h0 : 0 ≤ i) (h1 : i < 2) : ∃ f : Str, (f = "right" ∨ f = "left") ∧ ∀ M, evIx (.lst [.str "right", .str "left"]) (.int i) M = .ok (.str f) M := by
  have : i = 0 ∨ i = 1 := by omega
  rcases this with rfl | rfl
  · exact ⟨"right", .inl rfl, fun _ => rfl⟩
  · exact ⟨"left", .inr rfl, fun _ => rfl⟩
def flTurn (w n : Nat) (x : D) (e : Ev) (M : List MO) : O := exS (asg ⟨C w n, tabOf ts, w⟩ (.nm 4) x e M) e fun e M => exs ⟨C w n, tabOf ts, w⟩
  (.cons (.set (.nm 5) (.hcall 26 (.cons (.v 0) (.cons (.c (.int 12)) .nil)))) (.cons (.ite (.bor (.cons (.cmp .lt (.v 2) (.c (.int 3))) (.cons (.cmp .eq (.v 4) (.c (.int 0))) .nil))) (.cons (.ex (.mm .append (.v 3) (.cons (.cmp .lt (.v 5) (.ix (.lst (.cons false (.c (.int 6)) (.cons false (.c (.int 2)) (.cons false (.c (.int 10)) (.cons false (.c (.int 6)) (.cons false (.c (.int 6)) .nil)))))) (.v 2))) .nil))) .nil) (.cons (.ex (.mm .append (.v 3) (.cons (.cmp .ne (.ix (.v 3) (.neg (.c (.int 1)))) (.cmp .lt (.v 5) (.ix (.lst (.cons false (.c (.int 10)) (.cons false (.c (.int 3)) .nil))) (.op .sub (.v 2) (.c (.int 3)))))) .nil))) .nil)) .nil)) e M
theorem fl_turn (hw : 64 ≤ w) {d : Dk} {k : Nat} (T : List MO) (h : Ok d k) (hk : k ≤ 900000) {way size : Int} (w0 : 0 ≤ way) (w1 : way < 5) (i : Int) (fl : List Bool) (hl : fl.length ≤ 100) (hi : i = 0 ∨ fl ≠ []) (x y : Option D) :
    ∃ (d' : Dk) (b : Bool) (y' : Option D), flTurn w (n + 1) (.int i) [some (.ref 1), some (.int size), some (.int way), some (.ref (T.length + 2)), x, y] (dm d (T ++ [.lst (fl.map D.bl)])) = .nx [some (.ref 1), some (.int size), some (.int way), some (.ref (T.length + 2)), some (.int i), y'] (dm d' (T ++ [.lst ((fl ++ [b]).map D.bl)])) ∧ Ok d' (k + 1) := by
  obtain ⟨r, d1, e1, o1, a1, b1⟩ := draw_ok (w := w) (n := n) hw (T ++ [.lst (fl.map D.bl)]) h (by omega) (show (0 : Int) < 12 by decide) (by decide)
  have e1 : C w (n + 1) 26 [.ref 1, .int 12] (dm d (T ++ [.lst (fl.map D.bl)])) = _ := e1
  have hap : ∀ b : Bool, evMm .append (.ref (T.length + 2)) [.bl b] (dm d1 (T ++ [.lst (fl.map D.bl)])) = .ok .non (dm d1 (T ++ [.lst ((fl ++ [b]).map D.bl)])) := fun b => by
    rw [app_T (by rw [List.length_map]; exact Nat.lt_of_le_of_lt hl (by decide)), List.map_append]
    rfl
  have s5 := when_dec (α := D) (r := .ok (.lst [.int 6, .int 2, .int 10, .int 6, .int 6]) (dm d1 (T ++ [.lst (fl.map D.bl)]))) (show (5 : Nat) ≤ sizeLine by decide)
  have s2 := when_dec (α := D) (r := .ok (.lst [.int 10, .int 3]) (dm d1 (T ++ [.lst (fl.map D.bl)]))) (show (2 : Nat) ≤ sizeLine by decide)
  have hrs : (asRef (dm d1 (T ++ [.lst (fl.map D.bl)])) (.ref (T.length + 2))).isSome = true := by rw [asRef_T]; rfl
  by_cases hw3 : way < 3
  · obtain ⟨v, hv⟩ := ix5 w0 w1
    refine ⟨d1, decide (r < v), some (.int r), ?_, o1⟩
    unfold flTurn
    simp only [exs_c, exs_n, ex, ev, evs, evSq, evAnd, evOr, evF, evO, evC, evI, asg, asgs, evT, Cn.d, bind_ok, bind_bad, bind_err, bind_ite, exS_ok, exS_bad, exS_ite, seq_nx, seq_ret, seq_brk, seq_cont, seq_bad, seq_ite, fin_ret, fin_nx, fin_bad, fin_ite, of_some, of_none, when_t, calm_ok, add_i, sub_i, add_s, mul_i, div_i, mod_i, pow_i, aug_add, aug_sub, eq_i, ne_i, eq_s, ne_s, eq_b, ne_b, lt_i, le_i, gt_i, ge_i, is_n, isnot_n, tr_b, tr_i, tr_t, tr_l, tr_n, asInt_i, asStr_s, asStr_i, asStr_t, asBl_b, asTup_t, isNon_n, isNon_i, isNon_s, isNon_t, isNon_l, startE, parSet, wipeE, List.map_cons, List.map_nil, List.length_cons, List.length_nil, Nat.reduceAdd, Nat.reduceSub, List.replicate, List.cons_append, List.nil_append, List.append_nil, List.getElem?_cons_zero, List.getElem?_cons_succ, List.set_cons_zero, List.set_cons_succ, if_true, if_false, Bool.false_eq_true, Bool.true_and, Bool.and_true, Bool.not_true, Bool.not_false, Nat.reduceBEq, BEq.rfl, Option.isSome_some, Option.isSome_none, reduceIte, reduceCtorEq, decide_true, decide_false, e1, decide_eq_true hw3, s5, hv, hap, hrs]
  · by_cases hi0 : i = 0
    · subst hi0
      obtain ⟨v, hv⟩ := ix5 w0 w1
      refine ⟨d1, decide (r < v), some (.int r), ?_, o1⟩
      unfold flTurn
      simp only [exs_c, exs_n, ex, ev, evs, evSq, evAnd, evOr, evF, evO, evC, evI, asg, asgs, evT, Cn.d, bind_ok, bind_bad, bind_err, bind_ite, exS_ok, exS_bad, exS_ite, seq_nx, seq_ret, seq_brk, seq_cont, seq_bad, seq_ite, fin_ret, fin_nx, fin_bad, fin_ite, of_some, of_none, when_t, calm_ok, add_i, sub_i, add_s, mul_i, div_i, mod_i, pow_i, aug_add, aug_sub, eq_i, ne_i, eq_s, ne_s, eq_b, ne_b, lt_i, le_i, gt_i, ge_i, is_n, isnot_n, tr_b, tr_i, tr_t, tr_l, tr_n, asInt_i, asStr_s, asStr_i, asStr_t, asBl_b, asTup_t, isNon_n, isNon_i, isNon_s, isNon_t, isNon_l, startE, parSet, wipeE, List.map_cons, List.map_nil, List.length_cons, List.length_nil, Nat.reduceAdd, Nat.reduceSub, List.replicate, List.cons_append, List.nil_append, List.append_nil, List.getElem?_cons_zero, List.getElem?_cons_succ, List.set_cons_zero, List.set_cons_succ, if_true, if_false, Bool.false_eq_true, Bool.true_and, Bool.and_true, Bool.not_true, Bool.not_false, Nat.reduceBEq, BEq.rfl, Option.isSome_some, Option.isSome_none, reduceIte, reduceCtorEq, decide_true, decide_false, e1, decide_eq_false hw3, s5, hv, hap, hrs]
    · have hf : fl ≠ [] := hi.resolve_left hi0
      obtain ⟨v, hv⟩ := ix2 (i := way - 3) (by omega) (by omega)
      obtain ⟨init, q, rfl⟩ : ∃ init q, fl = init ++ [q] := by
        rcases List.eq_nil_or_concat fl with e | ⟨init, q, e⟩
        · exact absurd e hf
        · exact ⟨init, q, by rw [e, List.concat_eq_append]⟩
      have hix : evIx (.ref (T.length + 2)) (.int (-1)) (dm d1 (T ++ [.lst ((init ++ [q]).map D.bl)])) = .ok (.bl q) (dm d1 (T ++ [.lst ((init ++ [q]).map D.bl)])) := ix_T (by
        rw [List.map_append]
        exact at_last)
      have hi1 : (i == 0) = false := by simpa using hi0
      refine ⟨d1, !(q == decide (r < v)), some (.int r), ?_, o1⟩
      unfold flTurn
      simp only [exs_c, exs_n, ex, ev, evs, evSq, evAnd, evOr, evF, evO, evC, evI, asg, asgs, evT, Cn.d, bind_ok, bind_bad, bind_err, bind_ite, exS_ok, exS_bad, exS_ite, seq_nx, seq_ret, seq_brk, seq_cont, seq_bad, seq_ite, fin_ret, fin_nx, fin_bad, fin_ite, of_some, of_none, when_t, calm_ok, add_i, sub_i, add_s, mul_i, div_i, mod_i, pow_i, aug_add, aug_sub, eq_i, ne_i, eq_s, ne_s, eq_b, ne_b, lt_i, le_i, gt_i, ge_i, is_n, isnot_n, tr_b, tr_i, tr_t, tr_l, tr_n, asInt_i, asStr_s, asStr_i, asStr_t, asBl_b, asTup_t, isNon_n, isNon_i, isNon_s, isNon_t, isNon_l, startE, parSet, wipeE, List.map_cons, List.map_nil, List.length_cons, List.length_nil, Nat.reduceAdd, Nat.reduceSub, List.replicate, List.cons_append, List.nil_append, List.append_nil, List.getElem?_cons_zero, List.getElem?_cons_succ, List.set_cons_zero, List.set_cons_succ, if_true, if_false, Bool.false_eq_true, Bool.true_and, Bool.and_true, Bool.not_true, Bool.not_false, Nat.reduceBEq, BEq.rfl, Option.isSome_some, Option.isSome_none, reduceIte, reduceCtorEq, decide_true, decide_false, e1, decide_eq_false hw3, hi1, s2, hv, hap, hrs, hix]
theorem flags_ok (hw : 64 ≤ w) {d : Dk} {k : Nat} (T : List MO) (h : Ok d k) (hk : k ≤ 800000) {size : Int} (h0 : 0 ≤ size) (h1 : size ≤ 42) :
    ∃ (fl : List Bool) (d' : Dk) (J : List MO), C w (n + 2) f_law_flags [.ref 1, .int size] (dm d T) = .ok (.tup (fl.map D.bl)) (dm d' (T ++ J)) ∧ Ok d' (k + 43) ∧ (fl.length : Int) = size := by
  obtain ⟨way, d1, e1, o1, a1, b1⟩ := draw_ok (w := w) (n := n) hw T h (by omega) (show (0 : Int) < 5 by decide) (by decide)
  have e1 : callF (tabOf ts) (fsOf ds) w (n + 1) 26 [.ref 1, .int 5] (dm d T) = _ := e1
  obtain ⟨e', M', l1, l2⟩ := for_ind (turn := flTurn w (n + 1)) (f := fun (i : Nat) => D.int (0 + (i : Int))) (fun dn e M => ∃ (d' : Dk) (fl : List Bool) (x y : Option D), M = dm d' (T ++ [.lst (fl.map D.bl)]) ∧ Ok d' (k + 1 + dn.length) ∧ fl.length = dn.length ∧ e = [some (.ref 1), some (.int size), some (.int way), some (.ref (T.length + 2)), x, y])
    (List.range' 0 size.toNat) [] [some (.ref 1), some (.int size), some (.int way), some (.ref (T.length + 2)), none, none] (dm d1 (T ++ [.lst ([].map D.bl)]))
    (fun dn a r e M hd ⟨d', fl, x, y, hM, ho, hf, he⟩ => by
      subst hM he
      have hd : List.range' 0 size.toNat = dn ++ a :: r := by simpa using hd
      have ha := range_at hd
      have hlen := congrArg List.length hd
      simp at hlen
      obtain ⟨d2, b, y', t1, t2⟩ := fl_turn (w := w) (n := n) hw T ho (by omega) (size := size) a1 b1 (0 + (a : Int)) fl (by omega) (by
        by_cases hz : dn.length = 0
        · exact .inl (by omega)
        · refine .inr fun e => ?_
          rw [e] at hf
          simp at hf
          omega) x y
      exact ⟨_, _, .inl t1, d2, fl ++ [b], _, y', rfl, by simpa [Nat.add_assoc] using t2, by simp [hf], rfl⟩)
    ⟨d1, [], none, none, rfl, by simpa using o1, rfl, rfl⟩
  obtain ⟨d', fl, x, y, hM, ho, hf, he⟩ := l2
  subst hM he
  simp only [List.nil_append, List.length_range'] at ho hf
  refine ⟨fl, d', [.lst (fl.map D.bl)], ?_, ok_mono ho (by omega), by omega⟩
  refine (call_eq (d := ⟨b_law_flags, 6⟩) rfl rfl).trans ?_
  unfold b_law_flags
  rw [exs_c]
  refine step (e := [some (.ref 1), some (.int size), some (.int way), some (.ref (T.length + 2)), none, none]) (M := dm d1 (T ++ [.lst ([].map D.bl)])) ?_ ?_
  · simp only [exs_c, exs_n, ex, ev, evs, evSq, evAnd, evOr, evF, evO, evC, evI, asg, asgs, evT, Cn.d, bind_ok, bind_bad, bind_err, bind_ite, exS_ok, exS_bad, exS_ite, seq_nx, seq_ret, seq_brk, seq_cont, seq_bad, seq_ite, fin_ret, fin_nx, fin_bad, fin_ite, of_some, of_none, when_t, calm_ok, add_i, sub_i, add_s, mul_i, div_i, mod_i, pow_i, aug_add, aug_sub, eq_i, ne_i, eq_s, ne_s, eq_b, ne_b, lt_i, le_i, gt_i, ge_i, is_n, isnot_n, tr_b, tr_i, tr_t, tr_l, tr_n, asInt_i, asStr_s, asStr_i, asStr_t, asBl_b, asTup_t, isNon_n, isNon_i, isNon_s, isNon_t, isNon_l, startE, parSet, wipeE, List.map_cons, List.map_nil, List.length_cons, List.length_nil, Nat.reduceAdd, Nat.reduceSub, List.replicate, List.cons_append, List.nil_append, List.append_nil, List.getElem?_cons_zero, List.getElem?_cons_succ, List.set_cons_zero, List.set_cons_succ, if_true, if_false, Bool.false_eq_true, Bool.true_and, Bool.and_true, Bool.not_true, Bool.not_false, Nat.reduceBEq, BEq.rfl, Option.isSome_some, Option.isSome_none, reduceIte, reduceCtorEq, decide_true, decide_false, e1, when_dec (show (0 : Nat) ≤ sizeLine by decide), dm_len, dm_snoc]
  rw [exs_c]
  refine step (e := [some (.ref 1), some (.int size), some (.int way), some (.ref (T.length + 2)), x, y]) (M := dm d' (T ++ [.lst (fl.map D.bl)])) ?_ ?_
  · have g1 : rngOk size = true := by
      unfold rngOk
      rw [decide_eq_true (show -(2 ^ 62) ≤ size by omega), decide_eq_true (show size < 2 ^ 62 by omega)]
      rfl
    have g2 : decide (size ≤ (sizeLine : Int)) = true := decide_eq_true (by have := line10000; omega)
    simp only [ex, evI, ev, List.getElem?_cons_zero, List.getElem?_cons_succ, bind_ok, asInt_i, g1, g2, Bool.and_true, when_t, exS_ok, rngD_map]
    exact l1
  · simp only [exs_c, exs_n, ex, ev, evs, evSq, evAnd, evOr, evF, evO, evC, evI, asg, asgs, evT, Cn.d, bind_ok, bind_bad, bind_err, bind_ite, exS_ok, exS_bad, exS_ite, seq_nx, seq_ret, seq_brk, seq_cont, seq_bad, seq_ite, fin_ret, fin_nx, fin_bad, fin_ite, of_some, of_none, when_t, calm_ok, add_i, sub_i, add_s, mul_i, div_i, mod_i, pow_i, aug_add, aug_sub, eq_i, ne_i, eq_s, ne_s, eq_b, ne_b, lt_i, le_i, gt_i, ge_i, is_n, isnot_n, tr_b, tr_i, tr_t, tr_l, tr_n, asInt_i, asStr_s, asStr_i, asStr_t, asBl_b, asTup_t, isNon_n, isNon_i, isNon_s, isNon_t, isNon_l, startE, parSet, wipeE, List.map_cons, List.map_nil, List.length_cons, List.length_nil, Nat.reduceAdd, Nat.reduceSub, List.replicate, List.cons_append, List.nil_append, List.append_nil, List.getElem?_cons_zero, List.getElem?_cons_succ, List.set_cons_zero, List.set_cons_succ, if_true, if_false, Bool.false_eq_true, Bool.true_and, Bool.and_true, Bool.not_true, Bool.not_false, Nat.reduceBEq, BEq.rfl, Option.isSome_some, Option.isSome_none, reduceIte, reduceCtorEq, decide_true, decide_false, tup_T]
end K79

namespace K79
open PySem TF SX L2
variable {w n : Nat} {M : List MO}
def rgD (fl : List Bool) (place : Int) (f : Str) : D := .lst [.tup (fl.map D.bl), .int place, .str f]
theorem lring_ok (hw : 64 ≤ w) {d : Dk} {k : Nat} (T : List MO) (h : Ok d k) (hk : k ≤ 700000) :
    ∃ (fl : List Bool) (place : Int) (f : Str) (d' : Dk) (J : List MO), C w (n + 3) f_law_ring [.ref 1, .int 42] (dm d T) = .ok (rgD fl place f) (dm d' (T ++ J)) ∧ Ok d' (k + 46) ∧ 2 ≤ (fl.length : Int) ∧ (fl.length : Int) ≤ 42 ∧ 0 ≤ place ∧ place < fl.length ∧ (f = "right" ∨ f = "left") := by
  obtain ⟨r1, d1, e1, o1, a1, b1⟩ := draw_ok (w := w) (n := n + 1) hw T h (by omega) (show (0 : Int) < 41 by decide) (by decide)
  obtain ⟨fl, d2, J, e2, o2, l2⟩ := flags_ok (w := w) (n := n) hw T o1 (by omega) (size := 2 + r1) (by omega) (by omega)
  obtain ⟨place, d3, e3, o3, a3, b3⟩ := draw_ok (w := w) (n := n + 1) hw (T ++ J) o2 (by omega) (show (0 : Int) < 2 + r1 by omega) (by omega)
  obtain ⟨r4, d4, e4, o4, a4, b4⟩ := draw_ok (w := w) (n := n + 1) hw (T ++ J) o3 (by omega) (show (0 : Int) < 2 by decide) (by decide)
  obtain ⟨f, hf, ef⟩ := ixF a4 b4
  refine ⟨fl, place, f, d4, J, ?_, ok_mono o4 (by omega), by omega, by omega, a3, by omega, hf⟩
  refine (call_eq (d := ⟨b_law_ring, 3⟩) rfl rfl).trans ?_
  have e1 : callF (tabOf ts) (fsOf ds) w (n + 2) 26 [.ref 1, .int 41] (dm d T) = _ := e1
  have e2 : callF (tabOf ts) (fsOf ds) w (n + 2) 27 [.ref 1, .int (2 + r1)] (dm d1 T) = _ := e2
  have e3 : callF (tabOf ts) (fsOf ds) w (n + 2) 26 [.ref 1, .int (2 + r1)] (dm d2 (T ++ J)) = _ := e3
  have e4 : callF (tabOf ts) (fsOf ds) w (n + 2) 26 [.ref 1, .int 2] (dm d3 (T ++ J)) = _ := e4
  have z2 : ∀ r : R D, R.when (decide (2 ≤ sizeLine)) r = r := fun r => when_dec (show (2 : Nat) ≤ sizeLine by decide)
  have z3 : ∀ r : R D, R.when (decide (3 ≤ sizeLine)) r = r := fun r => when_dec (show (3 : Nat) ≤ sizeLine by decide)
  simp only [exs_c, exs_n, ex, ev, evs, evSq, evAnd, evOr, evF, evO, evC, evI, asg, asgs, evT, Cn.d, bind_ok, bind_bad, bind_err, bind_ite, exS_ok, exS_bad, exS_ite, seq_nx, seq_ret, seq_brk, seq_cont, seq_bad, seq_ite, fin_ret, fin_nx, fin_bad, fin_ite, of_some, of_none, when_t, calm_ok, add_i, sub_i, add_s, mul_i, div_i, mod_i, pow_i, aug_add, aug_sub, eq_i, ne_i, eq_s, ne_s, eq_b, ne_b, lt_i, le_i, gt_i, ge_i, is_n, isnot_n, tr_b, tr_i, tr_t, tr_l, tr_n, asInt_i, asStr_s, asStr_i, asStr_t, asBl_b, asTup_t, isNon_n, isNon_i, isNon_s, isNon_t, isNon_l, startE, parSet, wipeE, List.map_cons, List.map_nil, List.length_cons, List.length_nil, Nat.reduceAdd, Nat.reduceSub, List.replicate, List.cons_append, List.nil_append, List.append_nil, List.getElem?_cons_zero, List.getElem?_cons_succ, List.set_cons_zero, List.set_cons_succ, if_true, if_false, Bool.false_eq_true, Bool.true_and, Bool.and_true, Bool.not_true, Bool.not_false, Nat.reduceBEq, BEq.rfl, Option.isSome_some, Option.isSome_none, reduceIte, reduceCtorEq, decide_true, decide_false, b_law_ring, show (42 : Int) - 1 = 41 from rfl, e1, e2, e3, e4, ef, z2, z3]
  rfl
/-! _law_pairs -/
theorem okP_snoc {size : Int} : ∀ (f : Rs) (l : Int) (p : Int × Int), okP size l f → lst l f ≤ p.1 → p.1 + 1 ≤ p.2 → p.2 ≤ size → okP size l (f ++ [p])
  | [], l, p, _, h1, h2, h3 => ⟨h1, h2, h3, trivial⟩
  | q :: f, l, p, h, h1, h2, h3 => ⟨h.1, h.2.1, h.2.2.1, okP_snoc f (q.2 + 1) p h.2.2.2 h1 h2 h3⟩
theorem okP_mono {size size' : Int} (hs : size ≤ size') : ∀ (f : Rs) (l : Int), okP size l f → okP size' l f
  | [], _, _ => trivial
  | q :: f, l, h => ⟨h.1, h.2.1, Int.le_trans h.2.2.1 hs, okP_mono hs f _ h.2.2.2⟩
theorem okP_init {size : Int} : ∀ (f : Rs) (l : Int) (q : Int × Int), okP size l (f ++ [q]) → okP size l f
  | [], _, _, _ => trivial
  | p :: f, l, q, h => ⟨h.1, h.2.1, h.2.2.1, okP_init f _ q h.2.2.2⟩
theorem okP_len {size : Int} : ∀ (f : Rs) (l : Int), okP size l f → f ≠ [] → l + 2 * (f.length : Int) ≤ size + 1
  | [], _, _, h => absurd rfl h
  | [p], l, h, _ => by
    obtain ⟨h1, h2, h3, _⟩ := h
    simp
    omega
  | p :: q :: f, l, h, _ => by
    obtain ⟨h1, h2, h3, h4⟩ := h
    have := okP_len (q :: f) _ h4 (by simp)
    simp at this ⊢
    omega
theorem lst_snoc {l : Int} {f : Rs} {q : Int × Int} : lst l (f ++ [q]) = q.2 + 1 := by simp [lst]
theorem set_last {l : List D} {u x : D} : evSetIx (.ref 0) (.int (-1)) x (.lst (l ++ [u]) :: M) = .ok () (.lst (l ++ [x]) :: M) := by
  have e : ixN (l ++ [u]).length (-1) = some l.length := by
    unfold ixN
    rw [if_neg (by decide), if_pos (by simp; omega)]
    simp
    omega
  show (match ixN (l ++ [u]).length (-1) with | some k => R.ok () ((MO.lst (l ++ [u]) :: M).set 0 (.lst ((l ++ [u]).set k x))) | none => .bad) = _
  rw [e]
  simp
def prTurn (w n : Nat) (x : D) (e : Ev) (M : List MO) : O := exS (asg ⟨C w n, tabOf ts, w⟩ (.tp (.cons (.nm 2) (.cons (.nm 3) .nil))) x e M) e fun e M => exs ⟨C w n, tabOf ts, w⟩
  (.cons (.ite (.bnd (.cons (.v 3) (.cons (.cmp .ne (.v 1) (.lst .nil)) (.cons (.cmp .eq (.ix (.ix (.v 1) (.neg (.c (.int 1)))) (.c (.int 1))) (.v 2)) .nil)))) (.cons (.set (.ix (.v 1) (.neg (.c (.int 1)))) (.tup (.cons false (.ix (.ix (.v 1) (.neg (.c (.int 1)))) (.c (.int 0))) (.cons false (.op .add (.v 2) (.c (.int 1))) .nil)))) .nil) (.cons (.ite (.v 3) (.cons (.ex (.mm .append (.v 1) (.cons (.tup (.cons false (.v 2) (.cons false (.op .add (.v 2) (.c (.int 1))) .nil))) .nil))) .nil) .nil) .nil)) .nil) e M
theorem flat_pD2 : ∀ (l : Rs) (m : Nat), flatL (m + 1) (l.map pD) = true := flat_pairs
theorem pr_turn (F : D) (i : Int) (hi : 0 ≤ i) (b : Bool) (found : Rs) (hl : found.length ≤ 1000) (ho : okP i 0 found) (x y : Option D) :
    ∃ found', prTurn w n (.tup [.int i, .bl b]) [some F, some (.ref 0), x, y] [.lst (found.map pD)] = .nx [some F, some (.ref 0), some (.int i), some (.bl b)] [.lst (found'.map pD)] ∧ okP (i + 1) 0 found' := by
  have z0 : ∀ (r : R D), R.when (decide (0 ≤ sizeLine)) r = r := fun r => when_dec (show (0 : Nat) ≤ sizeLine by decide)
  have z2 : ∀ r : R D, R.when (decide (2 ≤ sizeLine)) r = r := fun r => when_dec (show (2 : Nat) ≤ sizeLine by decide)
  have hap : ∀ p : Int × Int, evMm .append (.ref 0) [pD p] [.lst (found.map pD)] = .ok .non [.lst ((found ++ [p]).map pD)] := fun p => by
    rw [app_0 (by rw [List.length_map]; exact Nat.lt_of_le_of_lt hl (by decide)), List.map_append]
    rfl
  cases b with
  | false =>
    refine ⟨found, ?_, okP_mono (by omega) _ _ ho⟩
    unfold prTurn
    simp only [exs_c, exs_n, ex, ev, evs, evSq, evAnd, evOr, evF, evO, evC, evI, asg, asgs, evT, Cn.d, bind_ok, bind_bad, bind_err, bind_ite, exS_ok, exS_bad, exS_ite, seq_nx, seq_ret, seq_brk, seq_cont, seq_bad, seq_ite, fin_ret, fin_nx, fin_bad, fin_ite, of_some, of_none, when_t, calm_ok, add_i, sub_i, add_s, mul_i, div_i, mod_i, pow_i, aug_add, aug_sub, eq_i, ne_i, eq_s, ne_s, eq_b, ne_b, lt_i, le_i, gt_i, ge_i, is_n, isnot_n, tr_b, tr_i, tr_t, tr_l, tr_n, asInt_i, asStr_s, asStr_i, asStr_t, asBl_b, asTup_t, isNon_n, isNon_i, isNon_s, isNon_t, isNon_l, startE, parSet, wipeE, List.map_cons, List.map_nil, List.length_cons, List.length_nil, Nat.reduceAdd, Nat.reduceSub, List.replicate, List.cons_append, List.nil_append, List.append_nil, List.getElem?_cons_zero, List.getElem?_cons_succ, List.set_cons_zero, List.set_cons_succ, if_true, if_false, Bool.false_eq_true, Bool.true_and, Bool.and_true, Bool.not_true, Bool.not_false, Nat.reduceBEq, BEq.rfl, Option.isSome_some, Option.isSome_none, reduceIte, reduceCtorEq, decide_true, decide_false]
  | true =>
    have hne := ne_nil_0 (M := []) (l := found.map pD) (flat_pD2 _ 58)
    rcases List.eq_nil_or_concat found with rfl | ⟨init, q, rfl⟩
    · refine ⟨[(i, i + 1)], ?_, ⟨hi, Int.le_refl _, Int.le_refl _, trivial⟩⟩
      unfold prTurn
      have hap := hap (i, i + 1)
      simp only [exs_c, exs_n, ex, ev, evs, evSq, evAnd, evOr, evF, evO, evC, evI, asg, asgs, evT, Cn.d, bind_ok, bind_bad, bind_err, bind_ite, exS_ok, exS_bad, exS_ite, seq_nx, seq_ret, seq_brk, seq_cont, seq_bad, seq_ite, fin_ret, fin_nx, fin_bad, fin_ite, of_some, of_none, when_t, calm_ok, add_i, sub_i, add_s, mul_i, div_i, mod_i, pow_i, aug_add, aug_sub, eq_i, ne_i, eq_s, ne_s, eq_b, ne_b, lt_i, le_i, gt_i, ge_i, is_n, isnot_n, tr_b, tr_i, tr_t, tr_l, tr_n, asInt_i, asStr_s, asStr_i, asStr_t, asBl_b, asTup_t, isNon_n, isNon_i, isNon_s, isNon_t, isNon_l, startE, parSet, wipeE, List.map_cons, List.map_nil, List.length_cons, List.length_nil, Nat.reduceAdd, Nat.reduceSub, List.replicate, List.cons_append, List.nil_append, List.append_nil, List.getElem?_cons_zero, List.getElem?_cons_succ, List.set_cons_zero, List.set_cons_succ, if_true, if_false, Bool.false_eq_true, Bool.true_and, Bool.and_true, Bool.not_true, Bool.not_false, Nat.reduceBEq, BEq.rfl, Option.isSome_some, Option.isSome_none, reduceIte, reduceCtorEq, decide_true, decide_false, List.isEmpty_nil] at hap hne
      simp only [exs_c, exs_n, ex, ev, evs, evSq, evAnd, evOr, evF, evO, evC, evI, asg, asgs, evT, Cn.d, bind_ok, bind_bad, bind_err, bind_ite, exS_ok, exS_bad, exS_ite, seq_nx, seq_ret, seq_brk, seq_cont, seq_bad, seq_ite, fin_ret, fin_nx, fin_bad, fin_ite, of_some, of_none, when_t, calm_ok, add_i, sub_i, add_s, mul_i, div_i, mod_i, pow_i, aug_add, aug_sub, eq_i, ne_i, eq_s, ne_s, eq_b, ne_b, lt_i, le_i, gt_i, ge_i, is_n, isnot_n, tr_b, tr_i, tr_t, tr_l, tr_n, asInt_i, asStr_s, asStr_i, asStr_t, asBl_b, asTup_t, isNon_n, isNon_i, isNon_s, isNon_t, isNon_l, startE, parSet, wipeE, List.map_cons, List.map_nil, List.length_cons, List.length_nil, Nat.reduceAdd, Nat.reduceSub, List.replicate, List.cons_append, List.nil_append, List.append_nil, List.getElem?_cons_zero, List.getElem?_cons_succ, List.set_cons_zero, List.set_cons_succ, if_true, if_false, Bool.false_eq_true, Bool.true_and, Bool.and_true, Bool.not_true, Bool.not_false, Nat.reduceBEq, BEq.rfl, Option.isSome_some, Option.isSome_none, reduceIte, reduceCtorEq, decide_true, decide_false, z0, z2, hne, pD_f, hap, asRef_0]
    · rw [List.concat_eq_append] at *
      have hq := okP_at init 0 q [] ho
      have hin := okP_init _ _ _ ho
      have hix : evIx (.ref 0) (.int (-1)) [.lst ((init ++ [q]).map pD)] = .ok (pD q) [.lst ((init ++ [q]).map pD)] := by
        rw [List.map_append]
        exact ix_last
      have hem : ((init ++ [q]).map pD).isEmpty = false := by simp
      rw [hem] at hne
      by_cases hqi : q.2 = i
      · have hset : evSetIx (.ref 0) (.int (-1)) (pD (q.1, i + 1)) [.lst ((init ++ [q]).map pD)] = .ok () [.lst ((init ++ [(q.1, i + 1)]).map pD)] := by
          rw [List.map_append, List.map_append]
          exact set_last
        refine ⟨init ++ [(q.1, i + 1)], ?_, okP_snoc _ _ _ (okP_mono (by omega) _ _ hin) hq.1 (by show q.1 + 1 ≤ i + 1; omega) (Int.le_refl _)⟩
        unfold prTurn
        have h1 : (q.2 == i) = true := by simpa using hqi
        generalize (init ++ [q]).map pD = L at *
        generalize (init ++ [(q.1, i + 1)]).map pD = L' at *
        simp only [exs_c, exs_n, ex, ev, evs, evSq, evAnd, evOr, evF, evO, evC, evI, asg, asgs, evT, Cn.d, bind_ok, bind_bad, bind_err, bind_ite, exS_ok, exS_bad, exS_ite, seq_nx, seq_ret, seq_brk, seq_cont, seq_bad, seq_ite, fin_ret, fin_nx, fin_bad, fin_ite, of_some, of_none, when_t, calm_ok, add_i, sub_i, add_s, mul_i, div_i, mod_i, pow_i, aug_add, aug_sub, eq_i, ne_i, eq_s, ne_s, eq_b, ne_b, lt_i, le_i, gt_i, ge_i, is_n, isnot_n, tr_b, tr_i, tr_t, tr_l, tr_n, asInt_i, asStr_s, asStr_i, asStr_t, asBl_b, asTup_t, isNon_n, isNon_i, isNon_s, isNon_t, isNon_l, startE, parSet, wipeE, List.map_cons, List.map_nil, List.length_cons, List.length_nil, Nat.reduceAdd, Nat.reduceSub, List.replicate, List.cons_append, List.nil_append, List.append_nil, List.getElem?_cons_zero, List.getElem?_cons_succ, List.set_cons_zero, List.set_cons_succ, if_true, if_false, Bool.false_eq_true, Bool.true_and, Bool.and_true, Bool.not_true, Bool.not_false, Nat.reduceBEq, BEq.rfl, Option.isSome_some, Option.isSome_none, reduceIte, reduceCtorEq, decide_true, decide_false, z0, z2, hne, hix, ix_p0, ix_p1, h1, pD_f, hset]
      · have h1 : (q.2 == i) = false := by simpa using hqi
        have hap := hap (i, i + 1)
        refine ⟨init ++ [q] ++ [(i, i + 1)], ?_, okP_snoc _ _ _ (okP_mono (by omega) _ _ ho) (by rw [lst_snoc]; show q.2 + 1 ≤ i; omega) (Int.le_refl _) (Int.le_refl _)⟩
        unfold prTurn
        generalize (init ++ [q]).map pD = L at *
        generalize (init ++ [q] ++ [(i, i + 1)]).map pD = L' at *
        simp only [exs_c, exs_n, ex, ev, evs, evSq, evAnd, evOr, evF, evO, evC, evI, asg, asgs, evT, Cn.d, bind_ok, bind_bad, bind_err, bind_ite, exS_ok, exS_bad, exS_ite, seq_nx, seq_ret, seq_brk, seq_cont, seq_bad, seq_ite, fin_ret, fin_nx, fin_bad, fin_ite, of_some, of_none, when_t, calm_ok, add_i, sub_i, add_s, mul_i, div_i, mod_i, pow_i, aug_add, aug_sub, eq_i, ne_i, eq_s, ne_s, eq_b, ne_b, lt_i, le_i, gt_i, ge_i, is_n, isnot_n, tr_b, tr_i, tr_t, tr_l, tr_n, asInt_i, asStr_s, asStr_i, asStr_t, asBl_b, asTup_t, isNon_n, isNon_i, isNon_s, isNon_t, isNon_l, startE, parSet, wipeE, List.map_cons, List.map_nil, List.length_cons, List.length_nil, Nat.reduceAdd, Nat.reduceSub, List.replicate, List.cons_append, List.nil_append, List.append_nil, List.getElem?_cons_zero, List.getElem?_cons_succ, List.set_cons_zero, List.set_cons_succ, if_true, if_false, Bool.false_eq_true, Bool.true_and, Bool.and_true, Bool.not_true, Bool.not_false, Nat.reduceBEq, BEq.rfl, Option.isSome_some, Option.isSome_none, reduceIte, reduceCtorEq, decide_true, decide_false, z0, z2, hne, hix, ix_p0, ix_p1, h1, pD_f, hap, asRef_0]
def enb (q : Bool × Nat) : D := .tup [.int (q.2 : Nat), .bl q.1]
theorem enum_bl : ∀ (l : List Bool) (k : Nat), enumD k (l.map D.bl) = (l.zipIdx k).map enb
  | [], _ => rfl
  | p :: l, k => by
    simp only [List.map_cons, enumD, List.zipIdx_cons, enum_bl l (k + 1)]
    rfl
theorem zip_at {l : List Bool} {dn r : List (Bool × Nat)} {a : Bool × Nat} (h : l.zipIdx 0 = dn ++ a :: r) : a.2 = dn.length ∧ dn.length < l.length := by
  have e : (l.zipIdx 0)[dn.length]? = some a := by rw [h]; simp
  have hl : dn.length < l.length := by
    have := congrArg List.length h
    simp at this
    omega
  rw [List.getElem?_zipIdx, List.getElem?_eq_getElem hl] at e
  simp at e
  refine ⟨?_, hl⟩
  rw [← e]
theorem okP_len2 {size : Int} (h0 : 0 ≤ size) {f : Rs} (h : okP size 0 f) : 2 * (f.length : Int) ≤ size + 1 := by
  by_cases hf : f = []
  · subst hf
    simp
    omega
  · have := okP_len f 0 h hf
    omega
theorem pairs_ok (fl : List Bool) (hl : fl.length ≤ 42) : ∃ (found : Rs) (M' : List MO), C w (n + 1) f_law_pairs [.tup (fl.map D.bl)] [] = .ok (.tup (found.map pD)) M' ∧ okP fl.length 0 found := by
  obtain ⟨e', M', l1, l2⟩ := for_ind (turn := prTurn w n) (f := enb) (fun dn e M => ∃ (found : Rs) (x y : Option D), M = [.lst (found.map pD)] ∧ okP dn.length 0 found ∧ e = [some (.tup (fl.map D.bl)), some (.ref 0), x, y])
    (fl.zipIdx 0) [] [some (.tup (fl.map D.bl)), some (.ref 0), none, none] [.lst ([].map pD)]
    (fun dn a r e M hd ⟨found, x, y, hM, ho, he⟩ => by
      subst hM he
      have hd : fl.zipIdx 0 = dn ++ a :: r := by simpa using hd
      obtain ⟨ha, hlt⟩ := zip_at hd
      have hb := okP_len2 (by omega) ho
      obtain ⟨found', t1, t2⟩ := pr_turn (w := w) (n := n) (.tup (fl.map D.bl)) (dn.length : Int) (by omega) a.1 found (by omega) ho x y
      refine ⟨_, _, .inl ?_, found', some (.int (dn.length : Int)), some (.bl a.1), rfl, by simpa using t2, rfl⟩
      unfold enb
      rw [ha]
      exact t1)
    ⟨[], none, none, rfl, trivial, rfl⟩
  obtain ⟨found, x, y, hM, ho, he⟩ := l2
  subst hM he
  simp only [List.nil_append, List.length_zipIdx] at ho
  refine ⟨found, [.lst (found.map pD)], ?_, ho⟩
  refine (call_eq (d := ⟨b_law_pairs, 4⟩) rfl rfl).trans ?_
  unfold b_law_pairs
  rw [exs_c]
  refine step (e := [some (.tup (fl.map D.bl)), some (.ref 0), none, none]) (M := [.lst ([].map pD)]) ?_ ?_
  · simp only [exs_c, exs_n, ex, ev, evs, evSq, evAnd, evOr, evF, evO, evC, evI, asg, asgs, evT, Cn.d, bind_ok, bind_bad, bind_err, bind_ite, exS_ok, exS_bad, exS_ite, seq_nx, seq_ret, seq_brk, seq_cont, seq_bad, seq_ite, fin_ret, fin_nx, fin_bad, fin_ite, of_some, of_none, when_t, calm_ok, add_i, sub_i, add_s, mul_i, div_i, mod_i, pow_i, aug_add, aug_sub, eq_i, ne_i, eq_s, ne_s, eq_b, ne_b, lt_i, le_i, gt_i, ge_i, is_n, isnot_n, tr_b, tr_i, tr_t, tr_l, tr_n, asInt_i, asStr_s, asStr_i, asStr_t, asBl_b, asTup_t, isNon_n, isNon_i, isNon_s, isNon_t, isNon_l, startE, parSet, wipeE, List.map_cons, List.map_nil, List.length_cons, List.length_nil, Nat.reduceAdd, Nat.reduceSub, List.replicate, List.cons_append, List.nil_append, List.append_nil, List.getElem?_cons_zero, List.getElem?_cons_succ, List.set_cons_zero, List.set_cons_succ, if_true, if_false, Bool.false_eq_true, Bool.true_and, Bool.and_true, Bool.not_true, Bool.not_false, Nat.reduceBEq, BEq.rfl, Option.isSome_some, Option.isSome_none, reduceIte, reduceCtorEq, decide_true, decide_false, when_dec (show (0 : Nat) ≤ sizeLine by decide)]
  rw [exs_c]
  rw [← enum_bl] at l1
  refine step ((forr_enum (l := fl.map D.bl) rfl rfl).trans l1) ?_
  simp only [exs_c, exs_n, ex, ev, evs, evSq, evAnd, evOr, evF, evO, evC, evI, asg, asgs, evT, Cn.d, bind_ok, bind_bad, bind_err, bind_ite, exS_ok, exS_bad, exS_ite, seq_nx, seq_ret, seq_brk, seq_cont, seq_bad, seq_ite, fin_ret, fin_nx, fin_bad, fin_ite, of_some, of_none, when_t, calm_ok, add_i, sub_i, add_s, mul_i, div_i, mod_i, pow_i, aug_add, aug_sub, eq_i, ne_i, eq_s, ne_s, eq_b, ne_b, lt_i, le_i, gt_i, ge_i, is_n, isnot_n, tr_b, tr_i, tr_t, tr_l, tr_n, asInt_i, asStr_s, asStr_i, asStr_t, asBl_b, asTup_t, isNon_n, isNon_i, isNon_s, isNon_t, isNon_l, startE, parSet, wipeE, List.map_cons, List.map_nil, List.length_cons, List.length_nil, Nat.reduceAdd, Nat.reduceSub, List.replicate, List.cons_append, List.nil_append, List.append_nil, List.getElem?_cons_zero, List.getElem?_cons_succ, List.set_cons_zero, List.set_cons_succ, if_true, if_false, Bool.false_eq_true, Bool.true_and, Bool.and_true, Bool.not_true, Bool.not_false, Nat.reduceBEq, BEq.rfl, Option.isSome_some, Option.isSome_none, reduceIte, reduceCtorEq, decide_true, decide_false, tup_0]
theorem pure_bl : ∀ l : List Bool, pureL (l.map D.bl) = true
  | [] => rfl
  | a :: l => by
    have := pure_bl l
    simp [pureL, D.pure, this]
theorem asTup_l {l : List D} : asTup (.lst l) = some l := rfl
theorem told_ok (fl : List Bool) (place : Int) (f : Str) (hl : fl.length ≤ 42) (h2 : 2 ≤ fl.length) : ∃ (raised : Rs), C w (n + 2) f_law_told [rgD fl place f] M = .ok (stD fl.length raised place f) M ∧ okP fl.length 0 raised := by
  obtain ⟨raised, M', e1, ho⟩ := pairs_ok (w := w) (n := n) fl hl
  have e1 : callF (tabOf ts) (fsOf ds) w (n + 1) 24 [.tup (fl.map D.bl)] [] = _ := e1
  refine ⟨raised, ?_, ho⟩
  refine (call_eq (d := ⟨b_law_told, 4⟩) rfl rfl).trans ?_
  have pc := pcall_ok (M := M) (M' := M') (show pureL [D.tup (fl.map D.bl)] = true by simp [pureL, D.pure, pure_bl]) (show (D.tup (raised.map pD)).pure = true by simp [D.pure, pure_pD])
  simp only [exs_c, exs_n, ex, ev, evs, evSq, evAnd, evOr, evF, evO, evC, evI, asg, asgs, evT, Cn.d, bind_ok, bind_bad, bind_err, bind_ite, exS_ok, exS_bad, exS_ite, seq_nx, seq_ret, seq_brk, seq_cont, seq_bad, seq_ite, fin_ret, fin_nx, fin_bad, fin_ite, of_some, of_none, when_t, calm_ok, add_i, sub_i, add_s, mul_i, div_i, mod_i, pow_i, aug_add, aug_sub, eq_i, ne_i, eq_s, ne_s, eq_b, ne_b, lt_i, le_i, gt_i, ge_i, is_n, isnot_n, tr_b, tr_i, tr_t, tr_l, tr_n, asInt_i, asStr_s, asStr_i, asStr_t, asBl_b, asTup_t, isNon_n, isNon_i, isNon_s, isNon_t, isNon_l, startE, parSet, wipeE, List.map_cons, List.map_nil, List.length_cons, List.length_nil, Nat.reduceAdd, Nat.reduceSub, List.replicate, List.cons_append, List.nil_append, List.append_nil, List.getElem?_cons_zero, List.getElem?_cons_succ, List.set_cons_zero, List.set_cons_succ, if_true, if_false, Bool.false_eq_true, Bool.true_and, Bool.and_true, Bool.not_true, Bool.not_false, Nat.reduceBEq, BEq.rfl, Option.isSome_some, Option.isSome_none, reduceIte, reduceCtorEq, decide_true, decide_false, b_law_told, rgD, asTup_l, len_t, e1, pc, when_dec (show (4 : Nat) ≤ sizeLine by decide)]
  rw [List.length_map]
  rfl
end K79

namespace K79
open PySem TF SX L2
variable {w n : Nat} {M : List MO}
theorem ixI2 {a b i : Int} (h0 : 0 ≤ i) (h1 : i < 2) : ∃ v : Int, (v = a ∨ v = b) ∧ ∀ M, evIx (.lst [.int a, .int b]) (.int i) M = .ok (.int v) M := by
  have : i = 0 ∨ i = 1 := by omega
  rcases this with rfl | rfl
  · exact ⟨a, .inl rfl, fun _ => rfl⟩
  · exact ⟨b, .inr rfl, fun _ => rfl⟩
theorem ixI3 {a b c i : Int} (h0 : 0 ≤ i) (h1 : i < 3) : ∃ v : Int, (v = a ∨ v = b ∨ v = c) ∧ ∀ M, evIx (.lst [.int a, .int b, .int c]) (.int i) M = .ok (.int v) M := by
  have : i = 0 ∨ i = 1 ∨ i = 2 := by omega
  rcases this with rfl | rfl | rfl
  · exact ⟨a, .inl rfl, fun _ => rfl⟩
  · exact ⟨b, .inr (.inl rfl), fun _ => rfl⟩
  · exact ⟨c, .inr (.inr rfl), fun _ => rfl⟩
theorem ixI4 {a b c d i : Int} (h0 : 0 ≤ i) (h1 : i < 4) : ∃ v : Int, (v = a ∨ v = b ∨ v = c ∨ v = d) ∧ ∀ M, evIx (.lst [.int a, .int b, .int c, .int d]) (.int i) M = .ok (.int v) M := by
  have : i = 0 ∨ i = 1 ∨ i = 2 ∨ i = 3 := by omega
  rcases this with rfl | rfl | rfl | rfl
  · exact ⟨a, .inl rfl, fun _ => rfl⟩
  · exact ⟨b, .inr (.inl rfl), fun _ => rfl⟩
  · exact ⟨c, .inr (.inr (.inl rfl)), fun _ => rfl⟩
  · exact ⟨d, .inr (.inr (.inr rfl)), fun _ => rfl⟩
def E11 (a b c d e f g h i j k : Option D) : Ev := [a, b, c, d, e, f, g, h, i, j, k]
def s7 : RS := .set (.nm 7) (.ix (.lst (.cons false (.op .add (.c (.int 1)) (.hcall 26 (.cons (.v 0) (.cons (.c (.int 3)) .nil)))) (.cons false (.op .add (.c (.int 1)) (.hcall 29 (.cons (.v 0) (.cons (.bi .max (.cons (.c (.int 1)) (.cons (.op .div (.v 2) (.c (.int 30))) .nil))) .nil)))) .nil))) (.hcall 26 (.cons (.v 0) (.cons (.c (.int 2)) .nil))))
def s8 : RS := .set (.nm 8) (.op .add (.v 4) (.op .mul (.bi .int (.cons (.bor (.cons (.cmp .gt (.v 6) (.c (.int 0))) (.cons (.cmp .eq (.hcall 26 (.cons (.v 0) (.cons (.c (.int 2)) .nil))) (.c (.int 0))) .nil))) .nil)) (.op .add (.c (.int 1)) (.hcall 29 (.cons (.v 0) (.cons (.bi .max (.cons (.c (.int 1)) (.cons (.op .div (.v 2) (.c (.int 60))) .nil))) .nil))))))
def s9 : RS := .ite (.cmp .le (.op .add (.v 8) (.v 7)) (.v 2)) (.cons (.ex (.mm .append (.v 5) (.cons (.tup (.cons false (.v 8) (.cons false (.op .add (.v 8) (.v 7)) .nil))) .nil))) (.cons (.set (.nm 4) (.op .add (.v 8) (.v 7))) .nil)) .nil
def faTurn (w n : Nat) (x : D) (e : Ev) (M : List MO) : O := exS (asg ⟨C w n, tabOf ts, w⟩ (.nm 6) x e M) e fun e M => exs ⟨C w n, tabOf ts, w⟩ (.cons s7 (.cons s8 (.cons s9 .nil))) e M
theorem s7_ok (hw : 64 ≤ w) {d : Dk} {k : Nat} (T : List MO) (h : Ok d k) (hk : k ≤ 800000) (size : Int) (a1 a3 a4 a5 a6 a7 a8 a9 a10 : Option D) :
    ∃ (v : Int) (d' : Dk), ex ⟨C w (n + 2), tabOf ts, w⟩ s7 [some (.ref 1), a1, some (.int size), a3, a4, a5, a6, a7, a8, a9, a10] (dm d T) = .nx [some (.ref 1), a1, some (.int size), a3, a4, a5, a6, some (.int v), a8, a9, a10] (dm d' T) ∧ Ok d' (k + 4) ∧ 1 ≤ v := by
  obtain ⟨r1, d1, e1, o1, x1, y1⟩ := draw_ok (w := w) (n := n + 1) hw T h (by omega) (show (0 : Int) < 3 by decide) (by decide)
  obtain ⟨r2, d2, e2, o2, x2, y2⟩ := big_ok (w := w) (n := n) hw T o1 (by omega) (show (0 : Int) < (if size / 30 > 1 then size / 30 else 1) by split <;> omega)
  obtain ⟨r3, d3, e3, o3, x3, y3⟩ := draw_ok (w := w) (n := n + 1) hw T o2 (by omega) (show (0 : Int) < 2 by decide) (by decide)
  have e1 : C w (n + 2) 26 [.ref 1, .int 3] (dm d T) = _ := e1
  have e2 : C w (n + 2) 29 [.ref 1, .int (if size / 30 > 1 then size / 30 else 1)] (dm d1 T) = _ := e2
  have e3 : C w (n + 2) 26 [.ref 1, .int 2] (dm d2 T) = _ := e3
  obtain ⟨v, hv, ev1⟩ := ixI2 (a := 1 + r1) (b := 1 + r2) x3 y3
  refine ⟨v, d3, ?_, ok_mono o3 (by omega), by rcases hv with rfl | rfl <;> omega⟩
  have z2 : ∀ r : R D, R.when (decide (2 ≤ sizeLine)) r = r := fun r => when_dec (show (2 : Nat) ≤ sizeLine by decide)
  have dv : ∀ M : List MO, evOp .div (.int size) (.int 30) M = .ok (.int (size / 30)) M := fun M => divP (by decide) (by decide)
  simp only [s7, ex, ev, evs, evSq, asg, Cn.d, bind_ok, exS_ok, of_some, add_i, dv, max_i, List.getElem?_cons_zero, List.getElem?_cons_succ, List.set_cons_zero, List.set_cons_succ, List.cons_append, List.nil_append, List.length_cons, List.length_nil, Nat.reduceAdd, Bool.false_eq_true, if_false, e1, e2, e3, ev1, z2]
theorem s8_ok (hw : 64 ≤ w) {d : Dk} {k : Nat} (T : List MO) (h : Ok d k) (hk : k ≤ 800000) (size place i : Int) (hi : 0 ≤ i) (a1 a3 a5 a7 a8 a9 a10 : Option D) :
    ∃ (v : Int) (d' : Dk), ex ⟨C w (n + 2), tabOf ts, w⟩ s8 [some (.ref 1), a1, some (.int size), a3, some (.int place), a5, some (.int i), a7, a8, a9, a10] (dm d T) = .nx [some (.ref 1), a1, some (.int size), a3, some (.int place), a5, some (.int i), a7, some (.int v), a9, a10] (dm d' T) ∧ Ok d' (k + 3) ∧ place ≤ v ∧ (0 < i → place + 1 ≤ v) := by
  have dv : ∀ M : List MO, evOp .div (.int size) (.int 60) M = .ok (.int (size / 60)) M := fun M => divP (by decide) (by decide)
  have pos : (0 : Int) < (if size / 60 > 1 then size / 60 else 1) := by split <;> omega
  by_cases h0 : 0 < i
  · obtain ⟨r2, d2, e2, o2, x2, y2⟩ := big_ok (w := w) (n := n) hw T h (by omega) pos
    have e2 : C w (n + 2) 29 [.ref 1, .int (if size / 60 > 1 then size / 60 else 1)] (dm d T) = _ := e2
    refine ⟨place + 1 * (1 + r2), d2, ?_, ok_mono o2 (by omega), by omega, fun _ => by omega⟩
    simp only [s8, ex, ev, evs, evOr, asg, Cn.d, bind_ok, exS_ok, of_some, tr_b, add_i, gt_i, decide_eq_true h0, int_b, dv, max_i, List.getElem?_cons_zero, List.getElem?_cons_succ, List.set_cons_zero, List.set_cons_succ, if_true, e2, mulL (show smallB 1 = true from rfl)]
  · obtain ⟨r1, d1, e1, o1, x1, y1⟩ := draw_ok (w := w) (n := n + 1) hw T h (by omega) (show (0 : Int) < 2 by decide) (by decide)
    obtain ⟨r2, d2, e2, o2, x2, y2⟩ := big_ok (w := w) (n := n) hw T o1 (by omega) pos
    have e1 : C w (n + 2) 26 [.ref 1, .int 2] (dm d T) = _ := e1
    have e2 : C w (n + 2) 29 [.ref 1, .int (if size / 60 > 1 then size / 60 else 1)] (dm d1 T) = _ := e2
    have sm : smallB (if (r1 == 0) = true then (1 : Int) else 0) = true := by split <;> rfl
    refine ⟨place + (if (r1 == 0) = true then (1 : Int) else 0) * (1 + r2), d2, ?_, ok_mono o2 (by omega), by split <;> omega, fun h => absurd h h0⟩
    simp only [s8, ex, ev, evs, evOr, asg, Cn.d, bind_ok, exS_ok, of_some, tr_b, add_i, gt_i, eq_i, decide_eq_false h0, int_b, dv, max_i, List.getElem?_cons_zero, List.getElem?_cons_succ, List.set_cons_zero, List.set_cons_succ, Bool.false_eq_true, if_false, e1, e2, mulL sm]
theorem s9_ok {d : Dk} (T : List MO) (size place bg wd : Int) (found : Rs) (hl : found.length ≤ 1000) (h1 : 1 ≤ wd) (ho : okP size 0 found) (hb : lst 0 found ≤ bg) (h0 : 0 ≤ place) (hp : place ≤ bg) (hc : lst 0 found ≤ place + 1) (a1 a3 a6 a9 a10 : Option D) :
    ∃ (found' : Rs) (place' : Int), ex ⟨C w n, tabOf ts, w⟩ s9 [some (.ref 1), a1, some (.int size), a3, some (.int place), some (.ref (T.length + 2)), a6, some (.int wd), some (.int bg), a9, a10] (dm d (T ++ [.lst (found.map pD)])) = .nx [some (.ref 1), a1, some (.int size), a3, some (.int place'), some (.ref (T.length + 2)), a6, some (.int wd), some (.int bg), a9, a10] (dm d (T ++ [.lst (found'.map pD)])) ∧ okP size 0 found' ∧ 0 ≤ place' ∧ lst 0 found' ≤ place' + 1 ∧ found'.length ≤ found.length + 1 := by
  by_cases hle : bg + wd ≤ size
  · refine ⟨found ++ [(bg, bg + wd)], bg + wd, ?_, okP_snoc _ _ _ ho hb (by show bg + 1 ≤ bg + wd; omega) hle, by omega, by rw [lst_snoc]; exact Int.le_refl _, by simp⟩
    have z2 : ∀ r : R D, R.when (decide (2 ≤ sizeLine)) r = r := fun r => when_dec (show (2 : Nat) ≤ sizeLine by decide)
    have hap : evMm .append (.ref (T.length + 2)) [pD (bg, bg + wd)] (dm d (T ++ [.lst (found.map pD)])) = .ok .non (dm d (T ++ [.lst ((found ++ [(bg, bg + wd)]).map pD)])) := by
      rw [app_T (by rw [List.length_map]; exact Nat.lt_of_le_of_lt hl (by decide)), List.map_append]
      rfl
    have hrs : (asRef (dm d (T ++ [.lst (found.map pD)])) (.ref (T.length + 2))).isSome = true := by rw [asRef_T]; rfl
    simp only [exs_c, exs_n, ex, ev, evs, evSq, evAnd, evOr, evF, evO, evC, evI, asg, asgs, evT, Cn.d, bind_ok, bind_bad, bind_err, bind_ite, exS_ok, exS_bad, exS_ite, seq_nx, seq_ret, seq_brk, seq_cont, seq_bad, seq_ite, fin_ret, fin_nx, fin_bad, fin_ite, of_some, of_none, when_t, calm_ok, add_i, sub_i, add_s, mul_i, div_i, mod_i, pow_i, aug_add, aug_sub, eq_i, ne_i, eq_s, ne_s, eq_b, ne_b, lt_i, le_i, gt_i, ge_i, is_n, isnot_n, tr_b, tr_i, tr_t, tr_l, tr_n, asInt_i, asStr_s, asStr_i, asStr_t, asBl_b, asTup_t, isNon_n, isNon_i, isNon_s, isNon_t, isNon_l, startE, parSet, wipeE, List.map_cons, List.map_nil, List.length_cons, List.length_nil, Nat.reduceAdd, Nat.reduceSub, List.replicate, List.cons_append, List.nil_append, List.append_nil, List.getElem?_cons_zero, List.getElem?_cons_succ, List.set_cons_zero, List.set_cons_succ, if_true, if_false, Bool.false_eq_true, Bool.true_and, Bool.and_true, Bool.not_true, Bool.not_false, Nat.reduceBEq, BEq.rfl, Option.isSome_some, Option.isSome_none, reduceIte, reduceCtorEq, decide_true, decide_false, s9, decide_eq_true hle, z2, pD_f, hap, hrs]
  · refine ⟨found, place, ?_, ho, h0, hc, by omega⟩
    simp only [exs_c, exs_n, ex, ev, evs, evSq, evAnd, evOr, evF, evO, evC, evI, asg, asgs, evT, Cn.d, bind_ok, bind_bad, bind_err, bind_ite, exS_ok, exS_bad, exS_ite, seq_nx, seq_ret, seq_brk, seq_cont, seq_bad, seq_ite, fin_ret, fin_nx, fin_bad, fin_ite, of_some, of_none, when_t, calm_ok, add_i, sub_i, add_s, mul_i, div_i, mod_i, pow_i, aug_add, aug_sub, eq_i, ne_i, eq_s, ne_s, eq_b, ne_b, lt_i, le_i, gt_i, ge_i, is_n, isnot_n, tr_b, tr_i, tr_t, tr_l, tr_n, asInt_i, asStr_s, asStr_i, asStr_t, asBl_b, asTup_t, isNon_n, isNon_i, isNon_s, isNon_t, isNon_l, startE, parSet, wipeE, List.map_cons, List.map_nil, List.length_cons, List.length_nil, Nat.reduceAdd, Nat.reduceSub, List.replicate, List.cons_append, List.nil_append, List.append_nil, List.getElem?_cons_zero, List.getElem?_cons_succ, List.set_cons_zero, List.set_cons_succ, if_true, if_false, Bool.false_eq_true, Bool.true_and, Bool.and_true, Bool.not_true, Bool.not_false, Nat.reduceBEq, BEq.rfl, Option.isSome_some, Option.isSome_none, reduceIte, reduceCtorEq, decide_true, decide_false, s9, decide_eq_false hle]
end K79

namespace K79
open PySem TF SX L2
variable {w n : Nat} {M : List MO}
theorem fa_turn (hw : 64 ≤ w) {d : Dk} {k : Nat} (T : List MO) (h : Ok d k) (hk : k ≤ 700000) (size place i : Int) (hi : 0 ≤ i) (found : Rs) (hl : found.length ≤ 900) (ho : okP size 0 found) (h0 : 0 ≤ place) (hc : lst 0 found ≤ place + 1) (hz : i = 0 → lst 0 found ≤ place) (a1 a3 a6 a7 a8 a9 a10 : Option D) :
    ∃ (d' : Dk) (found' : Rs) (place' : Int) (b7 b8 : Option D), faTurn w (n + 2) (.int i) [some (.ref 1), a1, some (.int size), a3, some (.int place), some (.ref (T.length + 2)), a6, a7, a8, a9, a10] (dm d (T ++ [.lst (found.map pD)])) = .nx [some (.ref 1), a1, some (.int size), a3, some (.int place'), some (.ref (T.length + 2)), some (.int i), b7, b8, a9, a10] (dm d' (T ++ [.lst (found'.map pD)])) ∧ Ok d' (k + 7) ∧ okP size 0 found' ∧ 0 ≤ place' ∧ lst 0 found' ≤ place' + 1 ∧ found'.length ≤ found.length + 1 := by
  obtain ⟨wd, d1, e1, o1, x1⟩ := s7_ok (w := w) (n := n) hw (T ++ [.lst (found.map pD)]) h (by omega) size a1 a3 (some (.int place)) (some (.ref (T.length + 2))) (some (.int i)) a7 a8 a9 a10
  obtain ⟨bg, d2, e2, o2, x2, y2⟩ := s8_ok (w := w) (n := n) hw (T ++ [.lst (found.map pD)]) o1 (by omega) size place i hi a1 a3 (some (.ref (T.length + 2))) (some (.int wd)) a8 a9 a10
  obtain ⟨found', place', e3, x3, x4, x5, x6⟩ := s9_ok (w := w) (n := n + 2) (d := d2) T size place bg wd found (by omega) x1 ho (by
    by_cases h0 : i = 0
    · have := hz h0
      omega
    · have := y2 (by omega)
      omega) h0 x2 hc a1 a3 (some (.int i)) a9 a10
  refine ⟨d2, found', place', some (.int wd), some (.int bg), ?_, ok_mono o2 (by omega), x3, x4, x5, x6⟩
  unfold faTurn
  simp only [asg, exS_ok, List.set_cons_zero, List.set_cons_succ, exs_c, exs_n, e1, e2, e3, seq_nx]
def faNear (found : Rs) (size : Int) : Int × Int := match found with
  | [] => (0, size)
  | p :: _ => p
theorem ne_nil_T {d : Dk} {T : List MO} {l : List D} (h : flatL 59 l = true) : evCmp .ne (.ref (T.length + 2)) (.lst []) (dm d (T ++ [.lst l])) = .ok (.bl (!l.isEmpty)) (dm d (T ++ [.lst l])) := by
  have e : viewV (dm d (T ++ [.lst l])) (.ref (T.length + 2)) = .lst l := by
    show (match (dm d (T ++ [.lst l]))[T.length + 2]? with | some (.lst l) => D.lst l | _ => .ref (T.length + 2)) = _
    rw [dm_get]
  unfold evCmp
  dsimp only
  rw [e]
  show R.when (false || (flatL 59 l && true)) (R.ok (D.bl (!(eqvL l []))) _) = _
  rw [h]
  cases l <;> rfl
theorem far_ok (hw : 64 ≤ w) {d : Dk} {k : Nat} (T : List MO) (h : Ok d k) (hk : k ≤ 600000) :
    ∃ (size place : Int) (raised : Rs) (f : Str) (d' : Dk) (J : List MO), C w (n + 3) f_law_far [.ref 1] (dm d T) = .ok (stD size raised place f) (dm d' (T ++ J)) ∧ Ok d' (k + 200) ∧ 2 ≤ size ∧ size ≤ 1000000000000 ∧ 0 ≤ place ∧ place < size ∧ okP size 0 raised ∧ raised.length ≤ 20 ∧ (f = "right" ∨ f = "left") := by
  obtain ⟨r1, d1, e1, o1, x1, y1⟩ := draw_ok (w := w) (n := n + 1) hw T h (by omega) (show (0 : Int) < 30 by decide) (by decide)
  obtain ⟨r2, d2, e2, o2, x2, y2⟩ := draw_ok (w := w) (n := n + 1) hw T o1 (by omega) (show (0 : Int) < 3 by decide) (by decide)
  obtain ⟨r3, d3, e3, o3, x3, y3⟩ := big_ok (w := w) (n := n) hw T o2 (by omega) (show (0 : Int) < 999999999999 by decide)
  obtain ⟨r4, d4, e4, o4, x4, y4⟩ := draw_ok (w := w) (n := n + 1) hw T o3 (by omega) (show (0 : Int) < 3 by decide) (by decide)
  obtain ⟨size, hsz, es⟩ := ixI3 (a := 2 + r1) (b := 1000000000000 - r2) (c := 2 + r3) x4 y4
  have s2 : 2 ≤ size := by omega
  have s3 : size ≤ 1000000000000 := by omega
  obtain ⟨cnt, d5, e5, o5, x5, y5⟩ := draw_ok (w := w) (n := n + 1) hw T o4 (by omega) (show (0 : Int) < 21 by decide) (by decide)
  let L1 : D := .lst [.int (2 + r1), .int (1000000000000 - r2), .int (2 + r3)]
  obtain ⟨e', M', l1, l2⟩ := for_ind (turn := faTurn w (n + 2)) (f := fun (i : Nat) => D.int (0 + (i : Int))) (fun dn e M => ∃ (d' : Dk) (found : Rs) (place : Int) (a6 a7 a8 : Option D), M = dm d' (T ++ [.lst (found.map pD)]) ∧ Ok d' (k + 6 + 7 * dn.length) ∧ found.length ≤ dn.length ∧ okP size 0 found ∧ 0 ≤ place ∧ lst 0 found ≤ place + 1 ∧ (dn = [] → lst 0 found ≤ place) ∧ e = [some (.ref 1), some L1, some (.int size), some (.int cnt), some (.int place), some (.ref (T.length + 2)), a6, a7, a8, none, none])
    (List.range' 0 cnt.toNat) [] [some (.ref 1), some L1, some (.int size), some (.int cnt), some (.int 0), some (.ref (T.length + 2)), none, none, none, none, none] (dm d5 (T ++ [.lst ([].map pD)]))
    (fun dn a r e M hd ⟨d', found, place, a6, a7, a8, hM, ho, hf, q1, q2, q3, q4, he⟩ => by
      subst hM he
      have hd : List.range' 0 cnt.toNat = dn ++ a :: r := by simpa using hd
      have ha := range_at hd
      have hlen := congrArg List.length hd
      simp at hlen
      obtain ⟨d2, found', place', b7, b8, t1, t2, t3, t4, t5, t6⟩ := fa_turn (w := w) (n := n) hw T ho (by omega) size place (0 + (a : Int)) (by omega) found (by omega) q1 q2 q3 (fun hz => q4 (List.length_eq_zero_iff.mp (by omega))) (some L1) (some (.int cnt)) a6 a7 a8 none none
      exact ⟨_, _, .inl t1, d2, found', place', _, b7, b8, rfl, ok_mono t2 (by simp; omega), by simp; omega, t3, t4, t5, fun h => by simp at h, rfl⟩)
    ⟨d5, [], 0, none, none, none, rfl, ok_mono o5 (by simp), Nat.le_refl _, trivial, Int.le_refl _, by show (0 : Int) ≤ 0 + 1; omega, fun _ => Int.le_refl _, rfl⟩
  obtain ⟨d6, found, place, a6, a7, a8, hM, ho, hf, q1, q2, q3, q4, he⟩ := l2
  subst hM he
  simp only [List.nil_append, List.length_range'] at ho hf
  have o6 : Ok d6 (k + 150) := ok_mono ho (by omega)
  let nr := faNear found size
  have hnr : 0 ≤ nr.1 ∧ nr.1 < size := by
    show 0 ≤ (faNear found size).1 ∧ (faNear found size).1 < size
    cases found with
    | nil => exact ⟨Int.le_refl _, by show 0 < size; omega⟩
    | cons p r => exact ⟨q1.1, by show p.1 < size; have := q1.2.1; have := q1.2.2.1; omega⟩
  obtain ⟨r7, d7, e7, o7, x7, y7⟩ := big_ok (w := w) (n := n) hw (T ++ [.lst (found.map pD)]) o6 (by omega) (show (0 : Int) < size by omega)
  obtain ⟨r8, d8, e8, o8, x8, y8⟩ := draw_ok (w := w) (n := n + 1) hw (T ++ [.lst (found.map pD)]) o7 (by omega) (show (0 : Int) < 4 by decide) (by decide)
  obtain ⟨r9, d9, e9, o9, x9, y9⟩ := draw_ok (w := w) (n := n + 1) hw (T ++ [.lst (found.map pD)]) o8 (by omega) (show (0 : Int) < 2 by decide) (by decide)
  obtain ⟨spot, hsp, esp⟩ := ixI4 (a := r7) (b := nr.1) (c := nr.2 % size) (d := size - 1) x8 y8
  obtain ⟨f, hff, ef⟩ := ixF x9 y9
  have m0 := Int.emod_nonneg nr.2 (show size ≠ 0 by omega)
  have m1 := Int.emod_lt_of_pos nr.2 (show 0 < size by omega)
  refine ⟨size, spot, found, f, d9, [.lst (found.map pD)], ?_, ok_mono o9 (by omega), s2, s3, by omega, by omega, q1, by omega, hff⟩
  refine (call_eq (d := ⟨b_law_far, 11⟩) rfl rfl).trans ?_
  have e1 : callF (tabOf ts) (fsOf ds) w (n + 2) 26 [.ref 1, .int 30] (dm d T) = _ := e1
  have e2 : callF (tabOf ts) (fsOf ds) w (n + 2) 26 [.ref 1, .int 3] (dm d1 T) = _ := e2
  have e3 : callF (tabOf ts) (fsOf ds) w (n + 2) 29 [.ref 1, .int 999999999999] (dm d2 T) = _ := e3
  have e4 : callF (tabOf ts) (fsOf ds) w (n + 2) 26 [.ref 1, .int 3] (dm d3 T) = _ := e4
  have e5 : callF (tabOf ts) (fsOf ds) w (n + 2) 26 [.ref 1, .int 21] (dm d4 T) = _ := e5
  have e7 : callF (tabOf ts) (fsOf ds) w (n + 2) 29 [.ref 1, .int size] (dm d6 (T ++ [.lst (found.map pD)])) = _ := e7
  have e8 : callF (tabOf ts) (fsOf ds) w (n + 2) 26 [.ref 1, .int 4] (dm d7 (T ++ [.lst (found.map pD)])) = _ := e8
  have e9 : callF (tabOf ts) (fsOf ds) w (n + 2) 26 [.ref 1, .int 2] (dm d8 (T ++ [.lst (found.map pD)])) = _ := e9
  have z0 : ∀ {α : Type} (r : R α), R.when (decide (0 ≤ sizeLine)) r = r := fun r => when_dec (show (0 : Nat) ≤ sizeLine by decide)
  have z2 : ∀ r : R D, R.when (decide (2 ≤ sizeLine)) r = r := fun r => when_dec (show (2 : Nat) ≤ sizeLine by decide)
  have z3 : ∀ r : R D, R.when (decide (3 ≤ sizeLine)) r = r := fun r => when_dec (show (3 : Nat) ≤ sizeLine by decide)
  have z4 : ∀ r : R D, R.when (decide (4 ≤ sizeLine)) r = r := fun r => when_dec (show (4 : Nat) ≤ sizeLine by decide)
  unfold b_law_far
  rw [exs_c]
  refine step (e := [some (.ref 1), some L1, none, none, none, none, none, none, none, none, none]) (M := dm d3 T) ?_ ?_
  · have h1 : ∀ M : List MO, evOp .sub (.int 1000000000000) (.int 1) M = .ok (.int 999999999999) M := fun _ => rfl
    simp only [startE, List.map_cons, List.map_nil, List.length_cons, List.length_nil, Nat.reduceAdd, Nat.reduceSub, List.replicate, List.cons_append, List.nil_append, ex, ev, evs, evSq, asg, Cn.d, bind_ok, exS_ok, of_some, add_i, pow_12, h1, sub_i, List.getElem?_cons_zero, List.getElem?_cons_succ, List.set_cons_zero, List.set_cons_succ, Bool.false_eq_true, if_false, e1, e2, e3, z3]
    rfl
  rw [exs_c]
  refine step (e := [some (.ref 1), some L1, some (.int size), none, none, none, none, none, none, none, none]) (M := dm d4 T) ?_ ?_
  · simp only [ex, ev, evs, asg, Cn.d, bind_ok, exS_ok, List.getElem?_cons_zero, List.getElem?_cons_succ, List.set_cons_zero, List.set_cons_succ, e4]
    rw [show evIx L1 (.int r4) (dm d4 T) = _ from es _]
    rfl
  rw [exs_c]
  refine step (e := [some (.ref 1), some L1, some (.int size), some (.int cnt), some (.int 0), some (.ref (T.length + 2)), none, none, none, none, none]) (M := dm d5 (T ++ [.lst ([].map pD)])) ?_ ?_
  · simp only [exs_c, exs_n, ex, ev, evs, evSq, evAnd, evOr, evF, evO, evC, evI, asg, asgs, evT, Cn.d, bind_ok, bind_bad, bind_err, bind_ite, exS_ok, exS_bad, exS_ite, seq_nx, seq_ret, seq_brk, seq_cont, seq_bad, seq_ite, fin_ret, fin_nx, fin_bad, fin_ite, of_some, of_none, when_t, calm_ok, add_i, sub_i, add_s, mul_i, div_i, mod_i, pow_i, aug_add, aug_sub, eq_i, ne_i, eq_s, ne_s, eq_b, ne_b, lt_i, le_i, gt_i, ge_i, is_n, isnot_n, tr_b, tr_i, tr_t, tr_l, tr_n, asInt_i, asStr_s, asStr_i, asStr_t, asBl_b, asTup_t, isNon_n, isNon_i, isNon_s, isNon_t, isNon_l, startE, parSet, wipeE, List.map_cons, List.map_nil, List.length_cons, List.length_nil, Nat.reduceAdd, Nat.reduceSub, List.replicate, List.cons_append, List.nil_append, List.append_nil, List.getElem?_cons_zero, List.getElem?_cons_succ, List.set_cons_zero, List.set_cons_succ, if_true, if_false, Bool.false_eq_true, Bool.true_and, Bool.and_true, Bool.not_true, Bool.not_false, Nat.reduceBEq, BEq.rfl, Option.isSome_some, Option.isSome_none, reduceIte, reduceCtorEq, decide_true, decide_false, e5, z0, dm_len, dm_snoc]
  rw [exs_c]
  refine step (e := [some (.ref 1), some L1, some (.int size), some (.int cnt), some (.int place), some (.ref (T.length + 2)), a6, a7, a8, none, none]) (M := dm d6 (T ++ [.lst (found.map pD)])) ?_ ?_
  · have g1 : rngOk cnt = true := by
      unfold rngOk
      rw [decide_eq_true (show -(2 ^ 62) ≤ cnt by omega), decide_eq_true (show cnt < 2 ^ 62 by omega)]
      rfl
    have g2 : decide (cnt ≤ (sizeLine : Int)) = true := decide_eq_true (by have := line10000; omega)
    simp only [ex, evI, ev, List.getElem?_cons_zero, List.getElem?_cons_succ, bind_ok, asInt_i, g1, g2, Bool.and_true, when_t, exS_ok, rngD_map]
    exact l1
  rw [exs_c]
  refine step (e := [some (.ref 1), some L1, some (.int size), some (.int cnt), some (.int place), some (.ref (T.length + 2)), a6, a7, a8, some (pD nr), none]) (M := dm d6 (T ++ [.lst (found.map pD)])) ?_ ?_
  · have hne := ne_nil_T (d := d6) (T := T) (flat_pD2 found 58)
    cases found with
    | nil =>
      simp only [exs_c, exs_n, ex, ev, evs, evSq, evAnd, evOr, evF, evO, evC, evI, asg, asgs, evT, Cn.d, bind_ok, bind_bad, bind_err, bind_ite, exS_ok, exS_bad, exS_ite, seq_nx, seq_ret, seq_brk, seq_cont, seq_bad, seq_ite, fin_ret, fin_nx, fin_bad, fin_ite, of_some, of_none, when_t, calm_ok, add_i, sub_i, add_s, mul_i, div_i, mod_i, pow_i, aug_add, aug_sub, eq_i, ne_i, eq_s, ne_s, eq_b, ne_b, lt_i, le_i, gt_i, ge_i, is_n, isnot_n, tr_b, tr_i, tr_t, tr_l, tr_n, asInt_i, asStr_s, asStr_i, asStr_t, asBl_b, asTup_t, isNon_n, isNon_i, isNon_s, isNon_t, isNon_l, startE, parSet, wipeE, List.map_cons, List.map_nil, List.length_cons, List.length_nil, Nat.reduceAdd, Nat.reduceSub, List.replicate, List.cons_append, List.nil_append, List.append_nil, List.getElem?_cons_zero, List.getElem?_cons_succ, List.set_cons_zero, List.set_cons_succ, if_true, if_false, Bool.false_eq_true, Bool.true_and, Bool.and_true, Bool.not_true, Bool.not_false, Nat.reduceBEq, BEq.rfl, Option.isSome_some, Option.isSome_none, reduceIte, reduceCtorEq, decide_true, decide_false, List.isEmpty_nil] at hne
      simp only [exs_c, exs_n, ex, ev, evs, evSq, evAnd, evOr, evF, evO, evC, evI, asg, asgs, evT, Cn.d, bind_ok, bind_bad, bind_err, bind_ite, exS_ok, exS_bad, exS_ite, seq_nx, seq_ret, seq_brk, seq_cont, seq_bad, seq_ite, fin_ret, fin_nx, fin_bad, fin_ite, of_some, of_none, when_t, calm_ok, add_i, sub_i, add_s, mul_i, div_i, mod_i, pow_i, aug_add, aug_sub, eq_i, ne_i, eq_s, ne_s, eq_b, ne_b, lt_i, le_i, gt_i, ge_i, is_n, isnot_n, tr_b, tr_i, tr_t, tr_l, tr_n, asInt_i, asStr_s, asStr_i, asStr_t, asBl_b, asTup_t, isNon_n, isNon_i, isNon_s, isNon_t, isNon_l, startE, parSet, wipeE, List.map_cons, List.map_nil, List.length_cons, List.length_nil, Nat.reduceAdd, Nat.reduceSub, List.replicate, List.cons_append, List.nil_append, List.append_nil, List.getElem?_cons_zero, List.getElem?_cons_succ, List.set_cons_zero, List.set_cons_succ, if_true, if_false, Bool.false_eq_true, Bool.true_and, Bool.and_true, Bool.not_true, Bool.not_false, Nat.reduceBEq, BEq.rfl, Option.isSome_some, Option.isSome_none, reduceIte, reduceCtorEq, decide_true, decide_false, z0, z2, hne, pD_f]
      rfl
    | cons p r =>
      have hix : evIx (.ref (T.length + 2)) (.int 0) (dm d6 (T ++ [.lst ((p :: r).map pD)])) = .ok (pD p) (dm d6 (T ++ [.lst ((p :: r).map pD)])) := ix_T at_0
      have hem : ((p :: r).map pD).isEmpty = false := rfl
      rw [hem] at hne
      generalize (p :: r).map pD = L at *
      simp only [exs_c, exs_n, ex, ev, evs, evSq, evAnd, evOr, evF, evO, evC, evI, asg, asgs, evT, Cn.d, bind_ok, bind_bad, bind_err, bind_ite, exS_ok, exS_bad, exS_ite, seq_nx, seq_ret, seq_brk, seq_cont, seq_bad, seq_ite, fin_ret, fin_nx, fin_bad, fin_ite, of_some, of_none, when_t, calm_ok, add_i, sub_i, add_s, mul_i, div_i, mod_i, pow_i, aug_add, aug_sub, eq_i, ne_i, eq_s, ne_s, eq_b, ne_b, lt_i, le_i, gt_i, ge_i, is_n, isnot_n, tr_b, tr_i, tr_t, tr_l, tr_n, asInt_i, asStr_s, asStr_i, asStr_t, asBl_b, asTup_t, isNon_n, isNon_i, isNon_s, isNon_t, isNon_l, startE, parSet, wipeE, List.map_cons, List.map_nil, List.length_cons, List.length_nil, Nat.reduceAdd, Nat.reduceSub, List.replicate, List.cons_append, List.nil_append, List.append_nil, List.getElem?_cons_zero, List.getElem?_cons_succ, List.set_cons_zero, List.set_cons_succ, if_true, if_false, Bool.false_eq_true, Bool.true_and, Bool.and_true, Bool.not_true, Bool.not_false, Nat.reduceBEq, BEq.rfl, Option.isSome_some, Option.isSome_none, reduceIte, reduceCtorEq, decide_true, decide_false, z0]
      rw [hne]
      simp only [exs_c, exs_n, ex, ev, evs, evSq, evAnd, evOr, evF, evO, evC, evI, asg, asgs, evT, Cn.d, bind_ok, bind_bad, bind_err, bind_ite, exS_ok, exS_bad, exS_ite, seq_nx, seq_ret, seq_brk, seq_cont, seq_bad, seq_ite, fin_ret, fin_nx, fin_bad, fin_ite, of_some, of_none, when_t, calm_ok, add_i, sub_i, add_s, mul_i, div_i, mod_i, pow_i, aug_add, aug_sub, eq_i, ne_i, eq_s, ne_s, eq_b, ne_b, lt_i, le_i, gt_i, ge_i, is_n, isnot_n, tr_b, tr_i, tr_t, tr_l, tr_n, asInt_i, asStr_s, asStr_i, asStr_t, asBl_b, asTup_t, isNon_n, isNon_i, isNon_s, isNon_t, isNon_l, startE, parSet, wipeE, List.map_cons, List.map_nil, List.length_cons, List.length_nil, Nat.reduceAdd, Nat.reduceSub, List.replicate, List.cons_append, List.nil_append, List.append_nil, List.getElem?_cons_zero, List.getElem?_cons_succ, List.set_cons_zero, List.set_cons_succ, if_true, if_false, Bool.false_eq_true, Bool.true_and, Bool.and_true, Bool.not_true, Bool.not_false, Nat.reduceBEq, BEq.rfl, Option.isSome_some, Option.isSome_none, reduceIte, reduceCtorEq, decide_true, decide_false, hix]
      rfl
  rw [exs_c]
  refine step (e := [some (.ref 1), some L1, some (.int size), some (.int cnt), some (.int place), some (.ref (T.length + 2)), a6, a7, a8, some (pD nr), some (.int spot)]) (M := dm d8 (T ++ [.lst (found.map pD)])) ?_ ?_
  · simp only [ex, ev, evs, evSq, asg, Cn.d, bind_ok, exS_ok, of_some, sub_i, List.cons_append, List.nil_append, List.length_cons, List.length_nil, Nat.reduceAdd, List.getElem?_cons_zero, List.getElem?_cons_succ, List.set_cons_zero, List.set_cons_succ, Bool.false_eq_true, if_false, e7, e8, ix_p0, ix_p1, modP (show 0 < size by omega), esp, z4]
  simp only [exs_c, ex, ev, evs, evSq, Cn.d, bind_ok, exS_ok, seq_ret, fin_ret, of_some, List.cons_append, List.nil_append, List.length_cons, List.length_nil, Nat.reduceAdd, List.getElem?_cons_zero, List.getElem?_cons_succ, Bool.false_eq_true, if_false, tup_T, e9, ef, z2, z4]
  rfl
end K79

namespace K79
open PySem TF SX L2
variable {w n : Nat} {M : List MO}
def ab (i : Int) : Int := if i < 0 then -i else i
theorem ab_nn (i : Int) : 0 ≤ ab i := by unfold ab; split <;> omega
theorem abs_i {i : Int} : evBi .abs [.int i] M = .ok (.int (ab i)) M := rfl
theorem line_nat : (1000 : Nat) ≤ sizeLine := by decide
theorem ret_newl3 {γ : Gm} {a b c : RE} {e : Ev} {x y z : D} {M1 M2 M3 : List MO} (h1 : ev γ a e M = .ok x M1) (h2 : ev γ b e M1 = .ok y M2) (h3 : ev γ c e M2 = .ok z M3) :
    fin (exs γ (.cons (.ret (.newl (.cons a (.cons b (.cons c .nil))))) .nil) e M) = .ok (.ref M3.length) (M3 ++ [.lst [x, y, z]]) := by
  simp only [exs_c, ex, ev, evs, h1, h2, h3, bind_ok, List.length_cons, List.length_nil, Nat.reduceAdd]
  rw [when_dec (show (3 : Nat) ≤ sizeLine by decide)]
  rfl
theorem deck_ok (ns : List Int) (hl : ns.length ≤ 63) : ∃ d : Dk, C w (n + 1) f_law_deck [.kst (ns.map D.int)] [] = .ok (.ref 1) (dm d []) ∧ Ok d 0 := by
  let cs := ns.map ab
  refine ⟨⟨cs.filter (fun c => decide (1000000000000000000 ≤ c)), cs ++ [(cs.length : Int) + 7], 0⟩, ?_, ⟨?_, ?_, by simp, Int.le_refl _, Int.le_refl _⟩⟩
  · refine (call_eq (d := ⟨b_law_deck, 3⟩) rfl rfl).trans ?_
    unfold b_law_deck
    rw [exs_c]
    refine step (e := [some (.kst (ns.map D.int)), some (.lst (cs.map D.int)), none]) (M := []) ?_ ?_
    · simp only [exs_c, exs_n, ex, ev, evs, evSq, evAnd, evOr, evF, evO, evC, evI, asg, asgs, evT, Cn.d, bind_ok, bind_bad, bind_err, bind_ite, exS_ok, exS_bad, exS_ite, seq_nx, seq_ret, seq_brk, seq_cont, seq_bad, seq_ite, fin_ret, fin_nx, fin_bad, fin_ite, of_some, of_none, when_t, calm_ok, add_i, sub_i, add_s, mul_i, div_i, mod_i, pow_i, aug_add, aug_sub, eq_i, ne_i, eq_s, ne_s, eq_b, ne_b, lt_i, le_i, gt_i, ge_i, is_n, isnot_n, tr_b, tr_i, tr_t, tr_l, tr_n, asInt_i, asStr_s, asStr_i, asStr_t, asBl_b, asTup_t, isNon_n, isNon_i, isNon_s, isNon_t, isNon_l, startE, parSet, wipeE, List.map_cons, List.map_nil, List.length_cons, List.length_nil, Nat.reduceAdd, Nat.reduceSub, List.replicate, List.cons_append, List.nil_append, List.append_nil, List.getElem?_cons_zero, List.getElem?_cons_succ, List.set_cons_zero, List.set_cons_succ, if_true, if_false, Bool.false_eq_true, Bool.true_and, Bool.and_true, Bool.not_true, Bool.not_false, Nat.reduceBEq, BEq.rfl, Option.isSome_some, Option.isSome_none, reduceIte, reduceCtorEq, decide_true, decide_false, walk_k]
      rw [lc_map (f := D.int) (h := fun i => D.int (ab i))]
      · simp only [exs_c, exs_n, ex, ev, evs, evSq, evAnd, evOr, evF, evO, evC, evI, asg, asgs, evT, Cn.d, bind_ok, bind_bad, bind_err, bind_ite, exS_ok, exS_bad, exS_ite, seq_nx, seq_ret, seq_brk, seq_cont, seq_bad, seq_ite, fin_ret, fin_nx, fin_bad, fin_ite, of_some, of_none, when_t, calm_ok, add_i, sub_i, add_s, mul_i, div_i, mod_i, pow_i, aug_add, aug_sub, eq_i, ne_i, eq_s, ne_s, eq_b, ne_b, lt_i, le_i, gt_i, ge_i, is_n, isnot_n, tr_b, tr_i, tr_t, tr_l, tr_n, asInt_i, asStr_s, asStr_i, asStr_t, asBl_b, asTup_t, isNon_n, isNon_i, isNon_s, isNon_t, isNon_l, startE, parSet, wipeE, List.map_cons, List.map_nil, List.length_cons, List.length_nil, Nat.reduceAdd, Nat.reduceSub, List.replicate, List.cons_append, List.nil_append, List.append_nil, List.getElem?_cons_zero, List.getElem?_cons_succ, List.set_cons_zero, List.set_cons_succ, if_true, if_false, Bool.false_eq_true, Bool.true_and, Bool.and_true, Bool.not_true, Bool.not_false, Nat.reduceBEq, BEq.rfl, Option.isSome_some, Option.isSome_none, reduceIte, reduceCtorEq, decide_true, decide_false, lcEnd]
        rw [List.map_map]
        rfl
      · intro i _
        simp only [exs_c, exs_n, ex, ev, evs, evSq, evAnd, evOr, evF, evO, evC, evI, asg, asgs, evT, Cn.d, bind_ok, bind_bad, bind_err, bind_ite, exS_ok, exS_bad, exS_ite, seq_nx, seq_ret, seq_brk, seq_cont, seq_bad, seq_ite, fin_ret, fin_nx, fin_bad, fin_ite, of_some, of_none, when_t, calm_ok, add_i, sub_i, add_s, mul_i, div_i, mod_i, pow_i, aug_add, aug_sub, eq_i, ne_i, eq_s, ne_s, eq_b, ne_b, lt_i, le_i, gt_i, ge_i, is_n, isnot_n, tr_b, tr_i, tr_t, tr_l, tr_n, asInt_i, asStr_s, asStr_i, asStr_t, asBl_b, asTup_t, isNon_n, isNon_i, isNon_s, isNon_t, isNon_l, startE, parSet, wipeE, List.map_cons, List.map_nil, List.length_cons, List.length_nil, Nat.reduceAdd, Nat.reduceSub, List.replicate, List.cons_append, List.nil_append, List.append_nil, List.getElem?_cons_zero, List.getElem?_cons_succ, List.set_cons_zero, List.set_cons_succ, if_true, if_false, Bool.false_eq_true, Bool.true_and, Bool.and_true, Bool.not_true, Bool.not_false, Nat.reduceBEq, BEq.rfl, Option.isSome_some, Option.isSome_none, reduceIte, reduceCtorEq, decide_true, decide_false, abs_i]
      · have := line_nat
        simp
        omega
    · have hc : cs.length ≤ 63 := by simpa [cs] using hl
      have fl : lcLoop true none (fun x M => ((asg ⟨C w n, tabOf ts, w⟩ (.nm 2) x (wipeE [some (.kst (ns.map D.int)), some (.lst (cs.map D.int)), none] [2]) M).bind fun e1 M => (evC ⟨C w n, tabOf ts, w⟩ (.some (.cmp .ge (.v 2) (.op .pow (.c (.int 10)) (.c (.int 18))))) e1 M).bind fun k M => if k then (ev ⟨C w n, tabOf ts, w⟩ (.v 2) e1 M).bind fun d M => .ok (some d) M else .ok none M).calm) (cs.map D.int) [] [] = lcEnd true ([] ++ (cs.filter (fun c => decide (1000000000000000000 ≤ c))).map D.int) [] := by
        refine lc_filter cs [] ?_ ?_
        · intro i _
          simp only [asg, evC, ev, Cn.d, wipeE, bind_ok, calm_ok, List.getElem?_cons_zero, List.getElem?_cons_succ, List.set_cons_zero, List.set_cons_succ, pow_18, ge_i, of_some, tr_b]
          cases decide (1000000000000000000 ≤ i) <;> rfl
        · have := line_nat
          simp
          omega
      have ad : ∀ M : List MO, evOp .add (.lst (cs.map D.int)) (.lst [.int ((cs.map D.int).length + 7)]) M = .ok (.lst ((cs ++ [(cs.length : Int) + 7]).map D.int)) M := fun M => by
        rw [add_l, when_dec (by have := line_nat; simp; omega), List.map_append, List.length_map]
        rfl
      have ln : ∀ M : List MO, evBi .len [.lst (cs.map D.int)] M = .ok (.int (cs.map D.int).length) M := fun M => len_l
      have z1 : ∀ {α : Type} (r : R α), R.when (decide (1 ≤ sizeLine)) r = r := fun r => when_dec (show (1 : Nat) ≤ sizeLine by decide)
      have z3 : ∀ {α : Type} (r : R α), R.when (decide (3 ≤ sizeLine)) r = r := fun r => when_dec (show (3 : Nat) ≤ sizeLine by decide)
      let B : List D := (cs.filter (fun c => decide (1000000000000000000 ≤ c))).map D.int
      have h2 : ev ⟨C w n, tabOf ts, w⟩ (.op .add (.v 1) (.lst (.cons false (.op .add (.bi .len (.cons (.v 1) .nil)) (.c (.int 7))) .nil))) [some (.kst (ns.map D.int)), some (.lst (cs.map D.int)), none] [.lst B] = .ok (.lst ((cs ++ [(cs.length : Int) + 7]).map D.int)) [.lst B] := by
        simp only [ev, evs, evSq, Cn.d, List.getElem?_cons_zero, List.getElem?_cons_succ, bind_ok, ln, add_i, of_some, Bool.false_eq_true, if_false, List.cons_append, List.nil_append, List.length_cons, List.length_nil, Nat.reduceAdd, z1, ad]
      exact ret_newl3 (x := .ref 0) (z := .int 0) (M1 := [.lst B]) (M3 := [.lst B]) fl h2 rfl
  · refine Nat.le_trans (List.length_filter_le ..) ?_
    simpa [cs] using hl
  · intro b hb
    have := (List.mem_filter.mp hb).1
    obtain ⟨i, _, rfl⟩ := List.mem_map.mp this
    exact ab_nn i
end K79

namespace K79
open PySem TF SX L2
variable {w n : Nat} {M : List MO}
theorem tl_len (x : Str) : x.length = (TL.tl x).length := TL.len_tl x
theorem joinL_len2 (sep : List Nat) : ∀ l : List (List Nat), (TL.joinL sep l).length ≤ (l.map (fun x => x.length)).sum + sep.length * l.length
  | [] => by simp [TL.joinL]
  | [p] => by simp [TL.joinL]
  | p :: q :: r => by
    have := joinL_len2 sep (q :: r)
    simp [TL.joinL, Nat.mul_add] at this ⊢
    omega
theorem join_len (l : List Str) : (Str.join ", " l).length ≤ (l.map (fun x => x.length)).sum + 2 * l.length := by
  rw [tl_len, TL.tl_join]
  have h1 : TL.tl ", " = [44, 32] := by decide +kernel
  have := joinL_len2 [44, 32] (l.map TL.tl)
  rw [h1]
  have e : (l.map TL.tl).map (fun x => x.length) = l.map (fun x => x.length) := by
    rw [List.map_map]
    refine List.map_congr_left fun x _ => ?_
    exact (tl_len x).symm
  rw [e, List.length_map] at this
  simpa using this
theorem app_len (a b : Str) : (a ++ b).length = a.length + b.length := by
  rw [tl_len, TL.tl_append, List.length_append, ← tl_len, ← tl_len]
theorem sh_tup (xs : List PyData) : (PyData.tuple xs).shown.length ≤ ((PyData.shownAll xs).map (fun x => x.length)).sum + 2 * xs.length + 4 := by
  rw [PyData.shown_tuple, app_len, app_len]
  have h1 := join_len (PyData.shownAll xs)
  rw [PyData.shownAll_length] at h1
  have h2 : ("(" : Str).length = 1 := by decide +kernel
  have h3 : ((if xs.length == 1 then ",)" else ")" : String) : Str).length ≤ 2 := by
    split <;> decide +kernel
  omega
theorem sh_lst (xs : List PyData) : (PyData.list xs).shown.length ≤ ((PyData.shownAll xs).map (fun x => x.length)).sum + 2 * xs.length + 4 := by
  rw [PyData.shown_list, app_len, app_len]
  have h1 := join_len (PyData.shownAll xs)
  rw [PyData.shownAll_length] at h1
  have h2 : ("[" : Str).length = 1 := by decide +kernel
  have h3 : ("]" : Str).length = 1 := by decide +kernel
  omega
theorem sh_int {i : Int} (h : okN i) : (PyData.int i).shown.length ≤ 13 := by
  rw [PyData.shown_int, str_i h.1, S_len]
  exact nm_len h.1 (by decide) h.2
theorem sh_str {l : List Nat} (h : ∀ c ∈ l, c < 0x110000) : (PyData.str (S l)).shown.length ≤ 10 * l.length + 2 := by
  rw [PyData.shown_str]
  have := PySem.StrLaws.reprText_len (S l) (fun c hc => by have := h c hc; omega)
  rw [S_len] at this
  exact this
theorem sa_int {i : Int} (h : okN i) : (PyData.int i).showable = true := by
  show decide (i.natAbs.log2 < 1920) = true
  refine decide_eq_true ?_
  by_cases h0 : i.natAbs = 0
  · rw [h0]
    decide
  · rw [Nat.log2_lt h0]
    have := h.1
    have := h.2
    have : i.natAbs < 10 ^ 13 := by omega
    exact Nat.lt_of_lt_of_le this (Nat.le_trans (show 10 ^ 13 ≤ 2 ^ 64 by decide) (Nat.pow_le_pow_right (by decide) (by decide)))
theorem py_pD (p : Int × Int) : (pD p).py = .tuple [.int p.1, .int p.2] := rfl
theorem sh_pD {p : Int × Int} (h1 : okN p.1) (h2 : okN p.2) : (pD p).py.shown.length ≤ 40 := by
  rw [py_pD]
  have := sh_tup [.int p.1, .int p.2]
  have a := sh_int h1
  have b := sh_int h2
  simp only [PyData.shownAll_cons, PyData.shownAll_nil, List.map_cons, List.map_nil, List.sum_cons, List.sum_nil, List.length_cons, List.length_nil] at this
  omega
theorem pyL_map : ∀ l : Rs, pyL (l.map pD) = l.map fun p => (pD p).py
  | [] => rfl
  | p :: l => by
    show _ :: pyL (l.map pD) = _
    rw [pyL_map l]
    rfl
theorem sh_pairs : ∀ {l : Rs}, okR l → ((PyData.shownAll (l.map fun p => (pD p).py)).map (fun x => x.length)).sum ≤ 40 * l.length
  | [], _ => Nat.zero_le _
  | p :: l, h => by
    have h1 := sh_pairs (l := l) fun q hq => h q (List.mem_cons_of_mem _ hq)
    have h2 := sh_pD (h p (List.mem_cons_self ..)).1 (h p (List.mem_cons_self ..)).2
    simp only [List.map_cons, PyData.shownAll_cons, List.sum_cons, List.length_cons]
    omega
theorem sa_pairs : ∀ {l : Rs}, okR l → PyData.showableAll (l.map fun p => (pD p).py) = true
  | [], _ => rfl
  | p :: l, h => by
    have h1 := sa_pairs (l := l) fun q hq => h q (List.mem_cons_of_mem _ hq)
    have h2 := sa_int (h p (List.mem_cons_self ..)).1
    have h3 := sa_int (h p (List.mem_cons_self ..)).2
    show (((PyData.int p.1).showable && ((PyData.int p.2).showable && true)) && PyData.showableAll (l.map fun p => (pD p).py)) = true
    rw [h1, h2, h3]
    rfl
theorem f_S {f : Str} (h : f = "right" ∨ f = "left") : ∃ l : List Nat, f = S l ∧ l.length ≤ 5 ∧ ∀ c ∈ l, c < 0x110000 := by
  rcases h with rfl | rfl
  · exact ⟨[114, 105, 103, 104, 116], by decide +kernel, by decide, by decide⟩
  · exact ⟨[108, 101, 102, 116], by decide +kernel, by decide, by decide⟩
theorem py_st (size place : Int) (raised : Rs) (f : Str) : (stD size raised place f).py = .tuple [.int size, .tuple (raised.map fun p => (pD p).py), .int place, .str f] := by
  show PyData.tuple [.int size, .tuple (pyL (raised.map pD)), .int place, .str f] = _
  rw [pyL_map]
section
variable {size place : Int} {raised : Rs} {f : Str} (hs : okN size) (hp : okN place) (h : okR raised) (hl : raised.length ≤ 41) (hf : f = "right" ∨ f = "left")
include hs hp h hl hf
theorem st_flat (m : Nat) : (stD size raised place f).flat (m + 3) = true := by
  obtain ⟨l, rfl, _, hc⟩ := f_S hf
  have := flat_pD2 raised m
  simp [stD, D.flat, flatL, this, okS hc]
theorem st_sa : (stD size raised place f).py.showable = true := by
  rw [py_st]
  show ((PyData.int size).showable && (PyData.showableAll (raised.map fun p => (pD p).py) && ((PyData.int place).showable && (true && true)))) = true
  rw [sa_int hs, sa_int hp, sa_pairs h]
  rfl
theorem st_len : (stD size raised place f).py.shown.length ≤ 2500 := by
  obtain ⟨l, rfl, h5, hc⟩ := f_S hf
  rw [py_st]
  have a := sh_tup [.int size, .tuple (raised.map fun p => (pD p).py), .int place, .str (S l)]
  have b := sh_tup (raised.map fun p => (pD p).py)
  have c := sh_pairs h
  have d := sh_int hs
  have e := sh_int hp
  have g := sh_str hc
  simp only [PyData.shownAll_cons, PyData.shownAll_nil, List.map_cons, List.map_nil, List.sum_cons, List.sum_nil, List.length_cons, List.length_nil, List.length_map] at a b
  omega
theorem stx_small : ∀ c ∈ stx size raised place f, c < 0x110000 := by
  intro c hc
  unfold stx at hc
  have hpt : ∀ c ∈ ptx raised, c < 0x110000 := by
    intro c hc
    rw [← mid_ptx] at hc
    have key : ∀ (l : List (List Nat)), (∀ q ∈ l, ∀ c ∈ q, c < 0x110000) → ∀ c ∈ TL.joinL [32] l, c < 0x110000 := by
      intro l
      induction l with
      | nil => intro _ c hc; simp [TL.joinL] at hc
      | cons a r ih =>
        intro hq c hc
        cases r with
        | nil => exact hq a (List.mem_cons_self ..) c (by simpa [TL.joinL] using hc)
        | cons b r =>
          have hc : c ∈ a ++ ([32] ++ TL.joinL [32] (b :: r)) := hc
          rcases List.mem_append.mp hc with hc | hc
          · exact hq a (List.mem_cons_self ..) c hc
          · rcases List.mem_append.mp hc with hc | hc
            · rw [List.mem_singleton.mp hc]
              decide
            · exact ih (fun q hqq => hq q (List.mem_cons_of_mem _ hqq)) c hc
    refine key _ ?_ c hc
    intro q hq c hc
    unfold mid at hq
    split at hq
    · rw [List.mem_singleton.mp hq] at hc
      exact none_small hc
    · obtain ⟨p, _, rfl⟩ := List.mem_map.mp hq
      exact pw_small hc
  simp only [List.mem_append, List.mem_cons, List.not_mem_nil, or_false] at hc
  rcases hc with ((((hc | hc) | hc) | hc) | hc) | hc
  · exact nm_small hc
  · omega
  · exact hpt c hc
  · omega
  · rcases sgn_cases f with e | e <;> omega
  · exact nm_small hc
theorem repr_st : ∃ x : Str, evBi .repr [stD size raised place f] M = .ok (.str x) M := by
  refine ⟨(stD size raised place f).py.shown, ?_⟩
  show R.when (true && ((stD size raised place f).flat 60 && ((stD size raised place f).py.showable && decide ((stD size raised place f).py.shown.length ≤ sizeLine)))) (R.ok (D.str (stD size raised place f).py.shown) M) = _
  rw [st_flat hs hp h hl hf 57, st_sa hs hp h hl hf, decide_eq_true (big_le (Nat.le_trans (st_len hs hp h hl hf) (by decide)))]
  rfl
theorem repr_two : ∃ x : Str, evBi .repr [.lst [.str (S (stx size raised place f)), stD size raised place f]] M = .ok (.str x) M := by
  refine ⟨(D.lst [.str (S (stx size raised place f)), stD size raised place f]).py.shown, ?_⟩
  have sm := stx_small hs hp h hl hf
  have hlen : (D.lst [.str (S (stx size raised place f)), stD size raised place f]).py.shown.length ≤ sizeLine := by
    have a := sh_lst [.str (S (stx size raised place f)), (stD size raised place f).py]
    have b := sh_str sm
    have c := st_len hs hp h hl hf
    have d := stx_len size place raised f hs hp h hl
    simp only [PyData.shownAll_cons, PyData.shownAll_nil, List.map_cons, List.map_nil, List.sum_cons, List.sum_nil, List.length_cons, List.length_nil] at a
    refine Nat.le_trans (Nat.le_trans a ?_) line1000
    omega
  have hfl : (D.lst [.str (S (stx size raised place f)), stD size raised place f]).flat 60 = true := by
    have := st_flat hs hp h hl hf 56
    simp [D.flat, flatL, okS sm]
    exact this
  have hsa : (D.lst [.str (S (stx size raised place f)), stD size raised place f]).py.showable = true := by
    show (true && ((stD size raised place f).py.showable && true)) = true
    rw [st_sa hs hp h hl hf]
    rfl
  show R.when (true && ((D.lst [.str (S (stx size raised place f)), stD size raised place f]).flat 60 && ((D.lst [.str (S (stx size raised place f)), stD size raised place f]).py.showable && decide ((D.lst [.str (S (stx size raised place f)), stD size raised place f]).py.shown.length ≤ sizeLine)))) (R.ok (D.str (D.lst [.str (S (stx size raised place f)), stD size raised place f]).py.shown) M) = _
  rw [hfl, hsa, decide_eq_true hlen]
  rfl
theorem same_ok : C w (n + 1) f_law_same [.lst [.str (S (stx size raised place f)), stD size raised place f], .lst [.str (S (stx size raised place f)), stD size raised place f]] M = .ok (.bl true) M := by
  refine (call_eq (d := ⟨b_law_same, 2⟩) rfl rfl).trans ?_
  obtain ⟨x, e⟩ := repr_two (M := M) hs hp h hl hf
  simp only [exs_c, exs_n, ex, ev, evs, evSq, evAnd, evOr, evF, evO, evC, evI, asg, asgs, evT, Cn.d, bind_ok, bind_bad, bind_err, bind_ite, exS_ok, exS_bad, exS_ite, seq_nx, seq_ret, seq_brk, seq_cont, seq_bad, seq_ite, fin_ret, fin_nx, fin_bad, fin_ite, of_some, of_none, when_t, calm_ok, add_i, sub_i, add_s, mul_i, div_i, mod_i, pow_i, aug_add, aug_sub, eq_i, ne_i, eq_s, ne_s, eq_b, ne_b, lt_i, le_i, gt_i, ge_i, is_n, isnot_n, tr_b, tr_i, tr_t, tr_l, tr_n, asInt_i, asStr_s, asStr_i, asStr_t, asBl_b, asTup_t, isNon_n, isNon_i, isNon_s, isNon_t, isNon_l, startE, parSet, wipeE, List.map_cons, List.map_nil, List.length_cons, List.length_nil, Nat.reduceAdd, Nat.reduceSub, List.replicate, List.cons_append, List.nil_append, List.append_nil, List.getElem?_cons_zero, List.getElem?_cons_succ, List.set_cons_zero, List.set_cons_succ, if_true, if_false, Bool.false_eq_true, Bool.true_and, Bool.and_true, Bool.not_true, Bool.not_false, Nat.reduceBEq, BEq.rfl, Option.isSome_some, Option.isSome_none, reduceIte, reduceCtorEq, decide_true, decide_false, b_law_same, e]
end
end K79

namespace K79
open PySem TF SX L2
variable {w n : Nat} {M : List MO}
structure Gd (size place : Int) (raised : Rs) (f : Str) : Prop where
  s2 : 2 ≤ size
  s3 : size ≤ 1000000000000
  p0 : 0 ≤ place
  p1 : place < size
  ok : okP size 0 raised
  len : raised.length ≤ 41
  bd : raised.length ≤ 20 ∨ size ≤ 42
  f : f = "right" ∨ f = "left"
def inBody : RSs := (.cons (.par [4, 5] (.cons (.bi .repr (.cons (.v 3) .nil)) (.cons (.call 31 (.cons (.v 3) .nil)) .nil))) (.cons (.ite (.bor (.cons (.nt (.call 32 (.cons (.lst (.cons false (.call 20 (.cons (.v 3) .nil)) (.cons false (.call 22 (.cons (.v 5) .nil)) .nil))) (.cons (.lst (.cons false (.v 5) (.cons false (.v 3) .nil))) .nil)))) (.cons (.cmp .ne (.bi .repr (.cons (.v 3) .nil)) (.v 4)) .nil))) (.cons (.ret (.c (.bl false))) .nil) .nil) .nil))
def inTurn (w n : Nat) (x : D) (e : Ev) (M : List MO) : O := exS (asg ⟨C w n, tabOf ts, w⟩ (.nm 3) x e M) e fun e M => exs ⟨C w n, tabOf ts, w⟩ inBody e M
theorem in_turn {size place : Int} {raised : Rs} {f : Str} (g : Gd size place raised f) (s t a3 a4 a5 : Option D) :
    ∃ b4 b5 : Option D, inTurn w (n + 6) (stD size raised place f) [s, some (.ref 1), t, a3, a4, a5] M = .nx [s, some (.ref 1), t, some (stD size raised place f), b4, b5] M := by
  have oS : okN size := ⟨by have := g.s2; omega, by have := g.s3; omega⟩
  have oP : okN place := ⟨g.p0, by have := g.s3; have := g.p1; omega⟩
  have oR := okP_okR g.s3 (Int.le_refl 0) g.ok
  obtain ⟨x, hx⟩ : ∃ x : Str, ∀ M, evBi .repr [stD size raised place f] M = .ok (.str x) M := by
    obtain ⟨x, h⟩ := repr_st (M := []) oS oP oR g.len g.f
    refine ⟨(stD size raised place f).py.shown, fun M => ?_⟩
    obtain ⟨y, h2⟩ := repr_st (M := M) oS oP oR g.len g.f
    have h3 := h2
    show R.when (true && ((stD size raised place f).flat 60 && ((stD size raised place f).py.showable && decide ((stD size raised place f).py.shown.length ≤ sizeLine)))) (R.ok (D.str (stD size raised place f).py.shown) M) = _
    rw [st_flat oS oP oR g.len g.f 57, st_sa oS oP oR g.len g.f, decide_eq_true (big_le (Nat.le_trans (st_len oS oP oR g.len g.f) (by decide)))]
    rfl
  refine ⟨some (.str x), some (.str (S (stx size raised place f))), ?_⟩
  have c1 : C w (n + 6) 31 [stD size raised place f] [] = _ := law_text_ok (w := w) (n := n + 5) (M := []) size place raised f oS oP oR g.len g.f
  have c2 : C w (n + 6) 20 [stD size raised place f] [] = _ := state_text_ok (w := w) (n := n + 4) (M := []) size place raised f oS oP oR g.len g.f
  have c3 : C w (n + 6) 22 [.str (S (stx size raised place f))] [] = _ := parse_ok (w := w) (n := n) size place raised f g.s2 g.s3 g.p0 g.p1 g.ok g.len g.bd g.f
  have c4 : C w (n + 6) 32 [.lst [.str (S (stx size raised place f)), stD size raised place f], .lst [.str (S (stx size raised place f)), stD size raised place f]] [] = _ := same_ok (w := w) (n := n + 5) (M := []) oS oP oR g.len g.f
  have q1 : ∀ M' : List MO, pcall (.ok (.str (S (stx size raised place f))) M') [stD size raised place f] M = .ok (.str (S (stx size raised place f))) M := fun M' => pcall_ok (by simp [pureL, pure_st]) rfl
  have q3 : ∀ M' : List MO, pcall (.ok (stD size raised place f) M') [.str (S (stx size raised place f))] M = .ok (stD size raised place f) M := fun M' => pcall_ok rfl pure_st
  have q4 : ∀ M' : List MO, pcall (.ok (.bl true) M') [.lst [.str (S (stx size raised place f)), stD size raised place f], .lst [.str (S (stx size raised place f)), stD size raised place f]] M = .ok (.bl true) M := fun M' => pcall_ok (by simp [pureL, D.pure, pure_st]) rfl
  have z2 : ∀ {α : Type} (r : R α), R.when (decide (2 ≤ sizeLine)) r = r := fun r => when_dec (show (2 : Nat) ≤ sizeLine by decide)
  unfold inTurn inBody
  simp only [exs_c, exs_n, ex, ev, evs, evSq, evAnd, evOr, evF, evO, evC, evI, asg, asgs, evT, Cn.d, bind_ok, bind_bad, bind_err, bind_ite, exS_ok, exS_bad, exS_ite, seq_nx, seq_ret, seq_brk, seq_cont, seq_bad, seq_ite, fin_ret, fin_nx, fin_bad, fin_ite, of_some, of_none, when_t, calm_ok, add_i, sub_i, add_s, mul_i, div_i, mod_i, pow_i, aug_add, aug_sub, eq_i, ne_i, eq_s, ne_s, eq_b, ne_b, lt_i, le_i, gt_i, ge_i, is_n, isnot_n, tr_b, tr_i, tr_t, tr_l, tr_n, asInt_i, asStr_s, asStr_i, asStr_t, asBl_b, asTup_t, isNon_n, isNon_i, isNon_s, isNon_t, isNon_l, startE, parSet, wipeE, List.map_cons, List.map_nil, List.length_cons, List.length_nil, Nat.reduceAdd, Nat.reduceSub, List.replicate, List.cons_append, List.nil_append, List.append_nil, List.getElem?_cons_zero, List.getElem?_cons_succ, List.set_cons_zero, List.set_cons_succ, if_true, if_false, Bool.false_eq_true, Bool.true_and, Bool.and_true, Bool.not_true, Bool.not_false, Nat.reduceBEq, BEq.rfl, Option.isSome_some, Option.isSome_none, reduceIte, reduceCtorEq, decide_true, decide_false, hx, c1, c2, c3, c4, q1, q3, q4, z2]
theorem in_loop {size place : Int} {raised : Rs} {f : Str} (g : Gd size place raised f) {size' place' : Int} {raised' : Rs} {f' : Str} (g' : Gd size' place' raised' f') (s t a3 a4 a5 : Option D) :
    ∃ b3 b4 b5 : Option D, forLoop none (inTurn w (n + 6)) [stD size raised place f, stD size' raised' place' f'] [s, some (.ref 1), t, a3, a4, a5] M = .nx [s, some (.ref 1), t, b3, b4, b5] M := by
  obtain ⟨b4, b5, e1⟩ := in_turn (w := w) (n := n) (M := M) g s t a3 a4 a5
  obtain ⟨c4, c5, e2⟩ := in_turn (w := w) (n := n) (M := M) g' s t (some (stD size raised place f)) b4 b5
  refine ⟨some (stD size' raised' place' f'), c4, c5, (for_nx e1).trans ((for_nx e2).trans ?_)⟩
  simp only [forLoop, okGuard, if_true]
def inFor : RS := .forr (.nm 3) (.it (.lst (.cons false (.call 25 (.cons (.hcall 28 (.cons (.v 1) (.cons (.c (.int 42)) .nil))) .nil)) (.cons false (.hcall 30 (.cons (.v 1) .nil)) .nil)))) inBody
def outTurn (w n : Nat) (x : D) (e : Ev) (M : List MO) : O := exS (asg ⟨C w n, tabOf ts, w⟩ (.nm 2) x e M) e fun e M => exs ⟨C w n, tabOf ts, w⟩ (.cons inFor .nil) e M
theorem forr_it {γ : Gm} {g : RG} {a : RE} {b : RSs} {e : Ev} {d : D} {l : List D} {M1 : List MO} (h1 : ev γ a e M = .ok d M1) (h2 : walkIt d M1 = .ok (none, l) M1) : ex γ (.forr g (.it a) b) e M = forLoop none (fun x e M => exS (asg γ g x e M) e fun e M => exs γ b e M) l e M1 := by
  simp only [ex, evI, h1, bind_ok, h2, exS_ok]
theorem pure_rg (fl : List Bool) (place : Int) (f : Str) : (rgD fl place f).pure = true := by simp [rgD, D.pure, pureL, pure_bl]
theorem out_turn (hw : 64 ≤ w) {d : Dk} {k : Nat} (T : List MO) (h : Ok d k) (hk : k ≤ 500000) (x : D) (s t a3 a4 a5 : Option D) :
    ∃ (d' : Dk) (T' : List MO) (b3 b4 b5 : Option D), outTurn w (n + 6) x [s, some (.ref 1), t, a3, a4, a5] (dm d T) = .nx [s, some (.ref 1), some x, b3, b4, b5] (dm d' T') ∧ Ok d' (k + 246) := by
  obtain ⟨fl, pl, f, d1, J1, e1, o1, r1, r2, r3, r4, r5⟩ := lring_ok (w := w) (n := n + 3) hw T h (by omega)
  obtain ⟨raised, e2, ok2⟩ := told_ok (w := w) (n := n + 4) (M := []) fl pl f (by omega) (by omega)
  obtain ⟨size, place, rs, f', d3, J3, e3, o3, t1, t2, t3, t4, t5, t6, t7⟩ := far_ok (w := w) (n := n + 3) hw (T ++ J1) o1 (by omega)
  have hb := okP_len2 (by omega) ok2
  have g1 : Gd fl.length pl raised f := ⟨r1, by omega, r3, r4, ok2, by omega, .inr r2, r5⟩
  have g2 : Gd size place rs f' := ⟨t1, t2, t3, t4, t5, by omega, .inl t6, t7⟩
  obtain ⟨b3, b4, b5, e4⟩ := in_loop (w := w) (n := n) (M := dm d3 (T ++ J1 ++ J3)) g1 g2 s (some x) a3 a4 a5
  refine ⟨d3, T ++ J1 ++ J3, b3, b4, b5, ?_, ok_mono o3 (by omega)⟩
  have e1 : C w (n + 6) 28 [.ref 1, .int 42] (dm d T) = _ := e1
  have e2 : C w (n + 6) 25 [rgD fl pl f] [] = _ := e2
  have e3 : C w (n + 6) 30 [.ref 1] (dm d1 (T ++ J1)) = _ := e3
  have z2 : ∀ {α : Type} (r : R α), R.when (decide (2 ≤ sizeLine)) r = r := fun r => when_dec (show (2 : Nat) ≤ sizeLine by decide)
  have q : ∀ M : List MO, pcall (.ok (stD fl.length raised pl f) []) [rgD fl pl f] M = .ok (stD fl.length raised pl f) M := fun M => pcall_ok (by simp [pureL, pure_rg]) pure_st
  have hev : ev ⟨C w (n + 6), tabOf ts, w⟩ (.lst (.cons false (.call 25 (.cons (.hcall 28 (.cons (.v 1) (.cons (.c (.int 42)) .nil))) .nil)) (.cons false (.hcall 30 (.cons (.v 1) .nil)) .nil))) [s, some (.ref 1), some x, a3, a4, a5] (dm d T) = .ok (.lst [stD fl.length raised pl f, stD size rs place f']) (dm d3 (T ++ J1 ++ J3)) := by
    simp only [ev, evs, evSq, Cn.d, List.getElem?_cons_zero, List.getElem?_cons_succ, bind_ok, of_some, Bool.false_eq_true, if_false, List.cons_append, List.nil_append, List.length_cons, List.length_nil, Nat.reduceAdd, e1, e2, e3, q, z2]
  unfold outTurn
  simp only [asg, exS_ok, List.set_cons_zero, List.set_cons_succ, exs_c, exs_n]
  have fe := (forr_it (g := .nm 3) (b := inBody) hev (walk_l _)).trans e4
  rw [show ex ⟨C w (n + 6), tabOf ts, w⟩ inFor [s, some (.ref 1), some x, a3, a4, a5] (dm d T) = _ from fe]
  rfl
theorem law_ok' (ns : List Int) (h : ns.length ≤ 63) : ∃ M', C 64 (13 + 7) fL [.kst (ns.map D.int)] [] = .ok (.bl true) M' := by
  obtain ⟨d0, e0, o0⟩ := deck_ok (w := 64) (n := 18) ns h
  have e0 : callF (tabOf ts) (fsOf ds) 64 (13 + 6) 23 [.kst (ns.map D.int)] [] = _ := e0
  obtain ⟨e', M', l1, l2⟩ := for_ind (turn := outTurn 64 (13 + 6)) (f := fun (i : Nat) => D.int (0 + (i : Int))) (fun dn e M => ∃ (d : Dk) (T : List MO) (t a3 a4 a5 : Option D), M = dm d T ∧ Ok d (246 * dn.length) ∧ e = [some (.kst (ns.map D.int)), some (.ref 1), t, a3, a4, a5])
    (List.range' 0 8) [] [some (.kst (ns.map D.int)), some (.ref 1), none, none, none, none] (dm d0 [])
    (fun dn a r e M hd ⟨d, T, t, a3, a4, a5, hM, ho, he⟩ => by
      subst hM he
      have hlen := congrArg List.length hd
      simp at hlen
      obtain ⟨d', T', b3, b4, b5, q1, q2⟩ := out_turn (w := 64) (n := 13) (by decide) T ho (by omega) (.int (0 + (a : Int))) (some (.kst (ns.map D.int))) t a3 a4 a5
      exact ⟨_, _, .inl q1, d', T', _, b3, b4, b5, rfl, ok_mono q2 (by simp; omega), rfl⟩)
    ⟨d0, [], none, none, none, none, rfl, o0, rfl⟩
  obtain ⟨d, T, t, a3, a4, a5, hM, ho, he⟩ := l2
  subst hM he
  refine ⟨dm d T, ?_⟩
  refine (call_eq (d := ⟨b_law, 6⟩) rfl rfl).trans ?_
  unfold b_law
  rw [exs_c]
  refine step (e := [some (.kst (ns.map D.int)), some (.ref 1), none, none, none, none]) (M := dm d0 []) ?_ ?_
  · simp only [exs_c, exs_n, ex, ev, evs, evSq, evAnd, evOr, evF, evO, evC, evI, asg, asgs, evT, Cn.d, bind_ok, bind_bad, bind_err, bind_ite, exS_ok, exS_bad, exS_ite, seq_nx, seq_ret, seq_brk, seq_cont, seq_bad, seq_ite, fin_ret, fin_nx, fin_bad, fin_ite, of_some, of_none, when_t, calm_ok, add_i, sub_i, add_s, mul_i, div_i, mod_i, pow_i, aug_add, aug_sub, eq_i, ne_i, eq_s, ne_s, eq_b, ne_b, lt_i, le_i, gt_i, ge_i, is_n, isnot_n, tr_b, tr_i, tr_t, tr_l, tr_n, asInt_i, asStr_s, asStr_i, asStr_t, asBl_b, asTup_t, isNon_n, isNon_i, isNon_s, isNon_t, isNon_l, startE, parSet, wipeE, List.map_cons, List.map_nil, List.length_cons, List.length_nil, Nat.reduceAdd, Nat.reduceSub, List.replicate, List.cons_append, List.nil_append, List.append_nil, List.getElem?_cons_zero, List.getElem?_cons_succ, List.set_cons_zero, List.set_cons_succ, if_true, if_false, Bool.false_eq_true, Bool.true_and, Bool.and_true, Bool.not_true, Bool.not_false, Nat.reduceBEq, BEq.rfl, Option.isSome_some, Option.isSome_none, reduceIte, reduceCtorEq, decide_true, decide_false, e0]
  rw [exs_c]
  refine step (e := [some (.kst (ns.map D.int)), some (.ref 1), t, a3, a4, a5]) (M := dm d T) ?_ ?_
  · have g1 : rngOk 8 = true := rfl
    have g2 : decide ((8 : Int) ≤ (sizeLine : Int)) = true := decide_eq_true (by have := line10000; omega)
    simp only [ex, evI, ev, Cn.d, List.getElem?_cons_zero, List.getElem?_cons_succ, bind_ok, asInt_i, g1, g2, Bool.and_true, when_t, exS_ok, rngD_map]
    exact l1
  simp only [exs_c, exs_n, ex, ev, evs, evSq, evAnd, evOr, evF, evO, evC, evI, asg, asgs, evT, Cn.d, bind_ok, bind_bad, bind_err, bind_ite, exS_ok, exS_bad, exS_ite, seq_nx, seq_ret, seq_brk, seq_cont, seq_bad, seq_ite, fin_ret, fin_nx, fin_bad, fin_ite, of_some, of_none, when_t, calm_ok, add_i, sub_i, add_s, mul_i, div_i, mod_i, pow_i, aug_add, aug_sub, eq_i, ne_i, eq_s, ne_s, eq_b, ne_b, lt_i, le_i, gt_i, ge_i, is_n, isnot_n, tr_b, tr_i, tr_t, tr_l, tr_n, asInt_i, asStr_s, asStr_i, asStr_t, asBl_b, asTup_t, isNon_n, isNon_i, isNon_s, isNon_t, isNon_l, startE, parSet, wipeE, List.map_cons, List.map_nil, List.length_cons, List.length_nil, Nat.reduceAdd, Nat.reduceSub, List.replicate, List.cons_append, List.nil_append, List.append_nil, List.getElem?_cons_zero, List.getElem?_cons_succ, List.set_cons_zero, List.set_cons_succ, if_true, if_false, Bool.false_eq_true, Bool.true_and, Bool.and_true, Bool.not_true, Bool.not_false, Nat.reduceBEq, BEq.rfl, Option.isSome_some, Option.isSome_none, reduceIte, reduceCtorEq, decide_true, decide_false]
theorem law_ok (ns : List Int) (h : ns.length ≤ 63) : ∃ w M', callF (tabOf ts) (fsOf ds) w (19 + 1) fL [.kst (ns.map D.int)] [] = .ok (.bl true) M' := ⟨64, law_ok' ns h⟩
end K79

set_option maxHeartbeats 0
namespace K79
open PySem PySem.Spec PyProof.Rows L2 TF
abbrev R : PySem.W.OpenRow := PySem.W.OpenLaw.row PySem.Challenge.rw_turnflags_k79_texts_written_and_parsed
abbrev fa : List He.Fa := faOf cns free (ds.map (·.d.at_.1)) ts
abbrev fn : List He.DefD := ds.map (·.d)
abbrev hk : PySem.W.Hook := hookV 4 fa fn ts
def ob (s : PySem.W.SharedT) : (He.AlD × List (Option (List (Option (Str × Int))))) × Bool := obsVG 4 fa fn ts (HandSHeadRun.getT s)
theorem ob_eq (s : PySem.W.SharedT) : ob s = hk.obs s.abs := obsVG_eq (HandSHeadRun.getT_eq s)
theorem run0 (w : World) : HandSHeadRun.RunEq R (PySem.W.view R.prog [lawTop]) hk ob 2500 loose (w.withFollow "special-get-raises" false) := by
  intro os
  kernel_rfl
theorem run1 (w : World) : HandSHeadRun.RunEq R (PySem.W.view R.prog [lawTop]) hk ob 2500 loose (w.withFollow "special-get-raises" true) := by
  intro os
  kernel_rfl
theorem run (w : World) : HandSHeadRun.RunEq R (PySem.W.view R.prog [lawTop]) hk ob 2500 loose w :=
  PySem.W.byRow2 (P := fun w => HandSHeadRun.RunEq R (PySem.W.view R.prog [lawTop]) hk ob 2500 loose w) "special-get-raises" run0 run1 w
end K79

set_option maxHeartbeats 0
open PySem PySem.W PySem.Calls PyProof.Rows
theorem PySem.Challenge.cw_turnflags_k79_texts_written_and_parsed_holds : PySem.Challenge.rw_turnflags_k79_texts_written_and_parsed.Holds := by
  w_on; o_law
  refine HandSHeadRun.head_any (r := OpenLaw.row PySem.Challenge.rw_turnflags_k79_texts_written_and_parsed) (q := view (OpenLaw.row PySem.Challenge.rw_turnflags_k79_texts_written_and_parsed).prog [K79.lawTop]) (H := K79.hk) (ob := K79.ob) (M := 2500) (loose := K79.loose) (d := HandSHeadRun.topDef (OpenLaw.row PySem.Challenge.rw_turnflags_k79_texts_written_and_parsed).prog K79.lawTop) (kwd := []) K79.ob_eq
    (by kernel_rfl) (fun s => by kernel_rfl) K79.run (by kernel_rfl) (by kernel_rfl) (by kernel_rfl) (by rfl) (by first | assumption | decide +kernel) (by decide +kernel) ⟨rfl, rfl, rfl, rfl, rfl, by decide +kernel⟩ ?hw ?hc
  case hw => w_witness2
  case hc =>
    exact TF.law_end (l := PySem.Challenge.rw_turnflags_k79_texts_written_and_parsed) (n := 63) (k := 19) (D0 := K79.d_law) (x := "_law_script") rfl (by decide) (by kernel_rfl) ⟨⟨rfl, by decide, by decide⟩, rfl⟩ (by decide +kernel) K79.ds_ok rfl rfl (by kernel_rfl) K79.law_ok
