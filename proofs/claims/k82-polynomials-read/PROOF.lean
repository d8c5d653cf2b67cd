import PyProof.Rows.All
import Wide.All
import OpenK.AllK
import Wide.FinOn
import HandS.ForMost
import HandS.Wide
import HandS.IsInst
import HandS.Conv
import HandS.Exc
import HandS.ExcOwn
import HandS.TryOnly
import HandS.More
import HandS.WordsExc
import KE.KItemsList
import KE.KDictZip
import HandS.ExcIs
import HandS.ExcInit
import KE.KExcIs
import HandS.Dict
import HandS.ExcField
import KE.GoesEnum
import HandS.SortInts
import HandS.Text
import HandS.Iter
import HandS.Codes
import PySem.Challenge.RW_restform_k82_polynomials_read

set_option Elab.async false
set_option linter.all false
set_option maxRecDepth 100000
set_option autoImplicit false
/-! RF, part A: pure data, environments, what a state shows of them -/
namespace RF
open PySem PySem.Spec L2

/-! ### the program's classes, told by their names in the text -/
inductive Cl where
  | rests | restError | badRest | badForm | badTable | noForm | meets | lone | tooGreat | noText
  deriving DecidableEq
def Cl.nm : Cl → Str
  | .rests => "Rests" | .restError => "RestError" | .badRest => "BadRest" | .badForm => "BadForm" | .badTable => "BadTable"
  | .noForm => "NoForm" | .meets => "Meets" | .lone => "Lone" | .tooGreat => "TooGreat" | .noText => "NoText"
/-- where a class lies -/
def adK (K : PySem.W.Frag) (c : Cl) : Addr := match PySem.W.nsIn K mainGlobals c.nm with
  | some (some (.ref a)) => a
  | _ => 0
theorem adK_of {K : PySem.W.Frag} {c : Cl} {a : Addr} (h : PySem.W.nsIn K mainGlobals c.nm = some (some (.ref a))) : adK K c = a := by
  unfold adK
  rw [h]
/-- is the first a class of the second -/
def Cl.sub : Cl → Cl → Bool
  | .rests, d => decide (d = .rests)
  | c, d => decide (c = d) || decide (d = .restError)

/-! ### pure data -/
inductive D where
  | non | bl (b : Bool) | int (i : Int) | str (x : Str)
  | lst (l : List D) | tup (l : List D)
  | obj (C : Cl) (ks : List Str) (l : List D)
  | exc (C : Cl) (ks : List Str) (l : List D)

/-- an exception of the class at C, its fields -/
structure Xc where
  C : Cl
  ks : List Str
  l : List D

/-- what a run gives: nothing (out of what is modelled), a value, an exception -/
inductive R (α : Type) where
  | bad | ok (a : α) | ex (x : Xc)
def R.bind {α β : Type} : R α → (α → R β) → R β
  | .bad, _ => .bad
  | .ok a, f => f a
  | .ex x, _ => .ex x
@[simp] theorem R.bind_ok {α β : Type} (a : α) (f : α → R β) : (R.ok a).bind f = f a := (rfl)
@[simp] theorem R.bind_bad {α β : Type} (f : α → R β) : (R.bad).bind f = R.bad := (rfl)
@[simp] theorem R.bind_ex {α β : Type} (x : Xc) (f : α → R β) : (R.ex x).bind f = R.ex x := (rfl)

/-- a value: that stands still | a new list | a list that one of the slots holds alone -/
inductive T where
  | st (d : D) | fr (l : List D) | sl (l : List D)
def T.d : T → D
  | .st d => d
  | .fr l => .lst l
  | .sl l => .lst l
@[simp] theorem T.d_st (d : D) : (T.st d).d = d := (rfl)
@[simp] theorem T.d_fr (l : List D) : (T.fr l).d = .lst l := (rfl)
@[simp] theorem T.d_sl (l : List D) : (T.sl l).d = .lst l := (rfl)

/-- a slot: not known | a value that stands still | a list of its own | a list of lists of its own | a dict of its own -/
inductive Sl where
  | no | val (d : D) | own (l : List D) | own2 (l : List (List D)) | dic (l : List (Int × D)) | ins (a : Addr) (C : Cl) (ks : List Str) (l : List D) | pr (l : List D) (d : D)
abbrev Env := List Sl

/-- None, a truth value, an int, a text -/
def scalD : D → Bool
  | .non => true | .bl _ => true | .int _ => true | .str _ => true | _ => false
/-- no list within -/
def flatD : D → Bool
  | .non => true | .bl _ => true | .int _ => true | .str _ => true
  | .tup l => l.all scalD | _ => false

/-! ### an exception object that is held -/
def XO (C : Addr) (d : Option Addr) (a : Addr) : HO := .ext fun h => ∃ (oe : Obj) (vs : Array Value), h.get? a = some oe ∧ Zc (.ref C) d oe ∧ oe.data = .fields vs

/-! ### what shows a datum -/
mutual
inductive Rep (K : PySem.W.Frag) (S : Hp) : D → V → Prop
  | non : Rep K S .non .non
  | bl (b : Bool) : Rep K S (.bl b) (.bl b)
  | int (i : Int) : Rep K S (.int i) (.int i)
  | str (x : Str) : Rep K S (.str x) (.str x)
  | lst {a : Addr} {vs : List V} {l : List D} : SqL K S a vs → Reps K S l vs → Rep K S (.lst l) (.ref a)
  | tup {a : Addr} {vs : List V} {l : List D} : SqT K S a vs → Reps K S l vs → Rep K S (.tup l) (.ref a)
  | obj {a dx : Addr} {C : Cl} {ks : List Str} {vs : List V} {l : List D} : S a = some (.ins (adK K C) dx (ks.zip vs)) → vs.length = ks.length → Reps K S l vs → Rep K S (.obj C ks l) (.ref a)
  | exc0 {a : Addr} {C : Cl} : S a = some (XO (adK K C) none a) → Rep K S (.exc C [] []) (.ref a)
  | exc1 {a dx : Addr} {C : Cl} {ks : List Str} {vs : List V} {l : List D} : S a = some (XO (adK K C) (some dx) a) → S dx = some (.xd (ks.zip vs)) → vs.length = ks.length → Reps K S l vs → Rep K S (.exc C ks l) (.ref a)
inductive Reps (K : PySem.W.Frag) (S : Hp) : List D → List V → Prop
  | nil : Reps K S [] []
  | cons {d : D} {v : V} {ds : List D} {vs : List V} : Rep K S d v → Reps K S ds vs → Reps K S (d :: ds) (v :: vs)
end

abbrev Ex (H H' : Hp) : Prop := Same H H'
theorem ex_upd {H : Hp} {p : Addr} {o : HO} (h : H p = none) : Ex H (upd H p o) := fun a u e => by
  rw [upd_ne (ne_of_none e h)]
  exact e
theorem ex_rd {H H' : Hp} {a : Addr} {u : HO} (e : Ex H H') (h : Rd H a u) : Rd H' a u := by
  rcases h with h | ⟨o, h⟩
  · exact Or.inl (e a _ h)
  · exact Or.inr ⟨o, e a _ h⟩
theorem ex_l {K : PySem.W.Frag} {H H' : Hp} {a : Addr} {xs : List V} (e : Ex H H') (h : SqL K H a xs) : SqL K H' a xs := by
  rcases h with h | h
  · exact Or.inl (ex_rd e h)
  · exact Or.inr h
theorem ex_t {K : PySem.W.Frag} {H H' : Hp} {a : Addr} {xs : List V} (e : Ex H H') (h : SqT K H a xs) : SqT K H' a xs := by
  rcases h with h | h
  · exact Or.inl (ex_rd e h)
  · exact Or.inr h
mutual
theorem Rep.mono {K : PySem.W.Frag} {S S' : Hp} (e : Ex S S') : ∀ {d : D} {v : V}, Rep K S d v → Rep K S' d v
  | _, _, .non => .non
  | _, _, .bl b => .bl b
  | _, _, .int i => .int i
  | _, _, .str x => .str x
  | _, _, .lst h r => .lst (ex_l e h) (Reps.mono e r)
  | _, _, .tup h r => .tup (ex_t e h) (Reps.mono e r)
  | _, _, .obj h z r => .obj (e _ _ h) z (Reps.mono e r)
  | _, _, .exc0 h => .exc0 (e _ _ h)
  | _, _, .exc1 h h2 z r => .exc1 (e _ _ h) (e _ _ h2) z (Reps.mono e r)
theorem Reps.mono {K : PySem.W.Frag} {S S' : Hp} (e : Ex S S') : ∀ {d : List D} {v : List V}, Reps K S d v → Reps K S' d v
  | _, _, .nil => .nil
  | _, _, .cons h r => .cons (Rep.mono e h) (Reps.mono e r)
end
theorem Reps.length {K : PySem.W.Frag} {S : Hp} : ∀ {ds : List D} {vs : List V}, Reps K S ds vs → ds.length = vs.length
  | _, _, .nil => rfl
  | _, _, .cons _ r => by rw [List.length_cons, List.length_cons, Reps.length r]
theorem Reps.get {K : PySem.W.Frag} {S : Hp} : ∀ {ds : List D} {vs : List V} {i : Nat} {d : D}, Reps K S ds vs → ds[i]? = some d → ∃ v, vs[i]? = some v ∧ Rep K S d v
  | _, _, _, _, .nil, e => by simp at e
  | _, _, 0, _, .cons h _, e => by simp at e; subst e; exact ⟨_, rfl, h⟩
  | _, _, i + 1, d, .cons _ r, e => by
    obtain ⟨v, h1, h2⟩ := Reps.get (i := i) (d := d) r (by simpa using e)
    exact ⟨v, by simpa using h1, h2⟩
theorem Reps.getV {K : PySem.W.Frag} {S : Hp} : ∀ {ds : List D} {vs : List V} {i : Nat} {v : V}, Reps K S ds vs → vs[i]? = some v → ∃ d, ds[i]? = some d ∧ Rep K S d v
  | _, _, _, _, .nil, e => by simp at e
  | _, _, 0, _, .cons h _, e => by simp at e; subst e; exact ⟨_, rfl, h⟩
  | _, _, i + 1, v, .cons _ r, e => by
    obtain ⟨d, h1, h2⟩ := Reps.getV (i := i) (v := v) r (by simpa using e)
    exact ⟨d, by simpa using h1, h2⟩
theorem Reps.append {K : PySem.W.Frag} {S : Hp} : ∀ {ds es : List D} {vs ws : List V}, Reps K S ds vs → Reps K S es ws → Reps K S (ds ++ es) (vs ++ ws)
  | _, _, _, _, .nil, s => s
  | _, _, _, _, .cons h r, s => .cons h (Reps.append r s)
theorem Reps.take {K : PySem.W.Frag} {S : Hp} : ∀ {ds : List D} {vs : List V} (n : Nat), Reps K S ds vs → Reps K S (ds.take n) (vs.take n)
  | _, _, 0, _ => .nil
  | _, _, _ + 1, .nil => .nil
  | _, _, n + 1, .cons h r => .cons h (Reps.take n r)
theorem Reps.drop {K : PySem.W.Frag} {S : Hp} : ∀ {ds : List D} {vs : List V} (n : Nat), Reps K S ds vs → Reps K S (ds.drop n) (vs.drop n)
  | _, _, 0, r => r
  | _, _, _ + 1, .nil => .nil
  | _, _, n + 1, .cons _ r => Reps.drop n r
theorem Reps.set {K : PySem.W.Frag} {S : Hp} {d : D} {v : V} (h : Rep K S d v) : ∀ {ds : List D} {vs : List V} (i : Nat), Reps K S ds vs → Reps K S (ds.set i d) (vs.set i v)
  | _, _, _, .nil => .nil
  | _, _, 0, .cons _ r => .cons h r
  | _, _, i + 1, .cons q r => .cons q (Reps.set h i r)
theorem Reps.dropLast {K : PySem.W.Frag} {S : Hp} : ∀ {ds : List D} {vs : List V}, Reps K S ds vs → Reps K S ds.dropLast vs.dropLast
  | _, _, .nil => .nil
  | _, _, .cons _ .nil => .nil
  | _, _, .cons h (.cons h2 r) => .cons h (Reps.dropLast (.cons h2 r))
theorem Reps.reverse {K : PySem.W.Frag} {S : Hp} : ∀ {ds : List D} {vs : List V}, Reps K S ds vs → Reps K S ds.reverse vs.reverse
  | _, _, .nil => .nil
  | _, _, .cons h r => by
    rw [List.reverse_cons, List.reverse_cons]
    exact Reps.append (Reps.reverse r) (.cons h .nil)
theorem Reps.eraseIdx {K : PySem.W.Frag} {S : Hp} : ∀ {ds : List D} {vs : List V} (i : Nat), Reps K S ds vs → Reps K S (ds.eraseIdx i) (vs.eraseIdx i)
  | _, _, _, .nil => .nil
  | _, _, 0, .cons _ r => r
  | _, _, i + 1, .cons h r => .cons h (Reps.eraseIdx i r)
theorem Reps.rep {K : PySem.W.Frag} {S : Hp} {ds : List D} {vs : List V} (h : Reps K S ds vs) : ∀ k : Nat, Reps K S (List.replicate k ds).flatten (List.replicate k vs).flatten
  | 0 => .nil
  | k + 1 => by
    rw [List.replicate_succ, List.replicate_succ, List.flatten_cons, List.flatten_cons]
    exact Reps.append h (Reps.rep h k)

/-! ### a state that shows an environment -/
/-- what stays fixed through a def's body: the written part, the heap at the entry, what of it the arguments stand in -/
structure Gd where
  K : PySem.W.Frag
  B : Hp
  S0 : Hp
def SlR (K : PySem.W.Frag) (S H : Hp) : Sl → Option (Option V) → List Addr → Prop
  | .no, _, F => F = []
  | .val d, x, F => F = [] ∧ ∃ v, x = some (some v) ∧ Rep K S d v
  | .own l, x, F => ∃ a vs, x = some (some (.ref a)) ∧ F = [a] ∧ H a = some (.lst vs) ∧ Reps K S l vs
  | .own2 ls, x, F => ∃ a as, x = some (some (.ref a)) ∧ F = a :: as ∧ F.Nodup ∧ H a = some (.lst (as.map V.ref)) ∧ as.length = ls.length ∧ ∀ (i : Nat) (b : Addr) (l : List D), as[i]? = some b → ls[i]? = some l → ∃ vs, H b = some (.lst vs) ∧ Reps K S l vs
  | .dic l, x, F => ∃ (a : Addr) (kvs : List (Int × V)), x = some (some (.ref a)) ∧ F = [a] ∧ H a = some (.dK (kvs.map fun p : Int × V => (Sum.inl p.1, p.2))) ∧ kvs.map (·.1) = l.map (·.1) ∧ Reps K S (l.map (·.2)) (kvs.map (·.2))
  | .ins a C ks l, x, F => x = some (some (.ref a)) ∧ F = [a] ∧ ∃ dx vs, H a = some (.ins (adK K C) dx (ks.zip vs)) ∧ vs.length = ks.length ∧ Reps K S l vs
  | .pr l d, x, F => ∃ a b vs w, x = some (some (.ref a)) ∧ F = [b] ∧ S a = some (.tup [.ref b, w]) ∧ H b = some (.lst vs) ∧ Reps K S l vs ∧ Rep K S d w
structure StR (G : Gd) (S : Hp) (O : Nat → List Addr) (σ : St) (H : Hp) (ρ : Env) : Prop where
  exB : Ex G.B H
  exS0 : Ex G.S0 S
  exS : Ex S H
  new : ∀ b, S b ≠ none → G.S0 b ≠ none ∨ G.B b = none
  len : σ.length = ρ.length
  slot : ∀ i s, ρ[i]? = some s → SlR G.K S H s σ[i]? (O i)
  off : ∀ i a, a ∈ O i → S a = none ∧ G.B a = none
  live : ∀ i a, a ∈ O i → H a ≠ none
  apart : ∀ i j a, a ∈ O i → a ∈ O j → i = j
  out : ∀ i, ρ.length ≤ i → O i = []
theorem SlR.mono {K : PySem.W.Frag} {S S' H H' : Hp} {s : Sl} {x : Option (Option V)} {F : List Addr} (e : Ex S S') (k : ∀ a o, a ∈ F → H a = some o → H' a = some o) (h : SlR K S H s x F) : SlR K S' H' s x F := by
  cases s with
  | no => exact h
  | val d =>
    obtain ⟨f, v, e1, r⟩ := h
    exact ⟨f, v, e1, r.mono e⟩
  | own l =>
    obtain ⟨a, vs, e1, e2, e3, r⟩ := h
    subst e2
    exact ⟨a, vs, e1, rfl, k a _ List.mem_cons_self e3, r.mono e⟩
  | own2 ls =>
    obtain ⟨a, as, e1, e2, nd, e3, hl, q⟩ := h
    subst e2
    refine ⟨a, as, e1, rfl, nd, k a _ List.mem_cons_self e3, hl, fun i b l h1 h2 => ?_⟩
    obtain ⟨vs, q1, q2⟩ := q i b l h1 h2
    exact ⟨vs, k b _ (List.mem_cons_of_mem _ (List.mem_of_getElem? h1)) q1, q2.mono e⟩
  | dic l =>
    obtain ⟨a, kvs, e1, e2, e3, z, r⟩ := h
    subst e2
    exact ⟨a, kvs, e1, rfl, k a _ List.mem_cons_self e3, z, r.mono e⟩
  | ins a C ks l =>
    obtain ⟨e1, e2, dx, vs, e3, z, r⟩ := h
    subst e2
    exact ⟨e1, rfl, dx, vs, k a _ List.mem_cons_self e3, z, r.mono e⟩
  | pr l d =>
    obtain ⟨a, b, vs, w, e1, e2, e3, e4, r, q⟩ := h
    subst e2
    exact ⟨a, b, vs, w, e1, rfl, e _ _ e3, k b _ List.mem_cons_self e4, r.mono e, q.mono e⟩

/-- a value as an operand -/
def RepO (K : PySem.W.Frag) (S H : Hp) : T → V → Prop
  | .st d, v => Rep K S d v
  | .fr _, _ => False
  | .sl l, v => ∃ a vs, v = .ref a ∧ H a = some (.lst vs) ∧ Reps K S l vs
/-- an expression's value -/
def RepT (G : Gd) (S : Hp) (O : Nat → List Addr) (H : Hp) : T → V → Prop
  | .st d, v => Rep G.K S d v
  | .fr l, v => ∃ a vs, v = .ref a ∧ S a = none ∧ G.B a = none ∧ (∀ i, a ∉ O i) ∧ H a = some (.lst vs) ∧ Reps G.K S l vs
  | .sl l, v => ∃ a vs, v = .ref a ∧ (∃ i, a ∈ O i) ∧ H a = some (.lst vs) ∧ Reps G.K S l vs
/-- an operand: a new list is let stand -/
def T.set : T → T
  | .st d => .st d
  | .fr l => .st (.lst l)
  | .sl l => .sl l
theorem T.set_d (t : T) : t.set.d = t.d := by cases t <;> rfl
theorem RepO.mono {K : PySem.W.Frag} {S S' H H' : Hp} {t : T} {v : V} (e : Ex S S') (k : Ex H H') (h : RepO K S H t v) : RepO K S' H' t v := by
  cases t with
  | st d => exact Rep.mono e h
  | fr l => exact h.elim
  | sl l =>
    obtain ⟨a, vs, e1, e2, r⟩ := h
    exact ⟨a, vs, e1, k _ _ e2, r.mono e⟩

section
variable {G : Gd} {S S' : Hp} {O : Nat → List Addr} {σ : St} {H H' : Hp} {ρ : Env} {t : T} {v : V}
/-- the heap grows, nothing else -/
theorem StR.grow (h : StR G S O σ H ρ) (k : Ex H H') : StR G S O σ H' ρ :=
  ⟨h.exB.trans k, h.exS0, h.exS.trans k, h.new, h.len, fun i s e => (h.slot i s e).mono (Same.refl S) fun a o _ q => k a o q, h.off, fun i a q => by
    obtain ⟨o, e⟩ := Option.ne_none_iff_exists'.mp (h.live i a q)
    rw [k a o e]; simp, h.apart, h.out⟩
/-- a new thing that stands still -/
theorem StR.stand {p : Addr} {o : HO} (h : StR G S O σ H ρ) (hp : H p = none) : StR G (upd S p o) O σ (upd H p o) ρ ∧ Ex S (upd S p o) ∧ Ex H (upd H p o) := by
  have sp : S p = none := by
    cases e : S p with
    | none => rfl
    | some u => rw [h.exS p u e] at hp; cases hp
  have bp : G.B p = none := by
    cases e : G.B p with
    | none => rfl
    | some u => rw [h.exB p u e] at hp; cases hp
  have e1 := ex_upd (o := o) sp
  have e2 := ex_upd (o := o) hp
  refine ⟨⟨h.exB.trans e2, h.exS0.trans e1, fun b u e => ?_, fun b hb => ?_, h.len, fun i s e => (h.slot i s e).mono e1 fun a u _ q => e2 a u q, fun i a q => ?_, fun i a q => ?_, h.apart, h.out⟩, e1, e2⟩
  · by_cases hb : b = p
    · subst hb
      rw [upd_same] at e ⊢
      exact e
    · rw [upd_ne hb] at e ⊢
      exact h.exS b u e
  · by_cases hb' : b = p
    · subst hb'
      exact .inr bp
    · rw [upd_ne hb'] at hb
      exact h.new b hb
  · have ne : a ≠ p := fun z => h.live i a q (by rw [z]; exact hp)
    rw [upd_ne ne]
    exact h.off i a q
  · have ne : a ≠ p := fun z => h.live i a q (by rw [z]; exact hp)
    rw [upd_ne ne]
    exact h.live i a q
/-- a thing that is there, no slot's and not the caller's, is let stand -/
theorem StR.adopt {p : Addr} {o : HO} (h : StR G S O σ H ρ) (hp : H p = some o) (sp : S p = none) (bp : G.B p = none) (hO : ∀ i, p ∉ O i) : StR G (upd S p o) O σ H ρ ∧ Ex S (upd S p o) := by
  have e1 := ex_upd (o := o) sp
  refine ⟨⟨h.exB, h.exS0.trans e1, fun b u e => ?_, fun b hb => ?_, h.len, fun i s e => (h.slot i s e).mono e1 fun a u _ q => q, fun i a q => ?_, h.live, h.apart, h.out⟩, e1⟩
  · by_cases hb : b = p
    · subst hb
      rw [upd_same] at e
      rw [← e]; exact hp
    · rw [upd_ne hb] at e
      exact h.exS b u e
  · by_cases hb' : b = p
    · subst hb'
      exact .inr bp
    · rw [upd_ne hb'] at hb
      exact h.new b hb
  · have ne : a ≠ p := fun z => hO i (by rw [← z]; exact q)
    rw [upd_ne ne]
    exact h.off i a q
theorem RepT.settle (h : StR G S O σ H ρ) (r : RepT G S O H t v) : ∃ S', Ex S S' ∧ StR G S' O σ H ρ ∧ RepO G.K S' H t.set v := by
  cases t with
  | st d => exact ⟨S, Same.refl S, h, r⟩
  | sl l =>
    obtain ⟨a, vs, e1, _, e2, q⟩ := r
    exact ⟨S, Same.refl S, h, a, vs, e1, e2, q⟩
  | fr l =>
    obtain ⟨a, vs, e1, e2, e3, e4, e5, q⟩ := r
    subst e1
    obtain ⟨h', e⟩ := h.adopt e5 e2 e3 e4
    exact ⟨_, e, h', Rep.lst (.inl (.inl upd_same)) (q.mono e)⟩
/-- what an operand reads -/
theorem RepO.lst {l : List D} (e : t.d = .lst l) (x : Ex S H) (r : RepO G.K S H t v) : ∃ a vs, v = .ref a ∧ SqL G.K H a vs ∧ Reps G.K S l vs := by
  cases t with
  | st d =>
    cases e
    cases r with
    | lst h q => exact ⟨_, _, rfl, ex_l x h, q⟩
  | fr l => exact r.elim
  | sl l =>
    cases e
    obtain ⟨a, vs, rfl, h, q⟩ := r
    exact ⟨a, vs, rfl, .inl (.inl h), q⟩
theorem RepO.tup {l : List D} (e : t.d = .tup l) (x : Ex S H) (r : RepO G.K S H t v) : ∃ a vs, v = .ref a ∧ SqT G.K H a vs ∧ Reps G.K S l vs := by
  cases t with
  | st d =>
    cases e
    cases r with
    | tup h q => exact ⟨_, _, rfl, ex_t x h, q⟩
  | fr l => exact r.elim
  | sl l => cases e
theorem RepO.int {i : Int} (e : t.d = .int i) (r : RepO G.K S H t v) : v = .int i := by
  cases t with
  | st d => cases e; cases r; rfl
  | fr l => exact r.elim
  | sl l => cases e
theorem RepO.bl {b : Bool} (e : t.d = .bl b) (r : RepO G.K S H t v) : v = .bl b := by
  cases t with
  | st d => cases e; cases r; rfl
  | fr l => exact r.elim
  | sl l => cases e
theorem RepO.str {x : Str} (e : t.d = .str x) (r : RepO G.K S H t v) : v = .str x := by
  cases t with
  | st d => cases e; cases r; rfl
  | fr l => exact r.elim
  | sl l => cases e
theorem RepO.obj {C : Cl} {ks : List Str} {l : List D} (e : t.d = .obj C ks l) (x : Ex S H) (r : RepO G.K S H t v) : ∃ a dx vs, v = .ref a ∧ H a = some (.ins (adK G.K C) dx (ks.zip vs)) ∧ vs.length = ks.length ∧ Reps G.K S l vs := by
  cases t with
  | st d =>
    cases e
    cases r with
    | obj h z q => exact ⟨_, _, _, rfl, x _ _ h, z, q⟩
  | fr l => exact r.elim
  | sl l => cases e
end
end RF

set_option Elab.async false
set_option linter.all false
set_option maxRecDepth 100000
set_option autoImplicit false
/-! RF, part B: what models an expression -/
namespace RF
open PySem PySem.Spec L2

/-! ### exceptions -/
def XcR (K : PySem.W.Frag) (S : Hp) (x : Xc) (d : Option Addr) : Prop :=
  (x.ks = [] ∧ x.l = [] ∧ d = none) ∨ ∃ dx vs, d = some dx ∧ S dx = some (.xd (x.ks.zip vs)) ∧ vs.length = x.ks.length ∧ Reps K S x.l vs
theorem XcR.mono {K : PySem.W.Frag} {S S' : Hp} {x : Xc} {d : Option Addr} (e : Ex S S') (h : XcR K S x d) : XcR K S' x d := by
  rcases h with h | ⟨dx, vs, h1, h2, h3, h4⟩
  · exact .inl h
  · exact .inr ⟨dx, vs, h1, e _ _ h2, h3, h4.mono e⟩

/-! ### what is wanted behind a run -/
def Fin {α β : Type} (W : WX) (rep : Hp → Hp → α → β → Prop) (r : R α) (G : Gd) (S : Hp) (O : Nat → List Addr) (σ : L2.St) (H : Hp) (ρ : Env) (Q : β → Hp → Prop) : Prop :=
  match r with
  | .bad => False
  | .ok a => ∀ b S' H', Ex S S' → Ex H H' → StR G S' O σ H' ρ → rep S' H' a b → Q b H'
  | .ex x => ∀ d S' H', Ex S S' → Ex H H' → StR G S' O σ H' ρ → XcR G.K S' x d → W (.ref (adK G.K x.C)) d σ H'
section
variable {α β γ δ : Type} {W : WX} {rep : Hp → Hp → α → β → Prop} {rep' : Hp → Hp → γ → δ → Prop} {r : R α} {G : Gd} {S S' : Hp} {O : Nat → List Addr} {σ : L2.St} {H H' : Hp} {ρ : Env} {Q : β → Hp → Prop} {Q' : δ → Hp → Prop}
theorem Fin.mono (h : Fin W rep r G S O σ H ρ Q) (e : Ex S S') (k : Ex H H') : Fin W rep r G S' O σ H' ρ Q := by
  cases r with
  | bad => exact h
  | ok a => exact fun b S2 H2 e2 k2 st rp => h b S2 H2 (e.trans e2) (k.trans k2) st rp
  | ex x => exact fun d S2 H2 e2 k2 st rp => h d S2 H2 (e.trans e2) (k.trans k2) st rp
/-- one run, then what hangs on its value -/
theorem Fin.bind {r : R γ} {k : γ → R α} (h : Fin W rep (r.bind k) G S O σ H ρ Q)
    (hk : ∀ a b S' H', Ex S S' → Ex H H' → StR G S' O σ H' ρ → rep' S' H' a b → Fin W rep (k a) G S' O σ H' ρ Q → Q' b H') : Fin W rep' r G S O σ H ρ Q' := by
  cases r with
  | bad => exact h
  | ok a => exact fun b S2 H2 e2 k2 st rp => hk a b S2 H2 e2 k2 st rp (Fin.mono h e2 k2)
  | ex x => exact h
theorem Fin.ok {a : α} {b : β} (h : Fin W rep (.ok a) G S O σ H ρ Q) (e : Ex S S') (k : Ex H H') (st : StR G S' O σ H' ρ) (rp : rep S' H' a b) : Q b H' := h b S' H' e k st rp
end
abbrev rT (G : Gd) (O : Nat → List Addr) : Hp → Hp → T → V → Prop := fun S H => RepT G S O H
/-- settled values -/
inductive RepOs (K : PySem.W.Frag) (S H : Hp) : List T → List V → Prop
  | nil : RepOs K S H [] []
  | cons {t : T} {v : V} {ts : List T} {vs : List V} : RepO K S H t v → RepOs K S H ts vs → RepOs K S H (t :: ts) (v :: vs)
theorem RepOs.mono {K : PySem.W.Frag} {S S' H H' : Hp} (e : Ex S S') (k : Ex H H') : ∀ {ts : List T} {vs : List V}, RepOs K S H ts vs → RepOs K S' H' ts vs
  | _, _, .nil => .nil
  | _, _, .cons h r => .cons (h.mono e k) (RepOs.mono e k r)
abbrev rTs (G : Gd) : Hp → Hp → List T → List V → Prop := fun S H => RepOs G.K S H
abbrev rB : Hp → Hp → Bool → Bool → Prop := fun _ _ a b => a = b

/-- models: an expression's, a test's, arguments' -/
abbrev ME := Env → R T
abbrev MT := Env → R Bool
abbrev MA := Env → R (List T)
def tE (K : PySem.W.Frag) (W : WX) (m : ME) : TE := fun σ H Q => ∃ G S O ρ, G.K = K ∧ StR G S O σ H ρ ∧ Fin W (rT G O) (m ρ) G S O σ H ρ Q
def tT (K : PySem.W.Frag) (W : WX) (m : MT) : TT := fun σ H Q => ∃ G S O ρ, G.K = K ∧ StR G S O σ H ρ ∧ Fin W rB (m ρ) G S O σ H ρ Q
def tA (K : PySem.W.Frag) (W : WX) (m : MA) : TA := fun σ H Q => ∃ G S O ρ, G.K = K ∧ StR G S O σ H ρ ∧ Fin W (rTs G) (m ρ) G S O σ H ρ Q
structure DX (X : Cx) (W : WX) (e : Expr) (m : ME) : Prop where
  pe : PE X e (tE X.K W m)
structure DT (X : Cx) (W : WX) (e : Expr) (m : MT) : Prop where
  pt : PT X e (tT X.K W m)
structure DA (X : Cx) (W : WX) (es : List Expr) (m : MA) : Prop where
  pa : PA X es (tA X.K W m)
theorem PE.weak {X : Cx} {e : Expr} {t t' : TE} (h : PE X e t) (k : ∀ σ H Q, t' σ H Q → t σ H Q) : PE X e t' := ⟨fun pins s σ H Q I q => h.run pins s σ H Q I (k σ H Q q)⟩
theorem PT.weak {X : Cx} {e : Expr} {t t' : TT} (h : PT X e t) (k : ∀ σ H Q, t' σ H Q → t σ H Q) : PT X e t' := ⟨fun pins s σ H Q I q => h.run pins s σ H Q I (k σ H Q q)⟩
theorem PW.weak {X : Cx} {e : Expr} {t t' : TT} (h : PW X e t) (k : ∀ σ H Q, t' σ H Q → t σ H Q) : PW X e t' := ⟨fun w pins s σ H Q I q => h.run w pins s σ H Q I (k σ H Q q)⟩
theorem PA.weak {X : Cx} {e : List Expr} {t t' : TA} (h : PA X e t) (k : ∀ σ H Q, t' σ H Q → t σ H Q) : PA X e t' := ⟨fun pos pins s σ H Q I q => h.run pos pins s σ H Q I (k σ H Q q)⟩

/-- a part that may be out of what is modelled -/
def lift {α : Type} : Option α → R α
  | some a => .ok a
  | none => .bad
@[simp] theorem lift_some {α : Type} (a : α) : lift (some a) = R.ok a := (rfl)
@[simp] theorem lift_none {α : Type} : lift (none : Option α) = R.bad := (rfl)

/-! ### the models' parts -/
def eC (d : D) : ME := fun _ => .ok (.st d)
def slT : Sl → R T
  | .val d => .ok (.st d)
  | .own l => .ok (.sl l)
  | _ => .bad
def eV (i : Nat) : ME := fun ρ => slT (ρ.getD i .no)
def e1 (f : D → Option T) (a : ME) : ME := fun ρ => (a ρ).bind fun t => lift (f t.d)
def e2 (f : D → D → Option T) (a b : ME) : ME := fun ρ => (a ρ).bind fun t => (b ρ).bind fun u => lift (f t.d u.d)
def aN : MA := fun _ => .ok []
def aC (a : ME) (as : MA) : MA := fun ρ => (a ρ).bind fun t => (as ρ).bind fun ts => .ok (t.set :: ts)
/-- a built-in of its arguments' data -/
def eB (f : List D → Option T) (as : MA) : ME := fun ρ => (as ρ).bind fun ts => lift (f (ts.map T.d))
def isSt : T → Bool
  | .st _ => true
  | _ => false
/-- the items of a display stand still -/
def stD : List T → Option (List D)
  | [] => some []
  | .st d :: ts => (stD ts).map fun ds => d :: ds
  | _ :: _ => none
def eL (as : MA) : ME := fun ρ => (as ρ).bind fun ts => lift ((stD ts).bind fun ds => if ds.length ≤ 100000 then some (T.fr ds) else none)
def eTup (as : MA) : ME := fun ρ => (as ρ).bind fun ts => lift ((stD ts).bind fun ds => if ds.length ≤ 100000 then some (T.st (.tup ds)) else none)
def dB : D → Option Bool
  | .bl b => some b
  | _ => none
def cV (a : ME) : MT := fun ρ => (a ρ).bind fun t => lift (dB t.d)
def cNot (a : MT) : MT := fun ρ => (a ρ).bind fun b => .ok (!b)
def cAnd (a b : MT) : MT := fun ρ => (a ρ).bind fun x => if x then b ρ else .ok false
def cOr (a b : MT) : MT := fun ρ => (a ρ).bind fun x => if x then .ok true else b ρ
def eT (a : MT) : ME := fun ρ => (a ρ).bind fun b => .ok (.st (.bl b))
def eIf (c : MT) (a b : ME) : ME := fun ρ => (c ρ).bind fun x => if x then a ρ else b ρ

/-- a rule of two operands, its model -/
def R2Ok (K : PySem.W.Frag) (r : R2) (f : D → D → Option T) : Prop := ∀ (G : Gd) (S : Hp) (O : Nat → List Addr) (σ : L2.St) (H : Hp) (ρ : Env) (t u z : T) (x y : V) (Q : VK), G.K = K → StR G S O σ H ρ →
  RepO K S H t x → RepO K S H u y → f t.d u.d = some z → (∀ v S' H', Ex S S' → Ex H H' → StR G S' O σ H' ρ → RepT G S' O H' z v → Q v H') → r x y H Q
def R1Ok (K : PySem.W.Frag) (r : V → Hp → VK → Prop) (f : D → Option T) : Prop := ∀ (G : Gd) (S : Hp) (O : Nat → List Addr) (σ : L2.St) (H : Hp) (ρ : Env) (t z : T) (x : V) (Q : VK), G.K = K → StR G S O σ H ρ →
  RepO K S H t x → f t.d = some z → (∀ v S' H', Ex S S' → Ex H H' → StR G S' O σ H' ρ → RepT G S' O H' z v → Q v H') → r x H Q
def RAOk (K : PySem.W.Frag) (r : List V → Hp → VK → Prop) (f : List D → Option T) : Prop := ∀ (G : Gd) (S : Hp) (O : Nat → List Addr) (σ : L2.St) (H : Hp) (ρ : Env) (ts : List T) (z : T) (xs : List V) (Q : VK), G.K = K → StR G S O σ H ρ →
  RepOs K S H ts xs → f (ts.map T.d) = some z → (∀ v S' H', Ex S S' → Ex H H' → StR G S' O σ H' ρ → RepT G S' O H' z v → Q v H') → r xs H Q
/-- the answer is a scalar: nothing new -/
theorem done_st {G : Gd} {S : Hp} {O : Nat → List Addr} {σ : L2.St} {H : Hp} {ρ : Env} {d : D} {v : V} {Q : VK} (st : StR G S O σ H ρ) (rp : Rep G.K S d v)
    (k : ∀ v S' H', Ex S S' → Ex H H' → StR G S' O σ H' ρ → RepT G S' O H' (.st d) v → Q v H') : Q v H := k v S H (Same.refl S) (Same.refl H) st rp
/-- .. a new list -/
theorem done_fr {G : Gd} {S : Hp} {O : Nat → List Addr} {σ : L2.St} {H : Hp} {ρ : Env} {l : List D} {vs : List V} {p : Addr} {Q : VK} (st : StR G S O σ H ρ) (hp : H p = none) (rp : Reps G.K S l vs)
    (k : ∀ v S' H', Ex S S' → Ex H H' → StR G S' O σ H' ρ → RepT G S' O H' (.fr l) v → Q v H') : Q (.ref p) (upd H p (.lst vs)) := by
  have sp : S p = none := by
    cases e : S p with
    | none => rfl
    | some u => rw [st.exS p u e] at hp; cases hp
  have bp : G.B p = none := by
    cases e : G.B p with
    | none => rfl
    | some u => rw [st.exB p u e] at hp; cases hp
  exact k _ S _ (Same.refl S) (ex_upd hp) (st.grow (ex_upd hp)) ⟨p, vs, rfl, sp, bp, fun i q => st.live i p q hp, upd_same, rp⟩
/-- .. a new tuple -/
theorem done_tup {G : Gd} {S : Hp} {O : Nat → List Addr} {σ : L2.St} {H : Hp} {ρ : Env} {l : List D} {vs : List V} {p : Addr} {Q : VK} (st : StR G S O σ H ρ) (hp : H p = none) (rp : Reps G.K S l vs)
    (k : ∀ v S' H', Ex S S' → Ex H H' → StR G S' O σ H' ρ → RepT G S' O H' (.st (.tup l)) v → Q v H') : Q (.ref p) (upd H p (.tup vs)) := by
  obtain ⟨st', e1, e2⟩ := st.stand (o := .tup vs) hp
  exact k _ _ _ e1 e2 st' (Rep.tup (.inl (.inl upd_same)) (rp.mono e1))

section
variable {X : Cx} {W : WX} {e a b : Expr} {es : List Expr} {m n : ME} {ma : MA} {c d : MT} {pos : Pos}

/-! ### names, constants -/
theorem dx_c {v : V} {z : D} (hr : ∀ S, Rep X.K S z v) (h : PE X e (tC v)) : DX X W e (eC z) := ⟨PE.weak h fun σ H Q ⟨G, S, O, ρ, eK, st, q⟩ => q v S H (Same.refl S) (Same.refl H) st (by show Rep G.K S z v; rw [eK]; exact hr S)⟩
theorem dx_int {i : Int} {j} : DX X W (.Constant (.int i) j pos) (eC (.int i)) := dx_c (fun S => .int i) pe_int
theorem dx_bl {i : Bool} {j} : DX X W (.Constant (.bool i) j pos) (eC (.bl i)) := dx_c (fun S => .bl i) pe_bl
theorem dx_str {x : Str} {j} : DX X W (.Constant (.str x) j pos) (eC (.str x)) := dx_c (fun S => .str x) pe_str
theorem dx_non {j} : DX X W (.Constant .none j pos) (eC .non) := dx_c (fun S => .non) pe_non
theorem dx_glob {x : Str} {i : Int} {u : Tok} (hg : Gl X x) (hm : X.mg x = some (.int i u)) (hd : (x == ("__debug__" : Str)) = false := by decide) : DX X W (.Name x pos) (eC (.int i)) :=
  dx_c (fun S => .int i) (pe_glob hg hm ⟨u, rfl⟩ hd)
theorem dx_v (i : Nat) {x : Str} (hN : X.N[i]? = some x := by rfl) (hv : Vis X.env.scope x := by first | exact Or.inl rfl | exact Or.inr (Or.inl rfl) | exact Or.inr (Or.inr rfl)) (hd : (x == ("__debug__" : Str)) = false := by decide)
    (hcd : (x == ("__classdict__" : Str)) = false := by decide) : DX X W (.Name x pos) (eV i) := by
  refine ⟨PE.weak (pe_var hN hv hd hcd) fun σ H Q ⟨G, S, O, ρ, eK, st, q⟩ => ?_⟩
  unfold eV at q
  cases hs : ρ[i]? with
  | none =>
    rw [List.getD_eq_getElem?_getD, hs] at q
    exact q.elim
  | some s =>
    rw [List.getD_eq_getElem?_getD, hs] at q
    have hS := st.slot i s hs
    cases s with
    | no => exact q.elim
    | val z =>
      obtain ⟨_, v, e1, rp⟩ := hS
      exact ⟨v, e1, q v S H (Same.refl S) (Same.refl H) st rp⟩
    | own l =>
      obtain ⟨p, vs, e1, e2, e3, rp⟩ := hS
      exact ⟨.ref p, e1, q (.ref p) S H (Same.refl S) (Same.refl H) st ⟨p, vs, rfl, ⟨i, by rw [e2]; exact List.mem_cons_self⟩, e3, rp⟩⟩
    | own2 l => exact q.elim
    | dic l => exact q.elim
    | ins a C ks l => exact q.elim
    | pr l d => exact q.elim

/-! ### operators -/
theorem step1 {r : V → Hp → VK → Prop} {f : D → Option T} (hf : R1Ok X.K r f) : ∀ σ H Q, tE X.K W (e1 f m) σ H Q → tE X.K W m σ H (fun x H1 => r x H1 Q) := by
  rintro σ H Q ⟨G, S, O, ρ, eK, st, q⟩
  refine ⟨G, S, O, ρ, eK, st, Fin.bind (rep' := rT G O) q fun t x S1 H1 s1 k1 st1 rp q1 => ?_⟩
  obtain ⟨S2, s2, st2, ro⟩ := RepT.settle st1 rp
  rw [eK] at ro
  cases hz : f t.d with
  | none => rw [hz] at q1; exact q1.elim
  | some z =>
    rw [hz] at q1
    exact hf G S2 O σ H1 ρ t.set z x Q eK st2 ro (by rw [T.set_d]; exact hz) fun v S3 H3 e3 k3 st3 rp3 => q1 v S3 H3 (s2.trans e3) k3 st3 rp3
theorem step2 {r : R2} {f : D → D → Option T} (hf : R2Ok X.K r f) : ∀ σ H Q, tE X.K W (e2 f m n) σ H Q → tE X.K W m σ H (fun x H1 => tE X.K W n σ H1 (fun y H2 => r x y H2 Q)) := by
  rintro σ H Q ⟨G, S, O, ρ, eK, st, q⟩
  refine ⟨G, S, O, ρ, eK, st, Fin.bind (rep' := rT G O) q fun t x S1 H1 s1 k1 st1 rp q1 => ?_⟩
  obtain ⟨S2, s2, st2, ro⟩ := RepT.settle st1 rp
  refine ⟨G, S2, O, ρ, eK, st2, Fin.bind (rep' := rT G O) (q1.mono s2 (Same.refl H1)) fun u y S3 H3 s3 k3 st3 rp3 q3 => ?_⟩
  obtain ⟨S4, s4, st4, ro4⟩ := RepT.settle st3 rp3
  rw [eK] at ro ro4
  cases hz : f t.d u.d with
  | none => rw [hz] at q3; exact q3.elim
  | some z =>
    rw [hz] at q3
    exact hf G S4 O σ H3 ρ t.set u.set z x y Q eK st4 (ro.mono (s3.trans s4) k3) ro4 (by rw [T.set_d, T.set_d]; exact hz) fun v S5 H5 e5 k5 st5 rp5 => q3 v S5 H5 (s4.trans e5) k5 st5 rp5
theorem dx_op {op : Operator} {r : R2} {f : D → D → Option T} (ho : OpR X (binaryOp op) r) (hf : R2Ok X.K r f) (ha : DX X W a m) (hb : DX X W b n) : DX X W (.BinOp a op b pos) (e2 f m n) :=
  ⟨PE.weak (pe_op ho ha.pe hb.pe) (step2 hf)⟩
theorem dx_un {op : UnaryOp} {r : V → Hp → VK → Prop} {f : D → Option T} (ho : UnR X (unaryOp op) r) (hf : R1Ok X.K r f) (ha : DX X W a m) : DX X W (.UnaryOp op a pos) (e1 f m) :=
  ⟨PE.weak (pe_un ho ha.pe) (step1 hf)⟩
theorem dx_cmp {op : CmpOp} {r : R2} {f : D → D → Option T} (ho : OpR X (compareOp op) r) (hf : R2Ok X.K r f) (hm : behindInMarks op b = false) (ha : DX X W a m) (hb : DX X W b n) : DX X W (.Compare a [op] [b] pos) (e2 f m n) :=
  ⟨PE.weak (pe_cmpR ho ha.pe hb.pe hm) (step2 hf)⟩

/-! ### tests -/
/-- a test by a value that is a truth value -/
theorem stepB {t : TE} (h : ∀ σ H (Q : VK), tE X.K W m σ H Q → t σ H Q) : ∀ σ H (Q : Bool → Hp → Prop), tT X.K W (cV m) σ H Q → t σ H (fun x H1 => ∃ k, x = .bl k ∧ Q k H1) := by
  rintro σ H Q ⟨G, S, O, ρ, eK, st, q⟩
  refine h σ H _ ⟨G, S, O, ρ, eK, st, Fin.bind (rep' := rT G O) q fun t x S1 H1 s1 k1 st1 rp q1 => ?_⟩
  cases t with
  | st z =>
    cases z with
    | bl k =>
      cases rp
      exact ⟨k, rfl, q1 k S1 H1 (Same.refl _) (Same.refl _) st1 rfl⟩
    | _ => exact q1.elim
  | fr l => exact q1.elim
  | sl l => exact q1.elim
theorem dt_val (h : DX X W e m) (he : ∀ whole, isTrue e X.env whole = (do let v ← whole; standAt e.pos; holding [v] (truthy v)) := by intro _; rfl) : DT X W e (cV m) :=
  ⟨PT.weak (pt_val h.pe he) (stepB fun _ _ _ q => q)⟩
theorem dt_cmp {op : CmpOp} {r : R2} {f : D → D → Option T} (ho : OpR X (compareOp op) r) (hf : R2Ok X.K r f) (hm : behindInMarks op b = false) (ha : DX X W a m) (hb : DX X W b n) : DT X W (.Compare a [op] [b] pos) (cV (e2 f m n)) :=
  ⟨PT.weak (pt_cmpR ho ha.pe hb.pe hm) fun σ H Q q => stepB (t := tE X.K W (e2 f m n)) (fun _ _ _ q => q) σ H Q q |> fun z => step2 hf σ H _ z⟩
theorem dt_not (h : DT X W a c) : DT X W (.UnaryOp .Not a pos) (cNot c) := by
  refine ⟨PT.weak (pt_not h.pt) ?_⟩
  rintro σ H Q ⟨G, S, O, ρ, eK, st, q⟩
  refine ⟨G, S, O, ρ, eK, st, Fin.bind (rep' := rB) q fun t x S1 H1 s1 k1 st1 rp q1 => ?_⟩
  cases rp
  exact q1 _ S1 H1 (Same.refl _) (Same.refl _) st1 rfl
structure DW (X : Cx) (W : WX) (e : Expr) (m : MT) : Prop where
  pw : PW X e (tT X.K W m)
theorem DW.dt (h : DW X W e c) : DT X W e c := ⟨h.pw.pt⟩
theorem dw_and1 (h : DT X W a c) : DW X W (.BoolOp .And [a] pos) c := ⟨pw_and1 h.pt⟩
theorem dw_or1 (h : DT X W a c) : DW X W (.BoolOp .Or [a] pos) c := ⟨pw_or1 h.pt⟩
theorem dw_and {rest : List Expr} (h : DT X W a c) (h2 : DW X W (.BoolOp .And (b :: rest) pos) d) : DW X W (.BoolOp .And (a :: b :: rest) pos) (cAnd c d) := by
  refine ⟨PW.weak (pw_and h.pt h2.pw) ?_⟩
  rintro σ H Q ⟨G, S, O, ρ, eK, st, q⟩
  refine ⟨G, S, O, ρ, eK, st, Fin.bind (rep' := rB) q fun t x S1 H1 s1 k1 st1 rp q1 => ?_⟩
  cases rp
  cases t with
  | true => exact ⟨G, S1, O, ρ, eK, st1, q1⟩
  | false => exact q1 _ S1 H1 (Same.refl _) (Same.refl _) st1 rfl
theorem dw_or {rest : List Expr} (h : DT X W a c) (h2 : DW X W (.BoolOp .Or (b :: rest) pos) d) : DW X W (.BoolOp .Or (a :: b :: rest) pos) (cOr c d) := by
  refine ⟨PW.weak (pw_or h.pt h2.pw) ?_⟩
  rintro σ H Q ⟨G, S, O, ρ, eK, st, q⟩
  refine ⟨G, S, O, ρ, eK, st, Fin.bind (rep' := rB) q fun t x S1 H1 s1 k1 st1 rp q1 => ?_⟩
  cases rp
  cases t with
  | true => exact q1 _ S1 H1 (Same.refl _) (Same.refl _) st1 rfl
  | false => exact ⟨G, S1, O, ρ, eK, st1, q1⟩
/-! ### and, or, not, if as values -/
theorem dx_not (h : DX X W a m) : DX X W (.UnaryOp .Not a pos) (eT (cNot (cV m))) := by
  refine ⟨PE.weak (pe_not h.pe) ?_⟩
  rintro σ H Q ⟨G, S, O, ρ, eK, st, q⟩
  refine stepB (t := tE X.K W m) (fun _ _ _ q => q) σ H (fun k H1 => Q (.bl (!k)) H1) ⟨G, S, O, ρ, eK, st, ?_⟩
  unfold eT cNot at q
  cases hr : cV m ρ with
  | bad => rw [hr] at q; exact q
  | ok k =>
    rw [hr] at q
    intro b S1 H1 s1 k1 st1 rp
    cases rp
    exact q _ S1 H1 s1 k1 st1 (.bl _)
  | ex x => rw [hr] at q; exact q
theorem dx_one {op} (h : DX X W a m) : DX X W (.BoolOp op [a] pos) m := ⟨pe_one h.pe⟩
def eAnd (a : MT) (b : ME) : ME := fun ρ => (a ρ).bind fun x => if x then b ρ else .ok (.st (.bl false))
def eOr (a : MT) (b : ME) : ME := fun ρ => (a ρ).bind fun x => if x then .ok (.st (.bl true)) else b ρ
theorem dx_and {rest : List Expr} (h : DX X W a m) (h2 : DX X W (.BoolOp .And (b :: rest) pos) n) : DX X W (.BoolOp .And (a :: b :: rest) pos) (eAnd (cV m) n) := by
  refine ⟨PE.weak (pe_and h.pe h2.pe) ?_⟩
  rintro σ H Q ⟨G, S, O, ρ, eK, st, q⟩
  refine stepB (t := tE X.K W m) (fun _ _ _ q => q) σ H (fun k H1 => if k = true then tE X.K W n σ H1 Q else Q (.bl false) H1) ⟨G, S, O, ρ, eK, st, ?_⟩
  unfold eAnd at q
  cases hr : cV m ρ with
  | bad => rw [hr] at q; exact q
  | ok k =>
    rw [hr] at q
    intro b S1 H1 s1 k1 st1 rp
    cases rp
    cases k with
    | true => exact ⟨G, S1, O, ρ, eK, st1, Fin.mono q s1 k1⟩
    | false => exact q _ S1 H1 s1 k1 st1 (.bl _)
  | ex x => rw [hr] at q; exact q
theorem dx_or {rest : List Expr} (h : DX X W a m) (h2 : DX X W (.BoolOp .Or (b :: rest) pos) n) : DX X W (.BoolOp .Or (a :: b :: rest) pos) (eOr (cV m) n) := by
  refine ⟨PE.weak (pe_or h.pe h2.pe) ?_⟩
  rintro σ H Q ⟨G, S, O, ρ, eK, st, q⟩
  refine stepB (t := tE X.K W m) (fun _ _ _ q => q) σ H (fun k H1 => if k = true then Q (.bl true) H1 else tE X.K W n σ H1 Q) ⟨G, S, O, ρ, eK, st, ?_⟩
  unfold eOr at q
  cases hr : cV m ρ with
  | bad => rw [hr] at q; exact q
  | ok k =>
    rw [hr] at q
    intro b S1 H1 s1 k1 st1 rp
    cases rp
    cases k with
    | false => exact ⟨G, S1, O, ρ, eK, st1, Fin.mono q s1 k1⟩
    | true => exact q _ S1 H1 s1 k1 st1 (.bl _)
  | ex x => rw [hr] at q; exact q
theorem dx_if {t : Expr} (hc : DT X W t c) (ha : DX X W a m) (hb : DX X W b n) : DX X W (.IfExp t a b pos) (eIf c m n) := by
  refine ⟨PE.weak (pe_ifExp hc.pt ha.pe hb.pe) ?_⟩
  rintro σ H Q ⟨G, S, O, ρ, eK, st, q⟩
  refine ⟨G, S, O, ρ, eK, st, Fin.bind (rep' := rB) q fun t x S1 H1 s1 k1 st1 rp q1 => ?_⟩
  cases rp
  cases t with
  | true => exact ⟨G, S1, O, ρ, eK, st1, q1⟩
  | false => exact ⟨G, S1, O, ρ, eK, st1, q1⟩

/-! ### arguments, displays -/
theorem da_nil : DA X W [] aN := ⟨PA.weak pa_nil fun σ H Q ⟨G, S, O, ρ, eK, st, q⟩ => q [] S H (Same.refl S) (Same.refl H) st .nil⟩
theorem da_cons (h : DX X W a m) (h2 : DA X W es ma) (hs : starEach (a :: es) X.env = (false, eval a X.env) :: starEach es X.env := by rfl) : DA X W (a :: es) (aC m ma) := by
  refine ⟨PA.weak (pa_cons h.pe h2.pa hs) ?_⟩
  rintro σ H Q ⟨G, S, O, ρ, eK, st, q⟩
  refine ⟨G, S, O, ρ, eK, st, Fin.bind (rep' := rT G O) q fun t x S1 H1 s1 k1 st1 rp q1 => ?_⟩
  obtain ⟨S2, s2, st2, ro⟩ := RepT.settle st1 rp
  refine ⟨G, S2, O, ρ, eK, st2, Fin.bind (rep' := rTs G) (q1.mono s2 (Same.refl H1)) fun ts ys S3 H3 s3 k3 st3 rp3 q3 => ?_⟩
  exact q3 _ S3 H3 (Same.refl _) (Same.refl _) st3 (.cons (ro.mono s3 k3) rp3)
theorem RepOs.stD {K : PySem.W.Frag} {S H : Hp} : ∀ {ts : List T} {vs : List V} {ds : List D}, RepOs K S H ts vs → RF.stD ts = some ds → Reps K S ds vs
  | _, _, _, .nil, e => by cases e; exact .nil
  | .st d :: ts, _, _, .cons h r, e => by
    unfold RF.stD at e
    cases hz : RF.stD ts with
    | none => rw [hz] at e; cases e
    | some zs =>
      rw [hz] at e
      cases e
      exact .cons h (RepOs.stD r hz)
  | .fr _ :: ts, _, _, .cons h r, e => h.elim
  | .sl _ :: ts, _, _, .cons h r, e => by cases e
theorem sz_of {n : Nat} (h : n ≤ 100000) : n ≤ sizeLine := Nat.le_trans h (by decide)
theorem sz_lt {n : Nat} (h : n < 100000) : n < sizeLine := Nat.lt_of_lt_of_le h (by decide)
theorem dx_lst (h : DA X W es ma) : DX X W (.List es pos) (eL ma) := by
  refine ⟨PE.weak (pe_lst h.pa) ?_⟩
  rintro σ H Q ⟨G, S, O, ρ, eK, st, q⟩
  refine ⟨G, S, O, ρ, eK, st, Fin.bind (rep' := rTs G) q fun ts xs S1 H1 s1 k1 st1 rp q1 => ?_⟩
  cases hz : stD ts with
  | none => rw [hz] at q1; exact q1.elim
  | some ds =>
    rw [hz, Option.bind_some] at q1
    have rs := rp.stD hz
    split at q1
    · rename_i hl
      exact ⟨by rw [← rs.length]; exact sz_of hl, fun p hp => done_fr st1 hp rs q1⟩
    · exact q1.elim
theorem dx_tup {x1} (h : DA X W es ma) : DX X W (.Tuple es x1 pos) (eTup ma) := by
  refine ⟨PE.weak (pe_tup h.pa) ?_⟩
  rintro σ H Q ⟨G, S, O, ρ, eK, st, q⟩
  refine ⟨G, S, O, ρ, eK, st, Fin.bind (rep' := rTs G) q fun ts xs S1 H1 s1 k1 st1 rp q1 => ?_⟩
  cases hz : stD ts with
  | none => rw [hz] at q1; exact q1.elim
  | some ds =>
    rw [hz, Option.bind_some] at q1
    have rs := rp.stD hz
    split at q1
    · rename_i hl
      exact ⟨by rw [← rs.length]; exact sz_of hl, fun p hp => done_tup st1 hp rs q1⟩
    · exact q1.elim

/-! ### built-ins -/
theorem stepA {r : List V → Hp → VK → Prop} {f : List D → Option T} (hf : RAOk X.K r f) : ∀ σ H Q, tE X.K W (eB f ma) σ H Q → tA X.K W ma σ H (fun xs H1 => r xs H1 Q) := by
  rintro σ H Q ⟨G, S, O, ρ, eK, st, q⟩
  refine ⟨G, S, O, ρ, eK, st, Fin.bind (rep' := rTs G) q fun ts xs S1 H1 s1 k1 st1 rp q1 => ?_⟩
  have rp : RepOs G.K S1 H1 ts xs := rp
  rw [eK] at rp
  cases hz : f (ts.map T.d) with
  | none => rw [hz] at q1; exact q1.elim
  | some z =>
    rw [hz] at q1
    exact hf G S1 O σ H1 ρ ts z xs Q eK st1 rp hz q1
theorem dx_cb {r : List V → Hp → VK → Prop} {f : List D → Option T} {id : String} {x : Str} {p : Pos} (hc : CallR X (.builtin id) r) (hf : RAOk X.K r f) (hg : Gl X x) (hm : X.mg x = none) (hv : bootBuiltins x = some (.builtin id)) (ha : DA X W (e :: es) ma)
    (hn : x ≠ "__name__" := by decide) (hdb : (x == ("__debug__" : Str)) = false := by decide) (he : starEach (e :: es) X.env = (false, eval e X.env) :: starEach es X.env := by rfl) (hpl : (backTo pos (starEach es X.env)).any (·.1) = false := by rfl) :
    DX X W (.Call (.Name x p) (e :: es) [] pos) (eB f ma) := ⟨PE.weak (pe_callB hc hg hm hv ha.pa hn hdb he hpl) (stepA hf)⟩
theorem dx_ct {r : List V → Hp → VK → Prop} {f : List D → Option T} {Ty : String} {x : Str} {p : Pos} (hc : CallR X (.type Ty) r) (hf : RAOk X.K r f) (hg : Gl X x) (hm : X.mg x = none) (hv : bootBuiltins x = some (.type Ty)) (ha : DA X W (e :: es) ma)
    (hn : x ≠ "__name__" := by decide) (hdb : (x == ("__debug__" : Str)) = false := by decide) (he : starEach (e :: es) X.env = (false, eval e X.env) :: starEach es X.env := by rfl) (hpl : (backTo pos (starEach es X.env)).any (·.1) = false := by rfl) :
    DX X W (.Call (.Name x p) (e :: es) [] pos) (eB f ma) := ⟨PE.weak (pe_callTy hc hg hm hv ha.pa hn hdb he hpl) (stepA hf)⟩
end
end RF

set_option Elab.async false
set_option linter.all false
set_option maxRecDepth 100000
set_option autoImplicit false
/-! RF, part C: the operators' models -/
namespace RF
open PySem PySem.Spec L2

/-! ### data for == -/
mutual
def toPy : D → PyData
  | .non => .none | .bl b => .bool b | .int i => .int i | .str x => .str x
  | .lst l => .list (toPys l) | .tup l => .tuple (toPys l)
  | .obj _ _ _ => .dict [] | .exc _ _ _ => .dict []
def toPys : List D → List PyData
  | [] => []
  | d :: ds => toPy d :: toPys ds
end
mutual
theorem Rep.dp {K : PySem.W.Frag} {S : Hp} : ∀ {d : D} {v : V}, SeqAt.shaped (toPy d) = true → Rep K S d v → Dp K S v (toPy d)
  | _, _, _, .non => by unfold toPy; exact .non
  | _, _, _, .bl b => by unfold toPy; exact .bl b
  | _, _, _, .int i => by unfold toPy; exact .int i
  | _, _, _, .str x => by unfold toPy; exact .str x
  | _, _, z, .lst h r => by
    unfold toPy at z ⊢
    refine .lst h (Reps.dp ?_ r)
    have z1 := SeqAt.canLay_of_shaped z
    unfold PyData.canLay0 at z1
    exact z1
  | _, _, z, .tup h r => by
    unfold toPy at z ⊢
    refine .tup h (Reps.dp ?_ r)
    have z1 := SeqAt.canLay_of_shaped z
    unfold PyData.canLay0 at z1
    exact z1
  | _, _, z, .obj h q r => by
    unfold toPy at z
    have z1 := SeqAt.canLay_of_shaped z
    unfold PyData.canLay0 at z1
    cases z1
  | _, _, z, .exc0 h => by
    unfold toPy at z
    have z1 := SeqAt.canLay_of_shaped z
    unfold PyData.canLay0 at z1
    cases z1
  | _, _, z, .exc1 _ _ _ _ => by
    unfold toPy at z
    have z1 := SeqAt.canLay_of_shaped z
    unfold PyData.canLay0 at z1
    cases z1
theorem Rep.dp0 {K : PySem.W.Frag} {S : Hp} : ∀ {d : D} {v : V}, (toPy d).canLay0 = true → Rep K S d v → Dp K S v (toPy d)
  | _, _, _, .non => by unfold toPy; exact .non
  | _, _, _, .bl b => by unfold toPy; exact .bl b
  | _, _, _, .int i => by unfold toPy; exact .int i
  | _, _, _, .str x => by unfold toPy; exact .str x
  | _, _, z, .lst h r => by
    unfold toPy at z ⊢
    refine .lst h (Reps.dp ?_ r)
    unfold PyData.canLay0 at z
    exact z
  | _, _, z, .tup h r => by
    unfold toPy at z ⊢
    refine .tup h (Reps.dp ?_ r)
    unfold PyData.canLay0 at z
    exact z
  | _, _, z, .obj h q r => by
    unfold toPy PyData.canLay0 at z
    cases z
  | _, _, z, .exc0 h => by
    unfold toPy PyData.canLay0 at z
    cases z
  | _, _, z, .exc1 _ _ _ _ => by
    unfold toPy PyData.canLay0 at z
    cases z
theorem Reps.dp {K : PySem.W.Frag} {S : Hp} : ∀ {ds : List D} {vs : List V}, PyData.canLayAll0 (toPys ds) = true → Reps K S ds vs → DpAll K S vs (toPys ds)
  | _, _, _, .nil => by unfold toPys; exact .nil
  | _, _, z, .cons h r => by
    unfold toPys at z ⊢
    unfold PyData.canLayAll0 at z
    rw [Bool.and_eq_true] at z
    exact .cons (Rep.dp0 z.1 h) (Reps.dp z.2 r)
end
theorem Dp.mono {K : PySem.W.Frag} {S S' : Hp} (e : Ex S S') : ∀ {v : V} {d : PyData}, Dp K S v d → Dp K S' v d := by
  intro v d h
  refine @Dp.rec K S (fun v d _ => Dp K S' v d) (fun vs ds _ => DpAll K S' vs ds) ?_ ?_ ?_ ?_ ?_ ?_ ?_ ?_ v d h
  · exact .non
  · exact fun b => .bl b
  · exact fun b => .int b
  · exact fun b => .str b
  · exact fun h _ r => .lst (ex_l e h) r
  · exact fun h _ r => .tup (ex_t e h) r
  · exact .nil
  · exact fun _ _ h r => .cons h r
theorem Reps.of_own {K : PySem.W.Frag} {S H : Hp} {a : Addr} {l : List D} {vs : List V} (x : Ex S H) (h : H a = some (.lst vs)) (r : Reps K S l vs) : Rep K H (.lst l) (.ref a) := .lst (.inl (.inl h)) (r.mono x)
/-- an operand, in the whole heap -/
theorem RepO.whole {K : PySem.W.Frag} {S H : Hp} {t : T} {v : V} (x : Ex S H) (r : RepO K S H t v) : Rep K H t.d v := by
  cases t with
  | st d => exact Rep.mono x r
  | fr l => exact r.elim
  | sl l =>
    obtain ⟨a, vs, rfl, h, q⟩ := r
    exact Reps.of_own x h q

/-! ### sizes -/
abbrev big : Nat := 100000

def dAdd : D → D → Option T
  | .int i, .int j => some (.st (.int (i + j)))
  | .str x, .str y => if x.length + y.length ≤ big then some (.st (.str (x ++ y))) else none
  | .lst a, .lst b => if a.length + b.length ≤ big then some (.fr (a ++ b)) else none
  | _, _ => none
def dSub : D → D → Option T
  | .int i, .int j => some (.st (.int (i - j)))
  | _, _ => none
def dMul : D → D → Option T
  | .int i, .int j => if i.natAbs.log2 < 60 ∨ j.natAbs.log2 < 60 ∨ i.natAbs.log2 + j.natAbs.log2 < 1000000 then some (.st (.int (i * j))) else none
  | _, _ => none
def dMod : D → D → Option T
  | .int i, .int j => if 0 < j then some (.st (.int (i % j))) else none
  | _, _ => none
def dDiv : D → D → Option T
  | .int i, .int j => if 0 < j ∧ j.natAbs.log2 < 9000 then some (.st (.int (i / j))) else none
  | _, _ => none
def dPow : D → D → Option T
  | .int i, .int j => if 0 ≤ j ∧ j ≤ 1000000 ∧ i.natAbs < 2 ^ 64 then some (.st (.int (i ^ j.toNat))) else none
  | _, _ => none
def dNeg : D → Option T
  | .int i => some (.st (.int (-i)))
  | _ => none
def dCmp (p : Int → Int → Bool) : D → D → Option T
  | .int i, .int j => some (.st (.bl (p i j)))
  | _, _ => none
abbrev dLt : D → D → Option T := dCmp fun i j => decide (i < j)
abbrev dLe : D → D → Option T := dCmp fun i j => decide (i ≤ j)
abbrev dGt : D → D → Option T := dCmp fun i j => decide (j < i)
abbrev dGe : D → D → Option T := dCmp fun i j => decide (j ≤ i)
/-- are they data that == compares -/
def shD (d : D) : Bool := SeqAt.shaped (toPy d)
def eqD (d e : D) : Bool := PyData.eqv (toPy d) (toPy e)
def dEq (d e : D) : Option T := if shD d = true ∧ shD e = true then some (.st (.bl (eqD d e))) else none
def dNe (d e : D) : Option T := if shD d = true ∧ shD e = true then some (.st (.bl (!eqD d e))) else none
def isNon : D → Bool
  | .non => true
  | _ => false
def dIsN (d e : D) : Option T := match e with
  | .non => some (.st (.bl (isNon d)))
  | _ => none
def dNotN (d e : D) : Option T := match e with
  | .non => some (.st (.bl (!isNon d)))
  | _ => none

theorem op_catL {X : Cx} : OpR X (binaryOp .Add) (fun x y H Q => ∃ l b xs zs, x = .ref l ∧ y = .ref b ∧ SqL X.K H l xs ∧ SqL X.K H b zs ∧ xs.length + zs.length ≤ sizeLine ∧ ∀ p, H p = none → Q (.ref p) (upd H p (.lst (xs ++ zs)))) := by
  intro pins s σ H x y v u Q I rx ry h
  obtain ⟨l, b, xs, zs, rfl, rfl, hH, hB, hz, q⟩ := h
  cases rx
  cases ry
  obtain ⟨its, r, ⟨⟨cls, dd, data, sl⟩, n, ho, hc, hd0, hd⟩, z⟩ := I.list hH
  obtain ⟨its2, r2, ⟨⟨cls2, dd2, data2, sl2⟩, n2, ho2, hc2, hd02, hd2⟩, z2⟩ := I.list hB
  simp only at hc hd hc2 hd2
  subst hc hd hc2 hd2
  have e : its.toArray ++ its2.toArray = (its ++ its2).toArray := by simp
  have l1 := r.length
  have l2 := r2.length
  refine PySem.concat_meets ⟨_, ho, rfl⟩ ⟨_, ho2, rfl⟩ PySem.noFill_list_add PySem.seq_list_add PySem.F.slot_list_add PySem.F.entry_list_add (PySem.F.args_list_add_2 _ _) (PyProof.Rows.list_addW l b its.toArray its2.toArray n n2 dd dd2 sl sl2 (by simp only [List.size_toArray]; omega)) ⟨ho, ho2, ?_⟩
  rw [e]
  exact ⟨.ref _, _, I.lnew (t' := s.toks) (r.append r2) (by rw [List.length_append]; omega), rfl, q _ I.fresh⟩

section
variable {K : PySem.W.Frag}
theorem r2_rI0 {g : Int → Int → V} {f : D → D → Option T} (h : ∀ d e z, f d e = some z → ∃ i j w, d = .int i ∧ e = .int j ∧ z = .st w ∧ ∀ S, Rep K S w (g i j)) : R2Ok K (rI0 g) f := by
  intro G S O σ H ρ t u z x y Q eK st r1 r2 hz k
  obtain ⟨i, j, w, e1, e2, rfl, rw'⟩ := h _ _ _ hz
  subst eK
  rw [RepO.int e1 r1, RepO.int e2 r2]
  exact ⟨i, j, rfl, rfl, done_st st (rw' S) k⟩
theorem r2_rI {C : Int → Int → Prop} {g : Int → Int → V} {f : D → D → Option T} (h : ∀ d e z, f d e = some z → ∃ i j w, d = .int i ∧ e = .int j ∧ C i j ∧ z = .st w ∧ ∀ S, Rep K S w (g i j)) : R2Ok K (rI C g) f := by
  intro G S O σ H ρ t u z x y Q eK st r1 r2 hz k
  obtain ⟨i, j, w, e1, e2, hc, rfl, rw'⟩ := h _ _ _ hz
  subst eK
  rw [RepO.int e1 r1, RepO.int e2 r2]
  exact ⟨i, j, rfl, rfl, hc, done_st st (rw' S) k⟩
theorem r2_sub : R2Ok K (rI0 fun i j => .int (i - j)) dSub := r2_rI0 fun d e z h => by
  unfold dSub at h
  split at h
  · cases h; exact ⟨_, _, _, rfl, rfl, rfl, fun S => .int _⟩
  · cases h
theorem bits_log (x : Int) : Builtin.Int.intBits x ≤ x.natAbs.log2 + 1 := by
  unfold Builtin.Int.intBits
  split <;> omega
theorem r2_mul : R2Ok K (rI IntMulOk fun i j => .int (i * j)) dMul := r2_rI fun d e z h => by
  unfold dMul at h
  split at h
  · split at h
    · rename_i hc
      cases h
      refine ⟨_, _, _, rfl, rfl, ?_, rfl, fun S => .int _⟩
      rcases hc with hc | hc | hc
      · exact IntMulOk.of_left (Nat.le_trans (bits_log _) (by omega))
      · exact IntMulOk.of_right (Nat.le_trans (bits_log _) (by omega))
      · exact CMulW.ok hc
    · cases h
  · cases h
theorem op_mulF {X : Cx} : OpR X (binaryOp .Mult) (rI IntMulOk fun i j => .int (i * j)) := opI fun _ _ _ _ _ _ _ hc q => PyProof.Rows.mul_int q hc
theorem r2_mod : R2Ok K (rI (fun _ j => 0 < j) fun i j => .int (i % j)) dMod := r2_rI fun d e z h => by
  unfold dMod at h
  split at h
  · split at h
    · rename_i hc
      cases h; exact ⟨_, _, _, rfl, rfl, hc, rfl, fun S => .int _⟩
    · cases h
  · cases h
theorem r2_div : R2Ok K (rI CDivW fun i j => .int (i / j)) dDiv := r2_rI fun d e z h => by
  unfold dDiv at h
  split at h
  · split at h
    · rename_i hc
      cases h; exact ⟨_, _, _, rfl, rfl, hc, rfl, fun S => .int _⟩
    · cases h
  · cases h
theorem r2_pow : R2Ok K (rI CPow fun i j => .int (i ^ j.toNat)) dPow := r2_rI fun d e z h => by
  unfold dPow at h
  split at h
  · split at h
    · rename_i hc
      cases h; exact ⟨_, _, _, rfl, rfl, hc, rfl, fun S => .int _⟩
    · cases h
  · cases h
theorem r2_cmp {p : Int → Int → Bool} : R2Ok K (rI0 fun i j => .bl (p i j)) (dCmp p) := r2_rI0 fun d e z h => by
  unfold dCmp at h
  split at h
  · cases h; exact ⟨_, _, _, rfl, rfl, rfl, fun S => .bl _⟩
  · cases h
theorem r1_neg : R1Ok K (rU fun i => .int (-i)) dNeg := by
  intro G S O σ H ρ t z x Q eK st r1 hz k
  unfold dNeg at hz
  split at hz
  · rename_i i e1
    cases hz
    subst eK
    rw [RepO.int e1 r1]
    exact ⟨i, rfl, done_st st (.int _) k⟩
  · cases hz
def rAddA (K : PySem.W.Frag) : R2 := fun x y H Q => (∃ i j, x = .int i ∧ y = .int j ∧ Q (.int (i + j)) H) ∨ (∃ i j, x = .str i ∧ y = .str j ∧ i.length + j.length ≤ sizeLine ∧ Q (.str (i ++ j)) H) ∨
  (∃ l b xs zs, x = .ref l ∧ y = .ref b ∧ SqL K H l xs ∧ SqL K H b zs ∧ xs.length + zs.length ≤ sizeLine ∧ ∀ p, H p = none → Q (.ref p) (upd H p (.lst (xs ++ zs))))
theorem op_addA {X : Cx} : OpR X (binaryOp .Add) (rAddA X.K) := OpR.or op_add (OpR.or op_add_str op_catL)
theorem r2_add : R2Ok K (rAddA K) dAdd := by
  intro G S O σ H ρ t u z x y Q eK st r1 r2 hz k
  subst eK
  unfold dAdd at hz
  split at hz
  · rename_i i j e1 e2
    cases hz
    rw [RepO.int e1 r1, RepO.int e2 r2]
    exact .inl ⟨i, j, rfl, rfl, done_st st (.int _) k⟩
  · rename_i a b e1 e2
    split at hz
    · rename_i hl
      cases hz
      rw [RepO.str e1 r1, RepO.str e2 r2]
      exact .inr (.inl ⟨a, b, rfl, rfl, sz_of hl, done_st st (.str _) k⟩)
    · cases hz
  · rename_i a b e1 e2
    split at hz
    · rename_i hl
      cases hz
      obtain ⟨p, vs, rfl, h1, q1⟩ := RepO.lst e1 st.exS r1
      obtain ⟨p2, vs2, rfl, h2, q2⟩ := RepO.lst e2 st.exS r2
      refine .inr (.inr ⟨p, p2, vs, vs2, rfl, rfl, h1, h2, ?_, fun p hp => done_fr st hp (q1.append q2) k⟩)
      rw [← q1.length, ← q2.length]
      exact sz_of hl
    · cases hz
  · cases hz
theorem r2_eq : R2Ok K (rEqD K) dEq := by
  intro G S O σ H ρ t u z x y Q eK st r1 r2 hz k
  subst eK
  unfold dEq at hz
  split at hz
  · rename_i hs
    cases hz
    exact ⟨_, _, Rep.dp hs.1 (r1.whole st.exS), Rep.dp hs.2 (r2.whole st.exS), hs.1, hs.2, done_st st (.bl _) k⟩
  · cases hz
theorem r2_ne : R2Ok K (rNeD K) dNe := by
  intro G S O σ H ρ t u z x y Q eK st r1 r2 hz k
  subst eK
  unfold dNe at hz
  split at hz
  · rename_i hs
    cases hz
    exact ⟨_, _, Rep.dp hs.1 (r1.whole st.exS), Rep.dp hs.2 (r2.whole st.exS), hs.1, hs.2, done_st st (.bl _) k⟩
  · cases hz
theorem RepO.isNon {G : Gd} {S H : Hp} {t : T} {v : V} (r : RepO G.K S H t v) : decide (v = .non) = RF.isNon t.d := by
  cases t with
  | st d => cases r <;> rfl
  | fr l => exact r.elim
  | sl l => obtain ⟨a, vs, rfl, _⟩ := r; rfl
theorem RepO.non {G : Gd} {S H : Hp} {t : T} {v : V} (e : t.d = .non) (r : RepO G.K S H t v) : v = .non := by
  cases t with
  | st d => cases e; cases r; rfl
  | fr l => exact r.elim
  | sl l => cases e
theorem r2_isN : R2Ok K (fun x y H Q => y = .non ∧ Q (.bl (decide (x = .non))) H) dIsN := by
  intro G S O σ H ρ t u z x y Q eK st r1 r2 hz k
  subst eK
  unfold dIsN at hz
  split at hz
  · rename_i e2
    cases hz
    exact ⟨RepO.non e2 r2, done_st st (by rw [RepO.isNon r1]; exact .bl _) k⟩
  · cases hz
theorem r2_notN : R2Ok K (fun x y H Q => y = .non ∧ Q (.bl (!decide (x = .non))) H) dNotN := by
  intro G S O σ H ρ t u z x y Q eK st r1 r2 hz k
  subst eK
  unfold dNotN at hz
  split at hz
  · rename_i e2
    cases hz
    exact ⟨RepO.non e2 r2, done_st st (by rw [RepO.isNon r1]; exact .bl _) k⟩
  · cases hz
end

/-! ### the rules by name -/
section
variable {X : Cx} {W : WX} {a b : Expr} {m n : ME} {pos : Pos}
theorem dx_add (ha : DX X W a m) (hb : DX X W b n) : DX X W (.BinOp a .Add b pos) (e2 dAdd m n) := dx_op op_addA r2_add ha hb
theorem dx_sub (ha : DX X W a m) (hb : DX X W b n) : DX X W (.BinOp a .Sub b pos) (e2 dSub m n) := dx_op op_sub r2_sub ha hb
theorem dx_mul (ha : DX X W a m) (hb : DX X W b n) : DX X W (.BinOp a .Mult b pos) (e2 dMul m n) := dx_op op_mulF r2_mul ha hb
theorem dx_mod (ha : DX X W a m) (hb : DX X W b n) : DX X W (.BinOp a .Mod b pos) (e2 dMod m n) := dx_op op_mod r2_mod ha hb
theorem dx_div (ha : DX X W a m) (hb : DX X W b n) : DX X W (.BinOp a .FloorDiv b pos) (e2 dDiv m n) := dx_op op_fdivW r2_div ha hb
theorem dx_pow (ha : DX X W a m) (hb : DX X W b n) : DX X W (.BinOp a .Pow b pos) (e2 dPow m n) := dx_op op_pow r2_pow ha hb
theorem dx_neg (ha : DX X W a m) : DX X W (.UnaryOp .USub a pos) (e1 dNeg m) := dx_un un_neg r1_neg ha
theorem dx_lt (ha : DX X W a m) (hb : DX X W b n) : DX X W (.Compare a [.Lt] [b] pos) (e2 dLt m n) := dx_cmp op_lt r2_cmp (nomark _) ha hb
theorem dx_le (ha : DX X W a m) (hb : DX X W b n) : DX X W (.Compare a [.LtE] [b] pos) (e2 dLe m n) := dx_cmp op_le r2_cmp (nomark _) ha hb
theorem dx_gt (ha : DX X W a m) (hb : DX X W b n) : DX X W (.Compare a [.Gt] [b] pos) (e2 dGt m n) := dx_cmp op_gt r2_cmp (nomark _) ha hb
theorem dx_ge (ha : DX X W a m) (hb : DX X W b n) : DX X W (.Compare a [.GtE] [b] pos) (e2 dGe m n) := dx_cmp op_ge r2_cmp (nomark _) ha hb
theorem dx_eq (hu : X.A.units + 64 < cLine) (ha : DX X W a m) (hb : DX X W b n) : DX X W (.Compare a [.Eq] [b] pos) (e2 dEq m n) := dx_cmp (op_eqD hu) r2_eq (nomark _) ha hb
theorem dx_ne (hu : X.A.units + 64 < cLine) (ha : DX X W a m) (hb : DX X W b n) : DX X W (.Compare a [.NotEq] [b] pos) (e2 dNe m n) := dx_cmp (op_neD hu) r2_ne (nomark _) ha hb
theorem dx_isN (ha : DX X W a m) (hb : DX X W b n) : DX X W (.Compare a [.Is] [b] pos) (e2 dIsN m n) := dx_cmp op_isN r2_isN (nomark _) ha hb
theorem dx_notN (ha : DX X W a m) (hb : DX X W b n) : DX X W (.Compare a [.IsNot] [b] pos) (e2 dNotN m n) := dx_cmp op_notN r2_notN (nomark _) ha hb
theorem dt_lt (ha : DX X W a m) (hb : DX X W b n) : DT X W (.Compare a [.Lt] [b] pos) (cV (e2 dLt m n)) := dt_cmp op_lt r2_cmp (nomark _) ha hb
theorem dt_le (ha : DX X W a m) (hb : DX X W b n) : DT X W (.Compare a [.LtE] [b] pos) (cV (e2 dLe m n)) := dt_cmp op_le r2_cmp (nomark _) ha hb
theorem dt_gt (ha : DX X W a m) (hb : DX X W b n) : DT X W (.Compare a [.Gt] [b] pos) (cV (e2 dGt m n)) := dt_cmp op_gt r2_cmp (nomark _) ha hb
theorem dt_ge (ha : DX X W a m) (hb : DX X W b n) : DT X W (.Compare a [.GtE] [b] pos) (cV (e2 dGe m n)) := dt_cmp op_ge r2_cmp (nomark _) ha hb
theorem dt_eq (hu : X.A.units + 64 < cLine) (ha : DX X W a m) (hb : DX X W b n) : DT X W (.Compare a [.Eq] [b] pos) (cV (e2 dEq m n)) := dt_cmp (op_eqD hu) r2_eq (nomark _) ha hb
theorem dt_ne (hu : X.A.units + 64 < cLine) (ha : DX X W a m) (hb : DX X W b n) : DT X W (.Compare a [.NotEq] [b] pos) (cV (e2 dNe m n)) := dt_cmp (op_neD hu) r2_ne (nomark _) ha hb
theorem dt_isN (ha : DX X W a m) (hb : DX X W b n) : DT X W (.Compare a [.Is] [b] pos) (cV (e2 dIsN m n)) := dt_cmp op_isN r2_isN (nomark _) ha hb
theorem dt_notN (ha : DX X W a m) (hb : DX X W b n) : DT X W (.Compare a [.IsNot] [b] pos) (cV (e2 dNotN m n)) := dt_cmp op_notN r2_notN (nomark _) ha hb
end
end RF

set_option Elab.async false
set_option linter.all false
set_option maxRecDepth 100000
set_option autoImplicit false
/-! RF, part D: built-ins, subscripts, calls of defs -/
namespace RF
open PySem PySem.Spec L2

section
variable {K : PySem.W.Frag}
theorem RepOs.one {S H : Hp} {ts : List T} {xs : List V} {d : D} (r : RepOs K S H ts xs) (e : ts.map T.d = [d]) : ∃ t x, ts = [t] ∧ xs = [x] ∧ t.d = d ∧ RepO K S H t x := by
  cases r with
  | nil => cases e
  | cons h q =>
    cases q with
    | nil =>
      cases e
      exact ⟨_, _, rfl, rfl, rfl, h⟩
    | cons h2 q2 => cases e
theorem RepOs.two {S H : Hp} {ts : List T} {xs : List V} {d e : D} (r : RepOs K S H ts xs) (h : ts.map T.d = [d, e]) : ∃ t u x y, ts = [t, u] ∧ xs = [x, y] ∧ t.d = d ∧ u.d = e ∧ RepO K S H t x ∧ RepO K S H u y := by
  cases r with
  | nil => cases h
  | cons h1 q =>
    cases q with
    | nil => cases h
    | cons h2 q2 =>
      cases q2 with
      | nil =>
        cases h
        exact ⟨_, _, _, _, rfl, rfl, rfl, rfl, h1, h2⟩
      | cons h3 q3 => cases h

/-! ### len, list, abs, max, min, int, sum, all -/
def bLen : List D → Option T
  | [.lst l] => some (.st (.int l.length))
  | [.tup l] => some (.st (.int l.length))
  | [.str x] => if x.length ≤ big then some (.st (.int x.length)) else none
  | _ => none
def rLenA (K : PySem.W.Frag) : List V → Hp → VK → Prop := fun xs H Q => (∃ p ys, xs = [.ref p] ∧ (SqL K H p ys ∨ SqT K H p ys) ∧ Q (.int ys.length) H) ∨ (∃ z, xs = [.str z] ∧ z.length ≤ sizeLine ∧ Q (.int z.length) H)
theorem call_lenA {X : Cx} : CallR X (.builtin "len") (rLenA X.K) := CallR.or call_len_seq call_len_str
theorem ra_len : RAOk K (rLenA K) bLen := by
  intro G S O σ H ρ ts z xs Q eK st r hz k
  subst eK
  unfold bLen at hz
  split at hz
  · rename_i l e
    cases hz
    obtain ⟨t, x, rfl, rfl, e1, r1⟩ := r.one e
    obtain ⟨p, vs, rfl, h1, q1⟩ := RepO.lst e1 st.exS r1
    exact .inl ⟨p, vs, rfl, .inl h1, by rw [← q1.length]; exact done_st st (.int _) k⟩
  · rename_i l e
    cases hz
    obtain ⟨t, x, rfl, rfl, e1, r1⟩ := r.one e
    obtain ⟨p, vs, rfl, h1, q1⟩ := RepO.tup e1 st.exS r1
    exact .inl ⟨p, vs, rfl, .inr h1, by rw [← q1.length]; exact done_st st (.int _) k⟩
  · rename_i s e
    split at hz
    · rename_i hl
      cases hz
      obtain ⟨t, x, rfl, rfl, e1, r1⟩ := r.one e
      rw [RepO.str e1 r1]
      exact .inr ⟨s, rfl, sz_of hl, done_st st (.int _) k⟩
    · cases hz
  · cases hz
def bList : List D → Option T
  | [.lst l] => some (.fr l)
  | [.tup l] => some (.fr l)
  | _ => none
theorem ra_list : RAOk K (fun xs H Q => ∃ p ys, xs = [.ref p] ∧ (SqL K H p ys ∨ SqT K H p ys) ∧ ∀ l, H l = none → Q (.ref l) (upd H l (.lst ys))) bList := by
  intro G S O σ H ρ ts z xs Q eK st r hz k
  subst eK
  unfold bList at hz
  split at hz
  · rename_i l e
    cases hz
    obtain ⟨t, x, rfl, rfl, e1, r1⟩ := r.one e
    obtain ⟨p, vs, rfl, h1, q1⟩ := RepO.lst e1 st.exS r1
    exact ⟨p, vs, rfl, .inl h1, fun l hl => done_fr st hl q1 k⟩
  · rename_i l e
    cases hz
    obtain ⟨t, x, rfl, rfl, e1, r1⟩ := r.one e
    obtain ⟨p, vs, rfl, h1, q1⟩ := RepO.tup e1 st.exS r1
    exact ⟨p, vs, rfl, .inr h1, fun l hl => done_fr st hl q1 k⟩
  · cases hz
def bI1 (g : Int → Int) : List D → Option T
  | [.int i] => some (.st (.int (g i)))
  | _ => none
abbrev bAbs : List D → Option T := bI1 fun i => if i < 0 then -i else i
theorem ra_i1 {g : Int → Int} : RAOk K (fun xs H Q => ∃ i, xs = [.int i] ∧ Q (.int (g i)) H) (bI1 g) := by
  intro G S O σ H ρ ts z xs Q eK st r hz k
  subst eK
  unfold bI1 at hz
  split at hz
  · rename_i i e
    cases hz
    obtain ⟨t, x, rfl, rfl, e1, r1⟩ := r.one e
    rw [RepO.int e1 r1]
    exact ⟨i, rfl, done_st st (.int _) k⟩
  · cases hz
def bI2 (g : Int → Int → Int) : List D → Option T
  | [.int i, .int j] => some (.st (.int (g i j)))
  | _ => none
abbrev bMax : List D → Option T := bI2 fun i j => if j > i then j else i
abbrev bMin : List D → Option T := bI2 fun i j => if j < i then j else i
theorem ra_i2 {g : Int → Int → Int} : RAOk K (fun xs H Q => ∃ i j, xs = [.int i, .int j] ∧ Q (.int (g i j)) H) (bI2 g) := by
  intro G S O σ H ρ ts z xs Q eK st r hz k
  subst eK
  unfold bI2 at hz
  split at hz
  · rename_i i j e
    cases hz
    obtain ⟨t, u, x, y, rfl, rfl, e1, e2, r1, r2⟩ := r.two e
    rw [RepO.int e1 r1, RepO.int e2 r2]
    exact ⟨i, j, rfl, done_st st (.int _) k⟩
  · cases hz
def bInt : List D → Option T
  | [.int i] => some (.st (.int i))
  | [.bl b] => some (.st (.int (if b then 1 else 0)))
  | _ => none
theorem ra_int : RAOk K (fun xs H Q => (∃ i, xs = [.int i] ∧ Q (.int i) H) ∨ ∃ k, xs = [.bl k] ∧ Q (.int (if k then 1 else 0)) H) bInt := by
  intro G S O σ H ρ ts z xs Q eK st r hz k
  subst eK
  unfold bInt at hz
  split at hz
  · rename_i i e
    cases hz
    obtain ⟨t, x, rfl, rfl, e1, r1⟩ := r.one e
    rw [RepO.int e1 r1]
    exact .inl ⟨i, rfl, done_st st (.int _) k⟩
  · rename_i i e
    cases hz
    obtain ⟨t, x, rfl, rfl, e1, r1⟩ := r.one e
    rw [RepO.bl e1 r1]
    exact .inr ⟨i, rfl, done_st st (.int _) k⟩
  · cases hz
/-- the ints of a list of ints -/
def intsOf : List D → Option (List Int)
  | [] => some []
  | .int i :: ds => (intsOf ds).map fun l => i :: l
  | _ :: _ => none
def blsOf : List D → Option (List Bool)
  | [] => some []
  | .bl i :: ds => (blsOf ds).map fun l => i :: l
  | _ :: _ => none
theorem intsOf_map : ∀ l : List Int, intsOf (l.map D.int) = some l
  | [] => rfl
  | i :: l => by rw [List.map_cons]; unfold intsOf; rw [intsOf_map l]; rfl
theorem blsOf_map : ∀ l : List Bool, blsOf (l.map D.bl) = some l
  | [] => rfl
  | i :: l => by rw [List.map_cons]; unfold blsOf; rw [blsOf_map l]; rfl
theorem Reps.ints {S : Hp} : ∀ {ds : List D} {vs : List V} {l : List Int}, Reps K S ds vs → intsOf ds = some l → vs = l.map V.int
  | _, _, _, .nil, e => by cases e; rfl
  | .int i :: ds, _, _, .cons h r, e => by
    unfold intsOf at e
    cases hz : intsOf ds with
    | none => rw [hz] at e; cases e
    | some l' =>
      rw [hz] at e
      cases e
      cases h
      rw [List.map_cons, Reps.ints r hz]
  | .non :: _, _, _, .cons h r, e => by cases e
  | .bl _ :: _, _, _, .cons h r, e => by cases e
  | .str _ :: _, _, _, .cons h r, e => by cases e
  | .lst _ :: _, _, _, .cons h r, e => by cases e
  | .tup _ :: _, _, _, .cons h r, e => by cases e
  | .obj _ _ _ :: _, _, _, .cons h r, e => by cases e
  | .exc _ _ _ :: _, _, _, .cons h r, e => by cases e
theorem Reps.bls {S : Hp} : ∀ {ds : List D} {vs : List V} {l : List Bool}, Reps K S ds vs → blsOf ds = some l → vs = l.map V.bl
  | _, _, _, .nil, e => by cases e; rfl
  | .bl i :: ds, _, _, .cons h r, e => by
    unfold blsOf at e
    cases hz : blsOf ds with
    | none => rw [hz] at e; cases e
    | some l' =>
      rw [hz] at e
      cases e
      cases h
      rw [List.map_cons, Reps.bls r hz]
  | .non :: _, _, _, .cons h r, e => by cases e
  | .int _ :: _, _, _, .cons h r, e => by cases e
  | .str _ :: _, _, _, .cons h r, e => by cases e
  | .lst _ :: _, _, _, .cons h r, e => by cases e
  | .tup _ :: _, _, _, .cons h r, e => by cases e
  | .obj _ _ _ :: _, _, _, .cons h r, e => by cases e
  | .exc _ _ _ :: _, _, _, .cons h r, e => by cases e
theorem Reps.ofInts {S : Hp} : ∀ l : List Int, Reps K S (l.map D.int) (l.map V.int)
  | [] => .nil
  | i :: l => .cons (.int i) (Reps.ofInts l)
def bSum : List D → Option T
  | [.lst l] => (intsOf l).map fun ns => .st (.int ns.sum)
  | _ => none
theorem ra_sum : RAOk K (rSum K) bSum := by
  intro G S O σ H ρ ts z xs Q eK st r hz k
  subst eK
  unfold bSum at hz
  split at hz
  · rename_i l e
    cases hi : intsOf l with
    | none => rw [hi] at hz; cases hz
    | some ns =>
      rw [hi] at hz
      cases hz
      obtain ⟨t, x, rfl, rfl, e1, r1⟩ := r.one e
      obtain ⟨p, vs, rfl, h1, q1⟩ := RepO.lst e1 st.exS r1
      exact ⟨p, ns, rfl, by rw [← q1.ints hi]; exact h1, done_st st (.int _) k⟩
  · cases hz
def bAll : List D → Option T
  | [.lst l] => (blsOf l).map fun ns => .st (.bl (ns.all id))
  | _ => none
theorem ra_all : RAOk K (rAll K) bAll := by
  intro G S O σ H ρ ts z xs Q eK st r hz k
  subst eK
  unfold bAll at hz
  split at hz
  · rename_i l e
    cases hi : blsOf l with
    | none => rw [hi] at hz; cases hz
    | some ns =>
      rw [hi] at hz
      cases hz
      obtain ⟨t, x, rfl, rfl, e1, r1⟩ := r.one e
      obtain ⟨p, vs, rfl, h1, q1⟩ := RepO.lst e1 st.exS r1
      exact ⟨p, ns, rfl, by rw [← q1.bls hi]; exact h1, done_st st (.bl _) k⟩
  · cases hz

/-! ### isinstance of a built-in class -/
def isiD (c : String) : D → Option Bool
  | .non => some false
  | .bl _ => some (c == "int" || c == "bool")
  | .int _ => some (c == "int")
  | .str _ => some (c == "str")
  | .lst _ => some (c == "list")
  | .tup _ => some (c == "tuple")
  | _ => none
theorem TyX.list {H : Hp} {a : Addr} {xs : List V} (h : SqL K H a xs) : TyX K H (.ref a) (.type "list") := by
  rcases h with (h | ⟨o, h⟩) | ⟨o, its, n, hk, hc, _⟩
  · exact .base (.lst h)
  · exact .base (.frz h)
  · exact .kList hk hc
theorem TyX.tuple {H : Hp} {a : Addr} {xs : List V} (h : SqT K H a xs) : TyX K H (.ref a) (.type "tuple") := by
  rcases h with (h | ⟨o, h⟩) | ⟨o, its, n, hk, hc, _⟩
  · exact .base (.tup h)
  · exact .fTuple h
  · exact .kTuple hk hc
theorem Rep.ty {H : Hp} {d : D} {v : V} {c : String} {b : Bool} (h : Rep K H d v) (hc : c = "int" ∨ c = "bool" ∨ c = "str" ∨ c = "list" ∨ c = "tuple") (hb : isiD c d = some b) : ∃ n, TyX K H v (.type n) ∧ PySem.W.kitOne K (.type n) (.type c) = some b := by
  cases h with
  | non => exact ⟨"NoneType", .base .non, kit_ty (by rcases hc with rfl | rfl | rfl | rfl | rfl <;> cases hb <;> decide +kernel)⟩
  | bl x => exact ⟨"bool", .base (.bl x), kit_ty (by rcases hc with rfl | rfl | rfl | rfl | rfl <;> cases hb <;> decide +kernel)⟩
  | int x => exact ⟨"int", .base (.int x), kit_ty (by rcases hc with rfl | rfl | rfl | rfl | rfl <;> cases hb <;> decide +kernel)⟩
  | str x => exact ⟨"str", .base (.str x), kit_ty (by rcases hc with rfl | rfl | rfl | rfl | rfl <;> cases hb <;> decide +kernel)⟩
  | lst h r => exact ⟨"list", TyX.list h, kit_ty (by rcases hc with rfl | rfl | rfl | rfl | rfl <;> cases hb <;> decide +kernel)⟩
  | tup h r => exact ⟨"tuple", TyX.tuple h, kit_ty (by rcases hc with rfl | rfl | rfl | rfl | rfl <;> cases hb <;> decide +kernel)⟩
  | obj _ _ _ => cases hb
  | exc0 _ => cases hb
  | exc1 _ _ _ _ => cases hb
def eIsi (c : String) (m : ME) : ME := fun ρ => (m ρ).bind fun t => lift ((isiD c t.d).map fun b => T.st (.bl b))
theorem dx_isi {X : Cx} {W : WX} {e : Expr} {m : ME} {c : String} {x : Str} {p p2 pos : Pos} (hc : c = "int" ∨ c = "bool" ∨ c = "str" ∨ c = "list" ∨ c = "tuple") (he : DX X W e m) (hg : Gl X "isinstance") (hm : X.mg "isinstance" = none) (hg2 : Gl X x) (hm2 : X.mg x = none)
    (hv2 : bootBuiltins x = some (.type c)) (hv : bootBuiltins "isinstance" = some (.builtin "isinstance")) (hn : x ≠ "__name__" := by decide) (hdb : (x == ("__debug__" : Str)) = false := by decide)
    (h1 : starEach (e :: [.Name x p2]) X.env = (false, eval e X.env) :: starEach [.Name x p2] X.env := by rfl) (h2 : (backTo pos (starEach [.Name x p2] X.env)).any (·.1) = false := by rfl) (h3 : starEach [.Name x p2] X.env = (false, eval (.Name x p2) X.env) :: starEach [] X.env := by rfl) :
    DX X W (.Call (.Name "isinstance" p) [e, .Name x p2] [] pos) (eIsi c m) := by
  refine ⟨PE.weak (pe_callB call_isi hg hm hv (pa_cons he.pe (pa_cons (pe_bltn (v := .ty c) hg2 hm2 hv2 rfl hn hdb) pa_nil h3) h1) (by decide) (by decide) h1 h2) ?_⟩
  rintro σ H Q ⟨G, S, O, ρ, eK, st, q⟩
  refine ⟨G, S, O, ρ, eK, st, Fin.bind (rep' := rT G O) q fun t x S1 H1 s1 k1 st1 rp q1 => ?_⟩
  obtain ⟨S2, s2, st2, ro⟩ := RepT.settle st1 rp
  rw [eK] at ro
  cases hb : isiD c t.d with
  | none => rw [hb] at q1; exact q1.elim
  | some b =>
    rw [hb] at q1
    obtain ⟨n, ty, ki⟩ := Rep.ty (by rw [← T.set_d t] at hb; exact ro.whole st2.exS) hc (by rw [T.set_d]; exact hb)
    exact ⟨x, .ty c, _, _, b, rfl, .ty c, ty, ki, q1 _ S1 H1 (Same.refl _) (Same.refl _) st1 (.bl b)⟩

/-! ### subscripts -/
def strOf (c : Nat) : Str := ⟨#[c]⟩
def dIx : D → D → Option T
  | .lst l, .int i => (atI l i).map T.st
  | .tup l, .int i => (atI l i).map T.st
  | .str x, .int i => if x.length ≤ big then (atI x.cps.toList i).map fun c => T.st (.str (strOf c)) else none
  | _, _ => none
theorem Reps.atI {S : Hp} {ds : List D} {vs : List V} {i : Int} {d : D} (r : Reps K S ds vs) (h : L2.atI ds i = some d) : ∃ v, L2.atI vs i = some v ∧ Rep K S d v := by
  unfold L2.atI at h ⊢
  rw [← r.length]
  cases hj : ixN ds.length i with
  | none => rw [hj] at h; cases h
  | some j =>
    rw [hj] at h
    exact r.get h
theorem r2_ix : R2Ok K (rIx K) dIx := by
  intro G S O σ H ρ t u z x y Q eK st r1 r2 hz k
  subst eK
  unfold dIx at hz
  split at hz
  · rename_i l i e1 e2
    cases ha : atI l i with
    | none => rw [ha] at hz; cases hz
    | some d =>
      rw [ha] at hz
      cases hz
      obtain ⟨p, vs, rfl, h1, q1⟩ := RepO.lst e1 st.exS r1
      obtain ⟨v, h2, h3⟩ := q1.atI ha
      exact .inl ⟨p, vs, i, v, rfl, RepO.int e2 r2, h1, h2, done_st st h3 k⟩
  · rename_i l i e1 e2
    cases ha : atI l i with
    | none => rw [ha] at hz; cases hz
    | some d =>
      rw [ha] at hz
      cases hz
      obtain ⟨p, vs, rfl, h1, q1⟩ := RepO.tup e1 st.exS r1
      obtain ⟨v, h2, h3⟩ := q1.atI ha
      exact .inr (.inl ⟨p, vs, i, v, rfl, RepO.int e2 r2, h1, h2, done_st st h3 k⟩)
  · rename_i l i e1 e2
    split at hz
    · rename_i hl
      cases ha : atI l.cps.toList i with
      | none => rw [ha] at hz; cases hz
      | some d =>
        rw [ha] at hz
        cases hz
        exact .inr (.inr ⟨l, i, d, RepO.str e1 r1, RepO.int e2 r2, sz_of hl, ha, done_st st (.str _) k⟩)
    · cases hz
  · cases hz
theorem dx_ix {X : Cx} {W : WX} {a b : Expr} {m n : ME} {pos : Pos} (ha : DX X W a m) (hb : DX X W b n) (hs : PlainIx b := by exact fun _ _ => rfl) : DX X W (.Subscript a b pos) (e2 dIx m n) :=
  ⟨PE.weak (pe_ix ix_seq ha.pe hb.pe hs) (step2 r2_ix)⟩

/-! ### slices -/
abbrev MO := Env → R (Option Int)
abbrev rOI : Hp → Hp → Option Int → Option Int → Prop := fun _ _ a b => a = b
def tO (K : PySem.W.Frag) (W : WX) (m : MO) : TO := fun σ H Q => ∃ G S O ρ, G.K = K ∧ StR G S O σ H ρ ∧ Fin W rOI (m ρ) G S O σ H ρ Q
structure DO (X : Cx) (W : WX) (e : Option Expr) (m : MO) : Prop where
  po : PO X e (tO X.K W m)
theorem PO.weak {X : Cx} {e : Option Expr} {t t' : TO} (h : PO X e t) (k : ∀ σ H Q, t' σ H Q → t σ H Q) : PO X e t' := ⟨fun pins s σ H Q I q => h.run pins s σ H Q I (k σ H Q q)⟩
def oN : MO := fun _ => .ok none
def dInt : D → Option Int
  | .int i => some i
  | _ => none
def oS (m : ME) : MO := fun ρ => (m ρ).bind fun t => lift ((dInt t.d).map some)
theorem do_none {X : Cx} {W : WX} : DO X W none oN := ⟨PO.weak po_none fun σ H Q ⟨G, S, O, ρ, eK, st, q⟩ => q none S H (Same.refl _) (Same.refl _) st rfl⟩
theorem do_some {X : Cx} {W : WX} {e : Expr} {m : ME} (h : DX X W e m) : DO X W (some e) (oS m) := by
  refine ⟨PO.weak (po_some h.pe) ?_⟩
  rintro σ H Q ⟨G, S, O, ρ, eK, st, q⟩
  refine ⟨G, S, O, ρ, eK, st, Fin.bind (rep' := rT G O) q fun t x S1 H1 s1 k1 st1 rp q1 => ?_⟩
  cases t with
  | st z =>
    cases z with
    | int i =>
      cases rp
      exact ⟨i, rfl, q1 _ S1 H1 (Same.refl _) (Same.refl _) st1 rfl⟩
    | _ => exact q1.elim
  | fr l => exact q1.elim
  | sl l => exact q1.elim
def cutD (xs : List D) (lo hi : Option Int) : List D := (xs.drop (HT.sIx xs.length 0 lo)).take (HT.sIx xs.length xs.length hi - HT.sIx xs.length 0 lo)
def dSl (d : D) (lo hi : Option Int) : Option T := match d with
  | .lst l => some (.fr (cutD l lo hi))
  | .str x => if x.length ≤ big then some (.st (.str (cutS x lo hi))) else none
  | _ => none
def eSl (m : ME) (lo hi : MO) : ME := fun ρ => (m ρ).bind fun t => (lo ρ).bind fun l => (hi ρ).bind fun h => lift (dSl t.d l h)
theorem Reps.cut {S : Hp} {ds : List D} {vs : List V} (r : Reps K S ds vs) (lo hi : Option Int) : Reps K S (cutD ds lo hi) (cutV vs lo hi) := by
  unfold cutD cutV
  rw [← r.length]
  exact (r.drop _).take _
def rSlA (K : PySem.W.Frag) : V → Option Int → Option Int → Hp → VK → Prop := fun x lo hi H Q => rSlL K x lo hi H Q ∨ rSlS x lo hi H Q
theorem dx_sl {X : Cx} {W : WX} {e : Expr} {lo hi : Option Expr} {m : ME} {l h : MO} {p2 pos : Pos} (he : DX X W e m) (hl : DO X W lo l) (hh : DO X W hi h) : DX X W (.Subscript e (.Slice lo hi none p2) pos) (eSl m l h) := by
  refine ⟨PE.weak (pe_slice (SlR.or sl_list sl_str) he.pe hl.po hh.po) ?_⟩
  rintro σ H Q ⟨G, S, O, ρ, eK, st, q⟩
  refine ⟨G, S, O, ρ, eK, st, Fin.bind (rep' := rT G O) q fun t x S1 H1 s1 k1 st1 rp q1 => ?_⟩
  obtain ⟨S2, s2, st2, ro⟩ := RepT.settle st1 rp
  refine ⟨G, S2, O, ρ, eK, st2, Fin.bind (rep' := rOI) (q1.mono s2 (Same.refl H1)) fun u y S3 H3 s3 k3 st3 rp3 q3 => ?_⟩
  cases rp3
  refine ⟨G, S3, O, ρ, eK, st3, Fin.bind (rep' := rOI) q3 fun w y S4 H4 s4 k4 st4 rp4 q4 => ?_⟩
  cases rp4
  have ro4 := ro.mono (s3.trans s4) (k3.trans k4)
  cases hz : dSl t.d u w with
  | none => rw [hz] at q4; exact q4.elim
  | some z =>
    rw [hz] at q4
    unfold dSl at hz
    split at hz
    · rename_i l e1
      cases hz
      obtain ⟨p, vs, rfl, h1, r1⟩ := RepO.lst (G := G) (by rw [T.set_d]; exact e1) st4.exS ro4
      exact .inl ⟨p, vs, rfl, by rw [← eK]; exact h1, fun p' hp => done_fr st4 hp (r1.cut u w) q4⟩
    · rename_i xs e1
      split at hz
      · rename_i hl
        cases hz
        exact .inr ⟨xs, RepO.str (G := G) (by rw [T.set_d]; exact e1) ro4, sz_of hl, done_st st4 (.str _) q4⟩
      · cases hz
    · cases hz

/-! ### attributes of an instance -/
def fldD (C : Cl) (f : Str) : D → Option T
  | .obj C' ks l => if C' = C then ((ks.zip l).lookup f).map T.st else none
  | _ => none
theorem lookup_reps {S : Hp} {f : Str} : ∀ {ks : List Str} {l : List D} {vs : List V} {d : D}, Reps K S l vs → (ks.zip l).lookup f = some d → ∃ v, (ks.zip vs).lookup f = some v ∧ Rep K S d v
  | [], _, _, _, _, e => by cases e
  | _ :: _, [], _, _, _, e => by cases e
  | k :: ks, d' :: l, _, d, .cons (v := v) (vs := vs) h r, e => by
    rw [List.zip_cons_cons, List.lookup_cons] at e ⊢
    cases hk : f == k with
    | true =>
      rw [hk] at e
      cases e
      exact ⟨v, rfl, h⟩
    | false =>
      rw [hk] at e
      exact lookup_reps r e
theorem dx_fld {X : Cx} {W : WX} {e : Expr} {m : ME} {f : Str} {pos : Pos} (C : Cl) (hcl : Cls X.K (adK X.K C)) (hna : NoAttr X.K (adK X.K C) f) (he : DX X W e m) (hb : attributeBase e f X.env (eval e X.env) = eval e X.env := by rfl) : DX X W (.Attribute e f pos) (e1 (fldD C f) m) := by
  refine ⟨PE.weak (pe_fld he.pe hb) fun σ H Q h => ?_⟩
  refine step1 (r := fun x H Q => ∃ a C dx fs v, x = .ref a ∧ H a = some (.ins C dx fs) ∧ Cls X.K C ∧ NoAttr X.K C f ∧ fs.lookup f = some v ∧ Q v H) ?_ σ H Q h
  intro G S O σ H ρ t z x Q eK st r1 hz k
  rw [← eK] at r1
  unfold fldD at hz
  split at hz
  · rename_i C' ks l e1
    split at hz
    · rename_i ec
      subst ec
      cases hl : (ks.zip l).lookup f with
      | none => rw [hl] at hz; cases hz
      | some d =>
        rw [hl] at hz
        cases hz
        obtain ⟨a, dx, vs, rfl, h1, h2, q1⟩ := RepO.obj e1 st.exS r1
        obtain ⟨v, h3, h4⟩ := lookup_reps q1 hl
        exact ⟨a, adK G.K C', dx, _, v, rfl, h1, by rw [eK]; exact hcl, by rw [eK]; exact hna, h3, done_st st h4 k⟩
    · cases hz
  · cases hz
end
end RF

set_option Elab.async false
set_option linter.all false
set_option maxRecDepth 100000
set_option autoImplicit false
/-! RF, part E: calls of defs -/
namespace RF
open PySem PySem.Spec L2

/-! ### a def's promise, by its pure meaning -/
/-- what a call hands back: a list is a new one -/
def ResT (K : PySem.W.Frag) (B S' H' : Hp) : T → V → Prop
  | .st d, v => Rep K S' d v
  | .fr l, v => ∃ a vs, v = .ref a ∧ S' a = none ∧ B a = none ∧ H' a = some (.lst vs) ∧ Reps K S' l vs
  | .sl _, _ => False
structure Grown (H S0 H' S' : Hp) : Prop where
  eH : Ex H H'
  eS : Ex S0 S'
  sub : Ex S' H'
  new : ∀ b, S' b ≠ none → S0 b ≠ none ∨ H b = none
def spD (K : PySem.W.Frag) (n : Nat) (f : List D → R T) : Sp := fun vs H Q E => ∃ S0 ds, ds.length = n ∧ Ex S0 H ∧ Reps K S0 ds vs ∧ match f ds with
  | .bad => False
  | .ok t => ∀ v S' H', Grown H S0 H' S' → ResT K H S' H' t v → Q v H'
  | .ex x => ∀ d S' H', Grown H S0 H' S' → XcR K S' x d → E (.ref (adK K x.C)) d H'

def flatT : T → Bool
  | .st d => flatD d
  | .fr l => l.all flatD
  | .sl _ => false
def dropR : R T → R T
  | .bad => .bad
  | .ok t => if flatT t = true then .ok t else .bad
  | .ex x => if x.l.all flatD = true then .ex x else .bad
def callD (n : Nat) (g : List D → R T) (ts : List T) : R T := if ts.length = n then (if ts.all isSt = true then g (ts.map T.d) else dropR (g (ts.map T.d))) else .bad
def eCall (n : Nat) (g : List D → R T) (ma : MA) : ME := fun ρ => (ma ρ).bind (callD n g)

theorem RepOs.reps {K : PySem.W.Frag} {S H : Hp} : ∀ {ts : List T} {vs : List V}, RepOs K S H ts vs → ts.all isSt = true → Reps K S (ts.map T.d) vs
  | _, _, .nil, _ => .nil
  | .st d :: ts, _, .cons h r, e => .cons h (RepOs.reps r (by simpa [isSt] using e))
  | .fr l :: ts, _, .cons h r, e => h.elim
  | .sl l :: ts, _, .cons h r, e => by simp [isSt] at e
/-- the addresses of the operands that a slot holds alone -/
def slA : List T → List V → List Addr
  | .sl _ :: ts, .ref a :: vs => a :: slA ts vs
  | _ :: ts, _ :: vs => slA ts vs
  | _, _ => []
theorem slA_lst {K : PySem.W.Frag} {S H : Hp} : ∀ {ts : List T} {vs : List V}, RepOs K S H ts vs → ∀ a ∈ slA ts vs, ∃ xs, H a = some (.lst xs)
  | _, _, .nil, a, h => by cases h
  | .st d :: ts, v :: vs, .cons h r, a, e => slA_lst r a (by cases v <;> exact e)
  | .fr l :: ts, _, .cons h r, a, e => h.elim
  | .sl l :: ts, _, .cons h r, a, e => by
    obtain ⟨b, ws, rfl, hb, q⟩ := h
    rcases List.mem_cons.mp e with rfl | e
    · exact ⟨ws, hb⟩
    · exact slA_lst r a e
theorem RepOs.repsS {K : PySem.W.Frag} {S S0 H : Hp} (e0 : Ex S S0) : ∀ {ts : List T} {vs : List V}, RepOs K S H ts vs → (∀ a ∈ slA ts vs, S0 a = H a) → Reps K S0 (ts.map T.d) vs
  | _, _, .nil, _ => .nil
  | .st d :: ts, v :: vs, .cons h r, e => .cons (Rep.mono e0 h) (RepOs.repsS e0 r fun a q => e a (by cases v <;> exact q))
  | .fr l :: ts, _, .cons h r, e => h.elim
  | .sl l :: ts, _, .cons h r, e => by
    obtain ⟨b, ws, rfl, hb, q⟩ := h
    refine .cons (.lst (.inl (.inl ?_)) (q.mono e0)) (RepOs.repsS e0 r fun a q => e a (List.mem_cons_of_mem _ q))
    rw [e b List.mem_cons_self]
    exact hb
/-- data without lists lean on no list -/
theorem Rep.scal {K : PySem.W.Frag} {S S' : Hp} {d : D} {v : V} (h : Rep K S d v) (f : scalD d = true) : Rep K S' d v := by
  cases h with
  | non => exact .non
  | bl b => exact .bl b
  | int i => exact .int i
  | str x => exact .str x
  | _ => cases f
theorem Reps.scal {K : PySem.W.Frag} {S S' : Hp} : ∀ {ds : List D} {vs : List V}, Reps K S ds vs → ds.all scalD = true → Reps K S' ds vs
  | _, _, .nil, _ => .nil
  | d :: ds, _, .cons h r, f => by
    rw [List.all_cons, Bool.and_eq_true] at f
    exact .cons (h.scal f.1) (Reps.scal r f.2)
theorem Rep.flat {K : PySem.W.Frag} {S S' : Hp} (k : ∀ b o, S b = some o → (∀ xs, o ≠ .lst xs) → S' b = some o) {d : D} {v : V} (h : Rep K S d v) (f : flatD d = true) : Rep K S' d v := by
  cases h with
  | non => exact .non
  | bl b => exact .bl b
  | int i => exact .int i
  | str x => exact .str x
  | tup h r =>
    refine .tup ?_ (r.scal f)
    rcases h with (h | ⟨o, h⟩) | h
    · exact .inl (.inl (k _ _ h fun _ z => nomatch z))
    · exact .inl (.inr ⟨o, k _ _ h fun _ z => nomatch z⟩)
    · exact .inr h
  | _ => cases f
theorem Reps.flat {K : PySem.W.Frag} {S S' : Hp} (k : ∀ b o, S b = some o → (∀ xs, o ≠ .lst xs) → S' b = some o) : ∀ {ds : List D} {vs : List V}, Reps K S ds vs → ds.all flatD = true → Reps K S' ds vs
  | _, _, .nil, _ => .nil
  | d :: ds, _, .cons h r, f => by
    rw [List.all_cons, Bool.and_eq_true] at f
    exact .cons (h.flat k f.1) (Reps.flat k r f.2)

section
variable {G : Gd} {S : Hp} {O : Nat → List Addr} {σ : L2.St} {H : Hp} {ρ : Env}
/-- the state behind a call; L: what was let stand for the call alone -/
theorem StR.called {S' H' : Hp} (L : Addr → Prop) (st : StR G S O σ H ρ) (eH : Ex H H') (sub : ∀ b o, S' b = some o → H' b = some o) (eS : Ex S S') (new : ∀ b, S' b ≠ none → S b ≠ none ∨ H b = none) : StR G S' O σ H' ρ := by
  refine ⟨st.exB.trans eH, st.exS0.trans eS, sub, fun b hb => ?_, st.len, fun i s e => (st.slot i s e).mono eS fun a o _ q => eH a o q, fun i a q => ?_, fun i a q => ?_, st.apart, st.out⟩
  · rcases new b hb with z | z
    · exact st.new b z
    · refine .inr ?_
      cases e : G.B b with
      | none => rfl
      | some o => rw [st.exB b o e] at z; cases z
  · obtain ⟨z1, z2⟩ := st.off i a q
    refine ⟨?_, z2⟩
    cases e : S' a with
    | none => rfl
    | some o =>
      rcases new a (by rw [e]; simp) with z | z
      · exact absurd z1 z
      · exact absurd z (st.live i a q)
  · obtain ⟨o, e⟩ := Option.ne_none_iff_exists'.mp (st.live i a q)
    rw [eH a o e]
    simp
theorem none_of_B {a : Addr} (st : StR G S O σ H ρ) (h : H a = none) : G.B a = none := by
  cases e : G.B a with
  | none => rfl
  | some o => rw [st.exB a o e] at h; cases h
theorem step_call {W : WX} {n : Nat} {g : List D → R T} {ts : List T} {xs : List V} {Q : VK} {E : XK} (st : StR G S O σ H ρ) (r : RepOs G.K S H ts xs) (h : Fin W (rT G O) (callD n g ts) G S O σ H ρ Q) (hE : ∀ cls d H', W cls d σ H' → E cls d H') : spD G.K n g xs H Q E := by
  unfold callD at h
  split at h
  · rename_i hn
    split at h
    · rename_i ha
      refine ⟨S, ts.map T.d, by rw [List.length_map]; exact hn, st.exS, r.reps ha, ?_⟩
      cases hg : g (ts.map T.d) with
      | bad => rw [hg] at h; exact h
      | ok t =>
        rw [hg] at h
        intro v S' H' gr rt
        have st' := st.called (fun _ => False) gr.eH gr.sub gr.eS gr.new
        refine h v S' H' gr.eS gr.eH st' ?_
        cases t with
        | st d => exact rt
        | fr l =>
          obtain ⟨a, vs, e1, e2, e3, e4, e5⟩ := rt
          exact ⟨a, vs, e1, e2, none_of_B st e3, fun i q => st.live i a q e3, e4, e5⟩
        | sl l => exact rt.elim
      | ex x =>
        rw [hg] at h
        intro d S' H' gr xr
        have st' := st.called (fun _ => False) gr.eH gr.sub gr.eS gr.new
        exact hE _ _ _ (h d S' H' gr.eS gr.eH st' xr)
    · rename_i ha
      -- some operands are slots' own lists
      have hL := slA_lst r
      classical
      let L : Addr → Prop := fun b => b ∈ slA ts xs
      let S0 : Hp := fun b => if b ∈ slA ts xs then H b else S b
      have e0 : Ex S S0 := fun b o e => by
        show (if b ∈ slA ts xs then H b else S b) = some o
        split
        · exact st.exS b o e
        · exact e
      have s0 : Ex S0 H := fun b o e => by
        have e' : (if b ∈ slA ts xs then H b else S b) = some o := e
        split at e'
        · exact e'
        · exact st.exS b o e'
      have hs : ∀ a ∈ slA ts xs, S0 a = H a := fun a q => by
        show (if a ∈ slA ts xs then H a else S a) = H a
        rw [if_pos q]
      refine ⟨S0, ts.map T.d, by rw [List.length_map]; exact hn, s0, r.repsS e0 hs, ?_⟩
      -- behind the call the slots' lists are theirs again
      have back : ∀ (S' H' : Hp), Grown H S0 H' S' → ∃ S2 : Hp, Ex S S2 ∧ StR G S2 O σ H' ρ ∧ (∀ b o, S' b = some o → (∀ xs, o ≠ .lst xs) → S2 b = some o) ∧ (∀ b, S' b = none → S2 b = none) := by
        intro S' H' gr
        refine ⟨fun b => if b ∈ slA ts xs ∧ S b = none then none else S' b, fun b o e => ?_, ?_, fun b o e no => ?_, fun b e => ?_⟩
        · show (if b ∈ slA ts xs ∧ S b = none then none else S' b) = some o
          rw [if_neg (fun z => by rw [z.2] at e; cases e)]
          exact gr.eS b o (e0 b o e)
        · refine st.called (fun _ => False) gr.eH (fun b o e => ?_) (fun b o e => ?_) fun b hb => ?_
          · have e' : (if b ∈ slA ts xs ∧ S b = none then none else S' b) = some o := e
            split at e'
            · cases e'
            · exact gr.sub b o e'
          · show (if b ∈ slA ts xs ∧ S b = none then none else S' b) = some o
            rw [if_neg (fun z => by rw [z.2] at e; cases e)]
            exact gr.eS b o (e0 b o e)
          · have hb' : (if b ∈ slA ts xs ∧ S b = none then none else S' b) ≠ none := hb
            split at hb'
            · exact absurd rfl hb'
            · rename_i hc
              rcases gr.new b hb' with z | z
              · have z' : (if b ∈ slA ts xs then H b else S b) ≠ none := z
                split at z'
                · rename_i hm
                  refine .inl fun q => hc ⟨hm, q⟩
                · exact .inl z'
              · exact .inr z
        · show (if b ∈ slA ts xs ∧ S b = none then none else S' b) = some o
          rw [if_neg]
          · exact e
          · rintro ⟨hm, _⟩
            obtain ⟨ys, hy⟩ := hL b hm
            have z := gr.eS b (.lst ys) (by rw [hs b hm]; exact hy)
            rw [e] at z
            cases z
            exact no ys rfl
        · show (if b ∈ slA ts xs ∧ S b = none then none else S' b) = none
          split
          · rfl
          · exact e
      cases hg : g (ts.map T.d) with
      | bad => rw [hg] at h; exact h
      | ok t =>
        rw [hg] at h
        unfold dropR at h
        simp only at h
        split at h
        · rename_i hf
          intro v S' H' gr rt
          obtain ⟨S2, a1, a2, a3, a4⟩ := back S' H' gr
          refine h v S2 H' a1 gr.eH a2 ?_
          cases t with
          | st d => exact Rep.flat a3 rt hf
          | fr l =>
            obtain ⟨a, vs, e1, e2, e3, e4, e5⟩ := rt
            exact ⟨a, vs, e1, a4 a e2, none_of_B st e3, fun i q => st.live i a q e3, e4, e5.flat a3 hf⟩
          | sl l => exact rt.elim
        · exact h.elim
      | ex x =>
        rw [hg] at h
        unfold dropR at h
        simp only at h
        split at h
        · rename_i hf
          intro d S' H' gr xr
          obtain ⟨S2, a1, a2, a3, a4⟩ := back S' H' gr
          refine hE _ _ _ (h d S2 H' a1 gr.eH a2 ?_)
          rcases xr with xr | ⟨dx, vs, h1, h2, h3, h4⟩
          · exact .inl xr
          · exact .inr ⟨dx, vs, h1, a3 _ _ h2 (fun _ z => nomatch z), h3, h4.flat a3 hf⟩
        · exact h.elim
  · exact h.elim
end
theorem dx_call {X : Cx} {W : WX} {e : Expr} {es : List Expr} {ma : MA} {n k : Nat} {f : Addr} {fd : FuncData} {ps : List Str} {g : List D → R T} {x : Str} {p pos : Pos}
    (F : FnOk X.prog X.w X.K X.mg X.base (L2.CX X.prog X.w) k f fd ps (spD X.K n g)) (hr : Room k X.A) (hg : Gl X x) (hm : X.mg x = some (.ref f)) (hk : PySem.W.keepIn X.K (.ref f) = true) (hb : Binds X.K fd ps []) (hx : ∀ σ, PassesAt (L2.CX X.prog X.w) X σ (WE W σ))
    (ha : DA X W (e :: es) ma) (hdb : (x == ("__debug__" : Str)) = false := by decide) (he : starEach (e :: es) X.env = (false, eval e X.env) :: starEach es X.env := by rfl) (hpl : (backTo pos (starEach es X.env)).any (·.1) = false := by rfl) :
    DX X W (.Call (.Name x p) (e :: es) [] pos) (eCall n g ma) := by
  refine ⟨PE.weak (pe_callS F hr hg hm hk hb hx ha.pa hdb he hpl) ?_⟩
  rintro σ H Q ⟨G, S, O, ρ, eK, st, q⟩
  refine ⟨G, S, O, ρ, eK, st, Fin.bind (rep' := rTs G) q fun ts xs S1 H1 s1 k1 st1 rp q1 => ?_⟩
  rw [← eK]
  exact step_call st1 rp q1 fun _ _ _ z => z
end RF

set_option Elab.async false
set_option linter.all false
set_option maxRecDepth 100000
set_option autoImplicit false
/-! RF, part F: targets, what is walked, statements -/
namespace RF
open PySem PySem.Spec L2

/-! ### what a statement leads to -/
inductive Fl where
  | bad | nx (ρ : Env) | ct (ρ : Env) | bk (ρ : Env) | rt (t : T) | ex (ρ : Env) (x : Xc)
abbrev MS := Env → Fl
/-- what is handed back: a slot's own list is a new one then -/
def RetR (G : Gd) (H' S' : Hp) (t : T) (v : V) : Prop := Ex G.B H' ∧ Ex G.S0 S' ∧ Ex S' H' ∧ (∀ b, S' b ≠ none → G.S0 b ≠ none ∨ G.B b = none) ∧ match t with
  | .st d => Rep G.K S' d v
  | .fr l => ∃ a vs, v = .ref a ∧ S' a = none ∧ G.B a = none ∧ H' a = some (.lst vs) ∧ Reps G.K S' l vs
  | .sl l => ∃ a vs, v = .ref a ∧ S' a = none ∧ G.B a = none ∧ H' a = some (.lst vs) ∧ Reps G.K S' l vs
def FinS (W : WX) (r : Fl) (G : Gd) (D : Ends) : Prop := match r with
  | .bad => False
  | .nx ρ => ∀ S O σ H, StR G S O σ H ρ → D.nx σ H
  | .ct ρ => ∀ S O σ H, StR G S O σ H ρ → D.ct σ H
  | .bk ρ => ∀ S O σ H, StR G S O σ H ρ → D.bk σ H
  | .rt t => ∀ v S H, RetR G H S t v → D.rt v H
  | .ex ρ x => ∀ d S O σ H, StR G S O σ H ρ → XcR G.K S x d → W (.ref (adK G.K x.C)) d σ H
def tS (K : PySem.W.Frag) (W : WX) (m : MS) : TS := fun D σ H => ∃ G S O ρ, G.K = K ∧ StR G S O σ H ρ ∧ FinS W (m ρ) G D
structure DS (X : Cx) (W : WX) (st : Stmt) (m : MS) : Prop where
  ps : PS X st (tS X.K W m)
structure DSs (X : Cx) (W : WX) (st : List Stmt) (m : MS) : Prop where
  pss : PSs X st (tS X.K W m)
theorem PS.weak {X : Cx} {e : Stmt} {t t' : TS} (h : PS X e t) (k : ∀ D σ H, t' D σ H → t D σ H) : PS X e t' := ⟨fun pins s σ H D I q => h.run pins s σ H D I (k D σ H q)⟩
theorem PSs.weak {X : Cx} {e : List Stmt} {t t' : TS} (h : PSs X e t) (k : ∀ D σ H, t' D σ H → t D σ H) : PSs X e t' := ⟨fun pins s σ H D I q => h.run pins s σ H D I (k D σ H q)⟩
/-- an expression's exception ends the statement -/
def toS {α : Type} (ρ : Env) (r : R α) (k : α → Fl) : Fl := match r with
  | .bad => .bad
  | .ok a => k a
  | .ex x => .ex ρ x
@[simp] theorem toS_ok {α : Type} (ρ : Env) (a : α) (k : α → Fl) : toS ρ (.ok a) k = k a := (rfl)
@[simp] theorem toS_bad {α : Type} (ρ : Env) (k : α → Fl) : toS ρ .bad k = .bad := (rfl)
@[simp] theorem toS_ex {α : Type} (ρ : Env) (x : Xc) (k : α → Fl) : toS ρ (.ex x) k = .ex ρ x := (rfl)
theorem FinS.bind {α β : Type} {W : WX} {rep : Hp → Hp → α → β → Prop} {r : R α} {k : α → Fl} {G : Gd} {D : Ends} {S : Hp} {O : Nat → List Addr} {σ : L2.St} {H : Hp} {ρ : Env} {Q : β → Hp → Prop} (h : FinS W (toS ρ r k) G D)
    (hk : ∀ a b S' H', Ex S S' → Ex H H' → StR G S' O σ H' ρ → rep S' H' a b → FinS W (k a) G D → Q b H') : Fin W rep r G S O σ H ρ Q := by
  cases r with
  | bad => exact h
  | ok a => exact fun b S2 H2 e2 k2 st rp => hk a b S2 H2 e2 k2 st rp h
  | ex x => exact fun d S2 H2 e2 k2 st xr => h d S2 O σ H2 st xr

/-! ### slots are set -/
section
variable {G : Gd} {S : Hp} {O : Nat → List Addr} {σ : L2.St} {H : Hp} {ρ : Env}
theorem get_set {α : Type} {l : List α} {i j : Nat} {a b : α} (h : (l.set i a)[j]? = some b) : (j = i ∧ b = a) ∨ (j ≠ i ∧ l[j]? = some b) := by
  by_cases e : i = j
  · subst e
    left
    refine ⟨rfl, ?_⟩
    have hl : i < l.length := by
      have := (List.getElem?_eq_some_iff.mp h).1
      simpa using this
    rw [List.getElem?_set_self hl] at h
    exact (Option.some.inj h).symm
  · right
    rw [List.getElem?_set_ne e] at h
    exact ⟨fun z => e z.symm, h⟩
theorem StR.setSl (st : StR G S O σ H ρ) (i : Nat) (hlen : i < ρ.length) {s : Sl} {v : V} {F : List Addr} (hs : SlR G.K S H s (some (some v)) F) (hF : ∀ a ∈ F, S a = none ∧ G.B a = none ∧ H a ≠ none ∧ ∀ j, j ≠ i → a ∉ O j) :
    StR G S (fun j => if j = i then F else O j) (σ.set i (some v)) H (ρ.set i s) := by
  refine ⟨st.exB, st.exS0, st.exS, st.new, by rw [List.length_set, List.length_set]; exact st.len, fun j s' e => ?_, fun j a q => ?_, fun j a q => ?_, fun j k a q1 q2 => ?_, fun j hj => ?_⟩
  · rcases get_set e with ⟨rfl, rfl⟩ | ⟨ne, e⟩
    · have hl : j < σ.length := by
        rw [st.len]
        have := (List.getElem?_eq_some_iff.mp e).1
        simpa using this
      rw [List.getElem?_set_self hl]
      show SlR G.K S H s' (some (some v)) (if j = j then F else O j)
      rw [if_pos rfl]
      exact hs
    · rw [List.getElem?_set_ne (Ne.symm ne)]
      show SlR G.K S H s' σ[j]? (if j = i then F else O j)
      rw [if_neg ne]
      exact st.slot j s' e
  · have q' : a ∈ (if j = i then F else O j) := q
    split at q'
    · exact ⟨(hF a q').1, (hF a q').2.1⟩
    · exact st.off j a q'
  · have q' : a ∈ (if j = i then F else O j) := q
    split at q'
    · exact (hF a q').2.2.1
    · exact st.live j a q'
  · have q1' : a ∈ (if j = i then F else O j) := q1
    have q2' : a ∈ (if k = i then F else O k) := q2
    split at q1' <;> split at q2'
    · rename_i e1 e2; rw [e1, e2]
    · rename_i e1 e2; exact absurd q2' ((hF a q1').2.2.2 k e2)
    · rename_i e1 e2; exact absurd q1' ((hF a q2').2.2.2 j e1)
    · exact st.apart j k a q1' q2'
  · rw [List.length_set] at hj
    show (if j = i then F else O j) = []
    rw [if_neg (by omega)]
    exact st.out j hj
theorem StR.setOut (st : StR G S O σ H ρ) (i : Nat) (hlen : ρ.length ≤ i) (x : Option V) (s : Sl) : StR G S O (σ.set i x) H (ρ.set i s) := by
  rw [List.set_eq_of_length_le (by rw [st.len]; exact hlen), List.set_eq_of_length_le hlen]
  exact st
theorem StR.setVal (st : StR G S O σ H ρ) (i : Nat) {d : D} {v : V} (r : Rep G.K S d v) : ∃ O', StR G S O' (σ.set i (some v)) H (ρ.set i (.val d)) := by
  by_cases h : i < ρ.length
  · exact ⟨_, st.setSl i h ⟨rfl, v, rfl, r⟩ fun a h => by cases h⟩
  · exact ⟨O, st.setOut i (by omega) _ _⟩
theorem StR.setOwn (st : StR G S O σ H ρ) (i : Nat) {l : List D} {v : V} (r : RepT G S O H (.fr l) v) : ∃ O', StR G S O' (σ.set i (some v)) H (ρ.set i (.own l)) := by
  obtain ⟨a, vs, rfl, h1, h2, h3, h4, q⟩ := r
  by_cases h : i < ρ.length
  · refine ⟨_, st.setSl i h (F := [a]) ⟨a, vs, rfl, rfl, h4, q⟩ fun b hb => ?_⟩
    have e : b = a := by simpa using hb
    subst e
    exact ⟨h1, h2, by rw [h4]; simp, fun j _ => h3 j⟩
  · exact ⟨O, st.setOut i (by omega) _ _⟩
/-- a slot is forgotten -/
theorem StR.drop (st : StR G S O σ H ρ) (i : Nat) (x : Option V) : StR G S (fun j => if j = i then [] else O j) (σ.set i x) H (ρ.set i .no) := by
  have sub : ∀ {j a}, a ∈ (if j = i then [] else O j) → a ∈ O j := fun {j a} h => by
    split at h
    · cases h
    · exact h
  refine ⟨st.exB, st.exS0, st.exS, st.new, by rw [List.length_set, List.length_set]; exact st.len, fun j s' e => ?_, fun j a q => st.off j a (sub q), fun j a q => st.live j a (sub q), fun j k a q1 q2 => st.apart j k a (sub q1) (sub q2), fun j hj => ?_⟩
  · rcases get_set e with ⟨rfl, rfl⟩ | ⟨ne, e⟩
    · exact if_pos rfl
    · rw [List.getElem?_set_ne (Ne.symm ne)]
      show SlR G.K S H s' σ[j]? (if j = i then [] else O j)
      rw [if_neg ne]
      exact st.slot j s' e
  · rw [List.length_set] at hj
    show (if j = i then [] else O j) = []
    rw [st.out j hj]
    split <;> rfl
/-- an owned list is written -/
theorem StR.write (st : StR G S O σ H ρ) {i : Nat} {l l' : List D} (hi : ρ[i]? = some (.own l)) : ∃ a vs, σ[i]? = some (some (.ref a)) ∧ H a = some (.lst vs) ∧ Reps G.K S l vs ∧
    ∀ vs' S', Ex S S' → (∀ H', StR G S' O σ H' ρ → H' a = some (.lst vs) → Reps G.K S' l' vs' → StR G S' O σ (upd H' a (.lst vs')) (ρ.set i (.own l'))) := by
  obtain ⟨a, vs, e1, e2, e3, q⟩ := st.slot i _ hi
  refine ⟨a, vs, e1, e3, q, fun vs' S' eS H' st' ha r => ?_⟩
  have hO : a ∈ O i := by rw [e2]; exact List.mem_cons_self
  obtain ⟨o1, o2⟩ := st'.off i a hO
  refine ⟨fun b o e => ?_, st'.exS0, fun b o e => ?_, st'.new, by rw [List.length_set]; exact st'.len, fun j s e => ?_, st'.off, fun j b q => ?_, st'.apart, fun j hj => st'.out j (by rw [List.length_set] at hj; exact hj)⟩
  · rw [upd_ne (fun z => by rw [z, o2] at e; cases e)]
    exact st'.exB b o e
  · rw [upd_ne (fun z => by rw [z, o1] at e; cases e)]
    exact st'.exS b o e
  · rcases get_set e with ⟨rfl, rfl⟩ | ⟨ne, e⟩
    · exact ⟨a, vs', e1, e2, upd_same, r⟩
    · refine (st'.slot j s e).mono (Same.refl S') fun b o hb hq => ?_
      rw [upd_ne (fun z => ne (st'.apart j i a (by rw [← z]; exact hb) hO))]
      exact hq
  · by_cases hb : b = a
    · subst hb
      rw [upd_same]; simp
    · rw [upd_ne hb]
      exact st'.live j b q
/-- an owned list is let stand -/
theorem StR.freeze (st : StR G S O σ H ρ) {i : Nat} {l : List D} (hi : ρ[i]? = some (.own l)) : ∃ S' O' v, Ex S S' ∧ StR G S' O' σ H (ρ.set i (.val (.lst l))) ∧ σ[i]? = some (some v) ∧ Rep G.K S' (.lst l) v := by
  obtain ⟨a, vs, e1, e2, e3, q⟩ := st.slot i _ hi
  have hO : a ∈ O i := by rw [e2]; exact List.mem_cons_self
  obtain ⟨o1, o2⟩ := st.off i a hO
  have eS : Ex S (upd S a (.lst vs)) := ex_upd o1
  have rp : Rep G.K (upd S a (.lst vs)) (.lst l) (.ref a) := .lst (.inl (.inl upd_same)) (q.mono eS)
  refine ⟨upd S a (.lst vs), fun j => if j = i then [] else O j, .ref a, eS, ⟨st.exB, st.exS0.trans eS, fun b o e => ?_, fun b hb => ?_, by rw [List.length_set]; exact st.len, fun j s e => ?_, fun j b hb => ?_, fun j b hb => ?_, fun j k b q1 q2 => ?_, fun j hj => ?_⟩, e1, rp⟩
  · by_cases hb : b = a
    · subst hb
      rw [upd_same] at e
      cases e
      exact e3
    · rw [upd_ne hb] at e
      exact st.exS b o e
  · by_cases hb' : b = a
    · subst hb'
      exact .inr o2
    · rw [upd_ne hb'] at hb
      exact st.new b hb
  · show SlR G.K (upd S a (.lst vs)) H s σ[j]? (if j = i then [] else O j)
    rcases get_set e with ⟨rfl, rfl⟩ | ⟨ne, e⟩
    · exact ⟨if_pos rfl, _, e1, rp⟩
    · rw [if_neg ne]
      exact (st.slot j s e).mono eS fun b o _ hq => hq
  · have hb' : b ∈ (if j = i then [] else O j) := hb
    split at hb'
    · cases hb'
    · rename_i ne
      have nb : b ≠ a := fun z => ne (st.apart j i a (by rw [← z]; exact hb') hO)
      rw [upd_ne nb]
      exact st.off j b hb'
  · have hb' : b ∈ (if j = i then [] else O j) := hb
    split at hb'
    · cases hb'
    · exact st.live j b hb'
  · have q1' : b ∈ (if j = i then [] else O j) := q1
    have q2' : b ∈ (if k = i then [] else O k) := q2
    split at q1' <;> split at q2'
    · cases q1'
    · cases q1'
    · cases q2'
    · exact st.apart j k b q1' q2'
  · rw [List.length_set] at hj
    show (if j = i then [] else O j) = []
    rw [st.out j hj]
    split <;> rfl
end

/-! ### targets -/
abbrev MG := D → Env → Option Env
def tG (K : PySem.W.Frag) (g : MG) : TG := fun v σ H Q => ∃ G S O ρ d ρ', G.K = K ∧ StR G S O σ H ρ ∧ Rep K S d v ∧ g d ρ = some ρ' ∧ ∀ O' σ', StR G S O' σ' H ρ' → Q σ' H
structure DG (X : Cx) (tg : Expr) (g : MG) : Prop where
  pg : PG X tg (tG X.K g)
theorem PG.weak {X : Cx} {e : Expr} {t t' : TG} (h : PG X e t) (k : ∀ v σ H Q, t' v σ H Q → t v σ H Q) : PG X e t' := ⟨fun pins s σ H v u Q I r q => h.run pins s σ H v u Q I r (k v σ H Q q)⟩
theorem PGs.weak {X : Cx} {e : List Expr} {t t' : TGs} (h : PGs X e t) (k : ∀ v σ H Q, t' v σ H Q → t v σ H Q) : PGs X e t' := ⟨fun pins s σ H v u Q I r q => h.run pins s σ H v u Q I r (k v σ H Q q)⟩
def gN (i : Nat) : MG := fun d ρ => some (ρ.set i (.val d))
theorem dg_n (i : Nat) {X : Cx} {x : Str} {pos : Pos} (hN : X.N.Nodup) (hi : X.N[i]? = some x := by rfl) (hx : Loc X.env.scope x := by first | exact .inl rfl | exact .inr rfl) (hf : X.fn x = true ∨ X.env.scope.names.lookup x = some .local := by first | exact .inl rfl | exact .inr rfl) : DG X (.Name x pos) (gN i) := by
  refine ⟨PG.weak (pg_name hN hi hx hf) ?_⟩
  rintro v σ H Q ⟨G, S, O, ρ, d, ρ', eK, st, rp, hg, q⟩
  cases hg
  rw [← eK] at rp
  obtain ⟨O', st'⟩ := st.setVal i rp
  exact q _ _ st'
abbrev MGs := List D → Env → Option Env
def tGs (K : PySem.W.Frag) (g : MGs) : TGs := fun vs σ H Q => ∃ G S O ρ ds ρ', G.K = K ∧ StR G S O σ H ρ ∧ Reps K S ds vs ∧ g ds ρ = some ρ' ∧ ∀ O' σ', StR G S O' σ' H ρ' → Q σ' H
structure DGs (X : Cx) (tg : List Expr) (g : MGs) : Prop where
  pgs : PGs X tg (tGs X.K g)
def gsN : MGs := fun ds ρ => match ds with
  | [] => some ρ
  | _ => none
def gsC (g : MG) (gs : MGs) : MGs := fun ds ρ => match ds with
  | d :: r => (g d ρ).bind (gs r)
  | [] => none
theorem dgs_nil {X : Cx} : DGs X [] gsN := by
  refine ⟨PGs.weak pgs_nil ?_⟩
  rintro vs σ H Q ⟨G, S, O, ρ, ds, ρ', eK, st, rp, hg, q⟩
  unfold gsN at hg
  split at hg
  · cases hg
    cases rp
    exact ⟨rfl, q _ _ st⟩
  · cases hg
theorem dgs_cons {X : Cx} {e : Expr} {es : List Expr} {g : MG} {gs : MGs} (h1 : DG X e g) (h2 : DGs X es gs)
    (hs : (assignEach (e :: es) X.env).map (·.2) = assign e X.env :: (assignEach es X.env).map (·.2) := by rfl) : DGs X (e :: es) (gsC g gs) := by
  refine ⟨PGs.weak (pgs_cons h1.pg h2.pgs hs) ?_⟩
  rintro vs σ H Q ⟨G, S, O, ρ, ds, ρ', eK, st, rp, hg, q⟩
  unfold gsC at hg
  split at hg
  · rename_i d r
    cases rp with
    | cons r1 r2 =>
      cases h : g d ρ with
      | none => rw [h] at hg; cases hg
      | some ρ1 =>
        rw [h] at hg
        exact ⟨_, _, rfl, G, S, O, ρ, d, ρ1, eK, st, r1, h, fun O' σ' st' => ⟨G, S, O', ρ1, r, ρ', eK, st', r2, hg, q⟩⟩
  · cases hg
def gT (n : Nat) (gs : MGs) : MG := fun d ρ => match d with
  | .tup l => if l.length = n then gs l ρ else none
  | _ => none
theorem dg_tup {X : Cx} {es : List Expr} {k n : Nat} {gs : MGs} {pos : Pos} (hc : X.calm = true) (h : DGs X es gs)
    (hn : (assignEach es X.env).length = n := by rfl) (hst : (assignEach es X.env).findIdx? (·.1) = none := by rfl) : DG X (.Tuple es k pos) (gT n gs) := by
  refine ⟨PG.weak (pg_tup hc h.pgs hn hst) ?_⟩
  rintro v σ H Q ⟨G, S, O, ρ, d, ρ', eK, st, rp, hg, q⟩
  unfold gT at hg
  split at hg
  · rename_i l
    split at hg
    · rename_i hl
      cases rp with
      | tup h1 r1 => exact ⟨_, _, rfl, ex_t st.exS h1, by rw [← r1.length]; exact hl, G, S, O, ρ, l, ρ', eK, st, r1, hg, q⟩
    · cases hg
  · cases hg

/-! ### what is walked -/
/-- J yields these data, while what stands in B stands -/
structure Yl (K : PySem.W.Frag) (S B : Hp) (J : It) (ds : List D) : Prop where
  go : ∀ H, Ex B H → ∀ i, i < ds.length → J.go i H
  stop : ∀ H, Ex B H → ∀ i, ds.length ≤ i → J.stop i H
  yld : ∀ H, Ex B H → ∀ i x H', i < ds.length → J.yld i H x H' → ∃ d, ds[i]? = some d ∧ ((H' = H ∧ Rep K S d x) ∨ ∃ p ws l, x = .ref p ∧ H p = none ∧ H' = upd H p (.tup ws) ∧ d = .tup l ∧ Reps K S l ws)
abbrev MI := Env → R (List D)
abbrev rY (K : PySem.W.Frag) : Hp → Hp → List D → It → Prop := fun S _ ds J => Yl K S S J ds
/-- .. within a comprehension: nothing at all changes -/
abbrev rYc (K : PySem.W.Frag) : Hp → Hp → List D → It → Prop := fun S H ds J => Yl K S H J ds
def tIc (K : PySem.W.Frag) (W : WX) (m : MI) : TI := fun σ H R => ∃ G S O ρ, G.K = K ∧ StR G S O σ H ρ ∧ Fin W (rYc K) (m ρ) G S O σ H ρ R
structure DIc (X : Cx) (W : WX) (tg iter : Expr) (m : MI) : Prop where
  pi : PI X tg iter (tIc X.K W m)
def tI (K : PySem.W.Frag) (W : WX) (m : MI) : TI := fun σ H R => ∃ G S O ρ, G.K = K ∧ StR G S O σ H ρ ∧ Fin W (rY K) (m ρ) G S O σ H ρ R
structure DI (X : Cx) (W : WX) (tg iter : Expr) (m : MI) : Prop where
  pi : PI X tg iter (tI X.K W m)
theorem PI.weak {X : Cx} {tg e : Expr} {t t' : TI} (h : PI X tg e t) (k : ∀ σ H R, t' σ H R → t σ H R) : PI X tg e t' := ⟨fun pins s σ H R I q => h.run pins s σ H R I (k σ H R q)⟩
/-- a list that stands still -/
def stL : T → Option (List D)
  | .st (.lst l) => some l
  | .fr l => some l
  | _ => none
def stU : T → Option (List D)
  | .st (.tup l) => some l
  | _ => none
def iL (m : ME) : MI := fun ρ => (m ρ).bind fun t => lift (stL t)
def iU (m : ME) : MI := fun ρ => (m ρ).bind fun t => lift (stU t)
theorem stL_set {t : T} {l : List D} (h : stL t = some l) : t.set = .st (.lst l) := by
  cases t with
  | st d => cases d <;> cases h <;> rfl
  | fr l => cases h; rfl
  | sl l => cases h
theorem yl_list {K : PySem.W.Frag} {S B : Hp} {a : Addr} {vs : List V} {l : List D} (h : SqL K B a vs) (r : Reps K S l vs) : Yl K S B (Itl K a) l where
  go := fun H e i hi => ⟨vs, vs[i]'(by rw [← r.length]; exact hi), ex_l e h, by simp⟩
  stop := fun H e i hi => ⟨vs, ex_l e h, by rw [← r.length]; exact hi⟩
  yld := fun H e i x H' hi hy => by
    obtain ⟨rfl, hx⟩ := hy
    obtain ⟨d, h1, h2⟩ := r.getV (hx vs (ex_l e h))
    exact ⟨d, h1, .inl ⟨rfl, h2⟩⟩
theorem yl_tup {K : PySem.W.Frag} {S B : Hp} {a : Addr} {vs : List V} {l : List D} (h : SqT K B a vs) (r : Reps K S l vs) : Yl K S B (Itt K a) l where
  go := fun H e i hi => ⟨vs, vs[i]'(by rw [← r.length]; exact hi), ex_t e h, by simp⟩
  stop := fun H e i hi => ⟨vs, ex_t e h, by rw [← r.length]; exact hi⟩
  yld := fun H e i x H' hi hy => by
    obtain ⟨rfl, hx⟩ := hy
    obtain ⟨d, h1, h2⟩ := r.getV (hx vs (ex_t e h))
    exact ⟨d, h1, .inl ⟨rfl, h2⟩⟩
/-- the ints lo, lo + 1, .. -/
def rngD (lo : Int) (n : Nat) : List D := (List.range n).map fun i => D.int (lo + (i : Nat))
theorem rngD_length (lo : Int) (n : Nat) : (rngD lo n).length = n := by unfold rngD; rw [List.length_map, List.length_range]
theorem rngD_get (lo : Int) (n i : Nat) (h : i < n) : (rngD lo n)[i]? = some (.int (lo + (i : Nat))) := by
  unfold rngD
  rw [List.getElem?_map, List.getElem?_range h]
  rfl
theorem yl_range {K : PySem.W.Frag} {S B : Hp} {lo : Int} {n : Nat} : Yl K S B (Itr lo n) (rngD lo n) where
  go := fun H e i hi => by rw [rngD_length] at hi; exact hi
  stop := fun H e i hi => by rw [rngD_length] at hi; exact hi
  yld := fun H e i x H' hi hy => by
    rw [rngD_length] at hi
    obtain ⟨rfl, rfl⟩ := hy
    exact ⟨_, rngD_get lo n i hi, .inl ⟨rfl, .int _⟩⟩
section
variable {X : Cx} {W : WX} {tg e e2 : Expr} {m n : ME} {ma : MA} {mi : MI} {pos p : Pos}
theorem di_list (h : DX X W e m) : DI X W tg e (iL m) := by
  refine ⟨PI.weak (pi_list h.pe) ?_⟩
  rintro σ H R' ⟨G, S, O, ρ, eK, st, q⟩
  refine ⟨G, S, O, ρ, eK, st, Fin.bind (rep' := rT G O) q fun t x S1 H1 s1 k1 st1 rp q1 => ?_⟩
  obtain ⟨S2, s2, st2, ro⟩ := RepT.settle st1 rp
  cases hl : stL t with
  | none => rw [hl] at q1; exact q1.elim
  | some l =>
    rw [hl] at q1
    rw [stL_set hl, eK] at ro
    cases ro with
    | lst h r => exact ⟨_, rfl, ⟨_, ex_l st2.exS h⟩, q1 _ S2 H1 s2 (Same.refl _) st2 (yl_list h r)⟩
theorem di_tup (h : DX X W e m) : DI X W tg e (iU m) := by
  refine ⟨PI.weak (pi_tup h.pe) ?_⟩
  rintro σ H R' ⟨G, S, O, ρ, eK, st, q⟩
  refine ⟨G, S, O, ρ, eK, st, Fin.bind (rep' := rT G O) q fun t x S1 H1 s1 k1 st1 rp q1 => ?_⟩
  cases t with
  | st d =>
    cases d with
    | tup l =>
      have rp : Rep G.K S1 (.tup l) x := rp
      rw [eK] at rp
      cases rp with
      | tup h r => exact ⟨_, rfl, ⟨_, ex_t st1.exS h⟩, q1 _ S1 H1 (Same.refl _) (Same.refl _) st1 (yl_tup h r)⟩
    | _ => exact q1.elim
  | _ => exact q1.elim
/-- the bounds of a range -/
def rngOk (i : Int) : Bool := decide (-(2 ^ 62) ≤ i ∧ i < 2 ^ 62)
def rng1 : List D → Option (List D)
  | [.int j] => if rngOk j = true then some (rngD 0 j.toNat) else none
  | _ => none
def rng2 : List D → Option (List D)
  | [.int i, .int j] => if rngOk i = true ∧ rngOk j = true then some (rngD i (j - i).toNat) else none
  | _ => none
def iA (f : List D → Option (List D)) (ma : MA) : MI := fun ρ => (ma ρ).bind fun ts => lift (f (ts.map T.d))
theorem di_rng1 (hg : Gl X "range") (hm : X.mg "range" = none) (ha : DA X W [e] ma) (hs : starEach [e] X.env = [(false, eval e X.env)] := by rfl) : DI X W tg (.Call (.Name "range" p) [e] [] pos) (iA rng1 ma) := by
  refine ⟨PI.weak (pi_range1 hg hm ha.pa hs) ?_⟩
  rintro σ H R' ⟨G, S, O, ρ, eK, st, q⟩
  refine ⟨G, S, O, ρ, eK, st, Fin.bind (rep' := rTs G) q fun ts x S1 H1 s1 k1 st1 rp q1 => ?_⟩
  cases hz : rng1 (ts.map T.d) with
  | none => rw [hz] at q1; exact q1.elim
  | some l =>
    rw [hz] at q1
    unfold rng1 at hz
    split at hz
    · rename_i j ej
      split at hz
      · rename_i hj
        cases hz
        obtain ⟨t, y, rfl, rfl, e1, r1⟩ := RepOs.one rp ej
        have hj' := of_decide_eq_true hj
        rw [RepO.int e1 r1]
        exact ⟨j, rfl, hj'.1, hj'.2, q1 _ S1 H1 (Same.refl _) (Same.refl _) st1 yl_range⟩
      · cases hz
    · cases hz
theorem di_rng2 (hg : Gl X "range") (hm : X.mg "range" = none) (ha : DA X W [e, e2] ma) (hs : starEach [e, e2] X.env = [(false, eval e X.env), (false, eval e2 X.env)] := by rfl) (hs2 : starEach [e2] X.env = [(false, eval e2 X.env)] := by rfl) : DI X W tg (.Call (.Name "range" p) [e, e2] [] pos) (iA rng2 ma) := by
  refine ⟨PI.weak (pi_range2 hg hm ha.pa hs hs2) ?_⟩
  rintro σ H R' ⟨G, S, O, ρ, eK, st, q⟩
  refine ⟨G, S, O, ρ, eK, st, Fin.bind (rep' := rTs G) q fun ts x S1 H1 s1 k1 st1 rp q1 => ?_⟩
  cases hz : rng2 (ts.map T.d) with
  | none => rw [hz] at q1; exact q1.elim
  | some l =>
    rw [hz] at q1
    unfold rng2 at hz
    split at hz
    · rename_i i j ej
      split at hz
      · rename_i hj
        cases hz
        obtain ⟨t, u, y, z, rfl, rfl, e1, e2, r1, r2⟩ := RepOs.two rp ej
        have hi' := of_decide_eq_true hj.1
        have hj' := of_decide_eq_true hj.2
        rw [RepO.int e1 r1, RepO.int e2 r2]
        exact ⟨i, j, rfl, ⟨hi'.1, hi'.2, hj'.1, hj'.2⟩, q1 _ S1 H1 (Same.refl _) (Same.refl _) st1 yl_range⟩
      · cases hz
    · cases hz
theorem yl_rev {K : PySem.W.Frag} {S B : Hp} {a : Addr} {vs : List V} {l : List D} (h : SqL K B a vs) (r : Reps K S l vs) : Yl K S B (Itv K a vs.length) l.reverse where
  go := fun H e i hi => by
    rw [List.length_reverse, r.length] at hi
    exact ⟨hi, vs, vs[vs.length - 1 - i]'(by omega), ex_l e h, by simp⟩
  stop := fun H e i hi => by rw [List.length_reverse, r.length] at hi; exact hi
  yld := fun H e i x H' hi hy => by
    rw [List.length_reverse, r.length] at hi
    obtain ⟨rfl, hx⟩ := hy
    obtain ⟨d, h1, h2⟩ := r.getV (hx vs (ex_l e h))
    refine ⟨d, ?_, .inl ⟨rfl, h2⟩⟩
    rw [List.getElem?_reverse (by rw [r.length]; exact hi), r.length]
    exact h1
/-- the lists that stand still -/
def stLs : List T → Option (List (List D))
  | [] => some []
  | t :: ts => (stL t).bind fun l => (stLs ts).map fun ls => l :: ls
def iS (f : List (List D) → Option (List D)) (ma : MA) : MI := fun ρ => (ma ρ).bind fun ts => lift ((stLs ts).bind f)
def revF : List (List D) → Option (List D)
  | [l] => some l.reverse
  | _ => none
theorem stLs_one {K : PySem.W.Frag} {S H : Hp} {ts : List T} {xs : List V} {l : List D} (rp : RepOs K S H ts xs) (h : stLs ts = some [l]) : ∃ a vs, xs = [.ref a] ∧ SqL K S a vs ∧ Reps K S l vs := by
  cases rp with
  | nil => cases h
  | cons r q =>
    rename_i t v ts' xs'
    unfold stLs at h
    cases h1 : stL t with
    | none => rw [h1] at h; cases h
    | some l1 =>
      rw [h1] at h
      cases h2 : stLs ts' with
      | none => rw [h2] at h; cases h
      | some ls =>
        rw [h2] at h
        cases h
        cases q with
        | nil =>
          cases t with
          | st d =>
            cases d <;> cases h1
            cases r with
            | lst h r => exact ⟨_, _, rfl, h, r⟩
          | fr l => exact r.elim
          | sl l => cases h1
        | cons r2 q2 =>
          rename_i t2 v2 ts2 xs2
          unfold stLs at h2
          cases h3 : stL t2 with
          | none => rw [h3] at h2; cases h2
          | some l3 =>
            rw [h3] at h2
            cases h4 : stLs ts2 with
            | none => rw [h4] at h2; cases h2
            | some l4 => rw [h4] at h2; cases h2
theorem stLs_two {K : PySem.W.Frag} {S H : Hp} {ts : List T} {xs : List V} {l l' : List D} (rp : RepOs K S H ts xs) (h : stLs ts = some [l, l']) : ∃ a b vs ws, xs = [.ref a, .ref b] ∧ SqL K S a vs ∧ Reps K S l vs ∧ SqL K S b ws ∧ Reps K S l' ws := by
  cases rp with
  | nil => cases h
  | cons r q =>
    rename_i t v ts' xs'
    unfold stLs at h
    cases h1 : stL t with
    | none => rw [h1] at h; cases h
    | some l1 =>
      rw [h1] at h
      cases h2 : stLs ts' with
      | none => rw [h2] at h; cases h
      | some ls =>
        rw [h2] at h
        cases h
        obtain ⟨b, ws, rfl, hb, rb⟩ := stLs_one q h2
        cases t with
        | st d =>
          cases d <;> cases h1
          cases r with
          | lst h r => exact ⟨_, b, _, ws, rfl, h, r, hb, rb⟩
        | fr l => exact r.elim
        | sl l => cases h1
theorem di_rev (hg : Gl X "reversed") (hm : X.mg "reversed" = none) (ha : DA X W [e] ma) (hs : starEach [e] X.env = [(false, eval e X.env)] := by rfl) : DI X W tg (.Call (.Name "reversed" p) [e] [] pos) (iS revF ma) := by
  refine ⟨PI.weak (pi_reversed hg hm ha.pa hs) ?_⟩
  rintro σ H R' ⟨G, S, O, ρ, eK, st, q⟩
  refine ⟨G, S, O, ρ, eK, st, Fin.bind (rep' := rTs G) q fun ts x S1 H1 s1 k1 st1 rp q1 => ?_⟩
  have rp : RepOs G.K S1 H1 ts x := rp
  rw [eK] at rp
  cases hz : stLs ts with
  | none => rw [hz] at q1; exact q1.elim
  | some ls =>
    rw [hz, Option.bind_some] at q1
    cases hf : revF ls with
    | none => rw [hf] at q1; exact q1.elim
    | some l =>
      rw [hf] at q1
      unfold revF at hf
      split at hf
      · cases hf
        obtain ⟨a, vs, rfl, h1, r1⟩ := stLs_one rp hz
        exact ⟨a, vs, rfl, ex_l st1.exS h1, q1 _ S1 H1 (Same.refl _) (Same.refl _) st1 (yl_rev h1 r1)⟩
      · cases hf
/-- enumerate -/
def enumD (k : Nat) : List D → List D
  | [] => []
  | d :: ds => .tup [.int (k : Nat), d] :: enumD (k + 1) ds
theorem enumD_length : ∀ (k : Nat) (ds : List D), (enumD k ds).length = ds.length
  | _, [] => rfl
  | k, d :: ds => by unfold enumD; rw [List.length_cons, List.length_cons, enumD_length (k + 1) ds]
theorem enumD_get : ∀ (k : Nat) (ds : List D) (i : Nat) (d : D), ds[i]? = some d → (enumD k ds)[i]? = some (.tup [.int ((k + i : Nat) : Int), d])
  | _, [], i, d, h => by simp at h
  | k, e :: ds, 0, d, h => by simp at h; subst h; rfl
  | k, e :: ds, i + 1, d, h => by
    unfold enumD
    rw [List.getElem?_cons_succ]
    have z := enumD_get (k + 1) ds i d (by simpa using h)
    rw [z, Nat.add_right_comm]
    rfl
def enF : List (List D) → Option (List D)
  | [l] => some (enumD 0 l)
  | _ => none
theorem yl_enum {K : PySem.W.Frag} {S B : Hp} {a : Addr} {vs : List V} {l : List D} (h : SqL K B a vs) (r : Reps K S l vs) : Yl K S B (Ite K a) (enumD 0 l) where
  go := fun H e i hi => by
    rw [enumD_length] at hi
    exact ⟨vs, vs[i]'(by rw [← r.length]; exact hi), ex_l e h, by simp⟩
  stop := fun H e i hi => by
    rw [enumD_length] at hi
    exact ⟨vs, ex_l e h, by rw [← r.length]; exact hi⟩
  yld := fun H e i x H' hi hy => by
    obtain ⟨T, x', rfl, hn, rfl, hx⟩ := hy
    obtain ⟨d, h1, h2⟩ := r.getV (hx vs (ex_l e h))
    refine ⟨_, enumD_get 0 l i d h1, .inr ⟨T, _, _, rfl, hn, rfl, rfl, .cons ?_ (.cons h2 .nil)⟩⟩
    rw [Nat.zero_add]
    exact .int _
theorem di_enum {elts : List Expr} {kk : Nat} {tpos : Pos} (hg : Gl X "enumerate") (hm : X.mg "enumerate" = none) (ha : DA X W [e] ma) (hs : starEach [e] X.env = [(false, eval e X.env)] := by rfl) : DI X W (.Tuple elts kk tpos) (.Call (.Name "enumerate" p) [e] [] pos) (iS enF ma) := by
  refine ⟨PI.weak (pi_enum hg hm ha.pa hs) ?_⟩
  rintro σ H R' ⟨G, S, O, ρ, eK, st, q⟩
  refine ⟨G, S, O, ρ, eK, st, Fin.bind (rep' := rTs G) q fun ts x S1 H1 s1 k1 st1 rp q1 => ?_⟩
  have rp : RepOs G.K S1 H1 ts x := rp
  rw [eK] at rp
  cases hz : stLs ts with
  | none => rw [hz] at q1; exact q1.elim
  | some ls =>
    rw [hz, Option.bind_some] at q1
    cases hf : enF ls with
    | none => rw [hf] at q1; exact q1.elim
    | some l =>
      rw [hf] at q1
      unfold enF at hf
      split at hf
      · cases hf
        obtain ⟨a, vs, rfl, h1, r1⟩ := stLs_one rp hz
        exact ⟨a, vs, rfl, ex_l st1.exS h1, q1 _ S1 H1 (Same.refl _) (Same.refl _) st1 (yl_enum h1 r1)⟩
      · cases hf
/-- zip -/
def zipD : List D → List D → List D
  | a :: as, b :: bs => .tup [a, b] :: zipD as bs
  | _, _ => []
theorem zipD_length : ∀ (xs ys : List D), (zipD xs ys).length = min xs.length ys.length
  | [], _ => by simp [zipD]
  | _ :: _, [] => by simp [zipD]
  | a :: as, b :: bs => by
    unfold zipD
    rw [List.length_cons, List.length_cons, List.length_cons, zipD_length as bs]
    omega
theorem zipD_get : ∀ (xs ys : List D) (i : Nat) (a b : D), xs[i]? = some a → ys[i]? = some b → (zipD xs ys)[i]? = some (.tup [a, b])
  | [], _, i, _, _, h, _ => by simp at h
  | _ :: _, [], i, _, _, _, h => by simp at h
  | x :: xs, y :: ys, 0, a, b, h1, h2 => by simp at h1 h2; subst h1; subst h2; rfl
  | x :: xs, y :: ys, i + 1, a, b, h1, h2 => by
    unfold zipD
    rw [List.getElem?_cons_succ]
    exact zipD_get xs ys i a b (by simpa using h1) (by simpa using h2)
def zipF : List (List D) → Option (List D)
  | [l, l'] => some (zipD l l')
  | _ => none
theorem yl_zip {K : PySem.W.Frag} {S B : Hp} {a b : Addr} {vs ws : List V} {l l' : List D} (h : SqL K B a vs) (r : Reps K S l vs) (h' : SqL K B b ws) (r' : Reps K S l' ws) : Yl K S B (Itz K a b) (zipD l l') where
  go := fun H e i hi => by
    rw [zipD_length, r.length, r'.length] at hi
    exact ⟨vs, ws, vs[i]'(by omega), ws[i]'(by omega), ex_l e h, ex_l e h', by simp, by simp⟩
  stop := fun H e i hi => by
    rw [zipD_length, r.length, r'.length] at hi
    exact ⟨vs, ws, ex_l e h, ex_l e h', by omega⟩
  yld := fun H e i x H' hi hy => by
    obtain ⟨T, x', y', rfl, hn, rfl, hx, hy⟩ := hy
    obtain ⟨d, h1, h2⟩ := r.getV (hx vs (ex_l e h))
    obtain ⟨d', h1', h2'⟩ := r'.getV (hy ws (ex_l e h'))
    exact ⟨_, zipD_get l l' i d d' h1 h1', .inr ⟨T, _, _, rfl, hn, rfl, rfl, .cons h2 (.cons h2' .nil)⟩⟩
theorem di_zip {elts : List Expr} {kk : Nat} {tpos : Pos} (hg : Gl X "zip") (hm : X.mg "zip" = none) (ha : DA X W [e, e2] ma)
    (hs : starEach [e, e2] X.env = (false, eval e X.env) :: starEach [e2] X.env := by rfl) (hpl : (backTo pos (starEach [e2] X.env)).any (·.1) = false := by rfl) : DI X W (.Tuple elts kk tpos) (.Call (.Name "zip" p) [e, e2] [] pos) (iS zipF ma) := by
  refine ⟨PI.weak (pi_zip hg hm ha.pa hs hpl) ?_⟩
  rintro σ H R' ⟨G, S, O, ρ, eK, st, q⟩
  refine ⟨G, S, O, ρ, eK, st, Fin.bind (rep' := rTs G) q fun ts x S1 H1 s1 k1 st1 rp q1 => ?_⟩
  have rp : RepOs G.K S1 H1 ts x := rp
  rw [eK] at rp
  cases hz : stLs ts with
  | none => rw [hz] at q1; exact q1.elim
  | some ls =>
    rw [hz, Option.bind_some] at q1
    cases hf : zipF ls with
    | none => rw [hf] at q1; exact q1.elim
    | some l =>
      rw [hf] at q1
      unfold zipF at hf
      split at hf
      · cases hf
        obtain ⟨a, b, vs, ws, rfl, h1, r1, h2, r2⟩ := stLs_two rp hz
        exact ⟨a, b, vs, ws, rfl, ex_l st1.exS h1, ex_l st1.exS h2, q1 _ S1 H1 (Same.refl _) (Same.refl _) st1 (yl_zip h1 r1 h2 r2)⟩
      · cases hf

/-! ### within a comprehension a slot's own list may be walked, too -/
theorem DI.c (h : DI X W tg e mi) : DIc X W tg e mi := by
  refine ⟨PI.weak h.pi ?_⟩
  rintro σ H R' ⟨G, S, O, ρ, eK, st, q⟩
  refine ⟨G, S, O, ρ, eK, st, ?_⟩
  cases hm : mi ρ with
  | bad => rw [hm] at q; exact q
  | ok ds =>
    rw [hm] at q
    intro J S1 H1 s1 k1 st1 yl
    exact q J S1 H1 s1 k1 st1 ⟨fun H e => yl.go H (st1.exS.trans e), fun H e => yl.stop H (st1.exS.trans e), fun H e => yl.yld H (st1.exS.trans e)⟩
  | ex x => rw [hm] at q; exact q
def lsT : T → Option (List D)
  | .st (.lst l) => some l
  | .fr l => some l
  | .sl l => some l
  | _ => none
def iLc (m : ME) : MI := fun ρ => (m ρ).bind fun t => lift (lsT t)
theorem lsT_d {t : T} {l : List D} (h : lsT t = some l) : t.d = .lst l := by
  cases t with
  | st d => cases d <;> cases h <;> rfl
  | fr l => cases h; rfl
  | sl l => cases h; rfl
def lsTs : List T → Option (List (List D))
  | [] => some []
  | t :: ts => (lsT t).bind fun l => (lsTs ts).map fun ls => l :: ls
def iSc (f : List (List D) → Option (List D)) (ma : MA) : MI := fun ρ => (ma ρ).bind fun ts => lift ((lsTs ts).bind f)
theorem lsTs_one {G : Gd} {S H : Hp} {ts : List T} {xs : List V} {l : List D} (x : Ex S H) (rp : RepOs G.K S H ts xs) (h : lsTs ts = some [l]) : ∃ a vs, xs = [.ref a] ∧ SqL G.K H a vs ∧ Reps G.K S l vs := by
  cases rp with
  | nil => cases h
  | cons r q =>
    rename_i t v ts' xs'
    unfold lsTs at h
    cases h1 : lsT t with
    | none => rw [h1] at h; cases h
    | some l1 =>
      rw [h1] at h
      cases h2 : lsTs ts' with
      | none => rw [h2] at h; cases h
      | some ls =>
        rw [h2] at h
        cases h
        obtain ⟨a, vs, rfl, h3, r3⟩ := RepO.lst (lsT_d h1) x r
        cases q with
        | nil => exact ⟨a, vs, rfl, h3, r3⟩
        | cons r2 q2 =>
          rename_i t2 v2 ts2 xs2
          unfold lsTs at h2
          cases h3 : lsT t2 with
          | none => rw [h3] at h2; cases h2
          | some l3 =>
            rw [h3] at h2
            cases h4 : lsTs ts2 with
            | none => rw [h4] at h2; cases h2
            | some l4 => rw [h4] at h2; cases h2
theorem lsTs_two {G : Gd} {S H : Hp} {ts : List T} {xs : List V} {l l' : List D} (x : Ex S H) (rp : RepOs G.K S H ts xs) (h : lsTs ts = some [l, l']) : ∃ a b vs ws, xs = [.ref a, .ref b] ∧ SqL G.K H a vs ∧ Reps G.K S l vs ∧ SqL G.K H b ws ∧ Reps G.K S l' ws := by
  cases rp with
  | nil => cases h
  | cons r q =>
    rename_i t v ts' xs'
    unfold lsTs at h
    cases h1 : lsT t with
    | none => rw [h1] at h; cases h
    | some l1 =>
      rw [h1] at h
      cases h2 : lsTs ts' with
      | none => rw [h2] at h; cases h
      | some ls =>
        rw [h2] at h
        cases h
        obtain ⟨b, ws, rfl, hb, rb⟩ := lsTs_one x q h2
        obtain ⟨a, vs, rfl, h3, r3⟩ := RepO.lst (lsT_d h1) x r
        exact ⟨a, b, vs, ws, rfl, h3, r3, hb, rb⟩
theorem dic_list (h : DX X W e m) : DIc X W tg e (iLc m) := by
  refine ⟨PI.weak (pi_list h.pe) ?_⟩
  rintro σ H R' ⟨G, S, O, ρ, eK, st, q⟩
  refine ⟨G, S, O, ρ, eK, st, Fin.bind (rep' := rT G O) q fun t x S1 H1 s1 k1 st1 rp q1 => ?_⟩
  obtain ⟨S2, s2, st2, ro⟩ := RepT.settle st1 rp
  cases hl : lsT t with
  | none => rw [hl] at q1; exact q1.elim
  | some l =>
    rw [hl] at q1
    obtain ⟨a, vs, rfl, h3, r3⟩ := RepO.lst (by rw [T.set_d]; exact lsT_d hl) st2.exS ro
    rw [eK] at h3 r3
    exact ⟨_, rfl, ⟨_, h3⟩, q1 _ S2 H1 s2 (Same.refl _) st2 (yl_list h3 r3)⟩
theorem dic_enum {elts : List Expr} {kk : Nat} {tpos : Pos} (hg : Gl X "enumerate") (hm : X.mg "enumerate" = none) (ha : DA X W [e] ma) (hs : starEach [e] X.env = [(false, eval e X.env)] := by rfl) : DIc X W (.Tuple elts kk tpos) (.Call (.Name "enumerate" p) [e] [] pos) (iSc enF ma) := by
  refine ⟨PI.weak (pi_enum hg hm ha.pa hs) ?_⟩
  rintro σ H R' ⟨G, S, O, ρ, eK, st, q⟩
  refine ⟨G, S, O, ρ, eK, st, Fin.bind (rep' := rTs G) q fun ts x S1 H1 s1 k1 st1 rp q1 => ?_⟩
  cases hz : lsTs ts with
  | none => rw [hz] at q1; exact q1.elim
  | some ls =>
    rw [hz, Option.bind_some] at q1
    cases hf : enF ls with
    | none => rw [hf] at q1; exact q1.elim
    | some l =>
      rw [hf] at q1
      unfold enF at hf
      split at hf
      · cases hf
        obtain ⟨a, vs, rfl, h1, r1⟩ := lsTs_one st1.exS rp hz
        rw [eK] at h1 r1
        exact ⟨a, vs, rfl, h1, q1 _ S1 H1 (Same.refl _) (Same.refl _) st1 (yl_enum h1 r1)⟩
      · cases hf
theorem dic_zip {elts : List Expr} {kk : Nat} {tpos : Pos} (hg : Gl X "zip") (hm : X.mg "zip" = none) (ha : DA X W [e, e2] ma)
    (hs : starEach [e, e2] X.env = (false, eval e X.env) :: starEach [e2] X.env := by rfl) (hpl : (backTo pos (starEach [e2] X.env)).any (·.1) = false := by rfl) : DIc X W (.Tuple elts kk tpos) (.Call (.Name "zip" p) [e, e2] [] pos) (iSc zipF ma) := by
  refine ⟨PI.weak (pi_zip hg hm ha.pa hs hpl) ?_⟩
  rintro σ H R' ⟨G, S, O, ρ, eK, st, q⟩
  refine ⟨G, S, O, ρ, eK, st, Fin.bind (rep' := rTs G) q fun ts x S1 H1 s1 k1 st1 rp q1 => ?_⟩
  cases hz : lsTs ts with
  | none => rw [hz] at q1; exact q1.elim
  | some ls =>
    rw [hz, Option.bind_some] at q1
    cases hf : zipF ls with
    | none => rw [hf] at q1; exact q1.elim
    | some l =>
      rw [hf] at q1
      unfold zipF at hf
      split at hf
      · cases hf
        obtain ⟨a, b, vs, ws, rfl, h1, r1, h2, r2⟩ := lsTs_two st1.exS rp hz
        rw [eK] at h1 r1 h2 r2
        exact ⟨a, b, vs, ws, rfl, h1, h2, q1 _ S1 H1 (Same.refl _) (Same.refl _) st1 (yl_zip h1 r1 h2 r2)⟩
      · cases hf
end
end RF

set_option Elab.async false
set_option linter.all false
set_option maxRecDepth 100000
set_option autoImplicit false
/-! RF, part G: statements -/
namespace RF
open PySem PySem.Spec L2

/-- what a body is run in -/
structure Ctx (X : Cx) (W : WX) : Prop where
  can : ∀ σ, PassesAt (L2.CX X.prog X.w) X σ (WE W σ)
  own : PassesOwn (model X.prog X.w) X.A X.env X.xe
  calm : X.calm = true
  nd : X.N.Nodup
  un : X.A.units + 64 < cLine

section
variable {X : Cx} {W : WX} {e e2 a b o : Expr} {es : List Expr} {st : Stmt} {sts : List Stmt} {m n q : ME} {ma : MA} {c : MT} {s t : MS} {pos p : Pos} {x y : Str}

/-! ### blocks -/
def sSkip : MS := fun ρ => .nx ρ
def seqK (r : Fl) (t : MS) : Fl := match r with
  | .nx ρ => t ρ
  | r => r
def sSeq (s t : MS) : MS := fun ρ => seqK (s ρ) t
theorem dss_nil : DSs X W [] sSkip := ⟨PSs.weak pss_nil fun D σ H ⟨G, S, O, ρ, eK, st, q⟩ => q S O σ H st⟩
theorem dss_cons (h1 : DS X W st s) (h2 : DSs X W sts t) : DSs X W (st :: sts) (sSeq s t) := by
  refine ⟨PSs.weak (pss_cons h1.ps h2.pss) ?_⟩
  rintro D σ H ⟨G, S, O, ρ, eK, st, q⟩
  refine ⟨G, S, O, ρ, eK, st, ?_⟩
  unfold sSeq at q
  cases hr : s ρ with
  | nx ρ' =>
    rw [hr] at q
    exact fun S' O' σ' H' st' => ⟨G, S', O', ρ', eK, st', q⟩
  | bad => rw [hr] at q; exact q
  | ct ρ' => rw [hr] at q; exact q
  | bk ρ' => rw [hr] at q; exact q
  | rt t => rw [hr] at q; exact q
  | ex ρ' x => rw [hr] at q; exact q
theorem dss_one (h1 : DS X W st s) : DSs X W [st] s := ⟨pss_one h1.ps⟩
theorem ds_pass : DS X W (.Pass pos) sSkip := ⟨PS.weak ps_pass fun D σ H ⟨G, S, O, ρ, eK, st, q⟩ => q S O σ H st⟩
def sCt : MS := fun ρ => .ct ρ
def sBk : MS := fun ρ => .bk ρ
theorem ds_cont : DS X W (.Continue pos) sCt := ⟨PS.weak ps_continue fun D σ H ⟨G, S, O, ρ, eK, st, q⟩ => q S O σ H st⟩
theorem ds_brk : DS X W (.Break pos) sBk := ⟨PS.weak ps_break fun D σ H ⟨G, S, O, ρ, eK, st, q⟩ => q S O σ H st⟩

/-! ### if -/
def sIf (c : MT) (s t : MS) : MS := fun ρ => toS ρ (c ρ) fun b => if b then s ρ else t ρ
theorem ds_if {as bs : List Stmt} (hc : DT X W e c) (ha : DSs X W as s) (hb : DSs X W bs t) : DS X W (.If e as bs pos) (sIf c s t) := by
  refine ⟨PS.weak (ps_if hc.pt ha.pss hb.pss) ?_⟩
  rintro D σ H ⟨G, S, O, ρ, eK, st, q⟩
  refine ⟨G, S, O, ρ, eK, st, FinS.bind (rep := rB) q fun t x S1 H1 s1 k1 st1 rp q1 => ?_⟩
  cases rp
  cases t with
  | true => exact ⟨G, S1, O, ρ, eK, st1, q1⟩
  | false => exact ⟨G, S1, O, ρ, eK, st1, q1⟩

/-! ### return -/
def sRet (m : ME) : MS := fun ρ => toS ρ (m ρ) fun t => .rt t
theorem ds_ret (h : DX X W e m) : DS X W (.Return (some e) pos) (sRet m) := by
  refine ⟨PS.weak (ps_ret h.pe) ?_⟩
  rintro D σ H ⟨G, S, O, ρ, eK, st, q⟩
  refine ⟨G, S, O, ρ, eK, st, FinS.bind (rep := rT G O) q fun t x S1 H1 s1 k1 st1 rp q1 => ?_⟩
  refine q1 x S1 H1 ⟨st1.exB, st1.exS0, st1.exS, st1.new, ?_⟩
  cases t with
  | st d => exact rp
  | fr l =>
    obtain ⟨a, vs, e1, e2, e3, e4, e5, r⟩ := rp
    exact ⟨a, vs, e1, e2, e3, e5, r⟩
  | sl l =>
    obtain ⟨a, vs, e1, ⟨i, e2⟩, e5, r⟩ := rp
    exact ⟨a, vs, e1, (st1.off i a e2).1, (st1.off i a e2).2, e5, r⟩
def sRetN : MS := fun _ => .rt (.st .non)
theorem ds_retN : DS X W (.Return none pos) sRetN := ⟨PS.weak ps_retN fun D σ H ⟨G, S, O, ρ, eK, st, q⟩ => q .non S H ⟨st.exB, st.exS0, st.exS, st.new, .non⟩⟩

/-! ### an expression alone -/
def sDrop (m : ME) : MS := fun ρ => toS ρ (m ρ) fun _ => .nx ρ
theorem ds_drop (h : DX X W e m) (hs : swapsWith e none pos.line X.env = pure false := by rfl) : DS X W (.Expr e pos) (sDrop m) := by
  refine ⟨PS.weak (ps_expr h.pe hs) ?_⟩
  rintro D σ H ⟨G, S, O, ρ, eK, st, q⟩
  exact ⟨G, S, O, ρ, eK, st, FinS.bind (rep := rT G O) q fun t x S1 H1 s1 k1 st1 rp q1 => q1 S1 O σ H1 st1⟩

/-! ### names are set -/
/-- as a value that stands still -/
def sVal (i : Nat) (m : ME) : MS := fun ρ => toS ρ (m ρ) fun t => match t with
  | .st d => .nx (ρ.set i (.val d))
  | .fr l => .nx (ρ.set i (.val (.lst l)))
  | .sl _ => .bad
/-- a new list: as the name's own -/
def sOwn (i : Nat) (m : ME) : MS := fun ρ => toS ρ (m ρ) fun t => match t with
  | .st d => .nx (ρ.set i (.val d))
  | .fr l => .nx (ρ.set i (.own l))
  | .sl _ => .bad
theorem ds_val (i : Nat) (C : Ctx X W) (he : DX X W e m) (hi : X.N[i]? = some x := by rfl) (hx : Loc X.env.scope x := by first | exact .inl rfl | exact .inr rfl) (hs : swapsWith e (some (.Name x p)) pos.line X.env = pure false := by rfl)
    (hf : X.fn x = true ∨ X.env.scope.names.lookup x = some .local := by first | exact .inl rfl | exact .inr rfl) : DS X W (.Assign [.Name x p] e pos) (sVal i m) := by
  refine ⟨PS.weak (ps_set C.nd hi hx he.pe hs hf) ?_⟩
  rintro D σ H ⟨G, S, O, ρ, eK, st, q⟩
  refine ⟨G, S, O, ρ, eK, st, FinS.bind (rep := rT G O) q fun t x S1 H1 s1 k1 st1 rp q1 => ?_⟩
  obtain ⟨S2, s2, st2, ro⟩ := RepT.settle st1 rp
  cases t with
  | st d => exact q1 _ _ _ _ (st2.setVal i ro).choose_spec
  | fr l => exact q1 _ _ _ _ (st2.setVal i ro).choose_spec
  | sl l => exact q1.elim
theorem ds_own (i : Nat) (C : Ctx X W) (he : DX X W e m) (hi : X.N[i]? = some x := by rfl) (hx : Loc X.env.scope x := by first | exact .inl rfl | exact .inr rfl) (hs : swapsWith e (some (.Name x p)) pos.line X.env = pure false := by rfl)
    (hf : X.fn x = true ∨ X.env.scope.names.lookup x = some .local := by first | exact .inl rfl | exact .inr rfl) : DS X W (.Assign [.Name x p] e pos) (sOwn i m) := by
  refine ⟨PS.weak (ps_set C.nd hi hx he.pe hs hf) ?_⟩
  rintro D σ H ⟨G, S, O, ρ, eK, st, q⟩
  refine ⟨G, S, O, ρ, eK, st, FinS.bind (rep := rT G O) q fun t x S1 H1 s1 k1 st1 rp q1 => ?_⟩
  cases t with
  | st d => exact q1 _ _ _ _ (st1.setVal i rp).choose_spec
  | fr l =>
    obtain ⟨O', st'⟩ := st1.setOwn i rp
    exact q1 _ _ _ _ st'
  | sl l => exact q1.elim
/-- ahead of a statement a slot's own list is let stand -/
def fz (i : Nat) (ρ : Env) : Env := match ρ.getD i .no with
  | .own l => ρ.set i (.val (.lst l))
  | _ => ρ
def sFz (i : Nat) (s : MS) : MS := fun ρ => s (fz i ρ)
theorem ds_fz (i : Nat) (h : DS X W st s) : DS X W st (sFz i s) := by
  refine ⟨PS.weak h.ps ?_⟩
  rintro D σ H ⟨G, S, O, ρ, eK, st, q⟩
  unfold sFz fz at q
  cases hs : ρ[i]? with
  | none =>
    rw [List.getD_eq_getElem?_getD, hs] at q
    exact ⟨G, S, O, ρ, eK, st, q⟩
  | some z =>
    rw [List.getD_eq_getElem?_getD, hs] at q
    cases z with
    | own l =>
      obtain ⟨S', O', v, _, st', _, _⟩ := st.freeze hs
      exact ⟨G, S', O', _, eK, st', q⟩
    | _ => exact ⟨G, S, O, ρ, eK, st, q⟩
/-- target = value, the target of several names -/
def sAsg (g : MG) (m : ME) : MS := fun ρ => toS ρ (m ρ) fun t => match t.set with
  | .st d => match g d ρ with
    | some ρ' => .nx ρ'
    | none => .bad
  | _ => .bad
theorem ds_asg {tg : Expr} {g : MG} (he : DX X W e m) (hg : DG X tg g) (hs : swapsWithSole [tg] e pos.line X.env = pure false := by rfl) (hw : swappedStores [tg] e X.env = pure none := by rfl)
    (h1 : (assignEach [tg] X.env).map (·.2) = [assign tg X.env] := by rfl) : DS X W (.Assign [tg] e pos) (sAsg g m) := by
  refine ⟨PS.weak (ps_asg he.pe hg.pg hs hw h1) ?_⟩
  rintro D σ H ⟨G, S, O, ρ, eK, st, q⟩
  refine ⟨G, S, O, ρ, eK, st, FinS.bind (rep := rT G O) q fun t x S1 H1 s1 k1 st1 rp q1 => ?_⟩
  obtain ⟨S2, s2, st2, ro⟩ := RepT.settle st1 rp
  cases hz : t.set with
  | st d =>
    rw [hz] at q1 ro
    cases hg' : g d ρ with
    | none => simp only [hg'] at q1; exact q1.elim
    | some ρ' =>
      simp only [hg'] at q1
      exact ⟨G, S2, O, ρ, d, ρ', eK, st2, by rw [← eK]; exact ro, hg', fun O' σ' st' => q1 _ _ _ _ st'⟩
  | fr l => rw [hz] at ro; exact ro.elim
  | sl l => rw [hz] at q1; exact q1.elim
/-- a, b = c, d -/
def sPar (i j : Nat) (ma : MA) : MS := fun ρ => toS ρ (ma ρ) fun ts => match stD ts with
  | some [d, e] => .nx ((ρ.set i (.val d)).set j (.val e))
  | _ => .bad
theorem ds_par (i j : Nat) (C : Ctx X W) {px py pt : Pos} {kt k2 : Nat} {pt2 : Pos} (ha : DA X W [a, b] ma)
    (hw : swappedStores [.Tuple [.Name x px, .Name y py] kt pt] (.Tuple [a, b] k2 pt2) X.env = pure (some [x, y])) (hi : X.N[i]? = some x := by rfl) (hj : X.N[j]? = some y := by rfl) (hij : i ≠ j := by decide) (hx : X.env.scope.names.lookup x = some .local := by rfl) (hy : X.env.scope.names.lookup y = some .local := by rfl)
    (hs : swapsWithSole [.Tuple [.Name x px, .Name y py] kt pt] (.Tuple [a, b] k2 pt2) pos.line X.env = pure false := by rfl) :
    DS X W (.Assign [.Tuple [.Name x px, .Name y py] kt pt] (.Tuple [a, b] k2 pt2) pos) (sPar i j ma) := by
  refine ⟨PS.weak (ps_par C.calm C.nd hi hj hij hx hy ha.pa hw hs) ?_⟩
  rintro D σ H ⟨G, S, O, ρ, eK, st, q⟩
  refine ⟨G, S, O, ρ, eK, st, FinS.bind (rep := rTs G) q fun ts xs S1 H1 s1 k1 st1 rp q1 => ?_⟩
  split at q1
  · rename_i d e hd
    have r := RepOs.stD rp hd
    cases r with
    | cons r1 r2 =>
      cases r2 with
      | cons r2 r3 =>
        cases r3
        exact ⟨_, _, rfl, q1 _ _ _ _ ((st1.setVal i r1).choose_spec.setVal j r2).choose_spec⟩
  · exact q1.elim

/-! ### lists that a name holds alone -/
def stT : T → Option D
  | .st d => some d
  | _ => none
theorem stT_set {t : T} {d : D} (h : stT t.set = some d) : t.set = .st d := by
  cases t <;> cases h <;> rfl
theorem getD_sl {ρ : Env} {i : Nat} {z : Sl} (hz : z ≠ .no) (h : ρ.getD i .no = z) : ρ[i]? = some z := by
  rw [List.getD_eq_getElem?_getD] at h
  cases e : ρ[i]? with
  | none => rw [e] at h; exact absurd h.symm hz
  | some s => rw [e] at h; rw [← h]; rfl
theorem getD_own {ρ : Env} {i : Nat} {l : List D} (h : ρ.getD i .no = .own l) : ρ[i]? = some (.own l) := getD_sl (fun z => nomatch z) h
/-- with the list that slot i holds alone -/
def onOwn (i : Nat) (ρ : Env) (k : List D → Fl) : Fl := match ρ.getD i .no with
  | .own l => k l
  | _ => .bad
theorem onOwn_some {i : Nat} {ρ : Env} {k : List D → Fl} {G : Gd} {En : Ends} (h : FinS W (onOwn i ρ k) G En) : ∃ l, ρ[i]? = some (.own l) ∧ FinS W (k l) G En := by
  unfold onOwn at h
  split at h
  · rename_i l hl
    exact ⟨l, getD_own hl, h⟩
  · exact h.elim
def setL (l : List D) (k : D) (d : D) : Option (List D) := match k with
  | .int z => (ixN l.length z).map fun j => l.set j d
  | _ => none
def nxO (o : Option Env) : Fl := match o with
  | some ρ => .nx ρ
  | none => .bad
/-- x[k] = v -/
def sSet (i : Nat) (mi me : ME) : MS := fun ρ => toS ρ (me ρ) fun t => onOwn i ρ fun l => toS ρ (mi ρ) fun k => nxO ((stT t.set).bind fun d => (setL l k.d d).map fun l' => ρ.set i (.own l'))
theorem nxO_some {o : Option Env} {G : Gd} {En : Ends} (h : FinS W (nxO o) G En) : ∃ ρ, o = some ρ ∧ ∀ S O σ H, StR G S O σ H ρ → En.nx σ H := by
  cases o with
  | none => exact h.elim
  | some ρ => exact ⟨ρ, rfl, h⟩
theorem ds_set (i : Nat) {p2 : Pos} (he : DX X W e m) (hk : DX X W b n) (hi : X.N[i]? = some x := by rfl) (hv : Vis X.env.scope x := by first | exact Or.inl rfl | exact Or.inr (Or.inl rfl) | exact Or.inr (Or.inr rfl)) (hd : (x == ("__debug__" : Str)) = false := by decide)
    (hcd : (x == ("__classdict__" : Str)) = false := by decide) (hs : swapsWithSole [.Subscript (.Name x p) b p2] e pos.line X.env = pure false := by rfl) (hw : swappedStores [.Subscript (.Name x p) b p2] e X.env = pure none := by rfl)
    (h1 : (assignEach [.Subscript (.Name x p) b p2] X.env).map (·.2) = [assign (.Subscript (.Name x p) b p2) X.env] := by rfl)
    (hsub : ∀ v, assign (.Subscript (.Name x p) b p2) X.env v = (do
      let ov ← holding [v] (eval (.Name x p) X.env)
      let iv ← holding [v, ov] (eval b X.env)
      standAt p2
      holding [v, ov, iv] (setItem ov iv v)
      release [v, ov, iv] []) := by intro _; rfl) : DS X W (.Assign [.Subscript (.Name x p) b p2] e pos) (sSet i n m) := by
  refine ⟨PS.weak (ps_asg he.pe (pg_sub (pe_var hi hv hd hcd) hk.pe set_list hsub) hs hw h1) ?_⟩
  rintro En σ H ⟨G, S, O, ρ, eK, st, q⟩
  refine ⟨G, S, O, ρ, eK, st, FinS.bind (rep := rT G O) q fun t v S1 H1 s1 k1 st1 rp q1 => ?_⟩
  obtain ⟨S2, s2, st2, ro⟩ := RepT.settle st1 rp
  obtain ⟨l, hl, q1⟩ := onOwn_some q1
  obtain ⟨a, vs, e1, e2, r, _⟩ := st2.write (l' := l) hl
  refine ⟨.ref a, e1, G, S2, O, ρ, eK, st2, FinS.bind (rep := rT G O) q1 fun k y S3 H3 s3 k3 st3 rp3 q3 => ?_⟩
  obtain ⟨S4, s4, st4, ro4⟩ := RepT.settle st3 rp3
  obtain ⟨ρ', hρ, q3⟩ := nxO_some q3
  cases hz : stT t.set with
  | none => rw [hz] at hρ; cases hρ
  | some d =>
    rw [hz, Option.bind_some] at hρ
    rw [stT_set hz] at ro
    cases hs' : setL l k.d d with
    | none => rw [hs'] at hρ; cases hρ
    | some l' =>
      rw [hs'] at hρ
      cases hρ
      unfold setL at hs'
      split at hs'
      · rename_i z hzz
        cases hj : ixN l.length z with
        | none => rw [hj] at hs'; cases hs'
        | some j =>
          rw [hj] at hs'
          cases hs'
          obtain ⟨a', vs', e1', e2', r', wr⟩ := st4.write (l' := l.set j d) hl
          rw [e1] at e1'
          cases e1'
          refine ⟨a, vs', z, j, rfl, RepO.int (by rw [T.set_d]; exact hzz) ro4, e2', by rw [← r'.length]; exact hj, ?_⟩
          exact q3 _ _ _ _ (wr _ S4 (Same.refl _) H3 st4 e2' (r'.set (Rep.mono (s3.trans s4) ro) j))
      · cases hs'
theorem get_list : PGet X (rIxL X.K) := by
  intro pins s σ H x y v u Q I rx ry h
  obtain ⟨p, xs, i, z, rfl, rfl, hq, he, q⟩ := h
  cases rx
  obtain ⟨t, rfl⟩ := ry
  obtain ⟨its, r, pl, hz⟩ := I.list hq
  obtain ⟨j, h1, h2, h3, h4, h5⟩ := atI_get he
  obtain ⟨w, ew, rw'⟩ := r.get h2
  have hl := r.length
  have hn := line63
  have fin : EP X pins σ Q w s := ⟨z, H, I, rw', q⟩
  by_cases h0 : 0 ≤ i
  · have hj : i.toNat = j := by
      rw [PySem.seqIndex_of h0 h5] at h1
      exact Option.some.inj h1
    exact wpAny_getItem_list pl.isList h0 (by omega) (by rw [hj]; simpa using ew) fin
  · have hj : (i + (its.toArray.size : Int)).toNat = j := by
      rw [PySem.seqIndex_neg (by omega) h4] at h1
      rw [List.size_toArray, ← hl]
      exact Option.some.inj h1
    exact wpAny_getItem_list_neg pl.isList (by omega) (by rw [List.size_toArray] <;> omega) (by omega) (by rw [hj]; simpa using ew) fin
/-- x[k] += v (whole numbers) -/
def augL (l : List D) (k : D) (d : D) : Option (List D) := match k, d with
  | .int z, .int v => (ixN l.length z).bind fun j => match l[j]? with
    | some (.int w) => some (l.set j (.int (w + v)))
    | _ => none
  | _, _ => none
def isIx (l : List D) (k : D) : Option Unit := match k with
  | .int z => (atI l z).map fun _ => ()
  | _ => none
def sAugIx (i : Nat) (mi me : ME) : MS := fun ρ => onOwn i ρ fun l => toS ρ (mi ρ) fun k => toS ρ (lift (isIx l k.d)) fun _ => toS ρ (me ρ) fun t => nxO ((augL l k.d t.d).map fun l' => ρ.set i (.own l'))
theorem atI_of {α : Type} {l : List α} {z : Int} {j : Nat} (h : ixN l.length z = some j) : atI l z = l[j]? := by
  unfold atI
  rw [h]
  rfl
theorem ds_augIx (i : Nat) {p2 : Pos} (hk : DX X W b n) (he : DX X W e m) (hi : X.N[i]? = some x := by rfl) (hv : Vis X.env.scope x := by first | exact Or.inl rfl | exact Or.inr (Or.inl rfl) | exact Or.inr (Or.inr rfl)) (hd : (x == ("__debug__" : Str)) = false := by decide)
    (hcd : (x == ("__classdict__" : Str)) = false := by decide) (ha : ∀ ov iv new, augStore b ov iv new = (do holding [new, ov, iv] (setItem ov iv new); release [new, ov, iv] []; pure .next) := by intros; rfl) :
    DS X W (.AugAssign (.Subscript (.Name x p) b p2) .Add e pos) (sAugIx i n m) := by
  refine ⟨PS.weak (ps_augS (pe_var hi hv hd hcd) hk.pe get_list he.pe ip_add set_list ha) ?_⟩
  rintro En σ H ⟨G, S, O, ρ, eK, st, q⟩
  obtain ⟨l, hl, q1⟩ := onOwn_some q
  obtain ⟨a, vs, e1, e2, r, _⟩ := st.write (l' := l) hl
  refine ⟨.ref a, e1, G, S, O, ρ, eK, st, FinS.bind (rep := rT G O) q1 fun k y S3 H3 s3 k3 st3 rp3 q3 => ?_⟩
  obtain ⟨S4, s4, st4, ro4⟩ := RepT.settle st3 rp3
  obtain ⟨a', vs', e1', e2', r', _⟩ := st4.write (l' := l) hl
  rw [e1] at e1'
  cases e1'
  cases hx : isIx l k.d with
  | none => rw [hx] at q3; exact q3.elim
  | some _ =>
    rw [hx] at q3
    have q3 : FinS W (toS ρ (m ρ) fun t => nxO ((augL l k.d t.d).map fun l' => ρ.set i (.own l'))) G En := q3
    unfold isIx at hx
    split at hx
    · rename_i z hz
      cases hat : atI l z with
      | none => rw [hat] at hx; cases hx
      | some d0 =>
        obtain ⟨v0, h2, h3⟩ := r'.atI hat
        refine ⟨a, vs', z, v0, rfl, RepO.int (by rw [T.set_d]; exact hz) ro4, .inl (.inl e2'), h2, ?_⟩
        refine ⟨G, S4, O, ρ, eK, st4, FinS.bind (rep := rT G O) q3 fun t y5 S5 H5 s5 k5 st5 rp5 q5 => ?_⟩
        obtain ⟨S6, s6, st6, ro6⟩ := RepT.settle st5 rp5
        obtain ⟨ρ', hρ, q5⟩ := nxO_some q5
        cases hz5 : augL l k.d t.d with
        | none => rw [hz5] at hρ; cases hρ
        | some l' =>
          rw [hz5] at hρ
          cases hρ
          rw [hz] at hz5
          unfold augL at hz5
          split at hz5
          · rename_i z' v hz' hv'
            cases hz'
            cases hj : ixN l.length z with
            | none => rw [hj] at hz5; cases hz5
            | some j =>
              rw [hj, Option.bind_some] at hz5
              split at hz5
              · rename_i w hw
                cases hz5
                rw [atI_of hj, hw] at hat
                cases hat
                cases h3
                refine ⟨w, v, rfl, RepO.int (by rw [T.set_d]; exact hv') ro6, ?_⟩
                obtain ⟨a6, vs6, e6, f6, r6, wr⟩ := st6.write (l' := l.set j (.int (w + v))) hl
                rw [e1] at e6
                cases e6
                refine ⟨a, vs6, z, j, rfl, RepO.int (G := G) (S := S4) (H := H3) (by rw [T.set_d]; exact hz) ro4, f6, by rw [← r6.length]; exact hj, ?_⟩
                exact q5 _ _ _ _ (wr _ S6 (Same.refl _) H5 st6 f6 (r6.set (.int _) j))
              · cases hz5
          · cases hz5
    · cases hx
end

/-! ### methods that change a name's own list -/
section
variable {X : Cx} {W : WX} {e e2 a b o : Expr} {m n q : ME} {ma : MA} {pos p ap cp : Pos} {x y : Str}
/-- x.append(v) -/
def sApp (i : Nat) (m : ME) : MS := fun ρ => onOwn i ρ fun l => toS ρ (m ρ) fun t => nxO ((stT t.set).bind fun d => if l.length < big then some (ρ.set i (.own (l ++ [d]))) else none)
theorem ds_app (i : Nat) (he : DX X W e m) (hi : X.N[i]? = some x := by rfl) (hv : Vis X.env.scope x := by first | exact Or.inl rfl | exact Or.inr (Or.inl rfl) | exact Or.inr (Or.inr rfl)) (hd : (x == ("__debug__" : Str)) = false := by decide)
    (hcd : (x == ("__classdict__" : Str)) = false := by decide)
    (hbase : attributeBase (.Name x p) "append" X.env (eval (.Name x p) X.env) = eval (.Name x p) X.env := by rfl)
    (hfew : ((backTo cp (starEach (e :: []) X.env)).all (fun x => !x.1) && (backToKw cp (keywordEach [] X.env)).all (fun x => x.1.isSome)
      && decide ((e :: ([] : List Expr)).length + ([] : List Keyword).length + (if ([] : List Keyword).isEmpty then 0 else 1) < 30)) = true := by rfl)
    (hline : (ap.endLine == cp.line) = true := by rfl) (hs : starEach (e :: []) X.env = (false, eval e X.env) :: starEach [] X.env := by rfl) (hplain : (backTo cp (starEach [] X.env)).any (·.1) = false := by rfl)
    (hsw : swapsWith (.Call (.Attribute (.Name x p) "append" ap) [e] [] cp) none pos.line X.env = pure false := by rfl) :
    DS X W (.Expr (.Call (.Attribute (.Name x p) "append" ap) [e] [] cp) pos) (sApp i m) := by
  refine ⟨PS.weak (ps_expr (pe_bm PySem.F.plainAttrs_list PySem.F.slot_list_append PySem.F.type_list_append mt_append (pe_var hi hv hd hcd) (pa_cons he.pe pa_nil hs) hbase hfew hline hs hplain) hsw) ?_⟩
  rintro En σ H ⟨G, S, O, ρ, eK, st, q⟩
  obtain ⟨l, hl, q1⟩ := onOwn_some q
  obtain ⟨a, vs, e1, e2, r, _⟩ := st.write (l' := l) hl
  refine ⟨.ref a, e1, .inl ⟨rfl, vs, .inl (.inl e2)⟩, G, S, O, ρ, eK, st, FinS.bind (rep := rT G O) q1 fun k y S3 H3 s3 k3 st3 rp3 q3 => ?_⟩
  obtain ⟨S4, s4, st4, ro4⟩ := RepT.settle st3 rp3
  obtain ⟨ρ', hρ, q3⟩ := nxO_some q3
  cases hz : stT k.set with
  | none => rw [hz] at hρ; cases hρ
  | some d =>
    rw [hz, Option.bind_some] at hρ
    rw [stT_set hz] at ro4
    split at hρ
    · rename_i hlen
      cases hρ
      obtain ⟨a', vs', e1', e2', r', wr⟩ := st4.write (l' := l ++ [d]) hl
      rw [e1] at e1'
      cases e1'
      exact ⟨a, vs', y, rfl, rfl, e2', by rw [← r'.length]; exact sz_lt hlen, q3 _ _ _ _ (wr _ S4 (Same.refl _) H3 st4 e2' (r'.append (.cons ro4 .nil)))⟩
    · cases hρ
/-- x.insert(0, v) -/
def sIns (i : Nat) (m : ME) : MS := fun ρ => onOwn i ρ fun l => toS ρ (m ρ) fun t => nxO ((stT t.set).bind fun d => if l.length < big then some (ρ.set i (.own (d :: l))) else none)
theorem ds_ins (i : Nat) {j : Nat} {pc : Pos} (he : DX X W e m) (hi : X.N[i]? = some x := by rfl) (hv : Vis X.env.scope x := by first | exact Or.inl rfl | exact Or.inr (Or.inl rfl) | exact Or.inr (Or.inr rfl)) (hd : (x == ("__debug__" : Str)) = false := by decide)
    (hcd : (x == ("__classdict__" : Str)) = false := by decide)
    (hbase : attributeBase (.Name x p) "insert" X.env (eval (.Name x p) X.env) = eval (.Name x p) X.env := by rfl)
    (hfew : ((backTo cp (starEach (.Constant (.int 0) j pc :: [e]) X.env)).all (fun x => !x.1) && (backToKw cp (keywordEach [] X.env)).all (fun x => x.1.isSome)
      && decide ((Expr.Constant (.int 0) j pc :: [e]).length + ([] : List Keyword).length + (if ([] : List Keyword).isEmpty then 0 else 1) < 30)) = true := by rfl)
    (hline : (ap.endLine == cp.line) = true := by rfl) (hs : starEach (.Constant (.int 0) j pc :: [e]) X.env = (false, eval (.Constant (.int 0) j pc) X.env) :: starEach [e] X.env := by rfl) (hs2 : starEach [e] X.env = (false, eval e X.env) :: starEach [] X.env := by rfl) (hplain : (backTo cp (starEach [e] X.env)).any (·.1) = false := by rfl)
    (hsw : swapsWith (.Call (.Attribute (.Name x p) "insert" ap) [.Constant (.int 0) j pc, e] [] cp) none pos.line X.env = pure false := by rfl) :
    DS X W (.Expr (.Call (.Attribute (.Name x p) "insert" ap) [.Constant (.int 0) j pc, e] [] cp) pos) (sIns i m) := by
  refine ⟨PS.weak (ps_expr (pe_bm PySem.F.plainAttrs_list PySem.F.slot_list_insert PySem.F.type_list_insert mt_insert (pe_var hi hv hd hcd) (pa_cons pe_int (pa_cons he.pe pa_nil hs2) hs) hbase hfew hline hs hplain) hsw) ?_⟩
  rintro En σ H ⟨G, S, O, ρ, eK, st, q⟩
  obtain ⟨l, hl, q1⟩ := onOwn_some q
  obtain ⟨a, vs, e1, e2, r, _⟩ := st.write (l' := l) hl
  refine ⟨.ref a, e1, .inl ⟨rfl, vs, .inl (.inl e2)⟩, G, S, O, ρ, eK, st, FinS.bind (rep := rT G O) q1 fun k y S3 H3 s3 k3 st3 rp3 q3 => ?_⟩
  obtain ⟨S4, s4, st4, ro4⟩ := RepT.settle st3 rp3
  obtain ⟨ρ', hρ, q3⟩ := nxO_some q3
  cases hz : stT k.set with
  | none => rw [hz] at hρ; cases hρ
  | some d =>
    rw [hz, Option.bind_some] at hρ
    rw [stT_set hz] at ro4
    split at hρ
    · rename_i hlen
      cases hρ
      obtain ⟨a', vs', e1', e2', r', wr⟩ := st4.write (l' := d :: l) hl
      rw [e1] at e1'
      cases e1'
      exact ⟨a, vs', 0, y, rfl, rfl, e2', by rw [← r'.length]; exact sz_lt hlen, by decide, by decide, q3 _ _ _ _ (wr _ S4 (Same.refl _) H3 st4 e2' (.cons ro4 r'))⟩
    · cases hρ
/-- x.pop() -/
def sPop (i : Nat) : MS := fun ρ => onOwn i ρ fun l => if l = [] then .bad else .nx (ρ.set i (.own l.dropLast))
theorem ds_pop (i : Nat) (hi : X.N[i]? = some x := by rfl) (hv : Vis X.env.scope x := by first | exact Or.inl rfl | exact Or.inr (Or.inl rfl) | exact Or.inr (Or.inr rfl)) (hd : (x == ("__debug__" : Str)) = false := by decide)
    (hcd : (x == ("__classdict__" : Str)) = false := by decide)
    (hbase : attributeBase (.Name x p) "pop" X.env (eval (.Name x p) X.env) = eval (.Name x p) X.env := by rfl)
    (hline : (ap.endLine == cp.line) = true := by rfl)
    (hsw : swapsWith (.Call (.Attribute (.Name x p) "pop" ap) [] [] cp) none pos.line X.env = pure false := by rfl) :
    DS X W (.Expr (.Call (.Attribute (.Name x p) "pop" ap) [] [] cp) pos) (sPop i) := by
  refine ⟨PS.weak (ps_expr (pe_bm0 PySem.F.plainAttrs_list PySem.F.slot_list_pop PySem.F.type_list_pop mt_pop (pe_var hi hv hd hcd) hbase hline) hsw) ?_⟩
  rintro En σ H ⟨G, S, O, ρ, eK, st, q⟩
  obtain ⟨l, hl, q1⟩ := onOwn_some q
  split at q1
  · exact q1.elim
  · rename_i hne
    obtain ⟨a, vs, e1, e2, r, wr⟩ := st.write (l' := l.dropLast) hl
    have hlen : vs.length - 1 < vs.length := by
      rw [← r.length]
      cases l with
      | nil => exact absurd rfl hne
      | cons z zs => rw [List.length_cons]; omega
    refine ⟨.ref a, e1, .inl ⟨rfl, vs, .inl (.inl e2)⟩, a, vs, vs[vs.length - 1], rfl, rfl, e2, by simp [hlen], q1 _ _ _ _ (wr _ S (Same.refl _) H st e2 r.dropLast)⟩
/-- x.clear() -/
def sClr (i : Nat) : MS := fun ρ => onOwn i ρ fun _ => .nx (ρ.set i (.own []))
theorem ds_clr (i : Nat) (hi : X.N[i]? = some x := by rfl) (hv : Vis X.env.scope x := by first | exact Or.inl rfl | exact Or.inr (Or.inl rfl) | exact Or.inr (Or.inr rfl)) (hd : (x == ("__debug__" : Str)) = false := by decide)
    (hcd : (x == ("__classdict__" : Str)) = false := by decide)
    (hbase : attributeBase (.Name x p) "clear" X.env (eval (.Name x p) X.env) = eval (.Name x p) X.env := by rfl)
    (hline : (ap.endLine == cp.line) = true := by rfl)
    (hsw : swapsWith (.Call (.Attribute (.Name x p) "clear" ap) [] [] cp) none pos.line X.env = pure false := by rfl) :
    DS X W (.Expr (.Call (.Attribute (.Name x p) "clear" ap) [] [] cp) pos) (sClr i) := by
  refine ⟨PS.weak (ps_expr (pe_bm0 PySem.F.plainAttrs_list PySem.F.slot_list_clear PySem.F.type_list_clear mt_clear (pe_var hi hv hd hcd) hbase hline) hsw) ?_⟩
  rintro En σ H ⟨G, S, O, ρ, eK, st, q⟩
  obtain ⟨l, hl, q1⟩ := onOwn_some q
  obtain ⟨a, vs, e1, e2, r, wr⟩ := st.write (l' := []) hl
  exact ⟨.ref a, e1, .inl ⟨rfl, vs, .inl (.inl e2)⟩, a, vs, rfl, rfl, e2, q1 _ _ _ _ (wr _ S (Same.refl _) H st e2 .nil)⟩
/-- x.append(y.pop(0)) -/
def sAppPop (i j : Nat) : MS := fun ρ => onOwn i ρ fun l => onOwn j ρ fun l' => match l' with
  | [] => .bad
  | d :: r => if l.length < big ∧ i ≠ j then .nx ((ρ.set j (.own r)).set i (.own (l ++ [d]))) else .bad
theorem ds_appPop (i j : Nat) {k : Nat} {p3 p4 ap2 cp2 : Pos} (hi : X.N[i]? = some x := by rfl) (hv : Vis X.env.scope x := by first | exact Or.inl rfl | exact Or.inr (Or.inl rfl) | exact Or.inr (Or.inr rfl)) (hd : (x == ("__debug__" : Str)) = false := by decide)
    (hcd : (x == ("__classdict__" : Str)) = false := by decide) (hj : X.N[j]? = some y := by rfl) (hv2 : Vis X.env.scope y := by first | exact Or.inl rfl | exact Or.inr (Or.inl rfl) | exact Or.inr (Or.inr rfl)) (hd2 : (y == ("__debug__" : Str)) = false := by decide)
    (hcd2 : (y == ("__classdict__" : Str)) = false := by decide)
    (hbase : attributeBase (.Name x p) "append" X.env (eval (.Name x p) X.env) = eval (.Name x p) X.env := by rfl)
    (hfew : ((backTo cp (starEach (.Call (.Attribute (.Name y p3) "pop" ap2) [.Constant (.int 0) k p4] [] cp2 :: []) X.env)).all (fun x => !x.1) && (backToKw cp (keywordEach [] X.env)).all (fun x => x.1.isSome)
      && decide ((Expr.Call (.Attribute (.Name y p3) "pop" ap2) [.Constant (.int 0) k p4] [] cp2 :: ([] : List Expr)).length + ([] : List Keyword).length + (if ([] : List Keyword).isEmpty then 0 else 1) < 30)) = true := by rfl)
    (hline : (ap.endLine == cp.line) = true := by rfl) (hs : starEach (.Call (.Attribute (.Name y p3) "pop" ap2) [.Constant (.int 0) k p4] [] cp2 :: []) X.env = (false, eval (.Call (.Attribute (.Name y p3) "pop" ap2) [.Constant (.int 0) k p4] [] cp2) X.env) :: starEach [] X.env := by rfl) (hplain : (backTo cp (starEach [] X.env)).any (·.1) = false := by rfl)
    (hbase2 : attributeBase (.Name y p3) "pop" X.env (eval (.Name y p3) X.env) = eval (.Name y p3) X.env := by rfl)
    (hfew2 : ((backTo cp2 (starEach (.Constant (.int 0) k p4 :: []) X.env)).all (fun x => !x.1) && (backToKw cp2 (keywordEach [] X.env)).all (fun x => x.1.isSome)
      && decide ((Expr.Constant (.int 0) k p4 :: ([] : List Expr)).length + ([] : List Keyword).length + (if ([] : List Keyword).isEmpty then 0 else 1) < 30)) = true := by rfl)
    (hline2 : (ap2.endLine == cp2.line) = true := by rfl) (hs2 : starEach (.Constant (.int 0) k p4 :: []) X.env = (false, eval (.Constant (.int 0) k p4) X.env) :: starEach [] X.env := by rfl) (hplain2 : (backTo cp2 (starEach [] X.env)).any (·.1) = false := by rfl)
    (hsw : swapsWith (.Call (.Attribute (.Name x p) "append" ap) [.Call (.Attribute (.Name y p3) "pop" ap2) [.Constant (.int 0) k p4] [] cp2] [] cp) none pos.line X.env = pure false := by rfl) :
    DS X W (.Expr (.Call (.Attribute (.Name x p) "append" ap) [.Call (.Attribute (.Name y p3) "pop" ap2) [.Constant (.int 0) k p4] [] cp2] [] cp) pos) (sAppPop i j) := by
  refine ⟨PS.weak (ps_expr (pe_bm PySem.F.plainAttrs_list PySem.F.slot_list_append PySem.F.type_list_append mt_append (pe_var hi hv hd hcd) (pa_cons (pe_bm PySem.F.plainAttrs_list PySem.F.slot_list_pop PySem.F.type_list_pop mt_popAt (pe_var hj hv2 hd2 hcd2) (pa_cons pe_int pa_nil hs2) hbase2 hfew2 hline2 hs2 hplain2) pa_nil hs) hbase hfew hline hs hplain) hsw) ?_⟩
  rintro En σ H ⟨G, S, O, ρ, eK, st, q⟩
  obtain ⟨l, hl, q1⟩ := onOwn_some q
  obtain ⟨l', hl', q1⟩ := onOwn_some q1
  split at q1
  · exact q1.elim
  · rename_i d r
    split at q1
    · rename_i hc
      obtain ⟨a, vs, e1, e2, r1, _⟩ := st.write (l' := l) hl
      obtain ⟨b, ws, f1, f2, r2, wr⟩ := st.write (l' := r) hl'
      cases r2 with
      | cons h2 r2 =>
        rename_i v2 ws2
        have st2 := wr ws2 S (Same.refl _) H st f2 r2
        have hl2 : (ρ.set j (.own r))[i]? = some (.own l) := by rw [List.getElem?_set_ne (fun z => hc.2 z.symm)]; exact hl
        obtain ⟨a', vs', e1', e2', r', wr'⟩ := st2.write (l' := l ++ [d]) hl2
        rw [e1] at e1'
        cases e1'
        refine ⟨.ref a, e1, .inl ⟨rfl, vs, .inl (.inl e2)⟩, .ref b, f1, .inl ⟨rfl, _, .inl (.inl f2)⟩, b, v2 :: ws2, 0, 0, v2, rfl, rfl, f2, by decide, by decide, PySem.seqIndex_of (Int.le_refl 0) (by rw [List.length_cons]; omega), rfl, ?_⟩
        exact ⟨a, vs', v2, rfl, rfl, e2', by rw [← r'.length]; exact sz_lt hc.1, q1 _ _ _ _ (wr' _ S (Same.refl _) _ st2 e2' (r'.append (.cons h2 .nil)))⟩
    · exact q1.elim
end
end RF

set_option Elab.async false
set_option linter.all false
set_option maxRecDepth 100000
set_option autoImplicit false
/-! RF, part H: loops, comprehensions, defs -/
namespace RF
open PySem PySem.Spec L2

section
variable {X : Cx} {W : WX} {e e2 a b o tg iter elt : Expr} {m n q me : ME} {ma : MA} {mi : MI} {g : MG} {c : MT} {s t : MS} {pos p ap cp : Pos} {x y : Str}

/-! ### while -/
def whileD (c : MT) (s : MS) : Nat → MS
  | 0, _ => .bad
  | n + 1, ρ => toS ρ (c ρ) fun b => if b then (match s ρ with
    | .nx ρ' => whileD c s n ρ'
    | .ct ρ' => whileD c s n ρ'
    | .bk ρ' => .nx ρ'
    | r => r) else .nx ρ
def sWhile (N : Nat) (c : MT) (s : MS) : MS := whileD c s N
theorem ds_while {body : List Stmt} (N : Nat) (C : Ctx X W) (hc : DT X W e c) (hb : DSs X W body s) : DS X W (.While e body [] pos) (sWhile N c s) := by
  refine ⟨PS.weak (ps_while C.own hc.pt hb.pss) ?_⟩
  rintro D σ H ⟨G, S, O, ρ, eK, st, q⟩
  refine ⟨fun n σ H => ∃ S O ρ, StR G S O σ H ρ ∧ FinS W (whileD c s n ρ) G D, ⟨N, S, O, ρ, st, q⟩, ?_⟩
  rintro n σ1 H1 ⟨S1, O1, ρ1, st1, q1⟩
  cases n with
  | zero => exact q1.elim
  | succ n =>
    refine ⟨G, S1, O1, ρ1, eK, st1, FinS.bind (rep := rB) q1 fun t x S2 H2 s2 k2 st2 rp q2 => ?_⟩
    cases rp
    cases t with
    | true =>
      refine ⟨fun σ' H' => ∃ S O ρ, StR G S O σ' H' ρ ∧ FinS W (whileD c s n ρ) G D, fun σ' H' h => ⟨n, Nat.lt_succ_self n, h⟩, G, S2, O1, ρ1, eK, st2, ?_⟩
      have q2 : FinS W (match s ρ1 with
        | .nx ρ' => whileD c s n ρ'
        | .ct ρ' => whileD c s n ρ'
        | .bk ρ' => .nx ρ'
        | r => r) G D := q2
      cases hr : s ρ1 with
      | nx ρ' =>
        rw [hr] at q2
        exact fun S' O' σ' H' st' => ⟨S', O', ρ', st', q2⟩
      | ct ρ' =>
        rw [hr] at q2
        exact fun S' O' σ' H' st' => ⟨S', O', ρ', st', q2⟩
      | bk ρ' => rw [hr] at q2; exact q2
      | bad => rw [hr] at q2; exact q2
      | rt t => rw [hr] at q2; exact q2
      | ex ρ' x => rw [hr] at q2; exact q2
    | false => exact q2 S2 O1 σ1 H2 st2

/-! ### for -/
def forD (g : MG) (s : MS) : List D → MS
  | [], ρ => .nx ρ
  | d :: ds, ρ => match g d ρ with
    | none => .bad
    | some ρ1 => match s ρ1 with
      | .nx ρ' => forD g s ds ρ'
      | .ct ρ' => forD g s ds ρ'
      | .bk ρ' => .nx ρ'
      | r => r
def sFor (mi : MI) (g : MG) (s : MS) : MS := fun ρ => toS ρ (mi ρ) fun ds => forD g s ds ρ
theorem drop_get {α : Type} {l : List α} {i : Nat} {d : α} (h : l[i]? = some d) : l.drop i = d :: l.drop (i + 1) := by
  obtain ⟨hi, e⟩ := List.getElem?_eq_some_iff.mp h
  rw [List.drop_eq_getElem_cons hi, e]
theorem ds_for {body : List Stmt} (C : Ctx X W) (hi : DI X W tg iter mi) (hg : DG X tg g) (hb : DSs X W body s) (hs : ∀ x, foldedSetIterable iter X.env x = pure x := by intro _; rfl) : DS X W (.For tg iter body [] pos) (sFor mi g s) := by
  refine ⟨PS.weak (ps_for C.own C.calm hi.pi hg.pg hb.pss hs) ?_⟩
  rintro D σ H ⟨G, S, O, ρ, eK, st, q⟩
  refine ⟨G, S, O, ρ, eK, st, FinS.bind (rep := rY X.K) q fun ds J S1 H1 s1 k1 st1 yl q1 => ?_⟩
  refine ⟨fun i n σ H => n = ds.length - i ∧ i ≤ ds.length ∧ ∃ S O ρ, Ex S1 S ∧ StR G S O σ H ρ ∧ FinS W (forD g s (ds.drop i) ρ) G D, ⟨_, rfl, Nat.zero_le _, S1, O, ρ, Same.refl _, st1, q1⟩, ?_⟩
  rintro i n σ2 H2 ⟨rfl, hle, S2, O2, ρ2, e2, st2, q2⟩
  by_cases hlt : i < ds.length
  · refine .inr ⟨yl.go H2 (e2.trans st2.exS) i hlt, fun σ' H' => ∃ S O ρ, Ex S1 S ∧ StR G S O σ' H' ρ ∧ FinS W (forD g s (ds.drop (i + 1)) ρ) G D, fun σ' H' h => ⟨ds.length - (i + 1), by omega, rfl, hlt, h⟩, fun x H' hy => ?_⟩
    obtain ⟨d, hd, hx⟩ := yl.yld H2 (e2.trans st2.exS) i x H' hlt hy
    rw [drop_get hd] at q2
    unfold forD at q2
    cases hgd : g d ρ2 with
    | none => rw [hgd] at q2; exact q2.elim
    | some ρ3 =>
      rw [hgd] at q2
      have goOn : ∀ S3, Ex S2 S3 → StR G S3 O2 σ2 H' ρ2 → Rep G.K S3 d x → tG X.K g x σ2 H' fun σ4 H4 => tS X.K W s { D with nx := fun σ' H' => ∃ S O ρ, Ex S1 S ∧ StR G S O σ' H' ρ ∧ FinS W (forD g s (ds.drop (i + 1)) ρ) G D, ct := fun σ' H' => ∃ S O ρ, Ex S1 S ∧ StR G S O σ' H' ρ ∧ FinS W (forD g s (ds.drop (i + 1)) ρ) G D, bk := D.nx } σ4 H4 := by
        intro S3 e3 st3 rp
        refine ⟨G, S3, O2, ρ2, d, ρ3, eK, st3, by rw [← eK]; exact rp, hgd, fun O' σ' st' => ?_⟩
        -- what is walked stands still all along
        refine ⟨⟨G.K, G.B, S3⟩, S3, O', ρ3, eK, ⟨st'.exB, Same.refl _, st'.exS, fun b hb => .inl hb, st'.len, st'.slot, st'.off, st'.live, st'.apart, st'.out⟩, ?_⟩
        have back : ∀ {S4 : Hp} {O4 : Nat → List Addr} {σ4 : L2.St} {H4 : Hp} {ρ4 : Env}, StR ⟨G.K, G.B, S3⟩ S4 O4 σ4 H4 ρ4 → StR G S4 O4 σ4 H4 ρ4 := fun {S4 O4 σ4 H4 ρ4} z =>
          ⟨z.exB, st3.exS0.trans z.exS0, z.exS, fun b hb => by
            rcases z.new b hb with h | h
            · exact st3.new b h
            · exact .inr h, z.len, z.slot, z.off, z.live, z.apart, z.out⟩
        simp only at q2
        cases hr : s ρ3 with
        | nx ρ' =>
          rw [hr] at q2
          exact fun S4 O4 σ4 H4 z => ⟨S4, O4, ρ', (e2.trans e3).trans z.exS0, back z, q2⟩
        | ct ρ' =>
          rw [hr] at q2
          exact fun S4 O4 σ4 H4 z => ⟨S4, O4, ρ', (e2.trans e3).trans z.exS0, back z, q2⟩
        | bk ρ' =>
          rw [hr] at q2
          exact fun S4 O4 σ4 H4 z => q2 S4 O4 σ4 H4 (back z)
        | bad => rw [hr] at q2; exact q2
        | rt t =>
          rw [hr] at q2
          intro v S4 H4 rr
          obtain ⟨r1, r2, r3, r4, r5⟩ := rr
          refine q2 v S4 H4 ⟨r1, st3.exS0.trans r2, r3, fun b hb => ?_, r5⟩
          rcases r4 b hb with h | h
          · exact st3.new b h
          · exact .inr h
        | ex ρ' x =>
          rw [hr] at q2
          exact fun d' S4 O4 σ4 H4 z xr => q2 d' S4 O4 σ4 H4 (back z) xr
      rcases hx with ⟨rfl, rp⟩ | ⟨p, ws, l, rfl, hn, rfl, rfl, rs⟩
      · rw [← eK] at rp
        exact goOn S2 (Same.refl _) st2 (rp.mono e2)
      · obtain ⟨st3, e3, _⟩ := st2.stand (o := .tup ws) hn
        rw [← eK] at rs
        exact goOn _ e3 st3 (.tup (.inl (.inl upd_same)) (rs.mono (e2.trans e3)))
  · have hi' : i = ds.length := by omega
    subst hi'
    rw [List.drop_length] at q2
    exact .inl ⟨yl.stop H2 (e2.trans st2.exS) _ (Nat.le_refl _), q2 S2 O2 σ2 H2 st2⟩

/-! ### comprehensions -/
abbrev WF : WX := fun _ _ _ _ => False
def noX {α : Type} : R α → R α
  | .ex _ => .bad
  | r => r
def compD (g : MG) (c : MT) (me : ME) (ρ : Env) : List D → R (List D)
  | [] => .ok []
  | d :: ds => match g d ρ with
    | none => .bad
    | some ρ1 => (noX (c ρ1)).bind fun b => if b then (noX (me ρ1)).bind fun t => (lift (stT t.set)).bind fun x => (compD g c me ρ ds).bind fun r => .ok (x :: r) else compD g c me ρ ds
def wipeE (ρ : Env) : List Nat → Env
  | [] => ρ
  | v :: vs => (wipeE ρ vs).set v .no
def cYes : MT := fun _ => .ok true
theorem Fin.noX {α β : Type} {rep : Hp → Hp → α → β → Prop} {r : R α} {G : Gd} {S : Hp} {O : Nat → List Addr} {σ : L2.St} {H : Hp} {ρ : Env} {Q : β → Hp → Prop} (h : Fin WF rep (RF.noX r) G S O σ H ρ Q) : Fin WF rep r G S O σ H ρ Q := by
  cases r with
  | bad => exact h
  | ok a => exact h
  | ex x => exact h.elim
theorem StR.wipe {G : Gd} {S : Hp} {O : Nat → List Addr} {σ : L2.St} {H : Hp} {ρ : Env} (st : StR G S O σ H ρ) : ∀ vs : List Nat, StR G S (fun j => if j ∈ vs then [] else O j) (L2.wipe σ vs) H (wipeE ρ vs)
  | [] => by
    have e : (fun j => if j ∈ ([] : List Nat) then [] else O j) = O := by
      funext j
      simp
    rw [e]
    exact st
  | v :: vs => by
    have z := (StR.wipe st vs).drop v none
    have e : (fun j => if j ∈ v :: vs then [] else O j) = (fun j => if j = v then [] else if j ∈ vs then [] else O j) := by
      funext j
      by_cases h1 : j = v
      · simp [h1]
      · by_cases h2 : j ∈ vs <;> simp [h1, h2]
    rw [e]
    exact z
/-- the lists that slots hold alone are told by the slots -/
theorem StR.same {G G' : Gd} {S S' : Hp} {O O' : Nat → List Addr} {σ : L2.St} {H H' : Hp} {ρ : Env} (st : StR G S O σ H ρ) (st' : StR G' S' O' σ H' ρ) (k : Ex H H') : O' = O := by
  funext i
  cases hs : ρ[i]? with
  | none =>
    have hl : ρ.length ≤ i := List.getElem?_eq_none_iff.mp hs
    rw [st.out i hl, st'.out i hl]
  | some s =>
    have h1 := st.slot i s hs
    have h2 := st'.slot i s hs
    cases s with
    | no =>
      have h1 : O i = [] := h1
      have h2 : O' i = [] := h2
      rw [h1, h2]
    | val d => rw [h1.1, h2.1]
    | own l =>
      obtain ⟨a, vs, e1, e2, _⟩ := h1
      obtain ⟨b, ws, f1, f2, _⟩ := h2
      rw [e1] at f1
      cases f1
      rw [e2, f2]
    | own2 ls =>
      obtain ⟨a, as, e1, e2, _, e3, _⟩ := h1
      obtain ⟨b, bs, f1, f2, _, f3, _⟩ := h2
      rw [e1] at f1
      cases f1
      rw [k _ _ e3] at f3
      have e : as.map V.ref = bs.map V.ref := HO.lst.inj (Option.some.inj f3)
      have e' : as = bs := by
        have z : ∀ {xs ys : List Addr}, xs.map V.ref = ys.map V.ref → xs = ys := by
          intro xs
          induction xs with
          | nil => intro ys h; cases ys with
            | nil => rfl
            | cons y ys => cases h
          | cons x xs ih => intro ys h; cases ys with
            | nil => cases h
            | cons y ys =>
              rw [List.map_cons, List.map_cons] at h
              injection h with h1 h2
              injection h1 with h1
              rw [h1, ih h2]
        exact z e
      rw [e2, f2, e']
    | dic l =>
      obtain ⟨a, vs, e1, e2, _⟩ := h1
      obtain ⟨b, ws, f1, f2, _⟩ := h2
      rw [e1] at f1
      cases f1
      rw [e2, f2]
    | ins a C ks l => rw [h1.2.1, h2.2.1]
    | pr l d =>
      obtain ⟨a, b, vs, w, e1, e2, e3, _⟩ := h1
      obtain ⟨a', b', vs', w', f1, f2, f3, _⟩ := h2
      rw [e1] at f1
      cases f1
      have z1 := k _ _ (st.exS _ _ e3)
      rw [st'.exS _ _ f3] at z1
      cases z1
      rw [e2, f2]
/-- none of these slots holds a list alone -/
def noOwn (ρ : Env) (vs : List Nat) : Bool := vs.all fun v => match ρ.getD v .no with
  | .no => true
  | .val _ => true
  | _ => false
def eComp (mi : MI) (vs : List Nat) (g : MG) (c : MT) (me : ME) : ME := fun ρ => if noOwn ρ vs = true then (mi ρ).bind fun ds => (compD g c me (wipeE ρ vs) ds).bind fun l => lift (if ds.length ≤ big then some (T.fr l) else none) else .bad
structure DTs (X : Cx) (W : WX) (ifs : List Expr) (c : MT) : Prop where
  pts : PTs X ifs (tT X.K W c)
theorem PTs.weak {X : Cx} {e : List Expr} {t t' : TT} (h : PTs X e t) (k : ∀ σ H Q, t' σ H Q → t σ H Q) : PTs X e t' := ⟨fun pins s σ H Q I q => h.run pins s σ H Q I (k σ H Q q)⟩
theorem dts_nil : DTs X W [] cYes := ⟨PTs.weak pts_nil fun σ H Q ⟨G, S, O, ρ, eK, st, q⟩ => q true S H (Same.refl _) (Same.refl _) st rfl⟩
theorem dts_one (h : DT X W e c) : DTs X W [e] c := ⟨pts_one h.pt⟩
/-! a target of the comprehension's own names -/
theorem set_wipe {α : Type} {σ : List α} {i : Nat} {v : α} (w : List α → List Nat → List α) (z : α) (hn : ∀ s, w s [] = s) (hc : ∀ s a as, w s (a :: as) = (w s as).set a z) : ∀ {vs : List Nat}, i ∈ vs → w (σ.set i v) vs = w σ vs
  | a :: vs, h => by
    rw [hc, hc]
    by_cases hi : i ∈ vs
    · rw [set_wipe w z hn hc hi]
    · rcases List.mem_cons.mp h with rfl | h
      · have q : ∀ ws : List Nat, i ∉ ws → w (σ.set i v) ws = (w σ ws).set i v := by
          intro ws
          induction ws with
          | nil => intro _; rw [hn, hn]
          | cons b ws ih =>
            intro hw
            rw [hc, hc, ih (fun q => hw (List.mem_cons_of_mem _ q)), List.set_comm]
            exact fun e => hw (by rw [e]; exact List.mem_cons_self)
        rw [q vs hi, List.set_set]
      · exact absurd h hi
def tGo (K : PySem.W.Frag) (g : MG) (vs : List Nat) : TG := fun v σ H Q => ∃ G S O ρ d ρ', G.K = K ∧ StR G S O σ H ρ ∧ Rep K S d v ∧ g d ρ = some ρ' ∧ ∀ O' σ', StR G S O' σ' H ρ' → L2.wipe σ' vs = L2.wipe σ vs → wipeE ρ' vs = wipeE ρ vs → Q σ' H
structure DGc (X : Cx) (tg : Expr) (g : MG) (vs : List Nat) : Prop where
  pg : PG X tg (tGo X.K g vs)
theorem dgc_n (i : Nat) {vs : List Nat} (hN : X.N.Nodup) (hi : X.N[i]? = some x := by rfl) (hm : i ∈ vs := by decide) (hx : Loc X.env.scope x := by first | exact .inl rfl | exact .inr rfl) (hf : X.fn x = true ∨ X.env.scope.names.lookup x = some .local := by first | exact .inr rfl | exact .inl rfl) : DGc X (.Name x pos) (gN i) vs := by
  refine ⟨PG.weak (pg_name hN hi hx hf) ?_⟩
  rintro v σ H Q ⟨G, S, O, ρ, d, ρ', eK, st, rp, hg, q⟩
  cases hg
  rw [← eK] at rp
  obtain ⟨O', st'⟩ := st.setVal i rp
  exact q _ _ st' (set_wipe L2.wipe none (fun _ => rfl) (fun _ _ _ => rfl) hm) (set_wipe wipeE .no (fun _ => rfl) (fun _ _ _ => rfl) hm)
def tGso (K : PySem.W.Frag) (g : MGs) (ws : List Nat) : TGs := fun vs σ H Q => ∃ G S O ρ ds ρ', G.K = K ∧ StR G S O σ H ρ ∧ Reps K S ds vs ∧ g ds ρ = some ρ' ∧ ∀ O' σ', StR G S O' σ' H ρ' → L2.wipe σ' ws = L2.wipe σ ws → wipeE ρ' ws = wipeE ρ ws → Q σ' H
structure DGcs (X : Cx) (tg : List Expr) (g : MGs) (vs : List Nat) : Prop where
  pgs : PGs X tg (tGso X.K g vs)
theorem dgcs_nil {vs : List Nat} : DGcs X [] gsN vs := by
  refine ⟨PGs.weak pgs_nil ?_⟩
  rintro vs σ H Q ⟨G, S, O, ρ, ds, ρ', eK, st, rp, hg, q⟩
  unfold gsN at hg
  split at hg
  · cases hg
    cases rp
    exact ⟨rfl, q _ _ st rfl rfl⟩
  · cases hg
theorem dgcs_cons {es : List Expr} {gs : MGs} {vs : List Nat} (h1 : DGc X e g vs) (h2 : DGcs X es gs vs)
    (hs : (assignEach (e :: es) X.env).map (·.2) = assign e X.env :: (assignEach es X.env).map (·.2) := by rfl) : DGcs X (e :: es) (gsC g gs) vs := by
  refine ⟨PGs.weak (pgs_cons h1.pg h2.pgs hs) ?_⟩
  rintro vs' σ H Q ⟨G, S, O, ρ, ds, ρ', eK, st, rp, hg, q⟩
  unfold gsC at hg
  split at hg
  · rename_i d r
    cases rp with
    | cons r1 r2 =>
      cases h : g d ρ with
      | none => rw [h] at hg; cases hg
      | some ρ1 =>
        rw [h] at hg
        exact ⟨_, _, rfl, G, S, O, ρ, d, ρ1, eK, st, r1, h, fun O' σ' st' w1 w2 => ⟨G, S, O', ρ1, r, ρ', eK, st', r2, hg, fun O2 σ2 st2 w3 w4 => q O2 σ2 st2 (w3.trans w1) (w4.trans w2)⟩⟩
  · cases hg
theorem dgc_tup {es : List Expr} {k n : Nat} {gs : MGs} {vs : List Nat} (hc : X.calm = true) (h : DGcs X es gs vs)
    (hn : (assignEach es X.env).length = n := by rfl) (hst : (assignEach es X.env).findIdx? (·.1) = none := by rfl) : DGc X (.Tuple es k pos) (gT n gs) vs := by
  refine ⟨PG.weak (pg_tup hc h.pgs hn hst) ?_⟩
  rintro v σ H Q ⟨G, S, O, ρ, d, ρ', eK, st, rp, hg, q⟩
  unfold gT at hg
  split at hg
  · rename_i l
    split at hg
    · rename_i hl
      cases rp with
      | tup h1 r1 => exact ⟨_, _, rfl, ex_t st.exS h1, by rw [← r1.length]; exact hl, G, S, O, ρ, l, ρ', eK, st, r1, hg, q⟩
    · cases hg
  · cases hg

/-- the list that is being made, set aside -/
theorem StR.aside {G : Gd} {S : Hp} {O : Nat → List Addr} {σ : L2.St} {H : Hp} {ρ : Env} {p : Addr} {o : HO} (st : StR G S O σ H ρ) (hp : H p = none) : StR ⟨G.K, upd G.B p o, G.S0⟩ S O σ (upd H p o) ρ ∧ S p = none ∧ G.B p = none ∧ ∀ i, p ∉ O i := by
  have sp : S p = none := by
    cases e : S p with
    | none => rfl
    | some u => rw [st.exS p u e] at hp; cases hp
  have bp : G.B p = none := none_of_B st hp
  have op : ∀ i, p ∉ O i := fun i q => st.live i p q hp
  have st2 := st.grow (ex_upd (o := o) hp)
  refine ⟨⟨fun b u e => ?_, st2.exS0, st2.exS, fun b hb => ?_, st2.len, st2.slot, fun i a q => ⟨(st2.off i a q).1, ?_⟩, st2.live, st2.apart, st2.out⟩, sp, bp, op⟩
  · by_cases hb : b = p
    · subst hb
      have e : upd G.B b o b = some u := e
      rw [upd_same] at e ⊢
      exact e
    · have e : upd G.B p o b = some u := e
      rw [upd_ne hb] at e
      exact st2.exB b u e
  · have hb' : b ≠ p := fun z => hb (by rw [z]; exact sp)
    rcases st2.new b hb with h | h
    · exact .inl h
    · refine .inr ?_
      show upd G.B p o b = none
      rw [upd_ne hb']
      exact h
  · show upd G.B p o a = none
    rw [upd_ne (fun z => op i (by rw [← z]; exact q))]
    exact (st2.off i a q).2
/-- .. it grows -/
theorem StR.asideUp {G : Gd} {S : Hp} {O : Nat → List Addr} {σ : L2.St} {H : Hp} {ρ : Env} {p : Addr} {o o' : HO} (st : StR ⟨G.K, upd G.B p o, G.S0⟩ S O σ H ρ) (sp : S p = none) : StR ⟨G.K, upd G.B p o', G.S0⟩ S O σ (upd H p o') ρ := by
  have op : ∀ i, p ∉ O i := fun i q => by
    have z := (st.off i p q).2
    have z : upd G.B p o p = none := z
    rw [upd_same] at z
    cases z
  refine ⟨fun b u e => ?_, st.exS0, fun b u e => ?_, fun b hb => ?_, st.len, fun i s e => (st.slot i s e).mono (Same.refl _) fun a u q h => ?_, fun i a q => ⟨(st.off i a q).1, ?_⟩, fun i a q => ?_, st.apart, st.out⟩
  · by_cases hb : b = p
    · subst hb
      have e : upd G.B b o' b = some u := e
      rw [upd_same] at e ⊢
      exact e
    · have e : upd G.B p o' b = some u := e
      rw [upd_ne hb] at e ⊢
      refine st.exB b u ?_
      show upd G.B p o b = some u
      rw [upd_ne hb]
      exact e
  · rw [upd_ne (fun z => by rw [z, sp] at e; cases e)]
    exact st.exS b u e
  · have hb' : b ≠ p := fun z => hb (by rw [z]; exact sp)
    rcases st.new b hb with h | h
    · exact .inl h
    · refine .inr ?_
      have h : upd G.B p o b = none := h
      rw [upd_ne hb'] at h
      show upd G.B p o' b = none
      rw [upd_ne hb']
      exact h
  · rw [upd_ne (fun z => op i (by rw [← z]; exact q))]
    exact h
  · have ha : a ≠ p := fun z => op i (by rw [← z]; exact q)
    have h := (st.off i a q).2
    have h : upd G.B p o a = none := h
    rw [upd_ne ha] at h
    show upd G.B p o' a = none
    rw [upd_ne ha]
    exact h
  · rw [upd_ne (fun z => op i (by rw [← z]; exact q))]
    exact st.live i a q
theorem wipe_wipe (σ : L2.St) (vs : List Nat) : ∀ ws : List Nat, (∀ w ∈ ws, w ∈ vs) → L2.wipe (L2.wipe σ ws) vs = L2.wipe σ vs
  | [], _ => rfl
  | w :: ws, h => by
    have z : L2.wipe σ (w :: ws) = (L2.wipe σ ws).set w none := rfl
    rw [z, set_wipe L2.wipe none (fun _ => rfl) (fun _ _ _ => rfl) (h w List.mem_cons_self)]
    exact wipe_wipe σ vs ws fun v hv => h v (List.mem_cons_of_mem _ hv)
theorem wipeE_wipe (σ : Env) (vs : List Nat) : ∀ ws : List Nat, (∀ w ∈ ws, w ∈ vs) → wipeE (wipeE σ ws) vs = wipeE σ vs
  | [], _ => rfl
  | w :: ws, h => by
    have z : wipeE σ (w :: ws) = (wipeE σ ws).set w .no := rfl
    rw [z, set_wipe wipeE .no (fun _ => rfl) (fun _ _ _ => rfl) (h w List.mem_cons_self)]
    exact wipeE_wipe σ vs ws fun v hv => h v (List.mem_cons_of_mem _ hv)
theorem step_lc {wi : TI} {vs : List Nat} (hwi : ∀ σ H R, tIc X.K W mi σ H R → wi σ H R) : ∀ σ H Q, tE X.K W (eComp mi vs g c me) σ H Q → tLc wi (tGo X.K g vs) (tT X.K WF c) (tE X.K WF me) vs σ H Q := by
  rintro σ H Q ⟨G, S, O, ρ, eK, st, q⟩
  unfold eComp at q
  split at q
  case isFalse => exact q.elim
  rename_i hno
  refine hwi σ H _ ⟨G, S, O, ρ, eK, st, Fin.bind (rep' := rYc X.K) q fun ds J S1 H1 s1 k1 st1 yl q1 => ?_⟩
  intro Da hDa
  cases hcd : compD g c me (wipeE ρ vs) ds with
  | bad => rw [hcd] at q1; exact q1.elim
  | ex x =>
    -- no exception leaves a comprehension's model
    exfalso
    have : ∀ ds x, compD g c me (wipeE ρ vs) ds ≠ .ex x := by
      intro ds
      induction ds with
      | nil => intro x h; cases h
      | cons d ds ih =>
        intro x h
        unfold compD at h
        split at h
        · cases h
        · rename_i ρ1 _
          cases hc : c ρ1 with
          | bad => rw [hc] at h; cases h
          | ex y => rw [hc] at h; cases h
          | ok b =>
            rw [hc] at h
            have h : (if b = true then (noX (me ρ1)).bind fun t => (lift (stT t.set)).bind fun x => (compD g c me (wipeE ρ vs) ds).bind fun r => .ok (x :: r) else compD g c me (wipeE ρ vs) ds) = .ex x := h
            split at h
            · cases hm : me ρ1 with
              | bad => rw [hm] at h; cases h
              | ex y => rw [hm] at h; cases h
              | ok t =>
                rw [hm] at h
                have h : (lift (stT t.set)).bind (fun x => (compD g c me (wipeE ρ vs) ds).bind fun r => .ok (x :: r)) = .ex x := h
                cases ht : stT t.set with
                | none => rw [ht] at h; cases h
                | some z =>
                  rw [ht] at h
                  have h : (compD g c me (wipeE ρ vs) ds).bind (fun r => R.ok (z :: r)) = .ex x := h
                  cases hr : compD g c me (wipeE ρ vs) ds with
                  | bad => rw [hr] at h; cases h
                  | ok r => rw [hr] at h; cases h
                  | ex y => exact ih y hr
            · exact ih x h
    exact this ds x hcd
  | ok l =>
    rw [hcd] at q1
    have q1 : Fin W (rT G O) (lift (if ds.length ≤ big then some (T.fr l) else none)) G S1 O σ H1 ρ Q := q1
    split at q1
    case isFalse => exact q1.elim
    rename_i hbig
    have stw := st1.wipe vs
    obtain ⟨st2, sp, bp, op⟩ := st1.aside (o := .lst []) hDa
    have stw2 := (stw.aside (o := .lst []) hDa).1
    -- done so far, what is left
    refine ⟨fun i n H2 => n = ds.length - i ∧ i ≤ ds.length ∧ ∃ (acc : List V) (l1 l2 : List D) (S2 : Hp) (O2 : Nat → List Addr), Ex S1 S2 ∧ S2 Da = none ∧ (∀ b o, H1 b = some o → H2 b = some o) ∧ H2 Da = some (.lst acc) ∧ acc.length ≤ i ∧
      Reps G.K S2 l1 acc ∧ l = l1 ++ l2 ∧ compD g c me (wipeE ρ vs) (ds.drop i) = .ok l2 ∧ StR ⟨G.K, upd G.B Da (.lst acc), G.S0⟩ S2 O2 (L2.wipe σ vs) H2 (wipeE ρ vs), ⟨_, rfl, Nat.zero_le _, [], [], l, S1, _, Same.refl _, sp, fun b o e => ?_, upd_same, Nat.le_refl _, .nil, rfl, hcd, stw2⟩, ?_⟩
    · rw [upd_ne (fun z => by rw [z, hDa] at e; cases e)]
      exact e
    rintro i n H2 ⟨rfl, hle, acc, l1, l2, S2, O2, e2, sp2, k2, hD2, hacc, r2, hl, hcd2, st3⟩
    by_cases hlt : i < ds.length
    · refine .inr ⟨yl.go H2 k2 i hlt, fun H3 => i + 1 ≤ ds.length ∧ ∃ (acc : List V) (l1 l2 : List D) (S2 : Hp) (O2 : Nat → List Addr), Ex S1 S2 ∧ S2 Da = none ∧ (∀ b o, H1 b = some o → H3 b = some o) ∧ H3 Da = some (.lst acc) ∧ acc.length ≤ i + 1 ∧
        Reps G.K S2 l1 acc ∧ l = l1 ++ l2 ∧ compD g c me (wipeE ρ vs) (ds.drop (i + 1)) = .ok l2 ∧ StR ⟨G.K, upd G.B Da (.lst acc), G.S0⟩ S2 O2 (L2.wipe σ vs) H3 (wipeE ρ vs), fun H3 h => ⟨ds.length - (i + 1), by omega, rfl, h⟩, fun x H3 hy => ?_⟩
      obtain ⟨d, hd, hx⟩ := yl.yld H2 k2 i x H3 hlt hy
      rw [drop_get hd] at hcd2
      unfold compD at hcd2
      cases hgd : g d (wipeE ρ vs) with
      | none => rw [hgd] at hcd2; cases hcd2
      | some ρ3 =>
        rw [hgd] at hcd2
        have hcd2 : ((noX (c ρ3)).bind fun b => if b then (noX (me ρ3)).bind fun t => (lift (stT t.set)).bind fun x => (compD g c me (wipeE ρ vs) (ds.drop (i + 1))).bind fun r => .ok (x :: r) else compD g c me (wipeE ρ vs) (ds.drop (i + 1))) = .ok l2 := hcd2
        -- with the state ahead of the turn
        have turn : ∀ S4, Ex S2 S4 → S4 Da = none → (∀ b o, H2 b = some o → H3 b = some o) → StR ⟨G.K, upd G.B Da (.lst acc), G.S0⟩ S4 O2 (L2.wipe σ vs) H3 (wipeE ρ vs) → Rep G.K S4 d x →
            tGo X.K g vs x (L2.wipe σ vs) H3 fun σ2 H2 => L2.wipe σ2 vs = L2.wipe σ vs ∧ tT X.K WF c σ2 H2 fun b H3 => if b = true then tE X.K WF me σ2 H3 fun y H4 => ∃ acc, H4 Da = some (.lst acc) ∧ acc.length < sizeLine ∧ (fun H3 => i + 1 ≤ ds.length ∧ ∃ (acc : List V) (l1 l2 : List D) (S2 : Hp) (O2 : Nat → List Addr), Ex S1 S2 ∧ S2 Da = none ∧ (∀ b o, H1 b = some o → H3 b = some o) ∧ H3 Da = some (.lst acc) ∧ acc.length ≤ i + 1 ∧
        Reps G.K S2 l1 acc ∧ l = l1 ++ l2 ∧ compD g c me (wipeE ρ vs) (ds.drop (i + 1)) = .ok l2 ∧ StR ⟨G.K, upd G.B Da (.lst acc), G.S0⟩ S2 O2 (L2.wipe σ vs) H3 (wipeE ρ vs)) (upd H4 Da (.lst (acc ++ [y]))) else (fun H3 => i + 1 ≤ ds.length ∧ ∃ (acc : List V) (l1 l2 : List D) (S2 : Hp) (O2 : Nat → List Addr), Ex S1 S2 ∧ S2 Da = none ∧ (∀ b o, H1 b = some o → H3 b = some o) ∧ H3 Da = some (.lst acc) ∧ acc.length ≤ i + 1 ∧
        Reps G.K S2 l1 acc ∧ l = l1 ++ l2 ∧ compD g c me (wipeE ρ vs) (ds.drop (i + 1)) = .ok l2 ∧ StR ⟨G.K, upd G.B Da (.lst acc), G.S0⟩ S2 O2 (L2.wipe σ vs) H3 (wipeE ρ vs)) H3 := by
          intro S4 e4 sp4 k4 st4 rp4
          refine ⟨⟨G.K, upd G.B Da (.lst acc), G.S0⟩, S4, O2, wipeE ρ vs, d, ρ3, eK, st4, by rw [← eK]; exact rp4, hgd, fun O5 σ5 st5 w1 w2 => ?_⟩
          have w1' : L2.wipe σ5 vs = L2.wipe σ vs := w1.trans (wipe_wipe σ vs vs fun _ h => h)
          have w2' : wipeE ρ3 vs = wipeE ρ vs := w2.trans (wipeE_wipe ρ vs vs fun _ h => h)
          refine ⟨w1', ?_⟩
          -- what a state says of the list that is made
          have keepD : ∀ {S6 : Hp} {O6 : Nat → List Addr} {σ6 : L2.St} {H6 : Hp} {ρ6 : Env}, StR ⟨G.K, upd G.B Da (.lst acc), G.S0⟩ S6 O6 σ6 H6 ρ6 → S6 Da = none ∧ H6 Da = some (.lst acc) := fun {S6 O6 σ6 H6 ρ6} z => by
            refine ⟨?_, z.exB Da _ upd_same⟩
            cases e : S6 Da with
            | none => rfl
            | some u =>
              rcases z.new Da (by rw [e]; simp) with h | h
              · exfalso
                obtain ⟨u', hu⟩ := Option.ne_none_iff_exists'.mp h
                have hu1 := st1.exS0 Da u' hu
                rw [sp] at hu1
                cases hu1
              · have h : upd G.B Da (.lst acc) Da = none := h
                rw [upd_same] at h
                cases h
          refine ⟨⟨G.K, upd G.B Da (.lst acc), G.S0⟩, S4, O5, ρ3, eK, st5, Fin.noX (α := Bool) (β := Bool) (rep := rB) ?_⟩
          cases hc : noX (c ρ3) with
          | bad => rw [hc] at hcd2; cases hcd2
          | ex y => rw [hc] at hcd2; cases hcd2
          | ok b =>
            rw [hc, R.bind_ok] at hcd2
            intro b' S6 H6 e6 k6 st6 rb
            cases rb
            cases b with
            | false =>
              rw [if_neg Bool.false_ne_true]
              rw [if_neg Bool.false_ne_true] at hcd2
              obtain ⟨d1, d2⟩ := keepD st6
              have st7 := st6.wipe vs
              rw [w1', w2'] at st7
              exact ⟨hlt, acc, l1, l2, S6, _, (e2.trans e4).trans e6, d1, fun b o e => k6 b o (k4 b o (k2 b o e)), d2, by omega, r2.mono (e4.trans e6), hl, hcd2, st7⟩
            | true =>
              rw [if_pos rfl]
              rw [if_pos rfl] at hcd2
              refine ⟨⟨G.K, upd G.B Da (.lst acc), G.S0⟩, S6, O5, ρ3, eK, st6, Fin.noX ?_⟩
              cases hm : noX (me ρ3) with
              | bad => rw [hm] at hcd2; cases hcd2
              | ex y => rw [hm] at hcd2; cases hcd2
              | ok t =>
                rw [hm, R.bind_ok] at hcd2
                intro y S8 H8 e8 k8 st8 rp8
                obtain ⟨S9, s9, st9, ro9⟩ := RepT.settle st8 rp8
                cases ht : stT t.set with
                | none => rw [ht] at hcd2; cases hcd2
                | some z =>
                  rw [ht, lift_some, R.bind_ok] at hcd2
                  rw [stT_set ht] at ro9
                  cases hr : compD g c me (wipeE ρ vs) (ds.drop (i + 1)) with
                  | bad => rw [hr] at hcd2; cases hcd2
                  | ex y => rw [hr] at hcd2; cases hcd2
                  | ok l3 =>
                    rw [hr] at hcd2
                    cases hcd2
                    obtain ⟨d1, d2⟩ := keepD st9
                    have st10 := (st9.wipe vs).asideUp (o' := .lst (acc ++ [y])) d1
                    rw [w1', w2'] at st10
                    refine ⟨acc, d2, sz_lt (by have : ds.length ≤ 100000 := hbig; omega), hlt, acc ++ [y], l1 ++ [z], l3, S9, _, ((e2.trans e4).trans e6).trans (e8.trans s9), d1, fun b o e => ?_, upd_same, by rw [List.length_append]; simp; omega, (r2.mono ((e4.trans e6).trans (e8.trans s9))).append (.cons ro9 .nil), by rw [hl, List.append_assoc]; rfl, rfl, st10⟩
                    rw [upd_ne (fun z => by rw [z, hDa] at e; cases e)]
                    exact k8 b o (k6 b o (k4 b o (k2 b o e)))
        rcases hx with ⟨rfl, rp⟩ | ⟨p, ws, lt, rfl, hn, rfl, rfl, rs⟩
        · rw [← eK] at rp
          exact turn S2 (Same.refl _) sp2 (fun _ _ h => h) st3 (rp.mono e2)
        · obtain ⟨st4, e4, k4⟩ := st3.stand (o := .tup ws) hn
          rw [← eK] at rs
          refine turn _ e4 ?_ k4 st4 (.tup (.inl (.inl upd_same)) (rs.mono (e2.trans e4)))
          rw [upd_ne (fun z => by rw [← z, hD2] at hn; cases hn)]
          exact sp2
    · have hi' : i = ds.length := by omega
      subst hi'
      rw [List.drop_length] at hcd2
      cases hcd2
      rw [List.append_nil] at hl
      subst hl
      refine .inl ⟨yl.stop H2 k2 _ (Nat.le_refl _), ?_⟩
      -- the slots' own lists are the same as ahead
      have eO : (fun j => if j ∈ vs then [] else O j) = O := by
        funext j
        by_cases hj : j ∈ vs
        · rw [if_pos hj]
          have z := List.all_eq_true.mp hno j hj
          cases hs : ρ[j]? with
          | none => rw [st.out j (List.getElem?_eq_none_iff.mp hs)]
          | some s =>
            have z2 := st.slot j s hs
            rw [List.getD_eq_getElem?_getD, hs] at z
            cases s with
            | no => exact z2.symm
            | val d => exact z2.1.symm
            | _ => cases z
        · rw [if_neg hj]
      have e3 : O2 = O := by
        have z := StR.same stw st3 k2
        rw [z, eO]
      subst e3
      have st5 : StR G S2 O2 σ H2 ρ := by
        refine ⟨fun b o e => ?_, st3.exS0, st3.exS, fun b hb => ?_, st1.len, fun j s e => (st1.slot j s e).mono e2 fun a o _ h => k2 a o h, fun j a h => ⟨(st3.off j a h).1, (st1.off j a h).2⟩, st3.live, st1.apart, st1.out⟩
        · exact k2 b o (st1.exB b o e)
        · have hbd : b ≠ Da := fun z => hb (by rw [z]; exact sp2)
          rcases st3.new b hb with h | h
          · exact .inl h
          · have h : upd G.B Da (.lst acc) b = none := h
            rw [upd_ne hbd] at h
            exact .inr h
      exact q1 (.ref Da) S2 H2 e2 k2 st5 ⟨Da, acc, rfl, sp2, bp, op, hD2, r2⟩
theorem dx_lc {tg : Expr} {ifs : List Expr} {scope : Scope} (own : List (Str × Nat)) (C : Ctx X W) (hi : DIc X W tg iter mi) (ok : BlkOk X.N X.env.scope scope own)
    (hg : ∀ (s : Shared) (H : Hp) (C : Addr) (cl : List (Str × Addr)) (fp : List Addr), DGc (X.blk s H scope (compEnvC scope cl C X.env) fp) tg g (own.map (·.2)))
    (ht : ∀ (s : Shared) (H : Hp) (C : Addr) (cl : List (Str × Addr)) (fp : List Addr), DTs (X.blk s H scope (compEnvC scope cl C X.env) fp) WF ifs c)
    (he : ∀ (s : Shared) (H : Hp) (C : Addr) (cl : List (Str × Addr)) (fp : List Addr), DX (X.blk s H scope (compEnvC scope cl C X.env) fp) WF elt me) (hs : ∀ x, foldedSetIterable iter X.env x = pure x := by intro _; rfl) :
    DX X W (.ListComp elt [⟨tg, iter, ifs, 0⟩] scope pos) (eComp mi (own.map (·.2)) g c me) :=
  ⟨PE.weak (pe_lc (te := tE X.K WF me) (tt := tT X.K WF c) (g := tGo X.K g (own.map (·.2))) C.calm C.nd hi.pi ok (fun s H C cl fp => (hg s H C cl fp).pg) (fun s H C cl fp => (ht s H C cl fp).pts) (fun s H C cl fp => (he s H C cl fp).pe) hs) (step_lc fun _ _ _ h => h)⟩
theorem ds_lc (i : Nat) {y : Str} {py spos : Pos} {tg : Expr} {ifs : List Expr} {scope : Scope} (own : List (Str × Nat)) (C : Ctx X W) (hi : DIc X W tg iter mi) (ok : BlkOk X.N X.env.scope scope own)
    (hg : ∀ (s : Shared) (H : Hp) (C : Addr) (cl : List (Str × Addr)) (fp : List Addr), DGc (X.blk s H scope (compEnvC scope cl C X.env) fp) tg g (own.map (·.2)))
    (ht : ∀ (s : Shared) (H : Hp) (C : Addr) (cl : List (Str × Addr)) (fp : List Addr), DTs (X.blk s H scope (compEnvC scope cl C X.env) fp) WF ifs c)
    (he : ∀ (s : Shared) (H : Hp) (C : Addr) (cl : List (Str × Addr)) (fp : List Addr), DX (X.blk s H scope (compEnvC scope cl C X.env) fp) WF elt me)
    (hsw : swapsWith (.ListComp elt [⟨tg, iter, ifs, 0⟩] scope pos) (some (.Name y py)) spos.line X.env = pure true)
    (hy : X.N[i]? = some y := by rfl) (hyl : X.env.scope.names.lookup y = some .local := by rfl) (hs : ∀ x, foldedSetIterable iter X.env x = pure x := by intro _; rfl) :
    DS X W (.Assign [.Name y py] (.ListComp elt [⟨tg, iter, ifs, 0⟩] scope pos) spos) (sVal i (eComp mi (own.map (·.2)) g c me)) ∧ DS X W (.Assign [.Name y py] (.ListComp elt [⟨tg, iter, ifs, 0⟩] scope pos) spos) (sOwn i (eComp mi (own.map (·.2)) g c me)) := by
  have base := ps_setLc (te := tE X.K WF me) (tt := tT X.K WF c) (g := tGo X.K g (own.map (·.2))) C.calm C.nd hy hyl hsw hi.pi ok (fun s H C cl fp => (hg s H C cl fp).pg) (fun s H C cl fp => (ht s H C cl fp).pts) (fun s H C cl fp => (he s H C cl fp).pe) hs
  constructor
  · refine ⟨PS.weak base ?_⟩
    rintro D σ H ⟨G, S, O, ρ, eK, st, q⟩
    refine step_lc (W := W) (fun _ _ _ h => h) σ H _ ⟨G, S, O, ρ, eK, st, FinS.bind (rep := rT G O) q fun t x S1 H1 s1 k1 st1 rp q1 => ?_⟩
    obtain ⟨S2, s2, st2, ro⟩ := RepT.settle st1 rp
    cases t with
    | st d => exact q1 _ _ _ _ (st2.setVal i ro).choose_spec
    | fr l => exact q1 _ _ _ _ (st2.setVal i ro).choose_spec
    | sl l => exact q1.elim
  · refine ⟨PS.weak base ?_⟩
    rintro D σ H ⟨G, S, O, ρ, eK, st, q⟩
    refine step_lc (W := W) (fun _ _ _ h => h) σ H _ ⟨G, S, O, ρ, eK, st, FinS.bind (rep := rT G O) q fun t x S1 H1 s1 k1 st1 rp q1 => ?_⟩
    cases t with
    | st d => exact q1 _ _ _ _ (st1.setVal i rp).choose_spec
    | fr l =>
      obtain ⟨O', st'⟩ := st1.setOwn i rp
      exact q1 _ _ _ _ st'
    | sl l => exact q1.elim
end

/-! ### defs -/
def toFr : T → T
  | .sl l => .fr l
  | t => t
def outR : Fl → R T
  | .rt t => .ok (toFr t)
  | .nx _ => .ok (.st .non)
  | .ex _ x => .ex x
  | _ => .bad
/-- a def's pure meaning; n: its slots -/
def runD (n : Nat) (m : MS) (ds : List D) : R T := outR (m (ds.map Sl.val ++ List.replicate (n - ds.length) Sl.no))
theorem start_ok {K : PySem.W.Frag} {N : List Str} {ds : List D} {vs : List V} {S0 H : Hp} (hn : ds.length ≤ N.length) (e : Ex S0 H) (r : Reps K S0 ds vs) :
    StR ⟨K, H, S0⟩ S0 (fun _ => []) (L2.start N vs) H (ds.map Sl.val ++ List.replicate (N.length - ds.length) Sl.no) := by
  have hl := r.length
  refine ⟨Same.refl H, Same.refl _, e, fun b hb => .inl hb, ?_, fun i s h => ?_, fun _ _ h => (by cases h), fun _ _ h => (by cases h), fun _ _ _ h => (by cases h), fun _ _ => rfl⟩
  · unfold L2.start
    rw [List.length_append, List.length_append, List.length_map, List.length_map, List.length_replicate, List.length_replicate, hl]
  · by_cases hi : i < ds.length
    · rw [List.getElem?_append_left (by rw [List.length_map]; exact hi), List.getElem?_map] at h
      cases hd : ds[i]? with
      | none => rw [hd] at h; cases h
      | some d =>
        rw [hd] at h
        cases h
        obtain ⟨v, h1, h2⟩ := r.get hd
        refine ⟨rfl, v, ?_, h2⟩
        unfold L2.start
        rw [List.getElem?_append_left (by rw [List.length_map, ← hl]; exact hi), List.getElem?_map, h1]
        rfl
    · rw [List.getElem?_append_right (by rw [List.length_map]; omega), List.getElem?_replicate] at h
      split at h
      · cases h
        rfl
      · cases h
section
variable {P : Program} {w : World} {K : PySem.W.Frag} {mg : Str → Option Value} {base : Heap}
theorem ctx_of {N : List Str} {qual : Str} {scope : Scope} {f : Addr} {cdv : Value} {A : Around} {outer : List PySem.Env} {s : Shared} {H : Hp} {E : XK} (nd : N.Nodup) (hu : (A.deeper (PyProof.Rows.envOfC qual scope s.heap.objs.size f cdv)).units + 64 < cLine) (hs : scope.kind = .function) :
    Ctx (cxOf (L2.CX P w) P w K mg base N qual scope f cdv A outer s H E) (fun cls d _ H' => E cls d H') ∧ Takes (cxOf (L2.CX P w) P w K mg base N qual scope f cdv A outer s H E) (fun cls d _ H' => E cls d H') := by
  have tk : Takes (cxOf (L2.CX P w) P w K mg base N qual scope f cdv A outer s H E) (fun cls d _ H' => E cls d H') := takes_of rfl rfl rfl rfl
  exact ⟨⟨fun σ => passAt tk σ, passes_of rfl, rfl, nd, hu⟩, tk⟩
theorem ok_def {x qual : Str} {st : Stmt} {f : Addr} {fd : FuncData} {N ps : List Str} {k n nn : Nat} {m : MS} (F : Fun K x qual st f fd) (S : FnScope N ps (defScope st)) (hn' : ps.length = n) (hN' : N.length = nn)
    (hbody : ∀ (cdv : Value) (A : Around) (outer : List PySem.Env) (s : Shared) (H : Hp) (E : XK), Room k (A.deeper (PyProof.Rows.envOfC qual (defScope st) s.heap.objs.size f cdv)) →
      Ctx (cxOf (L2.CX P w) P w K mg base N qual (defScope st) f cdv A outer s H E) (fun cls d _ H' => E cls d H') → Takes (cxOf (L2.CX P w) P w K mg base N qual (defScope st) f cdv A outer s H E) (fun cls d _ H' => E cls d H') →
      DSs (cxOf (L2.CX P w) P w K mg base N qual (defScope st) f cdv A outer s H E) (fun cls d _ H' => E cls d H') (defBody st) m) :
    FnOk P w K mg base (L2.CX P w) (k + 1) f fd ps (spD K n (runD nn m)) := by
  subst hn' hN'
  have hle : ps.length ≤ N.length := by
    have h := congrArg List.length S.pre
    rw [List.length_take] at h
    omega
  refine F.okX S (fun vs H Q E h => ?_) (fun cdv A outer s H vs Q E hr h => ?_)
  · obtain ⟨S0, ds, hl, _, r, _⟩ := h
    rw [← r.length, hl]
  · obtain ⟨S0, ds, hl, e0, r, q⟩ := h
    obtain ⟨cx, tk⟩ := ctx_of (P := P) (w := w) (K := K) (mg := mg) (base := base) (E := E) (H := H) (outer := outer) S.nd hr.units S.kind
    refine ⟨_, (hbody cdv A outer s H E hr cx tk).pss, ⟨K, H, S0⟩, S0, _, _, rfl, start_ok (by rw [hl]; exact hle) e0 r, ?_⟩
    unfold runD at q
    cases hm : m (ds.map Sl.val ++ List.replicate (N.length - ds.length) Sl.no) with
    | bad => rw [hm] at q; exact q
    | ct ρ => rw [hm] at q; exact q.elim
    | bk ρ => rw [hm] at q; exact q.elim
    | nx ρ =>
      rw [hm] at q
      exact fun S1 O1 σ1 H1 st1 => q .non S1 H1 ⟨st1.exB, st1.exS0, st1.exS, st1.new⟩ .non
    | rt t =>
      rw [hm] at q
      rintro v S1 H1 ⟨r1, r2, r3, r4, r5⟩
      refine q v S1 H1 ⟨r1, r2, r3, r4⟩ ?_
      cases t with
      | st d => exact r5
      | fr l => exact r5
      | sl l => exact r5
    | ex ρ x =>
      rw [hm] at q
      exact fun d S1 O1 σ1 H1 st1 xr => q d S1 H1 ⟨st1.exB, st1.exS0, st1.exS, st1.new⟩ xr
end
end RF

set_option Elab.async false
set_option linter.all false
set_option maxRecDepth 100000
set_option autoImplicit false
/-! RF, part I: further rules; a def as it may be called -/
namespace RF
open PySem PySem.Spec L2

/-! ### the built-in names -/
theorem bt_abs : bootBuiltins "abs" = some (.builtin "abs") := by decide +kernel
theorem bt_max : bootBuiltins "max" = some (.builtin "max") := by decide +kernel
theorem bt_min : bootBuiltins "min" = some (.builtin "min") := by decide +kernel
theorem bt_sum : bootBuiltins "sum" = some (.builtin "sum") := by decide +kernel
theorem bt_all : bootBuiltins "all" = some (.builtin "all") := by decide +kernel
theorem bt_sorted : bootBuiltins "sorted" = some (.builtin "sorted") := by decide +kernel
theorem bt_divmod : bootBuiltins "divmod" = some (.builtin "divmod") := by decide +kernel
theorem bt_isinstance : bootBuiltins "isinstance" = some (.builtin "isinstance") := by decide +kernel
theorem bt_int : bootBuiltins "int" = some (.type "int") := by decide +kernel
theorem bt_bool : bootBuiltins "bool" = some (.type "bool") := by decide +kernel
theorem bt_str : bootBuiltins "str" = some (.type "str") := by decide +kernel
theorem bt_list : bootBuiltins "list" = some (.type "list") := by decide +kernel
theorem bt_tuple : bootBuiltins "tuple" = some (.type "tuple") := by decide +kernel
def rIntA : List V → Hp → VK → Prop := fun xs H Q => (∃ i, xs = [.int i] ∧ Q (.int i) H) ∨ ∃ k, xs = [.bl k] ∧ Q (.int (if k then 1 else 0)) H
theorem call_intA {X : Cx} : CallR X (.type "int") rIntA := call_int1
theorem ra_intA {K : PySem.W.Frag} : RAOk K rIntA bInt := ra_int
/-- the law's end -/
theorem law_sp {K : PySem.W.Frag} {n : Nat} {d : List D → R T} (h : ∀ ns : List Int, ns.length ≤ n → d [.lst (ns.map D.int)] = .ok (.st (.bl true))) (H : Hp) (a : Addr) (ns : List Int) (hl : ns.length ≤ n) (hS : SqL K H a (ns.map V.int)) :
    spD K 1 d [.ref a] H (fun v _ => v = .bl true) fun _ _ _ => False := by
  refine ⟨H, [.lst (ns.map D.int)], rfl, Same.refl H, .cons (.lst hS (Reps.ofInts ns)) .nil, ?_⟩
  rw [h ns hl]
  intro v S' H' _ r
  cases r
  rfl
theorem law_cx {P : Program} {w : World} {H : Hp} {s : Shared} {e : Value} {s' : Shared} (c : L2.CX P w [] H s (fun _ _ _ => False) e s') : False := by
  obtain ⟨_, _, _, _, _, _, _, _, _, _, _, _, z⟩ := c
  exact z.elim

/-! ### a def as it may be called -/
structure Cal (P : Program) (w : World) (K : PySem.W.Frag) (mg : Str → Option Value) (base : Heap) (k : Nat) (x : Str) (n : Nat) (g : List D → R T) : Prop where
  ex : ∃ f fd ps, FnOk P w K mg base (L2.CX P w) k f fd ps (spD K n g) ∧ mg x = some (.ref f) ∧ PySem.W.keepIn K (.ref f) = true ∧ Binds K fd ps []
section
variable {X : Cx} {W : WX} {e e2 a b o : Expr} {es : List Expr} {m n q : ME} {ma : MA} {pos p p1 : Pos} {x y : Str}
theorem dx_cal {k j nn : Nat} {g : List D → R T} (C : Ctx X W) (F : Cal X.prog X.w X.K X.mg X.base k x nn g) (hr : Room j X.A) (ha : DA X W (e :: es) ma) (hj : k ≤ j := by decide) (hg : Gl X x := by rfl) (hdb : (x == ("__debug__" : Str)) = false := by decide)
    (he : starEach (e :: es) X.env = (false, eval e X.env) :: starEach es X.env := by rfl) (hpl : (backTo pos (starEach es X.env)).any (·.1) = false := by rfl) : DX X W (.Call (.Name x p) (e :: es) [] pos) (eCall nn g ma) := by
  obtain ⟨f, fd, ps, h1, h2, h3, h4⟩ := F.ex
  exact dx_call h1 (hr.mono hj) hg h2 h3 h4 C.can ha hdb he hpl

/-! ### within a comprehension -/
theorem Ctx.blk (C : Ctx X W) {s : Shared} {H : Hp} {scope : Scope} {cenv : PySem.Env} {fp : List Addr} : Ctx (X.blk s H scope cenv fp) WF where
  can := fun σ pins H s e s' I c => by
    obtain ⟨_, _, _, _, _, _, _, _, _, _, _, _, z⟩ := c
    exact z.elim
  own := PassesOwn.never
  calm := C.calm
  nd := C.nd
  un := C.un
/-! ### a list times a number -/
def dRep (l : List D) (k : D) : Option T := match k with
  | .int i => if -(2 ^ 63) ≤ i ∧ i < 2 ^ 63 ∧ l.length * i.toNat ≤ big then some (.fr (List.replicate i.toNat l).flatten) else none
  | _ => none
def eRep (ma : MA) (n : ME) : ME := fun ρ => (ma ρ).bind fun ts => (lift ((stD ts).bind fun ds => if ds.length ≤ big then some ds else none)).bind fun ds => (n ρ).bind fun t => lift (dRep ds t.d)
theorem dx_rep (h : DA X W es ma) (hb : DX X W b n) : DX X W (.BinOp (.List es p1) .Mult b pos) (eRep ma n) := by
  refine ⟨PE.weak (pe_op op_rep (pe_lst h.pa) hb.pe) ?_⟩
  rintro σ H Q ⟨G, S, O, ρ, eK, st, q⟩
  refine ⟨G, S, O, ρ, eK, st, Fin.bind (rep' := rTs G) q fun ts xs S1 H1 s1 k1 st1 rp q1 => ?_⟩
  cases hz : stD ts with
  | none => rw [hz] at q1; exact q1.elim
  | some ds =>
    rw [hz, Option.bind_some] at q1
    have rs := rp.stD hz
    by_cases hl : ds.length ≤ big
    · rw [if_pos hl, lift_some, R.bind_ok] at q1
      refine ⟨by rw [← rs.length]; exact sz_of hl, fun l hp => ?_⟩
      -- the list is let stand while the number is asked
      obtain ⟨st2, e1, e2⟩ := st1.stand (o := .lst xs) hp
      refine ⟨G, upd S1 l (.lst xs), O, ρ, eK, st2, Fin.bind (rep' := rT G O) (q1.mono e1 e2) fun t y S3 H3 s3 k3 st3 rp3 q3 => ?_⟩
      obtain ⟨S4, s4, st4, ro4⟩ := RepT.settle st3 rp3
      cases hr : dRep ds t.d with
      | none => rw [hr] at q3; exact q3.elim
      | some z =>
        rw [hr] at q3
        unfold dRep at hr
        split at hr
        · rename_i i hi
          split at hr
          · rename_i hc
            cases hr
            refine ⟨l, i, xs, rfl, RepO.int (by rw [T.set_d]; exact hi) ro4, k3 _ _ upd_same, hc.1, hc.2.1, by rw [← rs.length]; exact sz_of hc.2.2, fun p hp => ?_⟩
            exact done_fr st3 hp ((rs.mono (e1.trans s3)).rep i.toNat) q3
          · cases hr
        · cases hr
    · rw [if_neg hl] at q1
      exact q1.elim

/-! ### list(range(n)), list(range(a, b)) -/
def rgO (i : Int) : Bool := decide (0 ≤ i ∧ i ≤ 100000)
def lRg1 (m : ME) : ME := fun ρ => (m ρ).bind fun t => lift ((dInt t.d).bind fun n => if rgO n = true then some (T.fr (rngD 0 n.toNat)) else none)
theorem rgV_rep {K : PySem.W.Frag} {S : Hp} (a b : Int) : Reps K S (rngD a (b - a).toNat) (rgV a b) := by
  unfold rngD rgV
  generalize (b - a).toNat = n
  induction n with
  | zero => exact .nil
  | succ n ih =>
    rw [List.range_succ, List.map_append, List.map_append]
    exact ih.append (.cons (.int _) .nil)
theorem dx_lRg1 {pr : Pos} (C : Ctx X W) (hg : Gl X "list") (hm : X.mg "list" = none) (hg2 : Gl X "range") (hm2 : X.mg "range" = none) (h : DX X W e m) (na : starEach [e] X.env = (false, eval e X.env) :: starEach [] X.env := by rfl)
    (na2 : starEach [.Call (.Name "range" pr) [e] [] p1] X.env = (false, eval (.Call (.Name "range" pr) [e] [] p1) X.env) :: starEach [] X.env := by rfl) : DX X W (.Call (.Name "list" p) [.Call (.Name "range" pr) [e] [] p1] [] pos) (lRg1 m) := by
  refine ⟨PE.weak (pe_listRg C.calm hg hm (prg_1 hg2 hm2 h.pe na) na2) ?_⟩
  rintro σ H Q ⟨G, S, O, ρ, eK, st, q⟩
  refine ⟨G, S, O, ρ, eK, st, Fin.bind (rep' := rT G O) q fun t x S1 H1 s1 k1 st1 rp q1 => ?_⟩
  obtain ⟨S2, s2, st2, ro⟩ := RepT.settle st1 rp
  cases hd : dInt t.d with
  | none => rw [hd] at q1; exact q1.elim
  | some n =>
    rw [hd, Option.bind_some] at q1
    split at q1
    · rename_i hr
      have hr' := of_decide_eq_true hr
      have ei : t.d = .int n := by
        unfold dInt at hd
        split at hd
        · rename_i i h; cases hd; exact h
        · cases hd
      refine ⟨n, RepO.int (by rw [T.set_d]; exact ei) ro, RgOk.of_le (Int.le_refl 0) (by omega) (by omega) (by omega), fun p hp => done_fr st2 hp (rgV_rep 0 n) fun v S' H' e k st' rp' => ?_⟩
      have z : (n - 0).toNat = n.toNat := by rw [Int.sub_zero]
      rw [z] at rp'
      exact q1 v S' H' (s2.trans e) k st' rp'
    · exact q1.elim

/-! ### f(..).append(1), and the like: what is changed is no one's -/
def sTmpApp (m : ME) : MS := fun ρ => toS ρ (m ρ) fun t => match t with
  | .fr l => if l.length < big then .nx ρ else .bad
  | _ => .bad
theorem StR.scratch {G : Gd} {S : Hp} {O : Nat → List Addr} {σ : L2.St} {H : Hp} {ρ : Env} {p : Addr} {o : HO} (st : StR G S O σ H ρ) (sp : S p = none) (bp : G.B p = none) (op : ∀ i, p ∉ O i) : StR G S O σ (upd H p o) ρ := by
  refine ⟨fun b u e => ?_, st.exS0, fun b u e => ?_, st.new, st.len, fun i s e => (st.slot i s e).mono (Same.refl _) fun a u q h => ?_, st.off, fun i a q => ?_, st.apart, st.out⟩
  · rw [upd_ne (fun z => by rw [z, bp] at e; cases e)]
    exact st.exB b u e
  · rw [upd_ne (fun z => by rw [z, sp] at e; cases e)]
    exact st.exS b u e
  · rw [upd_ne (fun z => op i (by rw [← z]; exact q))]
    exact h
  · rw [upd_ne (fun z => op i (by rw [← z]; exact q))]
    exact st.live i a q
theorem ds_tmpApp {ap cp pc : Pos} {i : Int} {j : Nat} (h : DX X W e m)
    (hbase : attributeBase e "append" X.env (eval e X.env) = eval e X.env := by rfl)
    (hfew : ((backTo cp (starEach (.Constant (.int i) j pc :: []) X.env)).all (fun x => !x.1) && (backToKw cp (keywordEach [] X.env)).all (fun x => x.1.isSome)
      && decide ((Expr.Constant (.int i) j pc :: ([] : List Expr)).length + ([] : List Keyword).length + (if ([] : List Keyword).isEmpty then 0 else 1) < 30)) = true := by rfl)
    (hline : (ap.endLine == cp.line) = true := by rfl) (hs : starEach (.Constant (.int i) j pc :: []) X.env = (false, eval (.Constant (.int i) j pc) X.env) :: starEach [] X.env := by rfl) (hplain : (backTo cp (starEach [] X.env)).any (·.1) = false := by rfl)
    (hsw : swapsWith (.Call (.Attribute e "append" ap) [.Constant (.int i) j pc] [] cp) none pos.line X.env = pure false := by rfl) :
    DS X W (.Expr (.Call (.Attribute e "append" ap) [.Constant (.int i) j pc] [] cp) pos) (sTmpApp m) := by
  refine ⟨PS.weak (ps_expr (pe_bm PySem.F.plainAttrs_list PySem.F.slot_list_append PySem.F.type_list_append mt_append h.pe (pa_cons pe_int pa_nil hs) hbase hfew hline hs hplain) hsw) ?_⟩
  rintro En σ H ⟨G, S, O, ρ, eK, st, q⟩
  refine ⟨G, S, O, ρ, eK, st, FinS.bind (rep := rT G O) q fun t x S1 H1 s1 k1 st1 rp q1 => ?_⟩
  cases t with
  | st d => exact q1.elim
  | sl l => exact q1.elim
  | fr l =>
    obtain ⟨a, vs, rfl, h1, h2, h3, h4, r⟩ := rp
    have q1 : FinS W (if l.length < big then .nx ρ else .bad) G En := q1
    split at q1
    · rename_i hl
      exact ⟨.inl ⟨rfl, vs, .inl (.inl h4)⟩, a, vs, .int i, rfl, rfl, h4, by rw [← r.length]; exact sz_lt hl, q1 _ _ _ _ (st1.scratch h1 h2 h3)⟩
    · exact q1.elim
def sTmpClr (m : ME) : MS := fun ρ => toS ρ (m ρ) fun t => match t with
  | .fr _ => .nx ρ
  | _ => .bad
end
end RF

set_option Elab.async false
set_option linter.all false
set_option maxRecDepth 100000
set_option autoImplicit false
set_option maxHeartbeats 0
/-! RF, part J: list(enumerate(x)), list(zip(x, y)) -/
namespace RF
open PySem PySem.Spec PySem.W PySem.Calls PyProof.Rows PyProof.V L2
theorem nolen_enum : typeLookup (.type "enumerate") "__len__" = pure none := am_miss_of_fast (by decide +kernel)
theorem nohint_enum : typeLookup (.type "enumerate") "__length_hint__" = pure none := am_miss_of_fast (by decide +kernel)
theorem nolen_zip : typeLookup (.type "zip") "__len__" = pure none := am_miss_of_fast (by decide +kernel)
theorem nohint_zip : typeLookup (.type "zip") "__length_hint__" = pure none := am_miss_of_fast (by decide +kernel)

/-- the tuple of a pair -/
abbrev IsTp (h : Heap) (a : Addr) (k v : Value) : Prop := h.get? a = some { cls := .type "tuple", data := .seq #[k, v] }
/-- an iterator that gives n new pairs, while the list at S grows -/
structure ESrc (prog : Program) (w : World) (A : Around) (I S : Addr) (wr : List Addr) (n : Nat) (Rel : Nat → Value → Value → Prop) (St : Nat → Heap → Prop) : Prop where
  frame : ∀ i h h', St i h → (∀ b o, b ≠ S → h.get? b = some o → h'.get? b = some o) → St i h'
  item : ∀ i (s : Shared) (Q : Option Value → Shared → Prop) (E : Value → Shared → Prop), i < n → St i s.heap → S < s.heap.objs.size →
    (∀ k v h' tk, Rel i k v → IsTp h' s.heap.objs.size k v → St (i + 1) h' → (∀ b o, b ∉ wr → s.heap.get? b = some o → h'.get? b = some o) → Q (some (.ref s.heap.objs.size)) { s with heap := h', toks := tk }) → wpAny (model prog w) A (pyNext (.ref I)) Q E s
  done : ∀ (s : Shared) (Q : Option Value → Shared → Prop) (E : Value → Shared → Prop), St n s.heap →
    (∀ h' tk, (∀ b o, b ∉ wr → s.heap.get? b = some o → h'.get? b = some o) → Q none { s with heap := h', toks := tk }) → wpAny (model prog w) A (pyNext (.ref I)) Q E s
structure EG (Rel : Nat → Value → Value → Prop) (lo : Addr) (h : Heap) (as : List Addr) : Prop where
  rise : as.Pairwise (· < ·)
  above : ∀ a ∈ as, lo < a
  pairs : ∀ (j : Nat) (a : Addr), as[j]? = some a → ∃ k v, Rel j k v ∧ IsTp h a k v
theorem EG.there {Rel : Nat → Value → Value → Prop} {lo : Addr} {h : Heap} {as : List Addr} (g : EG Rel lo h as) {a : Addr} (ha : a ∈ as) : a < h.objs.size := by
  obtain ⟨j, hj⟩ := List.mem_iff_getElem?.mp ha
  obtain ⟨_, _, _, e⟩ := g.pairs j a hj
  exact Heap.lt_size e
section
variable {prog : Program} {w : World} {A : Around} {s : Shared} {R : Result → Shared → Prop} {n : Nat} {Rel : Nat → Value → Value → Prop} {St : Nat → Heap → Prop} {wr : List Addr}
theorem e_loop {S I lo : Addr} (W : ESrc prog w A.in1 I S wr n Rel St) (hSlo : S ≤ lo) (hSw : S ∉ wr) (hwr : ∀ b ∈ wr, b ≤ lo) (hn : n ≤ sizeLine) (res : Value) {h₁ : Heap}
    (hR : ∀ h' tk acc c as, (∀ b o, b ≠ S → b ∉ wr → h₁.get? b = some o → h'.get? b = some o) → h'.get? S = some { cls := .type "list", dict := none, data := .seq acc c, slots := #[] } → as.length = n → EG Rel lo h' as →
      acc.toList = as.map Value.ref → R (.ok (.ret res)) { s with heap := h', toks := tk }) :
    ∀ (k i : Nat) (h : Heap) (tk c : Nat) (acc : Array Value) (as : List Addr), n - i = k → i ≤ n → St i h → (∀ b o, b ≠ S → b ∉ wr → h₁.get? b = some o → h.get? b = some o) →
      h.get? S = some { cls := .type "list", dict := none, data := .seq acc c, slots := #[] } → acc.toList = as.map Value.ref → as.length = i → EG Rel lo h as → lo < h.objs.size →
      codeAny (model prog w) A (.builtin "list.extend.loop" ⟨[.ref S, .ref I, res], []⟩) R { s with heap := h, toks := tk } := by
  intro k
  induction k with
  | zero =>
    intro i h tk c acc as hk hi hst hkeep hS hacc hal hG hIs
    have hin : i = n := by omega
    subst hin
    refine codeAny_builtin PySem.F.entry_extend_loop ?_
    rw [Around.under_plainId PySem.F.plain_extend_loop _]
    show wpAny _ A.in1 (pyNext (.ref I) >>= _) _ _ _
    refine wpAny_bind (W.done { s with heap := h, toks := tk } _ _ hst fun h' tk' he => ?_)
    refine wpAny_pure (hR h' tk' acc c as (fun b o h1 h2 e => he b o h2 (hkeep b o h1 h2 e)) (he S _ hSw hS) hal ⟨hG.rise, hG.above, fun j a hj => ?_⟩ hacc)
    obtain ⟨kk, x, e1, e3⟩ := hG.pairs j a hj
    exact ⟨kk, x, e1, he a _ (fun z => absurd (hwr a z) (Nat.not_le_of_lt (hG.above a (List.mem_of_getElem? hj)))) e3⟩
  | succ k ih =>
    intro i h tk c acc as hk hi hst hkeep hS hacc hal hG hIs
    have hlt : i < n := by omega
    have hsz : acc.size = i := by rw [← Array.length_toList, hacc, List.length_map, hal]
    refine codeAny_builtin PySem.F.entry_extend_loop ?_
    rw [Around.under_plainId PySem.F.plain_extend_loop _]
    show wpAny _ A.in1 (pyNext (.ref I) >>= _) _ _ _
    have hSl : S < h.objs.size := Heap.lt_size hS
    refine wpAny_bind (W.item i { s with heap := h, toks := tk } _ _ hlt hst hSl fun kk x h' tk' hrel ht hst' hkp => ?_)
    dsimp only at ht hkp ⊢
    have hS' := hkp S _ hSw hS
    have up : ∀ b o, b ≠ S → h'.get? b = some o → (h'.update S (Obj.mapSeq (·.push (Value.ref h.objs.size)))).get? b = some o := fun b o hb e => (Heap.get?_update_other _ _ (Ne.symm hb)).trans e
    show wpAny _ A.in1 (updateSeq S (·.push (Value.ref h.objs.size)) >>= _) _ _ _
    refine wpAny_bind ?_
    refine wpAny_updateSeq hS' rfl (wpAny_pure ⟨plainId_quiet PySem.F.plain_extend_loop _, ih (i + 1) _ tk' _ (acc.push (Value.ref h.objs.size)) (as ++ [h.objs.size]) (by omega) hlt (W.frame _ _ _ hst' up)
      (fun b o h1 h2 e => up b o h1 (hkp b o h2 (hkeep b o h1 h2 e))) (Heap.get?_update_self _ hS' rfl) (by rw [Array.toList_push, hacc, List.map_append]; rfl) (by rw [List.length_append, hal]; rfl) ⟨?_, ?_, ?_⟩ ?_⟩) (by rw [hsz]; omega) (by show (acc.push (Value.ref h.objs.size)).size ≤ sizeLine + 1; rw [Array.size_push, hsz]; omega)
    · refine List.pairwise_append.mpr ⟨hG.rise, List.pairwise_singleton _ _, fun a ha b hb => ?_⟩
      rw [List.mem_singleton.mp hb]
      exact hG.there ha
    · intro a ha
      rcases List.mem_append.mp ha with ha | ha
      · exact hG.above a ha
      · rw [List.mem_singleton.mp ha]; exact hIs
    · intro j b hj
      rcases Nat.lt_trichotomy j as.length with h1 | h1 | h1
      · rw [List.getElem?_append_left h1] at hj
        obtain ⟨k', x', e1, e3⟩ := hG.pairs j b hj
        have hb := hG.above b (List.mem_of_getElem? hj)
        exact ⟨k', x', e1, up b _ (Nat.ne_of_gt (Nat.lt_of_le_of_lt hSlo hb)) (hkp b _ (fun z => absurd (hwr b z) (Nat.not_le_of_lt hb)) e3)⟩
      · subst h1
        have hb : h.objs.size = b := by simpa using hj
        subst hb
        exact ⟨kk, x, by rw [hal]; exact hrel, up _ _ (Nat.ne_of_gt hSl) ht⟩
      · have hnone : (as ++ [h.objs.size])[j]? = none := List.getElem?_eq_none (by rw [List.length_append, List.length_singleton]; omega)
        rw [hnone] at hj; cases hj
    · have e : (h'.update S (Obj.mapSeq (·.push (Value.ref h.objs.size)))).get? h.objs.size = _ := up _ _ (Nat.ne_of_gt hSl) ht
      exact Nat.lt_trans hIs (Heap.lt_size e)
end
/-- what list() takes: an iterator of pairs that is its own iter -/
structure EArg (prog : Program) (w : World) (T : String) (I : Addr) (wr : List Addr) (n : Nat) (Rel : Nat → Value → Value → Prop) (St : Addr → Nat → Heap → Prop) : Prop where
  src : ∀ (A : Around) (S : Addr), A.handled = none → (S ∉ wr) → ESrc prog w A I S wr n Rel (St S)
  type : ∀ S i h (s : Shared), St S i h → s.heap = h → s.TypeIs (.ref I) T
  self : ∀ S i (A : Around) (s : Shared) (Q : Value → Shared → Prop) (E : Value → Shared → Prop), St S i s.heap → Q (.ref I) s → wpAny (model prog w) A (pyIter (.ref I)) Q E s
  nolen : typeLookup (.type T) "__len__" = pure none
  nohint : typeLookup (.type T) "__length_hint__" = pure none
  notL : (Value.type T == Value.type "list") = false
  notT : (Value.type T == Value.type "tuple") = false
section
variable {prog : Program} {w : World} {A : Around} {E : Value → Shared → Prop} {s : Shared} {n : Nat} {Rel : Nat → Value → Value → Prop} {St : Addr → Nat → Heap → Prop} {wr : List Addr} {T : String} {I : Addr}
theorem e_hint (hT : s.TypeIs (.ref I) T) (nl : typeLookup (.type T) "__len__" = pure none) (nh : typeLookup (.type T) "__length_hint__" = pure none) {Q : Bool → Shared → Prop} (h : Q true s) : wpAny (model prog w) A (Builtin.List.listLengthHint (.ref I)) Q E s := by
  unfold Builtin.List.listLengthHint
  refine wpAny_bind (wpAny_specialOf hT nl ?_)
  show wpAny _ _ (specialOf (Value.ref I) (Str.ofString "__length_hint__") >>= _) _ _ _
  refine wpAny_bind (wpAny_specialOf hT nh ?_)
  exact wpAny_pure h
theorem e_extend {R : Result → Shared → Prop} (hh : A.handled = none) (W : EArg prog w T I wr n Rel St) (S : Addr) (hSI : S ≠ I) (hSw : S ∉ wr) (hst : St S 0 s.heap) (hwr : ∀ b ∈ wr, b < s.heap.objs.size) (res : Value) (c₀ : Nat) (hS : s.heap.get? S = some { cls := .type "list", data := .seq #[] c₀ })
    (hR : ∀ h' tk acc c as, (∀ b o, b ≠ S → b ∉ wr → s.heap.get? b = some o → h'.get? b = some o) → h'.get? S = some { cls := .type "list", dict := none, data := .seq acc c, slots := #[] } → as.length = n → EG Rel (s.heap.objs.size - 1) h' as →
      acc.toList = as.map Value.ref → R (.ok (.ret res)) { s with heap := h', toks := tk }) (hn : n ≤ sizeLine) :
    wpAny (model prog w) A.in1 (Builtin.List.listExtendWith (.ref S) (.ref I) res)
      (fun fin s' => match fin with | .done f => R (.ok f) s' | .again c' => c'.quiet = true ∧ codeAny (model prog w) A c' R s') (fun e s' => R (.error e) s') s := by
  have hSl : S < s.heap.objs.size := Heap.lt_size hS
  have sc := W.src A.in1 S hh hSw
  have key : ∀ (h : Heap) (c₁ tk : Nat), (∀ b o, b ≠ S → s.heap.get? b = some o → h.get? b = some o) → h.objs.size = s.heap.objs.size →
      h.get? S = some { cls := .type "list", data := .seq #[] c₁ } → codeAny (model prog w) A (.builtin "list.extend.loop" ⟨[.ref S, .ref I, res], []⟩) R { s with heap := h, toks := tk } := by
    intro h c₁ tk hk hz hS₁
    refine e_loop (lo := s.heap.objs.size - 1) (s := s) (h₁ := s.heap) sc (Nat.le_sub_one_of_lt hSl) hSw (fun b hb => Nat.le_sub_one_of_lt (hwr b hb)) hn res hR
      n 0 h tk c₁ #[] [] (Nat.sub_zero _) (Nat.zero_le _) (sc.frame _ _ _ hst hk) (fun b o hb _ e => hk b o hb e) hS₁ rfl rfl
      ⟨List.Pairwise.nil, (fun _ ha => nomatch ha), (fun j a hj => by simp at hj)⟩ (by rw [hz]; exact Nat.sub_lt (Nat.lt_of_le_of_lt (Nat.zero_le _) hSl) Nat.one_pos)
  unfold Builtin.List.listExtendWith
  refine wpAny_bind (wpAny_typeOf (T := T) (W.type _ _ _ _ hst rfl) ?_)
  have h1 : Builtin.List.listSameRef (.ref S) (.ref I) = false := by simp [Builtin.List.listSameRef, hSI]
  simp only [h1, W.notL, W.notT, Bool.or_false, Bool.false_eq_true, if_false]
  refine wpAny_bind (W.self _ _ _ _ _ _ hst ?_)
  refine wpAny_bind (wpAny_holding (e_hint (W.type _ _ _ _ hst rfl) W.nolen W.nohint ?_))
  refine wpAny_ite_split (fun _ => ?_) (fun _ => wpAny_pure ⟨plainId_quiet PySem.F.plain_extend_loop _, key _ c₀ _ (fun b o _ e => e) rfl hS⟩)
  refine wpAny_bind (wpAny_rule ?_)
  refine wpAny_bind ?_
  show wpAny _ _ (updateSeq S (·.push .none) >>= fun _ => updateSeq S (·.pop)) _ _ _
  refine wpAny_bind (wpAny_updateSeq hS rfl ?_)
  have hS₂ := Heap.get?_update_self (Obj.mapSeq (·.push Value.none)) hS rfl
  refine wpAny_updateSeq (hz := by seq_fits) hS₂ rfl ?_
  have hS₃ := Heap.get?_update_self (Obj.mapSeq (·.pop)) hS₂ rfl
  refine wpAny_pure ⟨plainId_quiet PySem.F.plain_extend_loop _, key _ _ _ (fun b o hb e => ?_) (by simp) hS₃⟩
  exact (Heap.get?_update_other _ _ (Ne.symm hb)).trans ((Heap.get?_update_other _ _ (Ne.symm hb)).trans e)
theorem e_call {Q : Value → Shared → Prop} (hh : A.handled = none) (W : EArg prog w T I wr n Rel St) (hst : St s.heap.objs.size 0 s.heap) (hI : I < s.heap.objs.size) (hwr : ∀ b ∈ wr, b < s.heap.objs.size) (hn : n ≤ sizeLine)
    (hQ : ∀ h' tk acc c as, (∀ b o, b ∉ wr → s.heap.get? b = some o → h'.get? b = some o) → h'.get? s.heap.objs.size = some { cls := .type "list", dict := none, data := .seq acc c, slots := #[] } → as.length = n → EG Rel s.heap.objs.size h' as →
      acc.toList = as.map Value.ref → Q (.ref s.heap.objs.size) { s with heap := h', toks := tk }) :
    wpAny (model prog w) A (call (.type "list") [.ref I]) Q E s := by
  refine callType_codes (Q₁ := fun obj s₁ => obj = .ref s.heap.objs.size ∧ s₁ = { s with heap := s.heap.push { cls := .type "list", data := .seq #[] } }) PySem.F.called_list (PySem.F.typeCall_list_1 _) PySem.F.entry_list_init
    (code_list_new _ ⟨rfl, rfl⟩) fun obj s₁ h₁ => ?_
  obtain ⟨rfl, rfl⟩ := h₁
  have hS : (s.heap.push { cls := .type "list", data := .seq #[] }).get? s.heap.objs.size = some { cls := .type "list", data := .seq #[] } := Heap.get?_push_size _ rfl
  have hSw : s.heap.objs.size ∉ wr := fun z => Nat.lt_irrefl _ (hwr _ z)
  have hz : (s.heap.push { cls := .type "list", data := .seq #[] }).objs.size = s.heap.objs.size + 1 := Heap.size_push ..
  refine ⟨⟨_, hS, rfl⟩, PySem.F.args_list_init_2 _ _, ?_⟩
  show wpAny _ _ (do let old ← Builtin.List.listItems (.ref s.heap.objs.size); Builtin.List.listUpdate (.ref s.heap.objs.size) (fun _ => #[]); letGo old.toList.reverse; Builtin.List.listExtendWith (.ref s.heap.objs.size) (.ref I) .none) _ _ _
  refine wpAny_bind ?_
  unfold Builtin.List.listItems
  refine wpAny_bind (wpAny_seqItems hS rfl (wpAny_pure ?_))
  show wpAny _ _ (updateSeq s.heap.objs.size (fun _ => #[]) >>= fun _ => letGo (#[] : Array Value).toList.reverse >>= fun _ => Builtin.List.listExtendWith (.ref s.heap.objs.size) (.ref I) .none) _ _ _
  refine wpAny_bind (wpAny_updateSeq hS rfl ?_)
  have hS₂ := Heap.get?_update_self (Obj.mapSeq (fun _ => (#[] : Array Value))) hS rfl
  refine wpAny_bind (wpAny_letGo ?_)
  have sc := W.src A.in1 _ hh hSw
  refine e_extend (A := A.in1) hh W _ (Nat.ne_of_gt hI) hSw (sc.frame _ _ _ hst fun b o hb e => ?_) (fun b hb => ?_) .none _ hS₂ (fun h' tk acc c as hk hS' hl hG hacc => ?_) hn
  · exact (Heap.get?_update_other _ _ (Ne.symm hb)).trans (Heap.get?_push_of_some _ e)
  · have := hwr b hb
    simp only [Heap.size_update, hz]
    exact Nat.lt_succ_of_lt this
  · refine ⟨rfl, hQ h' tk acc c as (fun b o hb e => ?_) hS' hl ?_ hacc⟩
    · have hb' : b ≠ s.heap.objs.size := Nat.ne_of_lt (Heap.lt_size e)
      exact hk b o hb' hb ((Heap.get?_update_other _ _ (Ne.symm hb')).trans (Heap.get?_push_of_some _ e))
    · simp only [Heap.size_update, hz, Nat.add_sub_cancel] at hG
      exact hG
end
section
variable {prog : Program} {w : World}
theorem EArg.enum (e it l : Addr) (hei : e ≠ it) (hle : l ≠ e) (hli : l ≠ it) (items : Array Value) :
    EArg prog w "enumerate" e [e, it] items.size (fun i k v => (∃ t, k = .int i t) ∧ items[i]? = some v)
      (fun S i h => S ≠ l ∧ S ≠ e ∧ S ≠ it ∧ h.IsListIter it l i ∧ h.IsList l items ∧ ((∃ old, IsEnum h e it i old) ∨ ∃ old T f oT, IsEnumHeld h e it i old T f ∧ h.get? T = some oT ∧ T ≠ e ∧ T ≠ it ∧ T ≠ S)) where
  src := fun A S hA hS => {
      frame := fun i h₁ h₂ st hk => by
        obtain ⟨n1, n2, n3, hit, hl, he⟩ := st
        refine ⟨n1, n2, n3, hit.at fun o x => hk _ o (Ne.symm n3) x, hl.at fun o x => hk _ o (Ne.symm n1) x, ?_⟩
        rcases he with ⟨old, he⟩ | ⟨old, T, f, oT, he, hT, r1, r2, r3⟩
        · exact .inl ⟨old, hk _ _ (Ne.symm n2) he⟩
        · exact .inr ⟨old, T, f, oT, hk _ _ (Ne.symm n2) he, hk _ _ r3 hT, r1, r2, r3⟩
      item := fun i s₁ Q₁ E₁ hi st hds hQ => by
        obtain ⟨n1, n2, n3, hit, hl, he⟩ := st
        have ex := Array.getElem?_eq_getElem hi
        have ec : ((i + 1 : Nat) : Int) = (i : Int) + 1 := by omega
        have nit : s₁.heap.objs.size ≠ it := let ⟨_, x, _⟩ := hit; Nat.ne_of_gt (Heap.lt_size x)
        rcases he with ⟨old, he⟩ | ⟨old, T, f, oT, he, hT, r1, r2, r3⟩
        · refine wpAny_pyNext_enum_item he hit hl ex hei fun h' ho hit' hT hsz hk => ?_
          exact hQ _ _ h' (s₁.toks + 1) ⟨⟨_, rfl⟩, ex⟩ hT
            ⟨n1, n2, n3, hit', hl.at fun o x => hk l o hle hli x, .inr ⟨_, s₁.heap.objs.size, false, _, (by rw [ec]; exact ho), hT, Nat.ne_of_gt (Heap.lt_size he), nit, Nat.ne_of_gt hds⟩⟩
            fun b o hb x => hk b o (fun y => hb (by simp [y])) (fun y => hb (by simp [y])) x
        · refine wpAny_pyNext_enum_item_held he hT r1 r2 hit hl ex hei fun h' ho hit' hT' hsz hk => ?_
          exact hQ _ _ h' (s₁.toks + 1) ⟨⟨_, rfl⟩, ex⟩ hT'
            ⟨n1, n2, n3, hit', hl.at fun o x => hk l o hle hli x, .inr ⟨old, T, true, oT, (by rw [ec]; exact ho), hk _ _ r1 r2 hT, r1, r2, r3⟩⟩
            fun b o hb x => hk b o (fun y => hb (by simp [y])) (fun y => hb (by simp [y])) x
      done := fun s₁ Q₁ E₁ st hQ => by
        obtain ⟨n1, n2, n3, hit, hl, he⟩ := st
        have hx : items[items.size]? = none := Array.getElem?_eq_none (Nat.le_refl _)
        rcases he with ⟨old, he⟩ | ⟨old, T, f, oT, he, hT, r1, r2, r3⟩
        · exact wpAny_pyNext_enum_end hA he hit hl hx fun h' hk => hQ h' s₁.toks fun b o hb x => hk b o (fun y => hb (by simp [y])) x
        · exact wpAny_pyNext_enum_end_held hA he hit hl hx fun h' hk => hQ h' s₁.toks fun b o hb x => hk b o (fun y => hb (by simp [y])) x }
  type := fun S i h s st e' => by
    subst e'
    obtain ⟨n1, n2, n3, hit, hl, ⟨old, he⟩ | ⟨old, T, f, oT, he, hT, r1, r2, r3⟩⟩ := st
    · exact ⟨_, he, rfl⟩
    · exact ⟨_, he, rfl⟩
  self := fun S i A s Q E st q => by
    obtain ⟨n1, n2, n3, hit, hl, ⟨old, he⟩ | ⟨old, T, f, oT, he, hT, r1, r2, r3⟩⟩ := st
    · exact wpAny_pyIter_enum he q
    · have hT : s.TypeIs (.ref e) "enumerate" := ⟨_, he, rfl⟩
      refine wpAny_pyIter_slot hT F.slot_enumerate_iter (wpAny_call_entry F.slot_enumerate_iter hT F.entry_enumerate_iter ?_ (F.args_enumerate_iter_1 _))
      show wpAny _ _ (ret (.ref e)) _ _ s
      exact wpAny_pure ⟨_, rfl, "enumerate", _, hT, F.slot_enumerate_next.lookup, q⟩
  nolen := nolen_enum
  nohint := nohint_enum
  notL := by decide
  notT := by decide
theorem EArg.zip (z TI TO i1 i2 l1 l2 : Addr) (D : ZipApart z TI TO i1 i2 l1 l2) (xs ys : Array Value) :
    EArg prog w "zip" z [z, TO, i1, i2] (min xs.size ys.size) (fun i k v => xs[i]? = some k ∧ ys[i]? = some v)
      (fun d i h => (d ≠ z ∧ d ≠ TI ∧ d ≠ TO ∧ d ≠ i1 ∧ d ≠ i2 ∧ d ≠ l1 ∧ d ≠ l2) ∧ IsPair h TI (.ref i1) (.ref i2) ∧ h.IsListIter i1 l1 i ∧ h.IsListIter i2 l2 i ∧ h.IsList l1 xs ∧ h.IsList l2 ys ∧
      ((IsZip h z TI TO .none ∧ ∃ a b, IsPair h TO a b) ∨ ∃ T f oT, IsZipHeld h z TI TO T f ∧ h.get? T = some oT ∧ T ≠ z ∧ T ≠ i1 ∧ T ≠ i2 ∧ T ≠ d)) where
  src := fun A d hA hS => {
      frame := fun i h₁ h₂ st hk => by
        obtain ⟨⟨dz, dTI, dTO, di1, di2, dl1, dl2⟩, hTI, h1, h2, hl1, hl2, hz⟩ := st
        refine ⟨⟨dz, dTI, dTO, di1, di2, dl1, dl2⟩, hk _ _ (Ne.symm dTI) hTI, h1.at fun o e => hk _ o (Ne.symm di1) e, h2.at fun o e => hk _ o (Ne.symm di2) e, hl1.at fun o e => hk _ o (Ne.symm dl1) e, hl2.at fun o e => hk _ o (Ne.symm dl2) e, ?_⟩
        rcases hz with ⟨hz, a, b, hTO⟩ | ⟨T, f, oT, hz, hT, r1, r2, r3, r4⟩
        · exact .inl ⟨hk _ _ (Ne.symm dz) hz, a, b, hk _ _ (Ne.symm dTO) hTO⟩
        · exact .inr ⟨T, f, oT, hk _ _ (Ne.symm dz) hz, hk _ _ r4 hT, r1, r2, r3, r4⟩
      item := fun i s₁ Q₁ E₁ hi st hds hQ => by
        obtain ⟨dd, hTI, h1, h2, hl1, hl2, hz⟩ := st
        have hix : i < xs.size := Nat.lt_of_lt_of_le hi (Nat.min_le_left ..)
        have hiy : i < ys.size := Nat.lt_of_lt_of_le hi (Nat.min_le_right ..)
        have ex := Array.getElem?_eq_getElem hix
        have ey := Array.getElem?_eq_getElem hiy
        have lt : ∀ {c o}, s₁.heap.get? c = some o → s₁.heap.objs.size ≠ c := fun e => Nat.ne_of_gt (Heap.lt_size e)
        have n1 : s₁.heap.objs.size ≠ i1 := let ⟨_, e, _⟩ := h1; lt e
        have n2 : s₁.heap.objs.size ≠ i2 := let ⟨_, e, _⟩ := h2; lt e
        rcases hz with ⟨hz, a, b, hTO⟩ | ⟨T, f, oT, hz, hT, r1, r2, r3, r4⟩
        · refine wpAny_pyNext_zip_item D hz hTI hTO h1 h2 hl1 hl2 ex ey fun h' a1 a2 a3 a4 a5 a6 hk => ?_
          exact hQ _ _ h' s₁.toks ⟨ex, ey⟩ a5
            ⟨dd, hk _ _ D.TIz D.TITO D.TIi1 D.TIi2 hTI, a3, a4, hl1.at fun o e => hk _ o D.l1z D.l1TO D.l1i1 D.l1i2 e, hl2.at fun o e => hk _ o D.l2z D.l2TO D.l2i1 D.l2i2 e,
              .inr ⟨s₁.heap.objs.size, false, _, a1, a5, lt hz, n1, n2, Nat.ne_of_gt hds⟩⟩
            fun c o hc e => hk c o (fun x => hc (by simp [x])) (fun x => hc (by simp [x])) (fun x => hc (by simp [x])) (fun x => hc (by simp [x])) e
        · refine wpAny_pyNext_zip_item_held D hz hT hTI h1 h2 hl1 hl2 ex ey fun h' a1 a3 a4 a5 a6 hk => ?_
          exact hQ _ _ h' s₁.toks ⟨ex, ey⟩ a5
            ⟨dd, hk _ _ D.TIz D.TIi1 D.TIi2 hTI, a3, a4, hl1.at fun o e => hk _ o D.l1z D.l1i1 D.l1i2 e, hl2.at fun o e => hk _ o D.l2z D.l2i1 D.l2i2 e,
              .inr ⟨T, true, oT, a1, hk _ _ r1 r2 r3 hT, r1, r2, r3, r4⟩⟩
            fun c o hc e => hk c o (fun x => hc (by simp [x])) (fun x => hc (by simp [x])) (fun x => hc (by simp [x])) e
      done := fun s₁ Q₁ E₁ st hQ => by
        obtain ⟨dd, hTI, h1, h2, hl1, hl2, hz⟩ := st
        have hend : xs[min xs.size ys.size]? = none ∨ ys[min xs.size ys.size]? = none := by
          rcases Nat.le_total xs.size ys.size with h | h
          · exact .inl (Array.getElem?_eq_none (by rw [Nat.min_eq_left h]; exact Nat.le_refl _))
          · exact .inr (Array.getElem?_eq_none (by rw [Nat.min_eq_right h]; exact Nat.le_refl _))
        rcases hz with ⟨hz, a, b, hTO⟩ | ⟨T, f, oT, hz, hT, r1, r2, r3, r4⟩
        · exact wpAny_pyNext_zip_end hA D hz hTI hTO h1 h2 hl1 hl2 hend fun h' hk => hQ h' s₁.toks fun c o hc e => hk c o (fun x => hc (by simp [x])) (fun x => hc (by simp [x])) (fun x => hc (by simp [x])) (fun x => hc (by simp [x])) e
        · exact wpAny_pyNext_zip_end_held hA D hz hT hTI h1 h2 hl1 hl2 hend fun h' hk => hQ h' s₁.toks fun c o hc e => hk c o (fun x => hc (by simp [x])) (fun x => hc (by simp [x])) (fun x => hc (by simp [x])) e }
  type := fun S i h s st e' => by
    subst e'
    obtain ⟨dd, hTI, h1, h2, hl1, hl2, ⟨hz, a, b, hTO⟩ | ⟨T, f, oT, hz, hT, r1, r2, r3, r4⟩⟩ := st
    · exact ⟨_, hz, rfl⟩
    · exact ⟨_, hz, rfl⟩
  self := fun S i A s Q E st q => by
    have key : ∀ o : Obj, s.heap.get? z = some o → o.cls = .type "zip" → wpAny (model prog w) A (pyIter (.ref z)) Q E s := fun o ho hc => by
      have hT : s.TypeIs (.ref z) "zip" := ⟨_, ho, hc⟩
      refine wpAny_pyIter_slot hT F.slot_zip_iter (wpAny_call_entry F.slot_zip_iter hT F.entry_zip_iter ?_ (F.args_zip_iter_1 _))
      show wpAny _ _ (ret (.ref z)) _ _ s
      exact wpAny_pure ⟨_, rfl, "zip", _, hT, F.slot_zip_next.lookup, q⟩
    obtain ⟨dd, hTI, h1, h2, hl1, hl2, ⟨hz, a, b, hTO⟩ | ⟨T, f, oT, hz, hT, r1, r2, r3, r4⟩⟩ := st
    · exact key _ hz rfl
    · exact key _ hz rfl
  nolen := nolen_zip
  nohint := nohint_zip
  notL := by decide
  notT := by decide
end

/-- new pairs tracked at their addresses -/
def putP : Hp → List Addr → List (V × V) → Hp
  | H, a :: as, p :: ps => putP (upd H a (.tup [p.1, p.2])) as ps
  | H, _, _ => H
theorem putP_off {b : Addr} : ∀ (as : List Addr) (ps : List (V × V)) (H : Hp), b ∉ as → putP H as ps b = H b
  | [], _, _, _ => rfl
  | _ :: _, [], _, _ => rfl
  | a :: as, p :: ps, H, h => by
    show putP (upd H a (.tup [p.1, p.2])) as ps b = H b
    rw [putP_off as ps _ (fun z => h (List.mem_cons_of_mem _ z)), upd_ne (fun z => h (by rw [z]; exact List.mem_cons_self))]
theorem putP_at : ∀ (as : List Addr) (ps : List (V × V)) (H : Hp), as.length = ps.length → as.Nodup → Paired (fun (t : Addr) (p : V × V) => putP H as ps t = some (.tup [p.1, p.2])) as ps
  | [], [], _, _, _ => .nil
  | [], _ :: _, _, h, _ => by cases h
  | _ :: _, [], _, h, _ => by cases h
  | a :: as, p :: ps, H, h, hn => by
    have hn' := List.nodup_cons.mp hn
    have ih := putP_at as ps (upd H a (.tup [p.1, p.2])) (Nat.succ.inj h) hn'.2
    refine .cons ?_ ih
    show putP (upd H a (.tup [p.1, p.2])) as ps a = some (.tup [p.1, p.2])
    rw [putP_off as ps _ hn'.1, upd_same]
theorem vals_refsP : ∀ as : List Addr, Vals (as.map V.ref) (as.map Value.ref)
  | [] => .nil
  | _ :: as => .cons rfl (vals_refsP as)
theorem paired_ixP {α β : Type} {F : α → β → Prop} : ∀ {xs : List α} {ys : List β}, Paired F xs ys → ∀ {x : α}, x ∈ xs → ∃ (j : Nat) (y : β), xs[j]? = some x ∧ ys[j]? = some y ∧ F x y
  | _, _, .cons h t, x, hx => by
    rcases List.mem_cons.mp hx with e | hx
    · rw [e]
      exact ⟨0, _, rfl, rfl, h⟩
    · obtain ⟨j, y, e1, e2, e3⟩ := paired_ixP t hx
      exact ⟨j + 1, y, e1, e2, e3⟩
section
variable {X : Cx} {e e2 : Expr} {ta : TA} {p p1 apos cpos pos : Pos}
theorem e_laid {pins : List (Addr × Obj)} {σ : L2.St} {H : Hp} {s : Shared} {h' : Heap} {tk : Nat} {ps : List (V × V)} {Rel : Nat → Value → Value → Prop} {acc : Array Value} {c : Nat} {as : List Addr} {S : Addr} (I : Inv X pins σ H s) (hz : ps.length ≤ sizeLine) (hSS : s.heap.objs.size ≤ S)
    (hk : ∀ b o, s.heap.get? b = some o → h'.get? b = some o) (hS : h'.get? S = some { cls := .type "list", dict := none, data := .seq acc c, slots := #[] }) (hl : as.length = ps.length) (hG : EG Rel S h' as)
    (hrel : ∀ j k v, Rel j k v → ∃ q : V × V, ps[j]? = some q ∧ RelV q.1 k ∧ RelV q.2 v) (hacc : acc.toList = as.map Value.ref) :
    H S = none ∧ (∀ t ∈ as, H t = none) ∧ S ∉ as ∧ as.Nodup ∧ Inv X pins σ (upd (putP H as ps) S (.lst (as.map V.ref))) { s with heap := h', toks := tk } := by
  have hSn : S ∉ as := fun z => Nat.lt_irrefl _ (hG.above _ z)
  have nd : as.Nodup := List.Pairwise.imp (fun {a b} (h : a < b) => Nat.ne_of_lt h) hG.rise
  have new : ∀ t ∈ as, H t = none := fun t ht => I.hok.fresh (Nat.le_trans hSS (Nat.le_of_lt (hG.above t ht)))
  have newS : H S = none := I.hok.fresh hSS
  have atP := putP_at as ps H (by omega) nd
  have off : ∀ b, b ∉ as → b ≠ S → upd (putP H as ps) S (.lst (as.map V.ref)) b = H b := fun b h1 h2 => by rw [upd_ne h2, putP_off as ps _ h1]
  have low : ∀ b o, s.heap.get? b = some o → b ∉ as ∧ b ≠ S := fun b o e => ⟨fun z => absurd (Heap.lt_size e) (Nat.not_lt.mpr (Nat.le_trans hSS (Nat.le_of_lt (hG.above b z)))), Nat.ne_of_lt (Nat.lt_of_lt_of_le (Heap.lt_size e) hSS)⟩
  have kp : ∀ b u, H b = some u → (upd (putP H as ps) S (.lst (as.map V.ref))) b = some u := fun b u e => by
    rw [off b (fun z => by rw [new b z] at e; cases e) (fun z => by rw [z, newS] at e; cases e)]
    exact e
  refine ⟨newS, new, hSn, nd, ?_⟩
  refine I.call' (ch := []) rfl ⟨fun b o q _ _ _ => hk b o q, fun b o q _ _ _ => ⟨o.slots, hk b o q⟩, fun b o q n _ => ?_, fun b o q _ => ⟨o, hk b o q⟩, fun b xs q => kp b _ q, fun b o u q => kp b _ q, fun b ps q => ⟨#[], by rw [kp b _ q]; simp⟩⟩ (fun b u q => ?_) I.bare fun b z => by simp at z
  · obtain ⟨z1, z2⟩ := low b o q
    rw [off b z1 z2]
    exact n
  · by_cases hb : b ∈ as
    · obtain ⟨j, pk, e1, e2, e3⟩ := paired_ixP atP hb
      rw [upd_ne (fun z => hSn (by rw [← z]; exact hb)), e3] at q
      cases q
      obtain ⟨k, v, f1, f3⟩ := hG.pairs j b e1
      obtain ⟨qv, g1, g2, g3⟩ := hrel j k v f1
      rw [e2] at g1
      cases g1
      exact ⟨by show 2 ≤ sizeLine; decide, [k, v], .cons g2 (.cons g3 .nil), ⟨_, f3, rfl, _, rfl⟩⟩
    · by_cases hb2 : b = S
      · rw [hb2] at q ⊢
        rw [upd_same] at q
        cases q
        refine ⟨by rw [List.length_map]; omega, acc.toList, c, by rw [hacc]; exact vals_refsP as, ?_⟩
        rw [Array.toArray_toList]
        exact hS
      · rw [off b hb hb2] at q
        exact (I.hok b u q).stay (fun d v _ y => hk d v y) (fun d y => kp d _ y) fun d xs y => kp d _ y
theorem valsV : ∀ {xs : List V} {us : List Value} {i : Nat} {u : Value}, Vals xs us → us[i]? = some u → ∃ x, xs[i]? = some x ∧ RelV x u
  | _, _, _, _, .nil, e => by simp at e
  | _, _, 0, _, .cons r _, e => by simp at e; subst e; exact ⟨_, rfl, r⟩
  | _, _, i + 1, x, .cons _ t, e => by
    obtain ⟨u, h1, h2⟩ := valsV (i := i) (u := x) t (by simpa using e)
    exact ⟨u, by simpa using h1, h2⟩
/-- what list(enumerate(..)), list(zip(..)) hands on: new pairs ps -/
def rPairs (ps : List (V × V)) (H : Hp) (Q : VK) : Prop := ps.length ≤ sizeLine ∧ ∀ (S : Addr) (as : List Addr), H S = none → (∀ t ∈ as, H t = none) → S ∉ as → as.Nodup → as.length = ps.length → Q (.ref S) (upd (putP H as ps) S (.lst (as.map V.ref)))
def enV (vs : List V) : List (V × V) := (vs.zipIdx).map fun q => (V.int (q.2 : Nat), q.1)
def tEnumL (K : PySem.W.Frag) (ta : TA) : TE := fun σ H Q => ta σ H fun vs H1 => ∃ a xs, vs = [.ref a] ∧ SqL K H1 a xs ∧ rPairs (enV xs) H1 Q
def tZipL (K : PySem.W.Frag) (ta : TA) : TE := fun σ H Q => ta σ H fun vs H1 => ∃ a b xs ys, vs = [.ref a, .ref b] ∧ SqL K H1 a xs ∧ SqL K H1 b ys ∧ rPairs (xs.zip ys) H1 Q
theorem pe_enumL (hc : X.calm = true) (hg : Gl X "list") (hm : X.mg "list" = none) (hg2 : Gl X "enumerate") (hm2 : X.mg "enumerate" = none) (ha : PA X [e] ta) (hs : starEach [e] X.env = [(false, eval e X.env)] := by rfl)
    (hs2 : starEach [.Call (.Name "enumerate" p1) [e] [] cpos] X.env = (false, eval (.Call (.Name "enumerate" p1) [e] [] cpos) X.env) :: starEach [] X.env := by rfl) :
    PE X (.Call (.Name "list" p) [.Call (.Name "enumerate" p1) [e] [] cpos] [] pos) (tEnumL X.K ta) := by
  refine ⟨fun pins s σ H Q I h => ?_⟩
  refine Call_ (ld_blt I hg hm boot_list (PyProof.Rows.callWith_type1 (args_cons ?_ hs2) hs2))
  refine Call_ (ld_blt I hg2 hm2 boot_enumerate (PyProof.Rows.callWith_type1 (thn (ha.run cpos pins s σ H _ I h) fun us s1 ⟨vs, H1, I1, r1, q1⟩ => ?_) hs rfl))
  obtain ⟨a, xs, ex, hq, hz, q⟩ := q1
  subst ex
  cases r1 with
  | cons r rr =>
    cases rr
    cases r
    obtain ⟨its, rv, p', hz'⟩ := I1.list hq
    refine call_enumerate_list p'.isList fun h' he hit hsz hk => args_nil ?_
    have hal : a < s1.heap.objs.size := p'.lt
    have hrl := rv.length
    have hen : (enV xs).length = xs.length := by unfold enV; rw [List.length_map, List.length_zipIdx]
    have W := EArg.enum (prog := X.prog) (w := X.w) (s1.heap.objs.size + 1) s1.heap.objs.size a (Nat.succ_ne_self _) (Nat.ne_of_lt (Nat.lt_succ_of_lt hal)) (Nat.ne_of_lt hal) its.toArray
    refine e_call (s := { s1 with heap := h' }) (I1.ok.hd hc) W ⟨?_, ?_, ?_, hit, p'.isList.at fun o x => hk _ o x, .inl ⟨_, he⟩⟩ ?_ ?_ ?_ fun h2 tk acc c as hk2 hS hl hG hacc => ?_
    · show h'.objs.size ≠ a; rw [hsz]; exact Nat.ne_of_gt (Nat.lt_of_lt_of_le hal (Nat.le_add_right _ _))
    · show h'.objs.size ≠ s1.heap.objs.size + 1; rw [hsz]; exact Nat.succ_ne_self _
    · show h'.objs.size ≠ s1.heap.objs.size; rw [hsz]; exact Nat.ne_of_gt (Nat.lt_of_lt_of_le (Nat.lt_succ_self _) (Nat.le_add_right _ 1))
    · show s1.heap.objs.size + 1 < h'.objs.size; rw [hsz]; exact Nat.lt_succ_self _
    · intro b hb
      show b < h'.objs.size
      rw [hsz]
      have e' : b = s1.heap.objs.size + 1 ∨ b = s1.heap.objs.size := by simpa using hb
      rcases e' with z | z
      · rw [z]; exact Nat.lt_succ_self _
      · rw [z]; exact Nat.lt_succ_of_lt (Nat.lt_succ_self _)
    · rw [List.size_toArray]; omega
    · have hss : s1.heap.objs.size ≤ h'.objs.size := by rw [hsz]; exact Nat.le_add_right _ _
      have hkk : ∀ b o, s1.heap.get? b = some o → h2.get? b = some o := fun b o eb => hk2 b o (fun hb => by
        have e' : b = s1.heap.objs.size + 1 ∨ b = s1.heap.objs.size := by simpa using hb
        have := Heap.lt_size eb
        rcases e' with z | z
        · rw [z] at this; exact absurd this (Nat.not_lt.mpr (Nat.le_succ _))
        · rw [z] at this; exact absurd this (Nat.lt_irrefl _)) (hk b o eb)
      have hrel : ∀ j k v, ((∃ t, k = Value.int (j : Nat) t) ∧ its.toArray[j]? = some v) → ∃ q : V × V, (enV xs)[j]? = some q ∧ RelV q.1 k ∧ RelV q.2 v := by
        intro j k v hr
        obtain ⟨⟨t, rfl⟩, hv⟩ := hr
        obtain ⟨x, hx, rx⟩ := valsV rv (i := j) (u := v) (by simpa using hv)
        refine ⟨(.int (j : Nat), x), ?_, ⟨t, rfl⟩, rx⟩
        unfold enV
        rw [List.getElem?_map, List.getElem?_zipIdx, hx]
        show some _ = some _
        rw [Nat.zero_add]
      obtain ⟨z1, z2, z3, z4, J⟩ := e_laid (tk := tk) (ps := enV xs) I1 hz hss hkk hS (by rw [hl, List.size_toArray]; omega) hG hrel hacc
      exact ⟨.ref _, _, J, rfl, q _ as z1 z2 z3 z4 (by rw [hl, List.size_toArray]; omega)⟩
theorem pe_zipL (hc : X.calm = true) (hg : Gl X "list") (hm : X.mg "list" = none) (hg2 : Gl X "zip") (hm2 : X.mg "zip" = none) (ha : PA X [e, e2] ta) (hs : starEach [e, e2] X.env = (false, eval e X.env) :: starEach [e2] X.env := by rfl) (hpl : (backTo cpos (starEach [e2] X.env)).any (·.1) = false := by rfl)
    (hs2 : starEach [.Call (.Name "zip" p1) [e, e2] [] cpos] X.env = (false, eval (.Call (.Name "zip" p1) [e, e2] [] cpos) X.env) :: starEach [] X.env := by rfl) :
    PE X (.Call (.Name "list" p) [.Call (.Name "zip" p1) [e, e2] [] cpos] [] pos) (tZipL X.K ta) := by
  refine ⟨fun pins s σ H Q I h => ?_⟩
  refine Call_ (ld_blt I hg hm boot_list (PyProof.Rows.callWith_type1 (args_cons ?_ hs2) hs2))
  refine Call_ (ld_blt I hg2 hm2 PyProof.Rows.boot_zip (PyProof.Rows.callWith_type1 (thn (ha.run cpos pins s σ H _ I h) fun us s1 ⟨vs, H1, I1, r1, q1⟩ => ?_) hs hpl))
  obtain ⟨a, b, xs, ys, ex, hqx, hqy, hz, q⟩ := q1
  subst ex
  cases r1 with
  | cons r rr =>
    cases rr with
    | cons r' rr =>
    cases rr
    cases r
    cases r'
    obtain ⟨its, rv, p1', _⟩ := I1.list hqx
    obtain ⟨its2, rv2, p2, _⟩ := I1.list hqy
    have la : a < s1.heap.objs.size := p1'.lt
    have lb : b < s1.heap.objs.size := p2.lt
    refine call_zip_2 p1'.isList p2.isList fun h' hzp hTI hTO h1 h2 hsz hk => args_nil ?_
    have hrl := rv.length
    have hrl2 := rv2.length
    have W := EArg.zip (prog := X.prog) (w := X.w) (s1.heap.objs.size + 4) (s1.heap.objs.size + 2) (s1.heap.objs.size + 3) s1.heap.objs.size (s1.heap.objs.size + 1) a b (PySem.W.ktu_apart s1.heap.objs.size a b la lb) its.toArray its2.toArray
    have ne : ∀ k, k < 5 → h'.objs.size ≠ s1.heap.objs.size + k := fun k hk => by rw [hsz]; intro z; have := Nat.add_left_cancel z; omega
    have nl : ∀ c, c < s1.heap.objs.size → h'.objs.size ≠ c := fun c hcl => by rw [hsz]; exact Nat.ne_of_gt (Nat.lt_of_lt_of_le hcl (Nat.le_add_right _ _))
    refine e_call (s := { s1 with heap := h' }) (I1.ok.hd hc) W ⟨⟨ne 4 (by decide), ne 2 (by decide), ne 3 (by decide), ne 0 (by decide), ne 1 (by decide), nl a la, nl b lb⟩, hTI, h1, h2, p1'.isList.at fun o x => hk _ o x, p2.isList.at fun o x => hk _ o x, .inl ⟨hzp, _, _, hTO⟩⟩ ?_ ?_ ?_ fun h2 tk acc c as hk2 hS hl hG hacc => ?_
    · show s1.heap.objs.size + 4 < h'.objs.size; rw [hsz]; exact Nat.lt_succ_self _
    · intro c hcm
      show c < h'.objs.size
      rw [hsz]
      have e' : c = s1.heap.objs.size + 4 ∨ c = s1.heap.objs.size + 3 ∨ c = s1.heap.objs.size ∨ c = s1.heap.objs.size + 1 := by simpa using hcm
      rcases e' with z | z | z | z
      all_goals (rw [z]; first | exact Nat.add_lt_add_left (by decide) _ | exact Nat.lt_add_of_pos_right (by decide))
    · rw [List.size_toArray, List.size_toArray]; rw [List.length_zip] at hz; omega
    · have hss : s1.heap.objs.size ≤ h'.objs.size := by rw [hsz]; exact Nat.le_add_right _ _
      have hln : as.length = (xs.zip ys).length := by rw [hl, List.size_toArray, List.size_toArray, List.length_zip]; omega
      have hkk : ∀ b o, s1.heap.get? b = some o → h2.get? b = some o := fun c o eb => hk2 c o (fun hb => by
        have e' : c = s1.heap.objs.size + 4 ∨ c = s1.heap.objs.size + 3 ∨ c = s1.heap.objs.size ∨ c = s1.heap.objs.size + 1 := by simpa using hb
        have := Heap.lt_size eb
        rcases e' with z | z | z | z
        · rw [z] at this; exact absurd this (Nat.not_lt.mpr (Nat.le_add_right _ _))
        · rw [z] at this; exact absurd this (Nat.not_lt.mpr (Nat.le_add_right _ _))
        · rw [z] at this; exact absurd this (Nat.lt_irrefl _)
        · rw [z] at this; exact absurd this (Nat.not_lt.mpr (Nat.le_add_right _ _))) (hk c o eb)
      have hrel : ∀ (j : Nat) (k v : Value), (its.toArray[j]? = some k ∧ its2.toArray[j]? = some v) → ∃ q : V × V, (xs.zip ys)[j]? = some q ∧ RelV q.1 k ∧ RelV q.2 v := by
        intro j k v hr
        obtain ⟨hv, hv2⟩ := hr
        obtain ⟨x, hx, rx⟩ := valsV rv (i := j) (u := k) (by simpa using hv)
        obtain ⟨y, hy, ry⟩ := valsV rv2 (i := j) (u := v) (by simpa using hv2)
        exact ⟨(x, y), by rw [List.getElem?_zip_eq_some]; exact ⟨hx, hy⟩, rx, ry⟩
      obtain ⟨z1, z2, z3, z4, J⟩ := e_laid (tk := tk) (ps := xs.zip ys) I1 hz hss hkk hS hln hG hrel hacc
      exact ⟨.ref _, _, J, rfl, q _ as z1 z2 z3 z4 hln⟩
end

/-! ### the models -/
theorem StR.standP {G : Gd} {O : Nat → List Addr} {σ : L2.St} {ρ : Env} : ∀ (as : List Addr) (ps : List (V × V)) (S H : Hp) (ds : List (D × D)), StR G S O σ H ρ → (∀ t ∈ as, H t = none) → as.Nodup → as.length = ps.length →
    (∀ (j : Nat) (d : D × D) (p : V × V), ds[j]? = some d → ps[j]? = some p → Rep G.K S d.1 p.1 ∧ Rep G.K S d.2 p.2) → ds.length = ps.length →
    ∃ S', StR G S' O σ (putP H as ps) ρ ∧ Ex S S' ∧ Ex H (putP H as ps) ∧ Reps G.K S' (ds.map fun d => D.tup [d.1, d.2]) (as.map V.ref)
  | [], ps, S, H, ds, st, hf, nd, hl, hr, hd => by
    have : ds = [] := List.eq_nil_of_length_eq_zero (by rw [hd, ← hl]; rfl)
    subst this
    exact ⟨S, st, Same.refl _, Same.refl _, .nil⟩
  | a :: as, [], S, H, ds, st, hf, nd, hl, hr, hd => by cases hl
  | a :: as, p :: ps, S, H, [], st, hf, nd, hl, hr, hd => by cases hd
  | a :: as, p :: ps, S, H, d :: ds, st, hf, nd, hl, hr, hd => by
    have nd' := List.nodup_cons.mp nd
    have ha := hf a (List.mem_cons_self)
    obtain ⟨st1, e1, k1⟩ := st.stand (o := .tup [p.1, p.2]) ha
    obtain ⟨S', st2, e2, k2, r⟩ := StR.standP as ps _ _ ds st1 (fun t ht => by rw [upd_ne (fun z => nd'.1 (by rw [← z]; exact ht))]; exact hf t (List.mem_cons_of_mem _ ht)) nd'.2 (Nat.succ.inj hl)
      (fun j d' p' h1 h2 => by
        obtain ⟨q1, q2⟩ := hr (j + 1) d' p' (by simpa using h1) (by simpa using h2)
        exact ⟨q1.mono e1, q2.mono e1⟩) (Nat.succ.inj hd)
    obtain ⟨q1, q2⟩ := hr 0 d p rfl rfl
    refine ⟨S', st2, e1.trans e2, k1.trans k2, .cons ?_ r⟩
    exact Rep.tup (.inl (.inl (e2 _ _ upd_same))) (.cons ((q1.mono e1).mono e2) (.cons ((q2.mono e1).mono e2) .nil))
theorem rPairs_done {G : Gd} {S : Hp} {O : Nat → List Addr} {σ : L2.St} {H : Hp} {ρ : Env} {ps : List (V × V)} {ds : List (D × D)} {Q : VK} (st : StR G S O σ H ρ) (hr : ∀ (j : Nat) (d : D × D) (p : V × V), ds[j]? = some d → ps[j]? = some p → Rep G.K S d.1 p.1 ∧ Rep G.K S d.2 p.2) (hd : ds.length = ps.length) (hz : ds.length ≤ 100000)
    (k : ∀ v S' H', Ex S S' → Ex H H' → StR G S' O σ H' ρ → RepT G S' O H' (.fr (ds.map fun d => D.tup [d.1, d.2])) v → Q v H') : rPairs ps H Q := by
  refine ⟨by rw [sizeLine_eq]; omega, fun S0 as h1 h2 h3 h4 h5 => ?_⟩
  obtain ⟨S', st', e1, k1, r⟩ := StR.standP as ps S H ds st h2 h4 h5 hr hd
  have hp : putP H as ps S0 = none := by rw [putP_off as ps H h3]; exact h1
  exact done_fr st' hp r fun v S'' H' e2 k2 st2 rp => k v S'' H' (e1.trans e2) (k1.trans k2) st2 rp
def lEnumerate (ma : MA) : ME := fun ρ => (ma ρ).bind fun ts => lift ((stLs ts).bind fun ls => match ls with
  | [l] => if l.length ≤ 100000 then some (T.fr (enumD 0 l)) else none
  | _ => none)
def lZip (ma : MA) : ME := fun ρ => (ma ρ).bind fun ts => lift ((stLs ts).bind fun ls => match ls with
  | [l, l'] => if l.length ≤ 100000 then some (T.fr (zipD l l')) else none
  | _ => none)
theorem enumD_zipIdx (l : List D) : enumD 0 l = (l.zipIdx.map fun q => (D.int (q.2 : Nat), q.1)).map fun d => D.tup [d.1, d.2] := by
  have key : ∀ (l : List D) (k : Nat), enumD k l = ((l.zipIdx k).map fun q => (D.int (q.2 : Nat), q.1)).map fun d => D.tup [d.1, d.2] := by
    intro l
    induction l with
    | nil => intro k; rfl
    | cons a l ih => intro k; unfold enumD; rw [ih]; rfl
  exact key l 0
theorem zipD_zip : ∀ (l l' : List D), zipD l l' = (l.zip l').map fun d => D.tup [d.1, d.2]
  | [], _ => by simp [zipD]
  | _ :: _, [] => by simp [zipD]
  | a :: l, b :: l' => by unfold zipD; rw [zipD_zip l l']; rfl
section
variable {X : Cx} {W : WX} {e e2 : Expr} {ma : MA} {p p1 cpos pos : Pos}
theorem dx_lEnumerate (C : Ctx X W) (hg : Gl X "list") (hm : X.mg "list" = none) (hg2 : Gl X "enumerate") (hm2 : X.mg "enumerate" = none) (ha : DA X W [e] ma) (hs : starEach [e] X.env = [(false, eval e X.env)] := by rfl)
    (hs2 : starEach [.Call (.Name "enumerate" p1) [e] [] cpos] X.env = (false, eval (.Call (.Name "enumerate" p1) [e] [] cpos) X.env) :: starEach [] X.env := by rfl) :
    DX X W (.Call (.Name "list" p) [.Call (.Name "enumerate" p1) [e] [] cpos] [] pos) (lEnumerate ma) := by
  refine ⟨PE.weak (pe_enumL C.calm hg hm hg2 hm2 ha.pa hs hs2) ?_⟩
  rintro σ H Q ⟨G, S, O, ρ, eK, st, q⟩
  refine ⟨G, S, O, ρ, eK, st, Fin.bind (rep' := rTs G) q fun ts x S1 H1 s1 k1 st1 rp q1 => ?_⟩
  have rp : RepOs G.K S1 H1 ts x := rp
  cases hz : stLs ts with
  | none => rw [hz] at q1; exact q1.elim
  | some ls =>
    rw [hz, Option.bind_some] at q1
    match ls, hz, q1 with
    | [l], hz, q1 =>
      obtain ⟨a, vs, rfl, h1, r1⟩ := stLs_one rp hz
      simp only at q1
      split at q1
      · rename_i hl
        refine ⟨a, vs, rfl, by rw [← eK]; exact ex_l st1.exS h1, ?_⟩
        have hll := r1.length
        refine rPairs_done (ds := l.zipIdx.map fun q => (D.int (q.2 : Nat), q.1)) st1 (fun j d p h1 h2 => ?_) (by unfold enV; simp [hll]) (by simpa using hl) ?_
        · unfold enV at h2
          rw [List.getElem?_map, List.getElem?_zipIdx] at h1 h2
          cases hd : l[j]? with
          | none => rw [hd] at h1; cases h1
          | some dd =>
            obtain ⟨v, hv, rv⟩ := r1.get hd
            rw [hd] at h1
            rw [hv] at h2
            cases h1
            cases h2
            exact ⟨.int _, rv⟩
        · intro v S' H' e k st' rp'
          rw [← enumD_zipIdx] at rp'
          exact q1 v S' H' e k st' rp'
      · exact q1.elim
    | [], hz, q1 => exact q1.elim
    | _ :: _ :: _, hz, q1 => exact q1.elim
theorem dx_lZip (C : Ctx X W) (hg : Gl X "list") (hm : X.mg "list" = none) (hg2 : Gl X "zip") (hm2 : X.mg "zip" = none) (ha : DA X W [e, e2] ma) (hs : starEach [e, e2] X.env = (false, eval e X.env) :: starEach [e2] X.env := by rfl) (hpl : (backTo cpos (starEach [e2] X.env)).any (·.1) = false := by rfl)
    (hs2 : starEach [.Call (.Name "zip" p1) [e, e2] [] cpos] X.env = (false, eval (.Call (.Name "zip" p1) [e, e2] [] cpos) X.env) :: starEach [] X.env := by rfl) :
    DX X W (.Call (.Name "list" p) [.Call (.Name "zip" p1) [e, e2] [] cpos] [] pos) (lZip ma) := by
  refine ⟨PE.weak (pe_zipL C.calm hg hm hg2 hm2 ha.pa hs hpl hs2) ?_⟩
  rintro σ H Q ⟨G, S, O, ρ, eK, st, q⟩
  refine ⟨G, S, O, ρ, eK, st, Fin.bind (rep' := rTs G) q fun ts x S1 H1 s1 k1 st1 rp q1 => ?_⟩
  have rp : RepOs G.K S1 H1 ts x := rp
  cases hz : stLs ts with
  | none => rw [hz] at q1; exact q1.elim
  | some ls =>
    rw [hz, Option.bind_some] at q1
    match ls, hz, q1 with
    | [l, l'], hz, q1 =>
      obtain ⟨a, b, vs, ws, rfl, h1, r1, h2, r2⟩ := stLs_two rp hz
      simp only at q1
      split at q1
      · rename_i hl
        refine ⟨a, b, vs, ws, rfl, by rw [← eK]; exact ex_l st1.exS h1, by rw [← eK]; exact ex_l st1.exS h2, ?_⟩
        have hll := r1.length
        have hll2 := r2.length
        refine rPairs_done (ds := l.zip l') st1 (fun j d p h1 h2 => ?_) (by simp [hll, hll2]) (by rw [List.length_zip]; omega) ?_
        · rw [List.getElem?_zip_eq_some] at h1 h2
          obtain ⟨v, hv, rv⟩ := r1.get h1.1
          obtain ⟨v', hv', rv'⟩ := r2.get h1.2
          rw [h2.1] at hv
          rw [h2.2] at hv'
          cases hv
          cases hv'
          exact ⟨rv, rv'⟩
        · intro v S' H' e k st' rp'
          rw [← zipD_zip] at rp'
          exact q1 v S' H' e k st' rp'
      · exact q1.elim
    | [], hz, q1 => exact q1.elim
    | [_], hz, q1 => exact q1.elim
    | _ :: _ :: _ :: _, hz, q1 => exact q1.elim
end
end RF

set_option Elab.async false
set_option linter.all false
set_option maxRecDepth 100000
set_option autoImplicit false
set_option maxHeartbeats 0
/-! RF, part K: classes, exceptions -/
namespace RF
open PySem PySem.Spec L2 PyProof.Rows
abbrev bmVE : List Value := [.type "ValueError", .type "Exception", .type "BaseException", .type "object"]
/-- what is known of an own exception class -/
structure ExF (K : PySem.W.Frag) (mg : Str → Option Value) (c : Cl) : Prop where
  exc : PySem.W.excIn K (adK K c) bmVE "ValueError.__new__" = true
  gl : mg c.nm = some (.ref (adK K c))
  kp : PySem.W.keepIn K (.ref (adK K c)) = true
  sb : PySem.W.subIn K (.ref (adK K c)) (.type "BaseException") = some true
  ty : PySem.W.typeIn K (.ref (adK K c)) = some (.type "type")
def sRaise (c : Cl) : MS := fun ρ => .ex ρ ⟨c, [], []⟩
section
variable {X : Cx} {W : WX} {pos p p2 p3 : Pos} {m x : Str} {j : Nat}
theorem ds_raise (c : Cl) (C : Ctx X W) (tk : Takes X W) (F : ExF X.K X.mg c) (hn : c.nm = x := by rfl) (hg : Gl X x := by rfl) (hdb : (x == ("__debug__" : Str)) = false := by decide) : DS X W (.Raise (some (.Call (.Name x p) [.Constant (.str m) j p2] [] p3)) none pos) (sRaise c) := by
  subst hn
  refine ⟨PS.weak (ps_raise C.calm tk (pmk_own PySem.F.excBase_ValueError F.exc F.gl F.kp (raises_own F.sb F.ty) hg hdb)) ?_⟩
  rintro D σ H ⟨G, S, O, ρ, eK, st, q⟩
  have := q none S O σ H st (.inl ⟨rfl, rfl, rfl⟩)
  rw [eK] at this
  exact this
end

/-! ### try: .. except x as n: suite; the exception is kept -/
/-- an exception object of the class cls, its dict d -/
def XV (cls : Value) (d : Option Addr) (a : Addr) : HO := .ext fun h => ∃ (oe : Obj) (vs : Array Value), h.get? a = some oe ∧ Zc cls d oe ∧ oe.data = .fields vs
theorem ground_none {B : Heap} {l : List PySem.Env} {a : Addr} {Z : Obj → Prop} {L : Addr} {h : Heap} (s : Sky B l a Z L h) : B.get? a = none := by
  rcases s with ⟨_, h, _⟩ | ⟨_, h, _⟩ | ⟨_, h, _⟩
  all_goals exact h
section
variable {X : Cx} {pins : List (Addr × Obj)} {σ : L2.St} {H : Hp} {s : Shared}
/-- an object that was not there at the entry may be tracked -/
theorem _root_.L2.Inv.track {a : Addr} {oe : Obj} {cls : Value} {d : Option Addr} (I : Inv X pins σ H s) (he : s.heap.get? a = some oe) (hn : H a = none) (h0 : X.s_0.heap.get? a = none) (hex : X.ex = []) (hz : Zc cls d oe) (hf : ∃ vs, oe.data = .fields vs)
    (hl : a ≠ X.env.locals) (hc : ∀ x c, X.env.cells.lookup x = some c → c ≠ a) (hp : ∀ p ∈ X.pn ++ pins, p.1 ≠ a) : Inv X pins σ (upd H a (XV cls d a)) s := by
  have keep : ∀ b u, H b = some u → upd H a (XV cls d a) b = some u := fun b u q => by rw [upd_ne (ne_of_none q hn)]; exact q
  refine ⟨I.ok, I.os, I.bare, ⟨I.base.keep, I.base.slot, fun b u q n hb => ?_, I.base.there, fun b xs q => keep b _ (I.base.tups b xs q), fun b o u q => keep b _ (I.base.frzs b o u q), fun b ps q => ?_⟩, I.loc, I.cell, ?_, fun x c e => ?_, fun p hpm => ?_, fun b u q => ?_, I.len⟩
  · rw [upd_ne (fun z => by rw [z, h0] at q; cases q)]
    exact I.base.free b u q n hb
  · obtain ⟨m, z⟩ := I.base.tbls b ps q
    exact ⟨m, keep b _ z⟩
  · rw [upd_ne (Ne.symm hl)]; exact I.free
  · rw [upd_ne (hc x c e)]; exact I.freeC x c e
  · obtain ⟨e, n, r⟩ := I.pin p hpm
    exact ⟨e, by rw [upd_ne (hp p hpm)]; exact n, r⟩
  · by_cases hb : b = a
    · subst hb
      rw [upd_same] at q
      cases q
      obtain ⟨vs, hv⟩ := hf
      exact ⟨⟨oe, vs, he, hz, hv⟩, ⟨oe, he⟩, fun _ _ ⟨o, v, q, r⟩ k => ⟨o, v, k o q, r⟩⟩
    · rw [upd_ne hb] at q
      exact (I.hok b u q).stay (fun c v _ e => e) (fun c e => keep c _ e) fun c xs e => keep c _ e
end
/-- what the clause wishes: behind the suite the object is tracked -/
def wKept (K : PySem.W.Frag) (c : Value) (i : Nat) (ts : Addr → Value → Option Addr → TS) (Wout : WX) (D : Ends) : WX := fun cls d σ H =>
  ∃ b, PySem.W.exmOne K cls c = some b ∧ (b = true → ∀ a, H a = none → ts a cls d { nx := fun σ' H' => H' a = none → D.nx (σ'.set i none) (upd H' a (XV cls d a)), rt := fun _ _ => False, bk := fun _ _ => False, ct := fun _ _ => False } (σ.set i (some (.ref a))) H) ∧
    (b = false → Wout cls d σ H)
section
variable {X : Cx} {x n : Str} {c : Value} {i : Nat} {body suite : List Stmt} {b₀ : Stmt} {np pos pos' : Pos} {tb : WX → TS} {ts : Addr → Value → Option Addr → TS} {Wout : WX}
theorem ps_try_kept (hs : X.stack = X.env :: X.outer) (hf : X.env.frame = some X.env.locals) (hex : X.ex = []) (hN : X.N.Nodup) (hi : X.N[i]? = some n) (hln : X.env.kindOf n = some .local) (hc : Names X x c) (tk : Takes X Wout)
    (hb : ∀ (W : WX) (pn : List (Addr × Obj)) (xe : Value → Shared → Prop), Takes (X.tr pn xe) W → PassesOwn (model X.prog X.w) X.A X.env xe → PSs (X.tr pn xe) body (tb W))
    (hsu : ∀ (a : Addr) (oe : Obj) (cls : Value) (d : Option Addr) (pn : List (Addr × Obj)), Zc cls d oe → (∃ vs, oe.data = .fields vs) → PSs (X.suite a ((a, oe) :: pn)) (b₀ :: suite) (ts a cls d)) :
    PS X (.Try body [.ExceptHandler (some (.Name x np)) (some n) (b₀ :: suite) pos'] [] [] pos) (fun D σ H => tb (wKept X.K c i ts Wout D) D σ H) := by
  refine ⟨fun pins s σ H D I h => ?_⟩
  have ok := I.ok
  have hfr : X.A.frames = some (X.env :: X.outer) := by rw [ok.frames, hs]
  have hloc : Loc X.env.scope n := .inl hln
  refine wpAny_Try_except ?_
  refine wpAny_mono ((hb (wKept X.K c i ts Wout D) (X.pn ++ pins) (fun e s₁ => wpAny (model X.prog X.w) X.A (noteFrame e X.env) (fun _ s₂ => wpAny (model X.prog X.w) X.A (setFlight e none) (fun _ s₃ =>
    wpAny (model X.prog X.w) X.A (handleBy e X.env [.ExceptHandler (some (.Name x np)) (some n) (b₀ :: suite) pos']) (SP X pins D) X.xe s₃) X.xe s₂) X.xe s₁) (fun u s' xx => ?_) PassesOwn.looking).run [] s σ H D (I.toTry _) h) (fun f s1 hsp => ?_) (fun e s1 he => he)
  · -- the catch
    obtain ⟨a, B, sI, pins', σ', H', cls, d, rfl, J', nb, up, sky, na, os, ag, b, hb1, hyes, hno⟩ := xx
    have J : Inv X pins σ' H' sI := J'.ofTry ok
    have sky' : Sky B (X.env :: X.outer) a (Zc cls d) X.env.locals s'.heap := by rw [← hs]; exact sky
    show wpAny (model X.prog X.w) X.A (noteFrame (.ref a) X.env) _ _ _
    refine Sky.land Zc.steady hfr hf sky' fun h3 fl3 up3 => ?_
    have J3 : Inv X pins σ' H' { s' with heap := h3 } := J.landed nb fl3.1 (up.trans up3) os ag
    obtain ⟨oe3, vs3, he3, hz3, hd3⟩ := fl3.there
    have notFr : ∀ {h : Heap} {o : Obj} {vs : Array Value}, h.FunFrames B (X.env :: X.outer) → h.get? a = some o → o.data = .fields vs → a ∉ frs (X.env :: X.outer) := fun {h o vs} ff e dd hm => by
      obtain ⟨_, o', e', hnf⟩ := ff.mem hm
      rw [e] at e'; cases e'
      exact hnf _ dd
    have nfr := notFr fl3.2.2.1 he3 hd3
    have nL : a ≠ X.env.locals := fun z => nfr (List.mem_filterMap.mpr ⟨X.env, List.mem_cons_self, by rw [hf, z]⟩)
    have nF : a ∉ X.fs := fun hm => by
      obtain ⟨e, he, q⟩ := List.mem_filterMap.mp hm
      exact nfr (List.mem_filterMap.mpr ⟨e, List.mem_cons_of_mem _ he, q⟩)
    have S3 := J3.suite he3 hd3 na nL nF
    refine wpAny_handleBy_cons (codeAny_handlers_test ?_) (by intro q; cases q)
    have LT : PySem.W.Looks (model X.prog X.w) h3 (typeOf (.ref a)) cls := fun A Q E s k q => wpAny_typeOf_ref (k _ _ he3) (by rw [hz3.1]; exact q)
    have LM := PySem.W.exm_one (M := model X.prog X.w) (J3.kIn) LT hb1
    have test : ∀ {Q : Value → Shared → Prop} {E : Value → Shared → Prop}, Q c { s' with heap := h3 } → wpAny (model X.prog X.w) (X.A.mark (some (.ref a))) (eval (.Name x np) X.env) Q E { s' with heap := h3 } := fun {Q E} q => by
      obtain ⟨hg, hdbg, hm | ⟨hm, hv, hnn⟩⟩ := hc
      · exact ld_glob (X := X.suite a ((a, oe3) :: (X.pn ++ pins))) S3 hg hm q hdbg
      · exact ld_blt (X := X.suite a ((a, oe3) :: (X.pn ++ pins))) S3 hg hm hv q hnn hdbg
    refine test (LM.here ?_)
    cases b with
    | true =>
      refine codeAny_handlers_suite_as ?_
      refine HandSPX.lands_againZ fl3 fun h4 fl4 up4 => ?_
      have J4 : Inv X pins σ' H' { s' with heap := h4 } := J.landed nb fl4.1 ((up.trans up3).trans up4) os ag
      obtain ⟨oe4, vs4, he4, hz4, hd4⟩ := fl4.there
      have S4 := J4.suite he4 hd4 na nL nF
      refine store_ok (X := X.suite a ((a, oe4) :: (X.pn ++ pins))) (v := .ref a) S4 hN hi hloc rfl (fun s5 S5 => ?_) (.inr hln)
      refine wpAny_mono ((hsu a oe4 cls d (X.pn ++ pins) hz4 ⟨_, hd4⟩).run [] s5 _ H' _ S5 (hyes rfl a na)) (fun f s6 hsp => ?_) (fun _ _ z => False.elim z)
      have si : ∀ o, sI.heap.get? a ≠ some o := fun o1 z1 => by
        by_cases hfr0 : a ∈ frs X.stack
        · rw [hs] at hfr0
          exact nfr hfr0
        · have := nb a o1 z1 hfr0
          rw [ground_none sky] at this
          cases this
      have n0 : X.s_0.heap.get? a = none := by
        cases e0 : X.s_0.heap.get? a with
        | none => rfl
        | some o0 =>
          obtain ⟨o1, z1⟩ := J.base.there a o0 e0 (by rw [hex]; exact fun z => nomatch z)
          exact absurd z1 (si o1)
      have end_ : ∀ {σ6 : L2.St} {H6 : Hp} {Q : Shared → Prop}, Inv (X.suite a ((a, oe4) :: (X.pn ++ pins))) [] σ6 H6 s6 → (H6 a = none → ∀ s7, Inv X pins (σ6.set i none) (upd H6 a (XV cls d a)) s7 → Q s7) →
          wpAny (model X.prog X.w) X.A (do bindName X.env n .none; unbindBehindTheSuite X.env n pos') (fun _ s7 => Q s7) X.xe s6 := fun {σ6 H6 Q} S6 hq => by
        obtain ⟨p1, p2, _⟩ := S6.pin (a, oe4) (List.mem_append_left _ (List.mem_cons_self ..))
        have J6 := S6.unsuite ok
        refine gone_ok (J6.track p1 p2 n0 hex hz4 ⟨_, hd4⟩ nL (fun y c1 e1 z => ?_) (fun p hpm z => si p.2 (by have z1 := (J.pin p hpm).1; rw [z] at z1; exact z1))) hN hi hln (hq p2)
        obtain ⟨v7, o7, e7, d7⟩ := J6.cell y c1 e1
        rw [z] at e7
        have e9 := p1.symm.trans e7
        cases e9
        have d8 := hd4.symm.trans d7
        cases d8
      cases f with
      | next =>
        obtain ⟨σ6, H6, S6, q6⟩ := hsp
        exact end_ S6 fun na6 s7 J7 => ⟨_, _, J7, q6 na6⟩
      | brk =>
        obtain ⟨σ6, H6, S6, q6⟩ := hsp
        exact False.elim q6
      | cont =>
        obtain ⟨σ6, H6, S6, q6⟩ := hsp
        exact False.elim q6
      | ret u =>
        obtain ⟨v6, σ6, H6, S6, r6, q6⟩ := hsp
        exact False.elim q6
    | false =>
      show wpAny _ X.A (handleBy (.ref a) X.env []) _ _ _
      refine wpAny_handleBy_nil ?_
      obtain ⟨k1, k2, k3, oe, vs, T, oT, ts', he, hz, hd, h1, hr⟩ := id fl3
      unfold PySem.passOn
      refine wpAny_bind (wpAny_field he hd h1 ?_)
      rw [if_neg (show ¬ ((Value.ref T == Value.none) = true) from by simp)]
      have fin : wpAny (model X.prog X.w) X.A (setFlight (.ref a) X.env.frame) (fun _ s4 => wpAny (model X.prog X.w) X.A (throw (.ref a) : Sem Flow) (SP X pins D) X.xe s4) X.xe { s' with heap := h3 } := by
        rw [hf]
        refine HandSPX.setFlight_upZ fl3 fun h4 hh4 up4 => wpAny_throw (tk _ _ ?_)
        exact ⟨a, B, sI, pins, σ', H', cls, d, rfl, J, nb, (up.trans up3).trans up4, .inr (.inr (by rw [hs]; exact hh4)), na, os, ag, hno rfl⟩
      first
        | exact wpAny_bind (wpAny_pure (wpAny_bind fin))
        | exact wpAny_bind fin
  · cases f with
    | next =>
      obtain ⟨σ', H', J', q⟩ := hsp
      exact wpAny_execs_nil ⟨σ', H', J'.ofTry ok, q⟩
    | brk =>
      obtain ⟨σ', H', J', q⟩ := hsp
      exact ⟨σ', H', J'.ofTry ok, q⟩
    | cont =>
      obtain ⟨σ', H', J', q⟩ := hsp
      exact ⟨σ', H', J'.ofTry ok, q⟩
    | ret u =>
      obtain ⟨v, σ', H', J', r, q⟩ := hsp
      exact ⟨v, σ', H', J'.ofTry ok, r, q⟩
end

/-! ### the model of a try -/
def sTry (cs : List Cl) (c : Cl) (i j : Nat) (body : MS) : MS := fun ρ => match body ρ with
  | .ex ρ' x => if x.C ∈ cs ∧ i < ρ'.length then (if x.C.sub c = true then .nx ((ρ'.set j (.val (.exc x.C x.ks x.l))).set i .no) else .ex ρ' x) else .bad
  | r => r
section
variable {X : Cx} {W : WX} {x n m : Str} {body : List Stmt} {np pm pn2 pa pos pos' : Pos} {mb : MS}
theorem ds_try (cs : List Cl) (c : Cl) (i j : Nat) (C : Ctx X W) (tk : Takes X W) (hc : Names X x (.ref (adK X.K c))) (hx : ∀ C ∈ cs, PySem.W.exmOne X.K (.ref (adK X.K C)) (.ref (adK X.K c)) = some (C.sub c))
    (hb : ∀ (W' : WX) (pn : List (Addr × Obj)) (xe : Value → Shared → Prop), Ctx (X.tr pn xe) W' → DSs (X.tr pn xe) W' body mb)
    (hst : X.stack = X.env :: X.outer := by rfl) (hfm : X.env.frame = some X.env.locals := by rfl) (hex : X.ex = [] := by rfl)
    (hi : X.N[i]? = some n := by rfl) (hj : X.N[j]? = some m := by rfl) (hij : i ≠ j := by decide) (hln : X.env.kindOf n = some .local := by rfl) (hvi : Vis X.env.scope n := by first | exact Or.inl rfl | exact Or.inr (Or.inl rfl) | exact Or.inr (Or.inr rfl)) (hlj : Loc X.env.scope m := by first | exact Or.inl rfl | exact Or.inr rfl)
    (hd : (n == ("__debug__" : Str)) = false := by decide) (hcd : (n == ("__classdict__" : Str)) = false := by decide) (hf : X.fn m = true ∨ X.env.scope.names.lookup m = some .local := by first | exact .inl rfl | exact .inr rfl)
    (hs : swapsWith (.Name n pn2) (some (.Name m pm)) pa.line X.env = pure false := by rfl) :
    DS X W (.Try body [.ExceptHandler (some (.Name x np)) (some n) [.Assign [.Name m pm] (.Name n pn2) pa] pos'] [] [] pos) (sTry cs c i j mb) := by
  refine ⟨PS.weak (ps_try_kept hst hfm hex C.nd hi hln hc tk (tb := fun W' => tS X.K W' mb) (ts := fun a cls d => tAsg (tVar i) (gName j)) (fun W' pn xe tk' po => (hb W' pn xe ⟨fun σ => passAt tk' σ, po, C.calm, C.nd, C.un⟩).pss) (fun a oe cls d pn hz hfl => pss_one (ps_set C.nd hj hlj (pe_var hi hvi hd hcd) hs hf))) ?_⟩
  rintro D σ H ⟨G, S, O, ρ, eK, st, q⟩
  refine ⟨G, S, O, ρ, eK, st, ?_⟩
  unfold sTry at q
  cases hm : mb ρ with
  | bad => rw [hm] at q; exact q
  | nx ρ1 => rw [hm] at q; exact q
  | ct ρ1 => rw [hm] at q; exact q
  | bk ρ1 => rw [hm] at q; exact q
  | rt t => rw [hm] at q; exact q
  | ex ρ1 y =>
    rw [hm] at q
    simp only at q
    split at q
    · rename_i hcs
      intro d S1 O1 σ1 H1 st1 xr
      have hlt : i < σ1.length := by rw [st1.len]; exact hcs.2
      refine ⟨y.C.sub c, by rw [eK]; exact hx _ hcs.1, fun hbt a ha => ?_, fun hbf => ?_⟩
      · rw [if_pos hbt] at q
        refine ⟨.ref a, by rw [List.getElem?_set_self hlt], fun na => ?_⟩
        have key : ∃ O' S', StR G S' O' ((((σ1.set i (some (.ref a))).set j (some (.ref a))).set i none)) (upd H1 a (XV (.ref (adK G.K y.C)) d a)) ((ρ1.set j (.val (.exc y.C y.ks y.l))).set i .no) := by
          obtain ⟨st2, e1, k1⟩ := st1.stand (o := XV (.ref (adK G.K y.C)) d a) ha
          have rp : Rep G.K (upd S1 a (XV (.ref (adK G.K y.C)) d a)) (.exc y.C y.ks y.l) (.ref a) := by
            rcases xr with ⟨h1, h2, rfl⟩ | ⟨dx, vs, rfl, h2, h3, h4⟩
            · rw [h1, h2]
              exact .exc0 upd_same
            · exact .exc1 upd_same (e1 _ _ h2) h3 (h4.mono e1)
          obtain ⟨O3, st3⟩ := st2.setVal j rp
          have st4 := st3.drop i none
          have e : (((σ1.set i (some (V.ref a))).set j (some (.ref a))).set i none) = (σ1.set j (some (.ref a))).set i none := by
            rw [List.set_comm _ _ hij, List.set_set]
          rw [e]
          exact ⟨_, _, st4⟩
        obtain ⟨O', S', st'⟩ := key
        exact q S' O' _ _ st'
      · rw [if_neg (by rw [hbf]; exact Bool.false_ne_true)] at q
        exact q d S1 O1 σ1 H1 st1 xr
    · exact q.elim
end
end RF

set_option Elab.async false
set_option linter.all false
set_option maxRecDepth 100000
set_option autoImplicit false
set_option maxHeartbeats 0
/-! RF, part L: a new instance -/
namespace RF
open PySem PySem.Spec L2 PyProof.Rows
theorem putF_zip {f : Str} {y : V} : ∀ (ks : List Str) (vs : List V), f ∉ ks → vs.length = ks.length → putF f y (ks.zip vs) = (ks ++ [f]).zip (vs ++ [y])
  | [], [], _, _ => rfl
  | [], _ :: _, _, h => by cases h
  | _ :: _, [], _, h => by cases h
  | k :: ks, v :: vs, hf, h => by
    have h1 : k ≠ f := fun e => hf (by rw [e]; exact List.mem_cons_self)
    rw [List.zip_cons_cons, List.cons_append, List.cons_append, List.zip_cons_cons, ← putF_zip ks vs (fun z => hf (List.mem_cons_of_mem _ z)) (Nat.succ.inj h)]
    show (if k = f then _ else _) = _
    rw [if_neg h1]
def slIns (s : Sl) (f : Str) (d : D) : Option Sl := match s with
  | .ins a C ks l => if f ∉ ks ∧ ks.length < 900 then some (.ins a C (ks ++ [f]) (l ++ [d])) else none
  | _ => none
/-- self.f = e, of a new instance -/
def sFldI (i : Nat) (f : Str) (m : ME) : MS := fun ρ => toS ρ (m ρ) fun t => nxO ((stT t.set).bind fun d => (slIns (ρ.getD i .no) f d).map fun s => ρ.set i s)
def insC (C : Cl) (s : Sl) (r : Fl) : Fl := match s with
  | .ins _ C' _ _ => if C' = C then r else .bad
  | _ => .bad
def sFldC (C : Cl) (i : Nat) (f : Str) (m : ME) : MS := fun ρ => insC C (ρ.getD i .no) (sFldI i f m ρ)
theorem StR.fld {G : Gd} {S : Hp} {O : Nat → List Addr} {σ : L2.St} {H : Hp} {ρ : Env} (st : StR G S O σ H ρ) {i : Nat} {a : Addr} {C : Cl} {ks : List Str} {l : List D} {f : Str} {d : D} {y : V} (hi : ρ[i]? = some (.ins a C ks l)) (hf : f ∉ ks) (ry : Rep G.K S d y) :
    ∃ dx fs, σ[i]? = some (some (.ref a)) ∧ H a = some (.ins (adK G.K C) dx fs) ∧ fs.length = ks.length ∧ StR G S O σ (upd H a (.ins (adK G.K C) dx (putF f y fs))) (ρ.set i (.ins a C (ks ++ [f]) (l ++ [d]))) := by
  obtain ⟨e1, e2, dx, vs, e3, z, q⟩ := st.slot i _ hi
  have hO : a ∈ O i := by rw [e2]; exact List.mem_cons_self
  obtain ⟨o1, o2⟩ := st.off i a hO
  refine ⟨dx, ks.zip vs, e1, e3, by rw [List.length_zip, z]; exact Nat.min_self _, ⟨fun b o e => ?_, st.exS0, fun b o e => ?_, st.new, by rw [List.length_set]; exact st.len, fun j s e => ?_, st.off, fun j b q => ?_, st.apart, fun j hj => st.out j (by rw [List.length_set] at hj; exact hj)⟩⟩
  · rw [upd_ne (fun z => by rw [z, o2] at e; cases e)]
    exact st.exB b o e
  · rw [upd_ne (fun z => by rw [z, o1] at e; cases e)]
    exact st.exS b o e
  · rcases get_set e with ⟨rfl, rfl⟩ | ⟨ne, e⟩
    · refine ⟨e1, e2, dx, vs ++ [y], ?_, by rw [List.length_append, List.length_append, z]; rfl, q.append (.cons ry .nil)⟩
      rw [upd_same, putF_zip ks vs hf z]
    · refine (st.slot j s e).mono (Same.refl S) fun b o hb hq => ?_
      rw [upd_ne (fun z => ne (st.apart j i a (by rw [← z]; exact hb) hO))]
      exact hq
  · by_cases hb : b = a
    · subst hb
      rw [upd_same]; simp
    · rw [upd_ne hb]
      exact st.live j b q
section
variable {X : Cx} {W : WX} {e : Expr} {m : ME} {x f : Str} {p pos pos' : Pos}
theorem ds_fldI (i : Nat) (C : Cl) (he : DX X W e m) (hcl : Cls X.K (adK X.K C)) (hna : NoAttr X.K (adK X.K C) f) (hi : X.N[i]? = some x := by rfl) (hv : Vis X.env.scope x := by first | exact Or.inl rfl | exact Or.inr (Or.inl rfl) | exact Or.inr (Or.inr rfl)) (hd : (x == ("__debug__" : Str)) = false := by decide)
    (hcd : (x == ("__classdict__" : Str)) = false := by decide) (hs : swapsWith e (some (.Attribute (.Name x p) f pos')) pos.line X.env = pure false := by rfl) :
    DS X W (.Assign [.Attribute (.Name x p) f pos'] e pos) (sFldC C i f m) := by
  refine ⟨PS.weak (ps_fld (pe_var hi hv hd hcd) he.pe hs) ?_⟩
  rintro D σ H ⟨G, S, O, ρ, eK, st, q⟩
  have hsl : ∃ a ks l, ρ[i]? = some (.ins a C ks l) ∧ FinS W (sFldI i f m ρ) G D := by
    unfold sFldC at q
    rw [List.getD_eq_getElem?_getD] at q
    cases hr : ρ[i]? with
    | none => rw [hr] at q; exact q.elim
    | some s =>
      rw [hr] at q
      cases s with
      | ins a C' ks l =>
        simp only [Option.getD_some, insC] at q
        split at q
        · rename_i ec
          subst ec
          exact ⟨a, ks, l, rfl, q⟩
        · exact q.elim
      | _ => exact q.elim
  obtain ⟨a, ks, l, hr, q⟩ := hsl
  refine ⟨G, S, O, ρ, eK, st, FinS.bind (rep := rT G O) q fun t y S1 H1 s1 k1 st1 rp q1 => ?_⟩
  obtain ⟨S2, s2, st2, ro⟩ := RepT.settle st1 rp
  cases hz : t.set with
  | sl l' => rw [hz] at q1; exact q1.elim
  | fr l' => rw [hz] at q1; exact q1.elim
  | st d =>
    rw [hz] at q1 ro
    have q2 : FinS W (nxO ((slIns (ρ.getD i .no) f d).map fun s => ρ.set i s)) G D := q1
    rw [List.getD_eq_getElem?_getD, hr] at q2
    simp only [Option.getD_some, slIns] at q2
    split at q2
    · rename_i hk
      obtain ⟨dx, fs, e1, e2, e3, st3⟩ := st2.fld hr hk.1 (show Rep G.K S2 d y from ro)
      refine ⟨.ref a, e1, a, adK G.K C, dx, fs, rfl, e2, by rw [eK]; exact hcl, by rw [eK]; exact hna, by rw [e3]; omega, ?_⟩
      exact q2 S2 O σ _ st3
    · exact q2.elim
end

/-! ### __init__ -/
/-- the fields that __init__ has set, of a new instance at x -/
def runI (C : Cl) (nn : Nat) (m : MS) (x : Addr) (ds : List D) : R (List Str × List D) := match m (.ins x C [] [] :: (ds.map Sl.val ++ List.replicate (nn - (ds.length + 1)) Sl.no)) with
  | .nx ρ => (match ρ.getD 0 .no with
    | .ins a C' ks l => if a = x ∧ C' = C then .ok (ks, l) else .bad
    | _ => .bad)
  | .ex _ xc => .ex xc
  | _ => .bad
/-- __init__ of a new instance -/
def spI (K : PySem.W.Frag) (C : Cl) (n : Nat) (g : Addr → List D → R (List Str × List D)) : Sp := fun vs H Q E => ∃ (x dx : Addr) (B S0 : Hp) (ds : List D) (vs' : List V), vs = .ref x :: vs' ∧ ds.length = n ∧ B x = none ∧ B dx = none ∧ dx ≠ x ∧
  H = upd (upd B dx (.own x)) x (.ins (adK K C) dx []) ∧ Ex S0 B ∧ Reps K S0 ds vs' ∧ match g x ds with
    | .bad => False
    | .ok (ks, l) => ∀ S' H' dx' ws, Grown B S0 H' S' → S' x = none → H' x = some (.ins (adK K C) dx' (ks.zip ws)) → ws.length = ks.length → Reps K S' l ws → Q .non H'
    | .ex xc => ∀ d S' H', Grown B S0 H' S' → XcR K S' xc d → E (.ref (adK K xc.C)) d H'
theorem startI_ok {K : PySem.W.Frag} {N : List Str} {C : Cl} {ds : List D} {vs : List V} {S0 B : Hp} {x dx : Addr} (hn : ds.length + 1 ≤ N.length) (hx : B x = none) (hdx : B dx = none) (hne : dx ≠ x) (e : Ex S0 B) (r : Reps K S0 ds vs) :
    StR ⟨K, B, S0⟩ S0 (fun i => if i = 0 then [x] else []) (L2.start N (.ref x :: vs)) (upd (upd B dx (.own x)) x (.ins (adK K C) dx [])) (.ins x C [] [] :: (ds.map Sl.val ++ List.replicate (N.length - (ds.length + 1)) Sl.no)) := by
  have hl := r.length
  have eB : Ex B (upd (upd B dx (.own x)) x (.ins (adK K C) dx [])) := fun b u q => by
    rw [upd_ne (fun z => by rw [z, hx] at q; cases q), upd_ne (fun z => by rw [z, hdx] at q; cases q)]
    exact q
  have sx : S0 x = none := by
    cases z : S0 x with
    | none => rfl
    | some u => rw [e x u z] at hx; cases hx
  refine ⟨eB, Same.refl _, e.trans eB, fun b hb => .inl hb, ?_, fun i s h => ?_, fun i a q => ?_, fun i a q => ?_, fun i j a q1 q2 => ?_, fun i hi => ?_⟩
  · unfold L2.start
    rw [List.length_append, List.length_map, List.length_cons, List.length_cons, List.length_append, List.length_map, List.length_replicate, List.length_replicate, hl]
    omega
  · cases i with
    | zero =>
      simp only [List.getElem?_cons_zero] at h
      cases h
      exact ⟨rfl, rfl, dx, [], upd_same, rfl, .nil⟩
    | succ i =>
      rw [List.getElem?_cons_succ] at h
      have e1 : (L2.start N (.ref x :: vs))[i + 1]? = (vs.map some ++ List.replicate (N.length - (vs.length + 1)) none)[i]? := by
        unfold L2.start
        rw [List.map_cons, List.cons_append, List.getElem?_cons_succ, List.length_cons]
      rw [if_neg (Nat.succ_ne_zero i)]
      by_cases hi : i < ds.length
      · rw [List.getElem?_append_left (by rw [List.length_map]; exact hi), List.getElem?_map] at h
        cases hd : ds[i]? with
        | none => rw [hd] at h; cases h
        | some d =>
          rw [hd] at h
          cases h
          obtain ⟨v, h1, h2⟩ := r.get hd
          refine ⟨rfl, v, ?_, h2⟩
          rw [e1, List.getElem?_append_left (by rw [List.length_map, ← hl]; exact hi), List.getElem?_map, h1]
          rfl
      · rw [List.getElem?_append_right (by rw [List.length_map]; omega), List.getElem?_replicate] at h
        split at h
        · cases h
          rfl
        · cases h
  · by_cases h0 : i = 0
    · rw [if_pos h0] at q
      rw [List.mem_singleton.mp q]
      exact ⟨sx, hx⟩
    · rw [if_neg h0] at q; cases q
  · by_cases h0 : i = 0
    · rw [if_pos h0] at q
      rw [List.mem_singleton.mp q, upd_same]
      simp
    · rw [if_neg h0] at q; cases q
  · by_cases h0 : i = 0
    · by_cases h1 : j = 0
      · rw [h0, h1]
      · rw [if_neg h1] at q2; cases q2
    · rw [if_neg h0] at q1; cases q1
  · rw [if_neg (by intro z; rw [z, List.length_cons] at hi; omega)]
section
variable {P : Program} {w : World} {K : PySem.W.Frag} {mg : Str → Option Value} {base : Heap}
theorem ok_init {x qual : Str} {st : Stmt} {f : Addr} {fd : FuncData} {N ps : List Str} {k n nn : Nat} {C : Cl} {m : MS} (F : Fun K x qual st f fd) (S : FnScope N ps (defScope st)) (hn' : ps.length = n + 1) (hN' : N.length = nn)
    (hbody : ∀ (cdv : Value) (A : Around) (outer : List PySem.Env) (s : Shared) (H : Hp) (E : XK), Room k (A.deeper (PyProof.Rows.envOfC qual (defScope st) s.heap.objs.size f cdv)) →
      Ctx (cxOf (L2.CX P w) P w K mg base N qual (defScope st) f cdv A outer s H E) (fun cls d _ H' => E cls d H') → Takes (cxOf (L2.CX P w) P w K mg base N qual (defScope st) f cdv A outer s H E) (fun cls d _ H' => E cls d H') →
      DSs (cxOf (L2.CX P w) P w K mg base N qual (defScope st) f cdv A outer s H E) (fun cls d _ H' => E cls d H') (defBody st) m) :
    FnOk P w K mg base (L2.CX P w) (k + 1) f fd ps (spI K C n (runI C nn m)) := by
  subst hN'
  have hle : ps.length ≤ N.length := by
    have h := congrArg List.length S.pre
    rw [List.length_take] at h
    omega
  refine F.okX S (fun vs H Q E h => ?_) (fun cdv A outer s H vs Q E hr h => ?_)
  · obtain ⟨x, dx, B, S0, ds, vs', rfl, hl, _, _, _, _, _, r, _⟩ := h
    rw [List.length_cons, ← r.length, hl, hn']
  · obtain ⟨x, dx, B, S0, ds, vs', rfl, hl, hx, hdx, hne, rfl, e0, r, q⟩ := h
    obtain ⟨cx, tk⟩ := ctx_of (P := P) (w := w) (K := K) (mg := mg) (base := base) (E := E) (H := upd (upd B dx (.own x)) x (.ins (adK K C) dx [])) (outer := outer) S.nd hr.units S.kind
    refine ⟨_, (hbody cdv A outer s _ E hr cx tk).pss, ⟨K, B, S0⟩, S0, _, _, rfl, startI_ok (by rw [hl]; omega) hx hdx hne e0 r, ?_⟩
    unfold runI at q
    cases hm : m (.ins x C [] [] :: (ds.map Sl.val ++ List.replicate (N.length - (ds.length + 1)) Sl.no)) with
    | bad => rw [hm] at q; exact q
    | ct ρ => rw [hm] at q; exact q.elim
    | bk ρ => rw [hm] at q; exact q.elim
    | rt t => rw [hm] at q; exact q.elim
    | nx ρ =>
      rw [hm] at q
      simp only at q
      intro S1 O1 σ1 H1 st1
      split at q
      · exact q.elim
      · rename_i ks l hq
        split at hq
        · rename_i a C' ks' l' hg
          split at hq
          · rename_i hc
            cases hq
            obtain ⟨rfl, rfl⟩ := hc
            have h0 : ρ[0]? = some (.ins a C' ks l) := by
              rw [List.getD_eq_getElem?_getD] at hg
              cases hz : ρ[0]? with
              | none => rw [hz] at hg; cases hg
              | some z => rw [hz] at hg; exact congrArg some hg
            obtain ⟨e1, e2, dx', ws, e3, z, rq⟩ := st1.slot 0 _ h0
            have hO : a ∈ O1 0 := by rw [e2]; exact List.mem_cons_self
            exact q S1 H1 dx' ws ⟨st1.exB, st1.exS0, st1.exS, st1.new⟩ (st1.off 0 a hO).1 e3 z rq
          · cases hq
        · cases hq
      · rename_i hq
        split at hq
        · split at hq <;> cases hq
        · cases hq
    | ex ρ xc =>
      rw [hm] at q
      exact fun d S1 O1 σ1 H1 st1 xr => q d S1 H1 ⟨st1.exB, st1.exS0, st1.exS, st1.new⟩ xr
end

/-! ### a class is called -/
open Classical in
/-- what does not hang on where the new instance lies -/
noncomputable def newR {α : Type} (h : Addr → R α) : R α := if ∀ x, h x = h 0 then h 0 else .bad
theorem newR_of {α : Type} {h : Addr → R α} {r : R α} (e : ∀ x, h x = r) : newR h = r := by
  unfold newR
  rw [if_pos (fun x => by rw [e, e]), e]
noncomputable def eNew (C : Cl) (n : Nat) (g : Addr → List D → R (List Str × List D)) (ma : MA) : ME := fun ρ => (ma ρ).bind fun ts => if ts.length = n ∧ ts.all isSt = true then (newR fun x => g x (ts.map T.d)).bind fun r => if r.1.length = r.2.length then .ok (.st (.obj C r.1 r.2)) else .bad else .bad
section
variable {X : Cx} {k : Nat} {f C : Addr} {fd : FuncData} {ps : List Str} {sp : Sp} {x : Str} {p pos : Pos} {e : Expr} {es : List Expr} {t : TA}
theorem run_makeS {pins : List (Addr × Obj)} {σ : L2.St} {H : Hp} {s : Shared} {Q : VK} {E : XK} {us : List Value} {vs : List V} (M : Mk X.K C f) (F : FnOk X.prog X.w X.K X.mg X.base (L2.CX X.prog X.w) k f fd ps sp) (hr : Room (k + 1) X.A) (hb : Binds X.K fd ps [])
    (hx : PassesAt (L2.CX X.prog X.w) X σ E) (I : Inv X pins σ H s) (r : Vals vs us)
    (h : ∀ x dx, H x = none → H dx = none → dx ≠ x → sp (.ref x :: vs) (upd (upd H dx (.own x)) x (.ins C dx [])) (fun v H2 => v = .non ∧ Q (.ref x) H2) E) :
    wpAny (model X.prog X.w) X.A (call (.ref C) us) (EP X pins σ Q) X.xe s := by
  have hq := h (s.heap.objs.size + 1) s.heap.objs.size (I.hok.fresh (Nat.le_succ _)) (I.hok.fresh (Nat.le_refl _)) (Nat.ne_of_lt (Nat.lt_succ_self _))
  have I2 := Inv.made (C := C) I
  have r2 : Vals (V.ref (s.heap.objs.size + 1) :: vs) (Value.ref (s.heap.objs.size + 1) :: us) := .cons rfl r
  have hl : (Value.ref (s.heap.objs.size + 1) :: us ++ []).length = ps.length := by
    have e := r2.length
    rw [F.len _ _ _ _ hq] at e
    rw [List.append_nil]
    exact e.symm
  have hb2 := hb _ (Value.ref (s.heap.objs.size + 1) :: us) I2.kIn hl
  rw [List.append_nil] at hb2
  refine wpAny_call (make_map (f := f) I.kIn M.makes M.init (beq_iff_eq.mp M.fn) (codeAny_mono (F.run _ X.stack _ _ ⟨Value.ref (s.heap.objs.size + 1) :: us, []⟩ (Value.ref (s.heap.objs.size + 1) :: us) _ _ E (hr.make C us [])
    (I2.env0.make C us []) hb2 r2 hq) fun r s' hq' => ?_))
  cases r with
  | error e => exact hx pins _ _ e s' I2 hq'
  | ok fl =>
    cases fl with
    | ret u =>
      obtain ⟨v, H', I3, rv, ev, q3⟩ := I2.after hq'
      subst ev
      exact ⟨rv, ⟨V.ref (s.heap.objs.size + 1), H', I3, rfl, q3⟩⟩
    | next => exact False.elim hq'
    | brk => exact False.elim hq'
    | cont => exact False.elim hq'
def tMakeS (C : Addr) (sp : Sp) (E : L2.St → XK) (t : TA) : TE := fun σ H Q => t σ H fun vs H1 => ∀ x dx, H1 x = none → H1 dx = none → dx ≠ x →
  sp (.ref x :: vs) (upd (upd H1 dx (.own x)) x (.ins C dx [])) (fun v H2 => v = .non ∧ Q (.ref x) H2) (E σ)
theorem pe_makeS {E : L2.St → XK} (M : Mk X.K C f) (F : FnOk X.prog X.w X.K X.mg X.base (L2.CX X.prog X.w) k f fd ps sp) (hr : Room (k + 1) X.A) (hg : Gl X x) (hm : X.mg x = some (.ref C)) (hb : Binds X.K fd ps []) (hx : ∀ σ, PassesAt (L2.CX X.prog X.w) X σ (E σ))
    (ha : PA X (e :: es) t) (hdb : (x == ("__debug__" : Str)) = false := by decide) (he : starEach (e :: es) X.env = (false, eval e X.env) :: starEach es X.env := by rfl) (hpl : (backTo pos (starEach es X.env)).any (·.1) = false := by rfl) :
    PE X (.Call (.Name x p) (e :: es) [] pos) (tMakeS C sp E t) := by
  refine ⟨fun pins s σ H Q I h => ?_⟩
  refine wpAny_Call_Name_kw (ld_glob I hg hm ?_ hdb)
  refine PySem.W.callWith_K (h₀ := X.base) I.ok.mod.kin M.kp (thn (ha.run pos pins s σ H _ I h) fun us s1 ⟨vs, H1, I1, r, q⟩ => ⟨I1.kIn, ?_⟩) he hpl
  exact run_makeS M F hr hb (hx σ) I1 r q
end
/-- what is known of a class that is called -/
structure MkF (P : Program) (w : World) (K : PySem.W.Frag) (mg : Str → Option Value) (base : Heap) (k : Nat) (C : Cl) (n : Nat) (g : Addr → List D → R (List Str × List D)) : Prop where
  ex : ∃ f fd ps, Mk K (adK K C) f ∧ FnOk P w K mg base (L2.CX P w) k f fd ps (spI K C n g) ∧ mg C.nm = some (.ref (adK K C)) ∧ Binds K fd ps []
section
variable {X : Cx} {W : WX} {x : Str} {p pos : Pos} {e : Expr} {es : List Expr} {ma : MA}
theorem dx_new {k j n : Nat} (C : Cl) {g : Addr → List D → R (List Str × List D)} (Cc : Ctx X W) (F : MkF X.prog X.w X.K X.mg X.base k C n g) (hr : Room j X.A) (ha : DA X W (e :: es) ma) (hj : k + 1 ≤ j := by decide) (hn : C.nm = x := by rfl) (hg : Gl X x := by rfl) (hdb : (x == ("__debug__" : Str)) = false := by decide)
    (he : starEach (e :: es) X.env = (false, eval e X.env) :: starEach es X.env := by rfl) (hpl : (backTo pos (starEach es X.env)).any (·.1) = false := by rfl) : DX X W (.Call (.Name x p) (e :: es) [] pos) (eNew C n g ma) := by
  subst hn
  obtain ⟨f, fd, ps, M, F1, hm, hb⟩ := F.ex
  refine ⟨PE.weak (pe_makeS M F1 (hr.mono hj) hg hm hb Cc.can ha.pa hdb he hpl) ?_⟩
  rintro σ H Q ⟨G, S, O, ρ, eK, st, q⟩
  refine ⟨G, S, O, ρ, eK, st, Fin.bind (rep' := rTs G) q fun ts xs S1 H1 s1 k1 st1 rp q1 => ?_⟩
  intro y dx hy hdx hne
  have rp : RepOs G.K S1 H1 ts xs := rp
  split at q1
  · rename_i hc
    refine ⟨y, dx, H1, S1, ts.map T.d, xs, rfl, by rw [List.length_map]; exact hc.1, hy, hdx, hne, rfl, st1.exS, by rw [← eK]; exact rp.reps hc.2, ?_⟩
    have hnew : ∀ z, newR (fun x => g x (ts.map T.d)) = z → z ≠ .bad → g y (ts.map T.d) = z := by
      intro z hz hb
      unfold newR at hz
      split at hz
      · rename_i hall
        exact (hall y).trans hz
      · exact absurd hz.symm hb
    cases hz : newR (fun x => g x (ts.map T.d)) with
    | bad => rw [hz] at q1; exact q1.elim
    | ok r =>
      rw [hnew _ hz (by intro z; cases z)]
      rw [hz] at q1
      obtain ⟨ks, l⟩ := r
      simp only [R.bind_ok] at q1
      split at q1
      · rename_i hkl
        intro S' H' dx' ws gr sx hx hw rl
        refine ⟨rfl, ?_⟩
        have st' := st1.called (fun _ => False) gr.eH gr.sub gr.eS gr.new
        have eS2 : Ex S' (upd S' y (.ins (adK X.K C) dx' (ks.zip ws))) := ex_upd sx
        have st2 : StR G (upd S' y (.ins (adK X.K C) dx' (ks.zip ws))) O σ H' ρ := by
          have by0 : G.B y = none := by
            cases z : G.B y with
            | none => rfl
            | some u => rw [st1.exB y u z] at hy; cases hy
          refine ⟨st'.exB, st'.exS0.trans eS2, fun b o eb => ?_, fun b hb => ?_, st'.len, fun i s es => (st'.slot i s es).mono eS2 fun a o _ q => q, fun i a qa => ?_, st'.live, st'.apart, st'.out⟩
          · by_cases hby : b = y
            · subst hby
              rw [upd_same] at eb
              cases eb
              exact hx
            · rw [upd_ne hby] at eb
              exact st'.exS b o eb
          · by_cases hby : b = y
            · subst hby
              exact .inr by0
            · rw [upd_ne hby] at hb
              exact st'.new b hb
          · obtain ⟨z1, z2⟩ := st'.off i a qa
            have : a ≠ y := fun z => st1.live i a qa (by rw [z]; exact hy)
            exact ⟨by rw [upd_ne this]; exact z1, z2⟩
        refine q1 (.ref y) _ H' (gr.eS.trans eS2) gr.eH st2 ?_
        show Rep G.K _ (.obj C ks l) (.ref y)
        rw [eK]
        exact .obj upd_same hw (rl.mono eS2)
      · exact q1.elim
    | ex xc =>
      rw [hnew _ hz (by intro z; cases z)]
      rw [hz] at q1
      intro d S' H' gr xr
      have st' := st1.called (fun _ => False) gr.eH gr.sub gr.eS gr.new
      have := q1 d S' H' gr.eS gr.eH st' (by rw [eK]; exact xr)
      rw [eK] at this
      exact this
  · exact q1.elim
end
end RF

set_option Elab.async false
set_option linter.all false
set_option maxRecDepth 100000
set_option autoImplicit false
set_option maxHeartbeats 0
/-! RF, part M: isinstance of a kept exception -/
namespace RF
open PySem PySem.Spec L2 PyProof.Rows
theorem bt_ValueError : bootBuiltins "ValueError" = some (.type "ValueError") := by decide +kernel
/-- the classes that are asked about -/
def exA : List Cl := [.badRest, .badForm, .badTable, .noForm, .meets, .lone, .tooGreat, .noText]
theorem allA {P : Cl → Prop} (h1 : P .badRest) (h2 : P .badForm) (h3 : P .badTable) (h4 : P .noForm) (h5 : P .meets) (h6 : P .lone) (h7 : P .tooGreat) (h8 : P .noText) : ∀ C ∈ exA, P C := by
  intro C hC
  cases C with
  | rests => exact absurd hC (by decide)
  | restError => exact absurd hC (by decide)
  | badRest => exact h1
  | badForm => exact h2
  | badTable => exact h3
  | noForm => exact h4
  | meets => exact h5
  | lone => exact h6
  | tooGreat => exact h7
  | noText => exact h8
/-- what isinstance asks of the class of an exception -/
structure ExI (K : PySem.W.Frag) (c : Cl) : Prop where
  hd : PySem.W.hasDictIn K (adK K c) = true
  hga : PySem.W.findIn K (.ref (adK K c)) "__getattribute__" = some (some (.builtin "BaseException.__getattribute__"))
  hgt : PySem.W.findIn K (.ref (adK K c)) "__getattr__" = some none
  hsub : PySem.W.subIn K (.ref (adK K c)) (.type "BaseException") = some true
  ha : PySem.W.findIn K (.ref (adK K c)) "__class__" = some (some (.builtin "object.__class__"))
  hm : PySem.W.mroIn K (adK K c) (.type "object") = some true
theorem ExI.hcl {K : PySem.W.Frag} {c : Cl} (E : ExI K c) : (PySem.W.clsIn K (adK K c)).isSome = true := by
  obtain ⟨cd, hc, _⟩ := PySem.W.any_some E.hd
  rw [hc]
  rfl
structure ExB (K : PySem.W.Frag) : Prop where
  hn : PySem.W.specialIn K (.builtin "object.__class__") "__get__" = some (some (.builtin "getset_descriptor.__get__"))
  htk : PySem.W.takesIn K (.builtin "object.__class__") = some true
def isxD (cs : List Cl) (g : Cl → Bool) : D → Option Bool
  | .non => some false
  | .exc C _ _ => if C ∈ cs then some (g C) else none
  | _ => none
/-- the class u, asked of None and of exceptions of the classes cs -/
structure IsQ (K : PySem.W.Frag) (cs : List Cl) (g : Cl → Bool) (u : Value) : Prop where
  non : PySem.W.kitOne K (.type "NoneType") u = some false
  own : ∀ C ∈ cs, ExI K C ∧ PySem.W.kitOne K (.ref (adK K C)) u = some (g C)
  bt : ExB K
def rIsx (K : PySem.W.Frag) (cs : List Cl) (g : Cl → Bool) (u : Value) : List V → Hp → VK → Prop := fun xs H Q => ∃ (x c : V) (d : D) (b : Bool), xs = [x, c] ∧ ClsV c u ∧ Rep K H d x ∧ isxD cs g d = some b ∧ Q (.bl b) H
section
variable {X : Cx} {pins : List (Addr × Obj)} {σ : L2.St} {H : Hp} {s : Shared}
theorem kit_exc {C : Cl} {ks : List Str} {l : List D} {x : V} {v : Value} (I : Inv X pins σ H s) (E : ExI X.K C) (B : ExB X.K) (r : Rep X.K H (.exc C ks l) x) (rx : RelV x v) : ∃ P : Heap → Prop, PySem.W.KitX X.K v (.ref (adK X.K C)) P ∧ P s.heap ∧ v ≠ .builtin "__main__.__loader__#opaque" := by
  cases r with
  | @exc0 a _ h =>
    cases (show v = Value.ref a from rx)
    have ok : ObjOk X.prog X.w H s.heap a (XO (adK X.K C) none a) := I.hok a _ h
    obtain ⟨oe, vs, he, hz, hd⟩ := ok.1
    have J : PySem.W.InstAt s.heap a oe (adK X.K C) none := by
      obtain ⟨oc, od, oda, osl⟩ := oe
      obtain ⟨h1, h2⟩ := hz
      dsimp only at h1 h2 hd
      subst h1 h2 hd
      exact ⟨he, rfl, rfl, trivial⟩
    exact ⟨_, PySem.W.kitx_exc E.hcl E.hga E.hgt E.hsub E.ha B.hn B.htk E.hm, J, fun z => nomatch z⟩
  | @exc1 a dx _ _ vs _ h h2 hl rr =>
    cases (show v = Value.ref a from rx)
    have ok : ObjOk X.prog X.w H s.heap a (XO (adK X.K C) (some dx) a) := I.hok a _ h
    obtain ⟨oe, ws, he, hz, hd⟩ := ok.1
    have hx : ObjOk X.prog X.w H s.heap dx (.xd (ks.zip vs)) := I.hok dx _ h2
    obtain ⟨mA, hns, hr⟩ := hx
    obtain ⟨od, ho, _⟩ := lookIn_ns hns
    have J : PySem.W.InstAt s.heap a oe (adK X.K C) (some od) := ⟨he, hz.1, by unfold PySem.W.notCls; rw [hd] <;> rfl, by rw [hz.2]; exact ho⟩
    exact ⟨_, PySem.W.kitx_exc E.hcl E.hga E.hgt E.hsub E.ha B.hn B.htk E.hm, J, fun z => nomatch z⟩
end
section
variable {X : Cx} {cs : List Cl} {g : Cl → Bool} {u : Value}
theorem call_isx (q : IsQ X.K cs g u) : CallR X (.builtin "isinstance") (rIsx X.K cs g u) := by
  intro pins s σ H xs us Q I r h
  obtain ⟨x, c, d, b, rfl, k, rp, e, hq⟩ := h
  obtain ⟨u1, u2, rfl, r1, r2⟩ := vals2 r
  have e2 := k.eq r2
  subst e2
  cases d with
  | non =>
    cases e
    cases rp
    obtain ⟨P, Z, p, hx⟩ := kit_of I r1 (.base .non)
    exact PySem.W.kia_one Z I.kIn p q.non hx fun tk => ⟨.bl _, H, I.tok tk, rfl, hq⟩
  | exc C ks l =>
    have e' : (if C ∈ cs then some (g C) else none) = some b := e
    by_cases hC : C ∈ cs
    · rw [if_pos hC] at e'
      cases e'
      obtain ⟨E, ki⟩ := q.own C hC
      obtain ⟨P, Z, p, hx⟩ := kit_exc I E q.bt rp r1
      exact PySem.W.kia_one Z I.kIn p ki hx fun tk => ⟨.bl _, H, I.tok tk, rfl, hq⟩
    · rw [if_neg hC] at e'
      cases e'
  | _ => cases e
end
def eIsx (cs : List Cl) (g : Cl → Bool) (m : ME) : ME := fun ρ => (m ρ).bind fun t => lift ((isxD cs g t.d).map fun b => T.st (.bl b))
section
variable {X : Cx} {W : WX} {e : Expr} {m : ME} {x : Str} {p p2 pos : Pos} {cs : List Cl} {g : Cl → Bool}
theorem dx_isx {c : V} {u : Value} (q0 : IsQ X.K cs g u) (k : ClsV c u) (hc : PE X (.Name x p2) (tC c)) (he : DX X W e m) (hg : Gl X "isinstance") (hm : X.mg "isinstance" = none) (hv : bootBuiltins "isinstance" = some (.builtin "isinstance"))
    (h1 : starEach (e :: [.Name x p2]) X.env = (false, eval e X.env) :: starEach [.Name x p2] X.env := by rfl) (h2 : (backTo pos (starEach [.Name x p2] X.env)).any (·.1) = false := by rfl) (h3 : starEach [.Name x p2] X.env = (false, eval (.Name x p2) X.env) :: starEach [] X.env := by rfl) :
    DX X W (.Call (.Name "isinstance" p) [e, .Name x p2] [] pos) (eIsx cs g m) := by
  refine ⟨PE.weak (pe_callB (call_isx q0) hg hm hv (pa_cons he.pe (pa_cons hc pa_nil h3) h1) (by decide) (by decide) h1 h2) ?_⟩
  rintro σ H Q ⟨G, S, O, ρ, eK, st, q⟩
  refine ⟨G, S, O, ρ, eK, st, Fin.bind (rep' := rT G O) q fun t y S1 H1 s1 k1 st1 rp q1 => ?_⟩
  obtain ⟨S2, s2, st2, ro⟩ := RepT.settle st1 rp
  rw [eK] at ro
  cases hb : isxD cs g t.d with
  | none => rw [hb] at q1; exact q1.elim
  | some b =>
    rw [hb] at q1
    exact ⟨y, c, _, b, rfl, k, ro.whole st2.exS, by rw [T.set_d]; exact hb, q1 _ S1 H1 (Same.refl _) (Same.refl _) st1 (.bl b)⟩
theorem dx_isO (cs : List Cl) (c : Cl) (q0 : IsQ X.K cs (fun C => C.sub c) (.ref (adK X.K c))) (hmc : X.mg c.nm = some (.ref (adK X.K c))) (he : DX X W e m) (hg : Gl X "isinstance") (hm : X.mg "isinstance" = none) (hv : bootBuiltins "isinstance" = some (.builtin "isinstance"))
    (hn : c.nm = x := by rfl) (hg2 : Gl X x := by rfl) (hdb : (x == ("__debug__" : Str)) = false := by decide)
    (h1 : starEach (e :: [.Name x p2]) X.env = (false, eval e X.env) :: starEach [.Name x p2] X.env := by rfl) (h2 : (backTo pos (starEach [.Name x p2] X.env)).any (·.1) = false := by rfl) (h3 : starEach [.Name x p2] X.env = (false, eval (.Name x p2) X.env) :: starEach [] X.env := by rfl) :
    DX X W (.Call (.Name "isinstance" p) [e, .Name x p2] [] pos) (eIsx cs (fun C => C.sub c) m) := by
  subst hn
  exact dx_isx q0 (.own _) (pe_glob hg2 hmc rfl hdb) he hg hm hv h1 h2 h3
theorem dx_isV (cs : List Cl) (q0 : IsQ X.K cs (fun _ => true) (.type "ValueError")) (he : DX X W e m) (hg : Gl X "isinstance") (hm : X.mg "isinstance" = none) (hg2 : Gl X "ValueError") (hm2 : X.mg "ValueError" = none) (hv2 : bootBuiltins "ValueError" = some (.type "ValueError")) (hv : bootBuiltins "isinstance" = some (.builtin "isinstance"))
    (h1 : starEach (e :: [.Name "ValueError" p2]) X.env = (false, eval e X.env) :: starEach [.Name "ValueError" p2] X.env := by rfl) (h2 : (backTo pos (starEach [.Name "ValueError" p2] X.env)).any (·.1) = false := by rfl) (h3 : starEach [.Name "ValueError" p2] X.env = (false, eval (.Name "ValueError" p2) X.env) :: starEach [] X.env := by rfl) :
    DX X W (.Call (.Name "isinstance" p) [e, .Name "ValueError" p2] [] pos) (eIsx cs (fun _ => true) m) :=
  dx_isx q0 (.ty _) (pe_bltn hg2 hm2 hv2 rfl (by decide) (by decide)) he hg hm hv h1 h2 h3
end
/-! ### divmod -/
def bDivmod : List D → Option T
  | [.int i, .int j] => if 0 < j ∧ j < 1073741824 then some (.st (.tup [.int (i / j), .int (i % j)])) else none
  | _ => none
theorem ra_divmod {K : PySem.W.Frag} : RAOk K (fun xs H Q => ∃ i j, xs = [.int i, .int j] ∧ CDiv i j ∧ ∀ p, H p = none → Q (.ref p) (upd H p (.tup [.int (i / j), .int (i % j)]))) bDivmod := by
  intro G S O σ H ρ ts z xs Q eK st r hz k
  subst eK
  unfold bDivmod at hz
  split at hz
  · rename_i i j e
    split at hz
    · rename_i hc
      cases hz
      obtain ⟨t, u, x, y, rfl, rfl, e1, e2, r1, r2⟩ := r.two e
      rw [RepO.int e1 r1, RepO.int e2 r2]
      refine ⟨i, j, rfl, hc, fun p hp => ?_⟩
      obtain ⟨st', e1, e2⟩ := st.stand (o := .tup [.int (i / j), .int (i % j)]) hp
      exact k (.ref p) _ _ e1 e2 st' (Rep.tup (.inl (.inl upd_same)) (.cons (.int _) (.cons (.int _) .nil)))
    · cases hz
  · cases hz
end RF

set_option Elab.async false
set_option linter.all false
set_option maxRecDepth 100000
set_option autoImplicit false
set_option maxHeartbeats 0
/-! RF, part N: exceptions with an __init__ of their own that sets their fields -/
namespace RF
open PySem PySem.Spec L2 PyProof.Rows
/-- __init__ sets the fields fs, in turn, to what it is handed -/
def spE (K : PySem.W.Frag) (C : Cl) (fs : List Str) : Sp := fun vs H Q _ => ∃ (a : Addr) (ws : List V), vs = .ref a :: ws ∧ ws.length = fs.length ∧ H a = some (exo a (adK K C) none) ∧
  ∀ (dx : Addr) (H' : Hp), H' a = some (exo a (adK K C) (some dx)) → H' dx = some (exd dx (fs.reverse.zip ws.reverse)) → (∀ b, b ≠ a → b ≠ dx → H' b = H b) → H dx = none → dx ≠ a → Q .non H'
section
variable {P : Program} {w : World} {K : PySem.W.Frag} {mg : Str → Option Value} {base : Heap}
theorem ok_exc1 {x qual : Str} {st : Stmt} {f : Addr} {fd : FuncData} {g p : Str} {C : Cl} {p1 p2 p3 p4 : Pos} (F : Fun K x qual st f fd) (S : FnScope ["self", p] ["self", p] (defScope st)) (T : OexC K (adK K C)) (hno : PySem.W.findIn K (.ref (adK K C)) g = some none)
    (hb : defBody st = [.Assign [.Attribute (.Name "self" p1) g p2] (.Name p p3) p4])
    (hstep : ∀ (cdv : Value) (A : Around) (outer : List PySem.Env) (s : Shared) (H : Hp) (E : XK), PS (cxOf CX0 P w K mg base ["self", p] qual (defScope st) f cdv A outer s H E).nox (.Assign [.Attribute (.Name "self" p1) g p2] (.Name p p3) p4) (tOst K g (tVar 0) (tVar 1))) :
    FnOk P w K mg base CX0 2 f fd ["self", p] (spE K C [g]) := by
  refine F.ok S (fun vs H Q E h => ?_) (fun cdv A outer s H vs Q E hr h => ⟨_, by rw [hb]; exact pss_one (hstep cdv A outer s H E), ?_⟩)
  · obtain ⟨a, ws, rfl, hl, _⟩ := h
    rw [List.length_cons, hl]
    rfl
  · obtain ⟨a, ws, rfl, hl, ha, k⟩ := h
    match ws, hl with
    | [y], _ =>
      refine ⟨y, rfl, .ref a, rfl, a, adK K C, rfl, T, hno, .inl ⟨ha, fun dx hdx hne => ?_⟩⟩
      refine k dx _ upd_same ?_ (fun b hba hbd => by rw [upd_ne hba, upd_ne hbd]) hdx hne
      rw [upd_ne hne, upd_same]
      rfl
theorem ok_exc2 {x qual : Str} {st : Stmt} {f : Addr} {fd : FuncData} {g g' p p' : Str} {C : Cl} {p1 p2 p3 p4 q1 q2 q3 q4 : Pos} (F : Fun K x qual st f fd) (S : FnScope ["self", p, p'] ["self", p, p'] (defScope st)) (T : OexC K (adK K C)) (hno : PySem.W.findIn K (.ref (adK K C)) g = some none) (hno' : PySem.W.findIn K (.ref (adK K C)) g' = some none)
    (hb : defBody st = [.Assign [.Attribute (.Name "self" p1) g p2] (.Name p p3) p4, .Assign [.Attribute (.Name "self" q1) g' q2] (.Name p' q3) q4])
    (hstep : ∀ (cdv : Value) (A : Around) (outer : List PySem.Env) (s : Shared) (H : Hp) (E : XK), PS (cxOf CX0 P w K mg base ["self", p, p'] qual (defScope st) f cdv A outer s H E).nox (.Assign [.Attribute (.Name "self" p1) g p2] (.Name p p3) p4) (tOst K g (tVar 0) (tVar 1)))
    (hstep' : ∀ (cdv : Value) (A : Around) (outer : List PySem.Env) (s : Shared) (H : Hp) (E : XK), PS (cxOf CX0 P w K mg base ["self", p, p'] qual (defScope st) f cdv A outer s H E).nox (.Assign [.Attribute (.Name "self" q1) g' q2] (.Name p' q3) q4) (tOst K g' (tVar 0) (tVar 2))) :
    FnOk P w K mg base CX0 2 f fd ["self", p, p'] (spE K C [g, g']) := by
  refine F.ok S (fun vs H Q E h => ?_) (fun cdv A outer s H vs Q E hr h => ⟨_, by rw [hb]; exact pss_cons (hstep cdv A outer s H E) (pss_one (hstep' cdv A outer s H E)), ?_⟩)
  · obtain ⟨a, ws, rfl, hl, _⟩ := h
    rw [List.length_cons, hl]
    rfl
  · obtain ⟨a, ws, rfl, hl, ha, k⟩ := h
    match ws, hl with
    | [y, z], _ =>
      refine ⟨y, rfl, .ref a, rfl, a, adK K C, rfl, T, hno, .inl ⟨ha, fun dx hdx hne => ?_⟩⟩
      refine ⟨z, rfl, .ref a, rfl, a, adK K C, rfl, T, hno', .inr ⟨dx, [(g, y)], upd_same, by rw [upd_ne hne, upd_same], Nat.le_of_ble_eq_true rfl, ?_⟩⟩
      refine k dx _ (by rw [upd_ne (Ne.symm hne), upd_same]) upd_same (fun b hba hbd => by rw [upd_ne hbd, upd_ne hba, upd_ne hbd]) hdx hne
end
/-- what is known of such a class -/
structure MkE (P : Program) (w : World) (K : PySem.W.Frag) (mg : Str → Option Value) (base : Heap) (C : Cl) (fs : List Str) : Prop where
  ex : ∃ f fd ps, OexC K (adK K C) ∧ PySem.W.findIn K (.ref (adK K C)) "__init__" = some (some (.ref f)) ∧ PySem.W.typeIn K (.ref f) = some (.type "function") ∧ FnOk P w K mg base CX0 2 f fd ps (spE K C fs) ∧ mg C.nm = some (.ref (adK K C)) ∧ Binds K fd ps []
/-- raise C(..) -/
def sRaiseI (C : Cl) (fs : List Str) (ma : MA) : MS := fun ρ => toS ρ (ma ρ) fun ts => if ts.length = fs.length ∧ ts.all isSt = true ∧ ts.length ≤ 1000 then .ex ρ ⟨C, fs.reverse, (ts.map T.d).reverse⟩ else .bad
section
variable {X : Cx} {W : WX} {x : Str} {p pos pos2 : Pos} {e : Expr} {es : List Expr} {ma : MA}
theorem ds_raiseI {j : Nat} (C : Cl) (fs : List Str) (Cc : Ctx X W) (tk : Takes X W) (F : MkE X.prog X.w X.K X.mg X.base C fs) (hr : Room j X.A) (ha : DA X W (e :: es) ma) (hj : 3 ≤ j := by decide) (hn : C.nm = x := by rfl) (hg : Gl X x := by rfl) (hdb : (x == ("__debug__" : Str)) = false := by decide)
    (he : starEach (e :: es) X.env = (false, eval e X.env) :: starEach es X.env := by rfl) (hpl : (backTo pos (starEach es X.env)).any (·.1) = false := by rfl) :
    DS X W (.Raise (some (.Call (.Name x p) (e :: es) [] pos)) none pos2) (sRaiseI C fs ma) := by
  subst hn
  obtain ⟨f, fd, ps, Tc, iC, tI, F1, hm, hb⟩ := F.ex
  refine ⟨PS.weak (ps_raise Cc.calm tk (pmk_oex Tc iC tI F1 (hr.mono hj) hb .nil pass0 hg hm ha.pa hdb he hpl)) ?_⟩
  rintro D σ H ⟨G, S, O, ρ, eK, st, q⟩
  refine ⟨G, S, O, ρ, eK, st, FinS.bind (rep := rTs G) q fun ts xs S1 H1 s1 k1 st1 rp q1 => ?_⟩
  have rp : RepOs G.K S1 H1 ts xs := rp
  split at q1
  · rename_i hc
    obtain ⟨h1, h2, h3⟩ := hc
    have rs := rp.reps h2
    have hlx : (ts.map T.d).length = xs.length := rs.length
    rw [List.length_map] at hlx
    refine ⟨by omega, fun a hna => ?_⟩
    rw [List.append_nil]
    refine ⟨a, xs, rfl, by omega, upd_same, fun dx H' h4 h5 h6 h7 h8 => ⟨rfl, dx, _, h4, h5, ?_, ?_⟩⟩
    · rwa [upd_ne h8] at h7
    · have hd1 : H1 dx = none := by rwa [upd_ne h8] at h7
      have eH : upd (L2.del H' a) dx (.xd (fs.reverse.zip xs.reverse)) = upd H1 dx (.xd (fs.reverse.zip xs.reverse)) := by
        funext b
        by_cases hbd : b = dx
        · rw [hbd, upd_same, upd_same]
        · rw [upd_ne hbd, upd_ne hbd]
          by_cases hba : b = a
          · rw [hba, del_same, hna]
          · rw [del_ne hba, h6 b hba hbd, upd_ne hba]
      rw [eH]
      obtain ⟨st2, e1, k2⟩ := st1.stand (o := .xd (fs.reverse.zip xs.reverse)) hd1
      have := q1 (some dx) _ O σ _ st2 (.inr ⟨dx, xs.reverse, rfl, upd_same, by rw [List.length_reverse, List.length_reverse]; omega, (rs.reverse).mono e1⟩)
      rw [eK] at this
      exact this
  · exact q1.elim
end
/-! ### a kept exception's field -/
def xfD (C : Cl) (f : Str) : D → Option T
  | .exc C' ks l => if C' = C then ((ks.zip l).lookup f).map T.st else none
  | _ => none
def tXF (K : PySem.W.Frag) (C : Cl) (f : Str) (te : TE) : TE := fun σ H Q => te σ H fun x H1 => ∃ a dx fs v, x = .ref a ∧ H1 a = some (XO (adK K C) (some dx) a) ∧ H1 dx = some (.xd fs) ∧ fs.lookup f = some v ∧ Q v H1
theorem pe_xF {X : Cx} {e : Expr} {te : TE} {f : Str} {pos : Pos} (C : Cl) (E : ExI X.K C) (hno : PySem.W.findIn X.K (.ref (adK X.K C)) f = some none) (he : PE X e te) (hb : attributeBase e f X.env (eval e X.env) = eval e X.env := by rfl) :
    PE X (.Attribute e f pos) (tXF X.K C f te) := by
  refine ⟨fun pins s σ H Q I h => ?_⟩
  refine attr_of hb (thn (he.run pins s σ H _ I h) fun u s1 hh => ?_)
  obtain ⟨x, H1, I1, rx, a, dx, fs, v, ex, ea, ed, l, q⟩ := hh
  subst ex
  obtain rfl : u = Value.ref a := rx
  have ok : ObjOk X.prog X.w H1 s1.heap a (XO (adK X.K C) (some dx) a) := I1.hok a _ ea
  obtain ⟨oe, vs, he, hz, hd⟩ := ok.1
  have hx : ObjOk X.prog X.w H1 s1.heap dx (.xd fs) := I1.hok dx _ ed
  obtain ⟨mA, hns, hr⟩ := hx
  obtain ⟨od, ho, hl⟩ := lookIn_ns hns
  obtain ⟨u, hu, ru⟩ := RelO.some_of (v := v) (o := mA f) (by rw [← l]; exact hr f)
  have J : PySem.W.InstAt s1.heap a oe (adK X.K C) (some od) := ⟨he, hz.1, by unfold PySem.W.notCls; rw [hd] <;> rfl, by rw [hz.2]; exact ho⟩
  exact HandSPX.exc_get I1.kIn J E.hga E.hgt E.hsub (PySem.W.findObj_own E.hd hno rfl (by rw [hl, hu])) (handed_of ru) ⟨v, H1, I1.tok _, ru, q⟩
theorem dx_xF {X : Cx} {W : WX} {e : Expr} {m : ME} {f : Str} {pos : Pos} (C : Cl) (E : ExI X.K C) (hno : PySem.W.findIn X.K (.ref (adK X.K C)) f = some none) (he : DX X W e m) (hb : attributeBase e f X.env (eval e X.env) = eval e X.env := by rfl) : DX X W (.Attribute e f pos) (e1 (xfD C f) m) := by
  refine ⟨PE.weak (pe_xF C E hno he.pe hb) fun σ H Q h => ?_⟩
  refine step1 (r := fun x H Q => ∃ a dx fs v, x = .ref a ∧ H a = some (XO (adK X.K C) (some dx) a) ∧ H dx = some (.xd fs) ∧ fs.lookup f = some v ∧ Q v H) ?_ σ H Q h
  intro G S O σ H ρ t z x Q eK st r1 hz k
  rw [← eK] at r1
  unfold xfD at hz
  split at hz
  · rename_i C' ks l e1
    split at hz
    · rename_i ec
      subst ec
      cases hl : (ks.zip l).lookup f with
      | none => rw [hl] at hz; cases hz
      | some d =>
        rw [hl] at hz
        cases hz
        cases t with
        | st d' =>
          cases (show d' = .exc C' ks l from e1)
          cases (show Rep G.K S (.exc C' ks l) x from r1) with
          | @exc0 a _ h => cases hl
          | @exc1 a dx _ _ vs _ h h2 hl2 rr =>
            obtain ⟨v, h3, h4⟩ := lookup_reps rr hl
            exact ⟨a, dx, _, v, rfl, by rw [← eK]; exact st.exS _ _ h, st.exS _ _ h2, h3, done_st st h4 k⟩
        | fr l' => exact r1.elim
        | sl l' => cases e1
    · cases hz
  · cases hz
end RF

set_option Elab.async false
set_option linter.all false
set_option maxRecDepth 100000
set_option autoImplicit false
set_option maxHeartbeats 0
/-! RF, part O: in, index, a dict of a slot's own -/
namespace RF
open PySem PySem.Spec L2 PyProof.Rows
theorem flat_ints (is : List Int) : (is.map V.int).all flatV = true := by
  rw [List.all_eq_true]
  intro x hx
  obtain ⟨i, _, rfl⟩ := List.mem_map.mp hx
  rfl
theorem inV_ints (i : Int) : ∀ is : List Int, inV (.int i) (is.map V.int) = decide (i ∈ is)
  | [] => by unfold inV; simp
  | j :: is => by
    have ih := inV_ints i is
    unfold inV at ih ⊢
    rw [List.map_cons, List.any_cons, ih]
    show ((j == i) || decide (i ∈ is)) = decide (i ∈ j :: is)
    by_cases h : j = i
    · subst h; simp
    · have h2 : ¬ i = j := fun z => h z.symm
      simp [h, h2]
def dIn (neg : Bool) : D → D → Option T
  | .int i, .lst l => (intsOf l).map fun is => T.st (.bl (if neg then !decide (i ∈ is) else decide (i ∈ is)))
  | _, _ => none
theorem r2_in {K : PySem.W.Frag} (neg : Bool) : R2Ok K (rIn K neg) (dIn neg) := by
  intro G S O σ H ρ t u z x y Q eK st r1 r2 hz k
  subst eK
  unfold dIn at hz
  split at hz
  · rename_i i l e1 e2
    cases hi : intsOf l with
    | none => rw [hi] at hz; cases hz
    | some is =>
      rw [hi] at hz
      cases hz
      rw [RepO.int e1 r1]
      obtain ⟨p, vs, rfl, h1, q1⟩ := RepO.lst e2 st.exS r2
      rw [Reps.ints q1 hi] at h1
      refine ⟨p, _, rfl, .inl h1, rfl, flat_ints is, ?_⟩
      rw [inV_ints]
      exact done_st st (.bl _) k
  · cases hz
section
variable {X : Cx} {W : WX} {a b : Expr} {m n : ME} {pos ap cp : Pos}
theorem dx_in (ha : DX X W a m) (hb : DX X W b n) (hm : behindInMarks .In b = false := by rfl) : DX X W (.Compare a [.In] [b] pos) (e2 (dIn false) m n) := dx_cmp op_in_seq (r2_in false) hm ha hb
theorem dx_notin (ha : DX X W a m) (hb : DX X W b n) (hm : behindInMarks .NotIn b = false := by rfl) : DX X W (.Compare a [.NotIn] [b] pos) (e2 (dIn true) m n) := dx_cmp op_notIn_seq (r2_in true) hm ha hb
theorem dt_in (ha : DX X W a m) (hb : DX X W b n) (hm : behindInMarks .In b = false := by rfl) : DT X W (.Compare a [.In] [b] pos) (cV (e2 (dIn false) m n)) := dt_cmp op_in_seq (r2_in false) hm ha hb
theorem dt_notin (ha : DX X W a m) (hb : DX X W b n) (hm : behindInMarks .NotIn b = false := by rfl) : DT X W (.Compare a [.NotIn] [b] pos) (cV (e2 (dIn true) m n)) := dt_cmp op_notIn_seq (r2_in true) hm ha hb
/-! ### index -/
def idxI : List Int → Int → Option Nat
  | [], _ => none
  | a :: l, i => if a = i then some 0 else (idxI l i).map fun j => j + 1
theorem idxI_some : ∀ {l : List Int} {i : Int} {j : Nat}, idxI l i = some j → l[j]? = some i ∧ ∀ m < j, ∀ z, l[m]? = some z → z ≠ i
  | [], _, _, h => by cases h
  | a :: l, i, j, h => by
    unfold idxI at h
    split at h
    · rename_i e
      cases h
      exact ⟨by rw [e]; rfl, fun m hm => by omega⟩
    · rename_i e
      cases hl : idxI l i with
      | none => rw [hl] at h; cases h
      | some k =>
        rw [hl] at h
        cases h
        obtain ⟨h1, h2⟩ := idxI_some hl
        refine ⟨by rw [List.getElem?_cons_succ]; exact h1, fun m hm z hz => ?_⟩
        cases m with
        | zero =>
          cases hz
          exact e
        | succ m =>
          rw [List.getElem?_cons_succ] at hz
          have hm' : m + 1 < k + 1 := hm
          exact h2 m (by omega) z hz
def lstD : D → Option (List D)
  | .lst l => some l
  | _ => none
def dIdx (l : List D) : D → Option T
  | .int i => (intsOf l).bind fun is => (idxI is i).map fun j => T.st (.int (j : Nat))
  | _ => none
def eIdx (m n : ME) : ME := fun ρ => (m ρ).bind fun t => (lift (lstD t.d)).bind fun l => (n ρ).bind fun u => lift (dIdx l u.d)
theorem lstD_eq {d : D} {l : List D} (h : lstD d = some l) : d = .lst l := by
  cases d <;> cases h
  rfl
theorem dx_idx (hm : DX X W a m) (hn : DX X W b n)
    (hbase : attributeBase a "index" X.env (eval a X.env) = eval a X.env := by rfl)
    (hfew : ((backTo cp (starEach (b :: []) X.env)).all (fun x => !x.1) && (backToKw cp (keywordEach [] X.env)).all (fun x => x.1.isSome)
      && decide ((b :: ([] : List Expr)).length + ([] : List Keyword).length + (if ([] : List Keyword).isEmpty then 0 else 1) < 30)) = true := by rfl)
    (hline : (ap.endLine == cp.line) = true := by rfl) (hs : starEach (b :: []) X.env = (false, eval b X.env) :: starEach [] X.env := by rfl) (hplain : (backTo cp (starEach [] X.env)).any (·.1) = false := by rfl) :
    DX X W (.Call (.Attribute a "index" ap) [b] [] cp) (eIdx m n) := by
  refine ⟨PE.weak (pe_bm PySem.F.plainAttrs_list PySem.F.slot_list_index PySem.F.type_list_index mt_index hm.pe (pa_cons hn.pe pa_nil hs) hbase hfew hline hs hplain) ?_⟩
  rintro σ H Q ⟨G, S, O, ρ, eK, st, q⟩
  refine ⟨G, S, O, ρ, eK, st, Fin.bind (rep' := rT G O) q fun t x S1 H1 s1 k1 st1 rp q1 => ?_⟩
  obtain ⟨S2, s2, st2, ro⟩ := RepT.settle st1 rp
  cases hl : lstD t.d with
  | none => rw [hl] at q1; exact q1.elim
  | some l =>
    rw [hl] at q1
    obtain ⟨p, vs, rfl, h1, r1⟩ := RepO.lst (t := t.set) (by rw [T.set_d]; exact lstD_eq hl) st2.exS ro
    refine ⟨.inl ⟨rfl, vs, by rw [← eK]; exact h1⟩, ?_⟩
    have q2 : Fin W (rT G O) ((n ρ).bind fun u => lift (dIdx l u.d)) G S1 O σ H1 ρ Q := q1
    refine ⟨G, S2, O, ρ, eK, st2, Fin.bind (rep' := rT G O) (q2.mono s2 (Same.refl H1)) fun u y S3 H3 s3 k3 st3 rp3 q3 => ?_⟩
    obtain ⟨S4, s4, st4, ro4⟩ := RepT.settle st3 rp3
    cases hz : dIdx l u.d with
    | none => rw [hz] at q3; exact q3.elim
    | some z =>
      rw [hz] at q3
      unfold dIdx at hz
      split at hz
      · rename_i i e1
        cases hi : intsOf l with
        | none => rw [hi] at hz; cases hz
        | some is =>
          rw [hi, Option.bind_some] at hz
          cases hj : idxI is i with
          | none => rw [hj] at hz; cases hz
          | some j =>
            rw [hj] at hz
            cases hz
            obtain ⟨g1, g2⟩ := idxI_some hj
            have hy := RepO.int (t := u.set) (by rw [T.set_d]; exact e1) ro4
            subst hy
            have hvs := Reps.ints r1 hi
            subst hvs
            refine ⟨p, is.map V.int, .int i, j, .int i, rfl, rfl, by rw [← eK]; exact ex_l k3 h1, rfl, flat_ints is, by rw [List.getElem?_map, g1]; rfl, beq_self_eq_true _, fun k z' hk hz' => ?_, ?_⟩
            · rw [List.getElem?_map] at hz'
              cases hw : is[k]? with
              | none => rw [hw] at hz'; cases hz'
              | some w =>
                rw [hw] at hz'
                cases hz'
                exact beq_false_of_ne (g2 k hk w hw)
            · exact q3 _ _ _ (Same.refl _) (Same.refl _) st3 (.int _)
      · cases hz
end
/-! ### a dict of a slot's own: numbers for keys -/
def putL {α : Type} (l : List (Int × α)) (j : Int) (v : α) : List (Int × α) := if (l.any fun p => decide (p.1 = j)) = true then l.map (fun p => if p.1 = j then (p.1, v) else p) else l ++ [(j, v)]
def keyN {α : Type} (p : Int × α) : Key × α := (Sum.inl p.1, p.2)
theorem putK_keyN (l : List (Int × V)) (j : Int) (v : V) : putK (l.map keyN) (Sum.inl j) v = (putL l j v).map keyN := by
  have e1 : ((l.map keyN).any fun kv => decide (kv.1 = Sum.inl j)) = l.any fun p => decide (p.1 = j) := by
    rw [List.any_map]
    congr 1
    funext p
    show decide ((Sum.inl p.1 : Key) = Sum.inl j) = decide (p.1 = j)
    by_cases h : p.1 = j <;> simp [h]
  unfold putK putL
  rw [e1]
  split
  · rw [List.map_map, List.map_map]
    refine List.map_congr_left fun p _ => ?_
    show (if (Sum.inl p.1 : Key) = Sum.inl j then ((Sum.inl p.1 : Key), v) else (Sum.inl p.1, p.2)) = keyN (if p.1 = j then (p.1, v) else p)
    by_cases h : p.1 = j
    · rw [if_pos h, if_pos (by rw [h])]
      rfl
    · rw [if_neg h, if_neg (fun z => h (Sum.inl.inj z))]
      rfl
  · rw [List.map_append]
    rfl
theorem any_keys {α β : Type} (j : Int) {l : List (Int × α)} {k : List (Int × β)} (h : k.map (·.1) = l.map (·.1)) : (k.any fun p => decide (p.1 = j)) = l.any fun p => decide (p.1 = j) := by
  have e1 : (k.any fun p => decide (p.1 = j)) = (k.map (·.1)).any fun x => decide (x = j) := by rw [List.any_map]; rfl
  have e2 : (l.any fun p => decide (p.1 = j)) = (l.map (·.1)).any fun x => decide (x = j) := by rw [List.any_map]; rfl
  rw [e1, e2, h]
theorem putL_rel {K : PySem.W.Frag} {S : Hp} {d : D} {v : V} (j : Int) (rv : Rep K S d v) {l : List (Int × D)} {k : List (Int × V)} (h : k.map (·.1) = l.map (·.1)) (r : Reps K S (l.map (·.2)) (k.map (·.2))) :
    (putL k j v).map (·.1) = (putL l j d).map (·.1) ∧ Reps K S ((putL l j d).map (·.2)) ((putL k j v).map (·.2)) := by
  have e := any_keys (α := D) (β := V) j h
  unfold putL
  rw [e]
  split
  · rename_i hc
    clear e hc
    induction l generalizing k with
    | nil =>
      cases k with
      | nil => exact ⟨rfl, .nil⟩
      | cons b k => cases h
    | cons a l ih =>
      cases k with
      | nil => cases h
      | cons b k =>
        rw [List.map_cons, List.map_cons] at h r
        have h1 := (List.cons.inj h).1
        have h2 := (List.cons.inj h).2
        cases r with
        | cons ra rl =>
          obtain ⟨i1, i2⟩ := ih h2 rl
          rw [List.map_cons, List.map_cons, List.map_cons, List.map_cons, List.map_cons, List.map_cons]
          by_cases hj : a.1 = j
          · rw [if_pos hj, if_pos (by rw [h1]; exact hj)]
            exact ⟨by rw [i1, h1], .cons rv i2⟩
          · rw [if_neg hj, if_neg (by rw [h1]; exact hj)]
            exact ⟨by rw [i1, h1], .cons ra i2⟩
  · rw [List.map_append, List.map_append, List.map_append, List.map_append, h]
    exact ⟨rfl, r.append (.cons rv .nil)⟩
theorem anyK (j : Int) (l : List (Int × V)) : (valV (l.map keyN) (Sum.inl j)).isSome = l.any fun p => decide (p.1 = j) := by
  rw [← valV_any, List.any_map]
  congr 1
  funext p
  show decide ((Sum.inl p.1 : Key) = Sum.inl j) = decide (p.1 = j)
  by_cases h : p.1 = j <;> simp [h]
def onDic (i : Nat) (ρ : Env) (k : List (Int × D) → Fl) : Fl := match ρ.getD i .no with
  | .dic l => k l
  | _ => .bad
theorem getD_dic {ρ : Env} {i : Nat} {l : List (Int × D)} (h : ρ.getD i .no = .dic l) : ρ[i]? = some (.dic l) := getD_sl (by intro z; cases z) h
theorem onDic_some {W : WX} {i : Nat} {ρ : Env} {k : List (Int × D) → Fl} {G : Gd} {En : Ends} (h : FinS W (onDic i ρ k) G En) : ∃ l, ρ[i]? = some (.dic l) ∧ FinS W (k l) G En := by
  unfold onDic at h
  split at h
  · rename_i l hl
    exact ⟨l, getD_dic hl, h⟩
  · exact h.elim
section
variable {G : Gd} {S : Hp} {O : Nat → List Addr} {σ : L2.St} {H : Hp} {ρ : Env}
theorem StR.setDic (st : StR G S O σ H ρ) (i : Nat) {p : Addr} (hp : H p = none) : ∃ O', StR G S O' (σ.set i (some (.ref p))) (upd H p (.dK [])) (ρ.set i (.dic [])) := by
  have sp : S p = none := by
    cases e : S p with
    | none => rfl
    | some u => rw [st.exS p u e] at hp; cases hp
  have bp : G.B p = none := by
    cases e : G.B p with
    | none => rfl
    | some u => rw [st.exB p u e] at hp; cases hp
  have st2 := st.grow (ex_upd (o := .dK []) hp)
  by_cases h : i < ρ.length
  · refine ⟨_, st2.setSl i h (F := [p]) ⟨p, [], rfl, rfl, upd_same, rfl, .nil⟩ fun b hb => ?_⟩
    have e : b = p := by simpa using hb
    subst e
    exact ⟨sp, bp, by rw [upd_same]; simp, fun j _ q => st.live j b q hp⟩
  · exact ⟨O, st2.setOut i (by omega) _ _⟩
theorem StR.putDic (st : StR G S O σ H ρ) {i : Nat} {l : List (Int × D)} {d : D} {v : V} (j : Int) (hi : ρ[i]? = some (.dic l)) (rv : Rep G.K S d v) : ∃ a kvs, σ[i]? = some (some (.ref a)) ∧ H a = some (.dK kvs) ∧ kvs.length = l.length ∧
    StR G S O σ (upd H a (.dK (putK kvs (Sum.inl j) v))) (ρ.set i (.dic (putL l j d))) := by
  obtain ⟨a, kvs, e1, e2, e3, z, q⟩ := st.slot i _ hi
  have hO : a ∈ O i := by rw [e2]; exact List.mem_cons_self
  obtain ⟨o1, o2⟩ := st.off i a hO
  have hlen : kvs.length = l.length := by
    have := congrArg List.length z
    rwa [List.length_map, List.length_map] at this
  refine ⟨a, _, e1, e3, by rw [List.length_map]; exact hlen, ⟨fun b o e => ?_, st.exS0, fun b o e => ?_, st.new, by rw [List.length_set]; exact st.len, fun k s e => ?_, st.off, fun k b q => ?_, st.apart, fun k hk => st.out k (by rw [List.length_set] at hk; exact hk)⟩⟩
  · rw [upd_ne (fun z => by rw [z, o2] at e; cases e)]
    exact st.exB b o e
  · rw [upd_ne (fun z => by rw [z, o1] at e; cases e)]
    exact st.exS b o e
  · rcases get_set e with ⟨rfl, rfl⟩ | ⟨ne, e⟩
    · obtain ⟨g1, g2⟩ := putL_rel j rv z q
      exact ⟨a, putL kvs j v, e1, e2, by rw [upd_same]; exact congrArg (fun x => some (HO.dK x)) (putK_keyN kvs j v), g1, g2⟩
    · refine (st.slot k s e).mono (Same.refl S) fun b o hb hq => ?_
      rw [upd_ne (fun z => ne (st.apart k i a (by rw [← z]; exact hb) hO))]
      exact hq
  · by_cases hb : b = a
    · subst hb
      rw [upd_same]; simp
    · rw [upd_ne hb]
      exact st.live k b q
end
section
variable {X : Cx} {W : WX} {e b : Expr} {m n : ME} {pos p p2 : Pos} {x : Str}
/-- x = {} -/
def sDNew (i : Nat) : MS := fun ρ => .nx (ρ.set i (.dic []))
theorem ds_dnew (i : Nat) {dp : Pos} (C : Ctx X W) (hi : X.N[i]? = some x := by rfl) (hx : Loc X.env.scope x := by first | exact .inl rfl | exact .inr rfl) (hs : swapsWith (.Dict [] [] dp) (some (.Name x p)) pos.line X.env = pure false := by rfl)
    (hf : X.fn x = true ∨ X.env.scope.names.lookup x = some .local := by first | exact .inl rfl | exact .inr rfl) : DS X W (.Assign [.Name x p] (.Dict [] [] dp) pos) (sDNew i) := by
  refine ⟨PS.weak (ps_set C.nd hi hx pe_dnewK hs hf) ?_⟩
  rintro D σ H ⟨G, S, O, ρ, eK, st, q⟩
  intro a ha
  obtain ⟨O', st'⟩ := st.setDic i ha
  exact q S O' _ _ st'
def intD : D → Option Int
  | .int i => some i
  | _ => none
theorem intD_eq {d : D} {i : Int} (h : intD d = some i) : d = .int i := by
  cases d <;> cases h
  rfl
/-- e not in x, x a dict of a slot's own -/
def cDNin (i : Nat) (m : ME) : MT := fun ρ => (m ρ).bind fun t => (lift (intD t.d)).bind fun k => match ρ.getD i .no with
  | .dic l => .ok (!(l.any fun q => decide (q.1 = k)))
  | _ => .bad
theorem dt_dnin (i : Nat) {ep : Pos} (C : Ctx X W) (he : DX X W e m) (hi : X.N[i]? = some x := by rfl) (hv : Vis X.env.scope x := by first | exact Or.inl rfl | exact Or.inr (Or.inl rfl) | exact Or.inr (Or.inr rfl)) (hd : (x == ("__debug__" : Str)) = false := by decide)
    (hcd : (x == ("__classdict__" : Str)) = false := by decide) : DT X W (.Compare e [.NotIn] [.Name x ep] pos) (cDNin i m) := by
  refine ⟨PT.weak (pt_cmp (pc_dnotin (by have := C.un; omega) he.pe (pe_var hi hv hd hcd)) rfl) ?_⟩
  rintro σ H Q ⟨G, S, O, ρ, eK, st, q⟩
  refine ⟨G, S, O, ρ, eK, st, Fin.bind (rep' := rT G O) q fun t y S1 H1 s1 k1 st1 rp q1 => ?_⟩
  obtain ⟨S2, s2, st2, ro⟩ := RepT.settle st1 rp
  cases hk : intD t.d with
  | none => rw [hk] at q1; exact q1.elim
  | some k =>
    rw [hk] at q1
    have hy := RepO.int (t := t.set) (by rw [T.set_d]; exact intD_eq hk) ro
    subst hy
    cases hr : ρ.getD i .no with
    | dic l =>
      have q2 : Fin W rB (.ok (!(l.any fun q => decide (q.1 = k)))) G S1 O σ H1 ρ Q := by
        have q3 : Fin W rB (match ρ.getD i .no with
          | .dic l => R.ok (!(l.any fun q => decide (q.1 = k)))
          | _ => .bad) G S1 O σ H1 ρ Q := q1
        rw [hr] at q3
        exact q3
      obtain ⟨a, kvs, e1, e2, e3, z, r⟩ := st2.slot i _ (getD_dic hr)
      refine ⟨.ref a, e1, a, _, rfl, DGet.k (k := Sum.inl k) e3, _, rfl, ?_⟩
      have ea : (valV (kvs.map fun p : Int × V => ((Sum.inl p.1 : Key), p.2)) (Sum.inl k)).isSome = l.any fun q => decide (q.1 = k) := (anyK k kvs).trans (any_keys k z)
      rw [ea]
      exact q2 _ S1 H1 (Same.refl _) (Same.refl _) st1 rfl
    | _ =>
      exfalso
      have q3 : Fin W rB (match ρ.getD i .no with
          | .dic l => R.ok (!(l.any fun q => decide (q.1 = k)))
          | _ => .bad) G S1 O σ H1 ρ Q := q1
      rw [hr] at q3
      exact q3
/-- x[k] = e, x a dict of a slot's own -/
def sDPut (i : Nat) (mk me : ME) : MS := fun ρ => toS ρ (me ρ) fun t => onDic i ρ fun l => toS ρ (mk ρ) fun k => nxO ((stT t.set).bind fun d => (intD k.d).bind fun j => if l.length < 100000 then some (ρ.set i (.dic (putL l j d))) else none)
theorem ds_dput (i : Nat) {p2 : Pos} (C : Ctx X W) (he : DX X W e m) (hk : DX X W b n) (hi : X.N[i]? = some x := by rfl) (hv : Vis X.env.scope x := by first | exact Or.inl rfl | exact Or.inr (Or.inl rfl) | exact Or.inr (Or.inr rfl)) (hd : (x == ("__debug__" : Str)) = false := by decide)
    (hcd : (x == ("__classdict__" : Str)) = false := by decide) (hs : swapsWith e (some (.Subscript (.Name x p) b p2)) pos.line X.env = pure false := by rfl) : DS X W (.Assign [.Subscript (.Name x p) b p2] e pos) (sDPut i n m) := by
  refine ⟨PS.weak (ps_dput (by have := C.un; omega) (pe_var hi hv hd hcd) hk.pe he.pe hs) ?_⟩
  rintro En σ H ⟨G, S, O, ρ, eK, st, q⟩
  refine ⟨G, S, O, ρ, eK, st, FinS.bind (rep := rT G O) q fun t v S1 H1 s1 k1 st1 rp q1 => ?_⟩
  obtain ⟨S2, s2, st2, ro⟩ := RepT.settle st1 rp
  obtain ⟨l, hl, q1⟩ := onDic_some q1
  obtain ⟨a, kvs, e1, e2, e3, z, r⟩ := st2.slot i _ hl
  refine ⟨.ref a, e1, G, S2, O, ρ, eK, st2, FinS.bind (rep := rT G O) q1 fun k y S3 H3 s3 k3 st3 rp3 q3 => ?_⟩
  obtain ⟨S4, s4, st4, ro4⟩ := RepT.settle st3 rp3
  obtain ⟨ρ', hρ, q3⟩ := nxO_some q3
  cases hz : stT t.set with
  | none => rw [hz] at hρ; cases hρ
  | some d =>
    rw [hz, Option.bind_some] at hρ
    rw [stT_set hz] at ro
    cases hj : intD k.d with
    | none => rw [hj] at hρ; cases hρ
    | some j =>
      rw [hj, Option.bind_some] at hρ
      split at hρ
      · rename_i hlen
        cases hρ
        have hy := RepO.int (t := k.set) (by rw [T.set_d]; exact intD_eq hj) ro4
        subst hy
        obtain ⟨a', kvs', e1', e2', e3', st5⟩ := st4.putDic j hl (Rep.mono (s3.trans s4) (show Rep G.K S2 d v from ro))
        rw [e1] at e1'
        cases e1'
        refine ⟨a, _, rfl, .inl ⟨kvs', Sum.inl j, e2', rfl, by rw [e3']; exact sz_lt hlen, rfl⟩, ?_⟩
        exact q3 _ _ _ _ st5
      · cases hρ
end
end RF

set_option Elab.async false
set_option linter.all false
set_option maxRecDepth 100000
set_option autoImplicit false
set_option maxHeartbeats 0
/-! RF, part P: a list of lists of a slot's own, its rows its own, too -/
namespace RF
open PySem PySem.Spec L2 PyProof.Rows
section
variable {G : Gd} {S : Hp} {O : Nat → List Addr} {σ : L2.St} {H : Hp} {ρ : Env}
/-- rows that are no slot's are let stand -/
theorem StR.adoptRows : ∀ (as : List Addr) (ls : List (List D)) (S : Hp), StR G S O σ H ρ → as.Nodup → as.length = ls.length → (∀ b ∈ as, S b = none ∧ G.B b = none ∧ ∀ j, b ∉ O j) →
    (∀ (i : Nat) (b : Addr) (l : List D), as[i]? = some b → ls[i]? = some l → ∃ vs, H b = some (.lst vs) ∧ Reps G.K S l vs) →
    ∃ S', Ex S S' ∧ StR G S' O σ H ρ ∧ Reps G.K S' (ls.map D.lst) (as.map V.ref) ∧ (∀ c, c ∉ as → S' c = S c) ∧ ∀ b ∈ as, S' b ≠ none
  | [], [], S, st, _, _, _, _ => ⟨S, Same.refl S, st, .nil, fun _ _ => rfl, fun _ h => (by cases h)⟩
  | [], _ :: _, _, _, _, h, _, _ => by cases h
  | _ :: _, [], _, _, _, h, _, _ => by cases h
  | a :: as, l :: ls, S, st, nd, hl, hf, hc => by
    obtain ⟨vs, ha, ra⟩ := hc 0 a l rfl rfl
    obtain ⟨sa, ba, oa⟩ := hf a List.mem_cons_self
    obtain ⟨st1, e1⟩ := st.adopt ha sa ba oa
    obtain ⟨na, nd'⟩ := List.nodup_cons.mp nd
    have h1 : ∀ b ∈ as, upd S a (.lst vs) b = none ∧ G.B b = none ∧ ∀ j, b ∉ O j := fun b hb => by
      obtain ⟨s1, s2, s3⟩ := hf b (List.mem_cons_of_mem _ hb)
      exact ⟨by rw [upd_ne (fun z => na (by rw [← z]; exact hb))]; exact s1, s2, s3⟩
    have h2 : ∀ (i : Nat) (b : Addr) (l : List D), as[i]? = some b → ls[i]? = some l → ∃ vs', H b = some (.lst vs') ∧ Reps G.K (upd S a (.lst vs)) l vs' := fun i b l' h1 h2 => by
      obtain ⟨ws, h3, h4⟩ := hc (i + 1) b l' (by rw [List.getElem?_cons_succ]; exact h1) (by rw [List.getElem?_cons_succ]; exact h2)
      exact ⟨ws, h3, h4.mono e1⟩
    obtain ⟨S', e2, st2, rs, ho, hn⟩ := StR.adoptRows as ls (upd S a (.lst vs)) st1 nd' (Nat.succ.inj hl) h1 h2
    refine ⟨S', e1.trans e2, st2, .cons (.lst (.inl (.inl (e2 _ _ upd_same))) (ra.mono (e1.trans e2))) rs, fun c hcc => ?_, fun b hb => ?_⟩
    · rw [ho c (fun z => hcc (List.mem_cons_of_mem _ z)), upd_ne (fun z => hcc (by rw [z]; exact List.mem_cons_self))]
    · rcases List.mem_cons.mp hb with z | z
      · rw [z, e2 a _ upd_same]
        exact fun z => by cases z
      · exact hn b z
theorem StR.freeze2 (st : StR G S O σ H ρ) {i : Nat} {ls : List (List D)} (hi : ρ[i]? = some (.own2 ls)) : ∃ S' O' v, Ex S S' ∧ StR G S' O' σ H (ρ.set i (.val (.lst (ls.map D.lst)))) ∧ σ[i]? = some (some v) ∧ Rep G.K S' (.lst (ls.map D.lst)) v ∧ (∀ j, j ≠ i → O' j = O j) ∧ ∀ b ∈ O i, S' b ≠ none := by
  obtain ⟨a, as, e1, e2, nd, e3, hl, hc⟩ := st.slot i _ hi
  have hlen : i < σ.length := (List.getElem?_eq_some_iff.mp e1).1
  have st1 := st.drop i (some (.ref a))
  have es : σ.set i (some (.ref a)) = σ := by
    refine List.ext_getElem? fun j => ?_
    by_cases hj : i = j
    · subst hj
      rw [List.getElem?_set_self hlen, e1]
    · rw [List.getElem?_set_ne hj]
  rw [es] at st1
  rw [e2] at nd
  obtain ⟨na, nd'⟩ := List.nodup_cons.mp nd
  have hO : ∀ b ∈ a :: as, S b = none ∧ G.B b = none ∧ ∀ j, b ∉ (if j = i then [] else O j) := fun b hb => by
    have hb' : b ∈ O i := by rw [e2]; exact hb
    obtain ⟨o1, o2⟩ := st.off i b hb'
    refine ⟨o1, o2, fun j hj => ?_⟩
    split at hj
    · cases hj
    · rename_i ne
      exact ne (st.apart j i b hj hb')
  obtain ⟨S1, x1, st2, rs, ho, hn⟩ := StR.adoptRows as ls S st1 nd' hl (fun b hb => hO b (List.mem_cons_of_mem _ hb)) hc
  obtain ⟨s1, s2, s3⟩ := hO a List.mem_cons_self
  obtain ⟨st3, x2⟩ := st2.adopt e3 (by rw [ho a na]; exact s1) s2 s3
  have rp : Rep G.K (upd S1 a (.lst (as.map V.ref))) (.lst (ls.map D.lst)) (.ref a) := .lst (.inl (.inl upd_same)) (rs.mono x2)
  have hil : i < (ρ.set i .no).length := by
    rw [List.length_set, ← st.len]
    exact hlen
  have st4 := st3.setSl i hil (s := .val (.lst (ls.map D.lst))) (F := []) ⟨rfl, .ref a, rfl, rp⟩ (fun b hb => by cases hb)
  rw [es, List.set_set] at st4
  refine ⟨_, _, .ref a, x1.trans x2, st4, e1, rp, fun j hj => ?_, fun b hb => ?_⟩
  · show (if j = i then [] else if j = i then [] else O j) = O j
    rw [if_neg hj, if_neg hj]
  · rw [e2] at hb
    rcases List.mem_cons.mp hb with z | z
    · rw [z, upd_same]; simp
    · have := hn b z
      obtain ⟨u, hu⟩ := Option.ne_none_iff_exists'.mp this
      rw [x2 b u hu]; simp
/-- a tuple of a list of its own and a value is let stand -/
theorem StR.freezeP (st : StR G S O σ H ρ) {i : Nat} {l : List D} {d : D} (hi : ρ[i]? = some (.pr l d)) : ∃ S' O', Ex S S' ∧ StR G S' O' σ H (ρ.set i (.val (.tup [.lst l, d]))) ∧ (∀ j, j ≠ i → O' j = O j) ∧ ∀ b ∈ O i, S' b ≠ none := by
  obtain ⟨a, b, vs, w, e1, e2, e3, e4, r, q⟩ := st.slot i _ hi
  have hlen : i < σ.length := (List.getElem?_eq_some_iff.mp e1).1
  have st1 := st.drop i (some (.ref a))
  have es : σ.set i (some (.ref a)) = σ := by
    refine List.ext_getElem? fun j => ?_
    by_cases hj : i = j
    · subst hj
      rw [List.getElem?_set_self hlen, e1]
    · rw [List.getElem?_set_ne hj]
  rw [es] at st1
  have hb' : b ∈ O i := by rw [e2]; exact List.mem_cons_self
  obtain ⟨o1, o2⟩ := st.off i b hb'
  obtain ⟨st3, x2⟩ := st1.adopt e4 o1 o2 (fun j hj => by
    have hj' : b ∈ (if j = i then [] else O j) := hj
    split at hj'
    · cases hj'
    · rename_i ne
      exact ne (st.apart j i b hj' hb'))
  have rp : Rep G.K (upd S b (.lst vs)) (.tup [.lst l, d]) (.ref a) := .tup (.inl (.inl (x2 _ _ e3))) (.cons (.lst (.inl (.inl upd_same)) (r.mono x2)) (.cons (q.mono x2) .nil))
  have hil : i < (ρ.set i .no).length := by
    rw [List.length_set, ← st.len]
    exact hlen
  have st4 := st3.setSl i hil (s := .val (.tup [.lst l, d])) (F := []) ⟨rfl, .ref a, rfl, rp⟩ (fun b hb => by cases hb)
  rw [es, List.set_set] at st4
  refine ⟨_, _, x2, st4, fun j hj => ?_, fun c hb => ?_⟩
  · show (if j = i then [] else if j = i then [] else O j) = O j
    rw [if_neg hj, if_neg hj]
  · rw [e2] at hb
    rcases List.mem_cons.mp hb with z | z
    · rw [z, upd_same]; simp
    · cases z
/-- a row is written -/
theorem StR.write2 (st : StR G S O σ H ρ) {i j : Nat} {ls : List (List D)} {l' : List D} {a b : Addr} {as : List Addr} {vs' : List V} (hi : ρ[i]? = some (.own2 ls)) (hO : O i = a :: as) (hb : as[j]? = some b) (r : Reps G.K S l' vs') :
    StR G S O σ (upd H b (.lst vs')) (ρ.set i (.own2 (ls.set j l'))) := by
  obtain ⟨a', as', e1, e2, nd, e3, hl, hc⟩ := st.slot i _ hi
  rw [hO] at e2
  cases e2
  have hbm : b ∈ as := List.mem_of_getElem? hb
  have hbO : b ∈ O i := by rw [hO]; exact List.mem_cons_of_mem _ hbm
  obtain ⟨o1, o2⟩ := st.off i b hbO
  rw [hO] at nd
  obtain ⟨na, nd'⟩ := List.nodup_cons.mp nd
  have hab : a ≠ b := fun z => na (by rw [z]; exact hbm)
  refine ⟨fun c o e => ?_, st.exS0, fun c o e => ?_, st.new, by rw [List.length_set]; exact st.len, fun k s e => ?_, st.off, fun k c q => ?_, st.apart, fun k hk => st.out k (by rw [List.length_set] at hk; exact hk)⟩
  · rw [upd_ne (fun z => by rw [z, o2] at e; cases e)]
    exact st.exB c o e
  · rw [upd_ne (fun z => by rw [z, o1] at e; cases e)]
    exact st.exS c o e
  · rcases get_set e with ⟨rfl, rfl⟩ | ⟨ne, e⟩
    · refine ⟨a, as, e1, hO, by rw [hO]; exact nd, by rw [upd_ne hab]; exact e3, by rw [List.length_set]; exact hl, fun n c l h1 h2 => ?_⟩
      by_cases hn : j = n
      · subst hn
        rw [hb] at h1
        cases h1
        rw [List.getElem?_set_self (by rw [← hl]; exact (List.getElem?_eq_some_iff.mp hb).1)] at h2
        cases h2
        exact ⟨vs', upd_same, r⟩
      · rw [List.getElem?_set_ne hn] at h2
        obtain ⟨ws, h3, h4⟩ := hc n c l h1 h2
        refine ⟨ws, ?_, h4⟩
        rw [upd_ne]
        · exact h3
        · intro z
          subst z
          exact hn ((List.getElem?_inj (by exact (List.getElem?_eq_some_iff.mp hb).1) nd').mp (hb.trans h1.symm))
    · refine (st.slot k s e).mono (Same.refl S) fun c o hc' hq => ?_
      rw [upd_ne (fun z => ne (st.apart k i b (by rw [← z]; exact hc') hbO))]
      exact hq
  · by_cases hcb : c = b
    · subst hcb
      rw [upd_same]; simp
    · rw [upd_ne hcb]
      exact st.live k c q
end
/-! ### reading: what is told by a slot's own lists, as long as nothing of them goes into the answer -/
def fzz (i : Nat) (ρ : Env) : Env := match ρ.getD i .no with
  | .own2 ls => ρ.set i (.val (.lst (ls.map D.lst)))
  | .pr l d => ρ.set i (.val (.tup [.lst l, d]))
  | _ => ρ
def scD : D → Bool
  | .non => true
  | .bl _ => true
  | .int _ => true
  | .str _ => true
  | _ => false
def scal : T → Option T
  | .st d => if scD d = true then some (.st d) else none
  | .fr l => if l.all scD = true then some (.fr l) else none
  | .sl _ => none
theorem Rep.sc {K : PySem.W.Frag} {S S' : Hp} {d : D} {v : V} (h : scD d = true) (r : Rep K S d v) : Rep K S' d v := by
  cases r with
  | non => exact .non
  | bl b => exact .bl b
  | int i => exact .int i
  | str x => exact .str x
  | _ => cases h
theorem Reps.sc {K : PySem.W.Frag} {S S' : Hp} : ∀ {l : List D} {vs : List V}, l.all scD = true → Reps K S l vs → Reps K S' l vs
  | _, _, _, .nil => .nil
  | _, _, h, .cons r q => by
    rw [List.all_cons, Bool.and_eq_true] at h
    exact .cons (r.sc h.1) (Reps.sc h.2 q)
def eScal (i : Nat) (m : ME) : ME := fun ρ => (noX (m (fzz i ρ))).bind fun t => lift (scal t)
section
variable {X : Cx} {W : WX} {e : Expr} {m : ME}
theorem dx_scal (i : Nat) (h : DX X W e m) : DX X W e (eScal i m) := by
  refine ⟨PE.weak h.pe ?_⟩
  rintro σ H Q ⟨G, S, O, ρ, eK, st, q⟩
  have key : ∃ S' O', Ex S S' ∧ StR G S' O' σ H (fzz i ρ) ∧ ∀ j b, b ∈ O j → b ∈ O' j ∨ S' b ≠ none := by
    unfold fzz
    cases hr : ρ.getD i .no with
    | own2 ls =>
      obtain ⟨S', O', v, x1, st', _, _, h1, h2⟩ := st.freeze2 (getD_sl (by intro z; cases z) hr)
      refine ⟨S', O', x1, st', fun j b hb => ?_⟩
      by_cases hj : j = i
      · subst hj
        exact .inr (h2 b hb)
      · rw [h1 j hj]
        exact .inl hb
    | pr l d =>
      obtain ⟨S', O', x1, st', h1, h2⟩ := st.freezeP (getD_sl (by intro z; cases z) hr)
      refine ⟨S', O', x1, st', fun j b hb => ?_⟩
      by_cases hj : j = i
      · subst hj
        exact .inr (h2 b hb)
      · rw [h1 j hj]
        exact .inl hb
    | _ => exact ⟨S, O, Same.refl S, st, fun _ _ hb => .inl hb⟩
  obtain ⟨S', O', x1, st', hOO⟩ := key
  refine ⟨G, S', O', fzz i ρ, eK, st', ?_⟩
  unfold eScal at q
  cases hm : m (fzz i ρ) with
  | bad => rw [hm] at q; exact q
  | ex x => rw [hm] at q; exact q.elim
  | ok t =>
    rw [hm] at q
    have q : Fin W (rT G O) (lift (scal t)) G S O σ H ρ Q := q
    intro v S2 H2 e2 k2 st2 rp
    have rp : RepT G S2 O' H2 t v := rp
    cases t with
    | sl l => exact q.elim
    | st d =>
      by_cases hd : scD d = true
      · rw [show scal (.st d) = some (.st d) from if_pos hd] at q
        exact q v S H2 (Same.refl S) k2 (st.grow k2) (Rep.sc hd rp)
      · rw [show scal (.st d) = none from if_neg hd] at q
        exact q.elim
    | fr l =>
      by_cases hd : l.all scD = true
      · rw [show scal (.fr l) = some (.fr l) from if_pos hd] at q
        obtain ⟨a, vs, h1, h2, h3, h4, h5, h6⟩ := rp
        refine q v S H2 (Same.refl S) k2 (st.grow k2) ⟨a, vs, h1, ?_, h3, fun j hj => ?_, h5, Reps.sc hd h6⟩
        · cases z : S a with
          | none => rfl
          | some u => rw [e2 a u (x1 a u z)] at h2; cases h2
        · rcases hOO j a hj with z | z
          · exact h4 j z
          · obtain ⟨u, hu⟩ := Option.ne_none_iff_exists'.mp z
            rw [e2 a u hu] at h2
            cases h2
      · rw [show scal (.fr l) = none from if_neg hd] at q
        exact q.elim
/-- ahead of a statement a slot's own lists are let stand -/
def sFzz (i : Nat) (s : MS) : MS := fun ρ => s (fzz i ρ)
theorem ds_fzz {st : Stmt} {s : MS} (i : Nat) (h : DS X W st s) : DS X W st (sFzz i s) := by
  refine ⟨PS.weak h.ps ?_⟩
  rintro D σ H ⟨G, S, O, ρ, eK, st, q⟩
  unfold sFzz fzz at q
  cases hr : ρ.getD i .no with
  | own2 ls =>
    rw [hr] at q
    obtain ⟨S', O', v, x1, st', _⟩ := st.freeze2 (getD_sl (by intro z; cases z) hr)
    exact ⟨G, S', O', _, eK, st', q⟩
  | pr l d =>
    rw [hr] at q
    obtain ⟨S', O', x1, st', _⟩ := st.freezeP (getD_sl (by intro z; cases z) hr)
    exact ⟨G, S', O', _, eK, st', q⟩
  | _ =>
    rw [hr] at q
    exact ⟨G, S, O, ρ, eK, st, q⟩
end
end RF

set_option Elab.async false
set_option linter.all false
set_option maxRecDepth 100000
set_option autoImplicit false
set_option maxHeartbeats 0
/-! RF, part Q: a list of lists of a slot's own is made by a comprehension -/
namespace RF
open PySem PySem.Spec L2 PyProof.Rows
def frT : T → Option (List D)
  | .fr l => some l
  | _ => none
def comp2D (g : MG) (me : ME) (ρ : Env) : List D → R (List (List D))
  | [] => .ok []
  | d :: ds => match g d ρ with
    | none => .bad
    | some ρ1 => (noX (me ρ1)).bind fun t => (lift (frT t)).bind fun x => (comp2D g me ρ ds).bind fun r => .ok (x :: r)
def sOwn2 (i : Nat) (mi : MI) (vs : List Nat) (g : MG) (me : ME) : MS := fun ρ => if noOwn ρ vs = true then toS ρ (mi ρ) fun ds => match comp2D g me (wipeE ρ vs) ds with
  | .ok ls => if ds.length ≤ 100000 then .nx (ρ.set i (.own2 ls)) else .bad
  | _ => .bad else .bad
/-- the rows that are made, the newest first, set aside -/
def rowB (B : Hp) : List (Addr × List V) → Hp
  | [] => B
  | r :: rs => upd (rowB B rs) r.1 (.lst r.2)
def RowsR (K : PySem.W.Frag) (S : Hp) : List (List D) → List (Addr × List V) → Prop
  | [], [] => True
  | l :: ls, r :: rs => Reps K S l r.2 ∧ RowsR K S ls rs
  | _, _ => False
theorem RowsR.mono {K : PySem.W.Frag} {S S' : Hp} (e : Ex S S') : ∀ {ls : List (List D)} {rs : List (Addr × List V)}, RowsR K S ls rs → RowsR K S' ls rs
  | [], [], _ => trivial
  | _ :: _, _ :: _, h => ⟨h.1.mono e, RowsR.mono e h.2⟩
  | [], _ :: _, h => h.elim
  | _ :: _, [], h => h.elim
theorem RowsR.len {K : PySem.W.Frag} {S : Hp} : ∀ {ls : List (List D)} {rs : List (Addr × List V)}, RowsR K S ls rs → ls.length = rs.length
  | [], [], _ => rfl
  | _ :: _, _ :: _, h => by rw [List.length_cons, List.length_cons, RowsR.len h.2]
  | [], _ :: _, h => h.elim
  | _ :: _, [], h => h.elim
theorem RowsR.get {K : PySem.W.Frag} {S : Hp} : ∀ {ls : List (List D)} {rs : List (Addr × List V)} {i : Nat} {l : List D} {r : Addr × List V}, RowsR K S ls rs → ls[i]? = some l → rs[i]? = some r → Reps K S l r.2
  | [], [], _, _, _, _, h, _ => by simp at h
  | l0 :: ls, r0 :: rs, 0, l, r, h, h1, h2 => by
    simp at h1 h2
    subst h1
    subst h2
    exact h.1
  | l0 :: ls, r0 :: rs, i + 1, l, r, h, h1, h2 => by
    rw [List.getElem?_cons_succ] at h1 h2
    exact RowsR.get h.2 h1 h2
  | [], _ :: _, _, _, _, h, _, _ => h.elim
  | _ :: _, [], _, _, _, h, _, _ => h.elim
theorem rowB_none {B : Hp} {b : Addr} : ∀ {rs : List (Addr × List V)}, rowB B rs b = none → B b = none ∧ b ∉ rs.map (·.1)
  | [], h => ⟨h, by simp⟩
  | r :: rs, h => by
    unfold rowB at h
    by_cases e : b = r.1
    · rw [e, upd_same] at h; cases h
    · rw [upd_ne e] at h
      obtain ⟨h1, h2⟩ := rowB_none h
      refine ⟨h1, ?_⟩
      rw [List.map_cons, List.mem_cons]
      exact fun z => z.elim e h2
theorem rowB_mem {B : Hp} : ∀ {rs : List (Addr × List V)} {r : Addr × List V}, (rs.map (·.1)).Nodup → r ∈ rs → rowB B rs r.1 = some (.lst r.2)
  | r0 :: rs, r, nd, h => by
    rw [List.map_cons] at nd
    obtain ⟨n1, n2⟩ := List.nodup_cons.mp nd
    unfold rowB
    rcases List.mem_cons.mp h with z | z
    · rw [z, upd_same]
    · have : r.1 ≠ r0.1 := fun e => n1 (by rw [← e]; exact List.mem_map.mpr ⟨r, z, rfl⟩)
      rw [upd_ne this]
      exact rowB_mem n2 z
theorem rowB_off {B : Hp} {b : Addr} : ∀ {rs : List (Addr × List V)}, b ∉ rs.map (·.1) → rowB B rs b = B b
  | [], _ => rfl
  | r :: rs, h => by
    unfold rowB
    rw [List.map_cons, List.mem_cons] at h
    rw [upd_ne (fun z => h (.inl z))]
    exact rowB_off (fun z => h (.inr z))
/-- a thing that is there is set aside -/
theorem StR.asideOld {G : Gd} {B : Hp} {S : Hp} {O : Nat → List Addr} {σ : L2.St} {H : Hp} {ρ : Env} {p : Addr} {o : HO} (st : StR ⟨G.K, B, G.S0⟩ S O σ H ρ) (hp : H p = some o) (sp : S p = none) (hO : ∀ i, p ∉ O i) : StR ⟨G.K, upd B p o, G.S0⟩ S O σ H ρ := by
  refine ⟨fun b u e => ?_, st.exS0, st.exS, fun b hb => ?_, st.len, st.slot, fun i a q => ⟨(st.off i a q).1, ?_⟩, st.live, st.apart, st.out⟩
  · have e : upd B p o b = some u := e
    by_cases hb : b = p
    · subst hb
      rw [upd_same] at e
      cases e
      exact hp
    · rw [upd_ne hb] at e
      exact st.exB b u e
  · have hb' : b ≠ p := fun z => hb (by rw [z]; exact sp)
    rcases st.new b hb with h | h
    · exact .inl h
    · refine .inr ?_
      show upd B p o b = none
      rw [upd_ne hb']
      exact h
  · show upd B p o a = none
    rw [upd_ne (fun z => hO i (by rw [← z]; exact q))]
    exact (st.off i a q).2
def refs (rs : List (Addr × List V)) : List V := (rs.map fun r => V.ref r.1).reverse
theorem refs_cons (r : Addr × List V) (rs : List (Addr × List V)) : refs (r :: rs) = refs rs ++ [V.ref r.1] := by
  unfold refs
  rw [List.map_cons, List.reverse_cons]
theorem refs_length (rs : List (Addr × List V)) : (refs rs).length = rs.length := by
  unfold refs
  rw [List.length_reverse, List.length_map]
/-- a turn's state -/
structure Tn (G : Gd) (g : MG) (me : ME) (vs : List Nat) (σ : L2.St) (ρ : Env) (S1 H1 : Hp) (Da : Addr) (ds : List D) (ls : List (List D)) (i : Nat) (H2 : Hp) (rs : List (Addr × List V)) (lr l2 : List (List D)) (S2 : Hp) (O2 : Nat → List Addr) : Prop where
  ex : Ex S1 S2
  sd : S2 Da = none
  up : ∀ b o, H1 b = some o → H2 b = some o
  at_ : H2 Da = some (.lst (refs rs))
  len : rs.length ≤ i
  rows : RowsR G.K S2 lr rs
  eq : ls = lr.reverse ++ l2
  rest : comp2D g me (wipeE ρ vs) (ds.drop i) = .ok l2
  nd : (Da :: rs.map (·.1)).Nodup
  off : ∀ r ∈ rs, S1 r.1 = none ∧ S2 r.1 = none ∧ G.B r.1 = none
  st : StR ⟨G.K, upd (rowB G.B rs) Da (.lst (refs rs)), G.S0⟩ S2 O2 (L2.wipe σ vs) H2 (wipeE ρ vs)
section
variable {X : Cx} {W : WX} {elt iter tg : Expr} {mi : MI} {g : MG} {me : ME} {pos : Pos}
/-- what the turns keep of the rows and of the list -/
theorem Tn.keep {G : Gd} {vs : List Nat} {σ : L2.St} {ρ : Env} {S1 H1 : Hp} {Da : Addr} {ds : List D} {ls : List (List D)} {i : Nat} {H2 : Hp} {rs : List (Addr × List V)} {lr l2 : List (List D)} {S2 : Hp} {O2 : Nat → List Addr}
    (t : Tn G g me vs σ ρ S1 H1 Da ds ls i H2 rs lr l2 S2 O2) (s0 : Ex G.S0 S1) (sp : S1 Da = none) {S6 : Hp} {O6 : Nat → List Addr} {σ6 : L2.St} {H6 : Hp} {ρ6 : Env} (z : StR ⟨G.K, upd (rowB G.B rs) Da (.lst (refs rs)), G.S0⟩ S6 O6 σ6 H6 ρ6) :
    S6 Da = none ∧ H6 Da = some (.lst (refs rs)) ∧ ∀ r ∈ rs, S6 r.1 = none := by
  have key : ∀ b, S1 b = none → upd (rowB G.B rs) Da (.lst (refs rs)) b ≠ none → S6 b = none := fun b h1 h2 => by
    cases e : S6 b with
    | none => rfl
    | some u =>
      rcases z.new b (by rw [e]; simp) with h | h
      · exfalso
        obtain ⟨u', hu⟩ := Option.ne_none_iff_exists'.mp h
        have hu1 := s0 b u' hu
        rw [h1] at hu1
        cases hu1
      · exact absurd h h2
  obtain ⟨n1, n2⟩ := List.nodup_cons.mp t.nd
  refine ⟨key Da sp (by rw [upd_same]; simp), z.exB Da _ upd_same, fun r hr => key r.1 (t.off r hr).1 ?_⟩
  have ne : r.1 ≠ Da := fun e => n1 (by rw [← e]; exact List.mem_map.mpr ⟨r, hr, rfl⟩)
  rw [upd_ne ne, rowB_mem n2 hr]
  simp
theorem ds_own2 (i : Nat) {y : Str} {py spos : Pos} {scope : Scope} (own : List (Str × Nat)) (C : Ctx X W) (hi : DIc X W tg iter mi) (ok : BlkOk X.N X.env.scope scope own)
    (hg : ∀ (s : Shared) (H : Hp) (C : Addr) (cl : List (Str × Addr)) (fp : List Addr), DGc (X.blk s H scope (compEnvC scope cl C X.env) fp) tg g (own.map (·.2)))
    (he : ∀ (s : Shared) (H : Hp) (C : Addr) (cl : List (Str × Addr)) (fp : List Addr), DX (X.blk s H scope (compEnvC scope cl C X.env) fp) WF elt me)
    (hsw : swapsWith (.ListComp elt [⟨tg, iter, [], 0⟩] scope pos) (some (.Name y py)) spos.line X.env = pure true)
    (hy : X.N[i]? = some y := by rfl) (hyl : X.env.scope.names.lookup y = some .local := by rfl) (hs : ∀ x, foldedSetIterable iter X.env x = pure x := by intro _; rfl) :
    DS X W (.Assign [.Name y py] (.ListComp elt [⟨tg, iter, [], 0⟩] scope pos) spos) (sOwn2 i mi (own.map (·.2)) g me) := by
  generalize hvs : own.map (·.2) = vs at *
  have base := ps_setLc (te := tE X.K WF me) (tt := tT X.K WF cYes) (g := tGo X.K g (own.map (·.2))) C.calm C.nd hy hyl hsw hi.pi ok (fun s H C cl fp => by rw [hvs]; exact (hg s H C cl fp).pg) (fun s H C cl fp => (dts_nil (W := WF)).pts) (fun s H C cl fp => (he s H C cl fp).pe) hs
  rw [hvs] at base
  refine ⟨PS.weak base ?_⟩
  rintro D σ H ⟨G, S, O, ρ, eK, st, q⟩
  unfold sOwn2 at q
  split at q
  case isFalse => exact q.elim
  rename_i hno
  refine ⟨G, S, O, ρ, eK, st, FinS.bind (rep := rYc X.K) q fun ds J S1 H1 s1 k1 st1 yl q1 => ?_⟩
  intro Da hDa
  cases hcd : comp2D g me (wipeE ρ vs) ds with
  | bad => rw [hcd] at q1; exact q1.elim
  | ex x => rw [hcd] at q1; exact q1.elim
  | ok ls =>
    rw [hcd] at q1
    have q1 : FinS W (if ds.length ≤ 100000 then .nx (ρ.set i (.own2 ls)) else .bad) G D := q1
    split at q1
    case isFalse => exact q1.elim
    rename_i hbig
    have stw := st1.wipe vs
    obtain ⟨st2, sp, bp, op⟩ := st1.aside (o := .lst []) hDa
    have stw2 := (stw.aside (o := .lst []) hDa).1
    refine ⟨fun k n H2 => n = ds.length - k ∧ k ≤ ds.length ∧ ∃ rs lr l2 S2 O2, Tn G g me vs σ ρ S1 H1 Da ds ls k H2 rs lr l2 S2 O2, ⟨_, rfl, Nat.zero_le _, [], [], ls, S1, _, ⟨Same.refl _, sp, fun b o e => ?_, upd_same, Nat.le_refl _, trivial, rfl, hcd, by simp, fun r hr => (by cases hr), stw2⟩⟩, ?_⟩
    · rw [upd_ne (fun z => by rw [z, hDa] at e; cases e)]
      exact e
    rintro k n H2 ⟨rfl, hle, rs, lr, l2, S2, O2, t⟩
    by_cases hlt : k < ds.length
    · refine .inr ⟨yl.go H2 t.up k hlt, fun H3 => k + 1 ≤ ds.length ∧ ∃ rs lr l2 S2 O2, Tn G g me vs σ ρ S1 H1 Da ds ls (k + 1) H3 rs lr l2 S2 O2, fun H3 h => ⟨ds.length - (k + 1), by omega, rfl, h⟩, fun x H3 hyy => ?_⟩
      obtain ⟨d, hd, hx⟩ := yl.yld H2 t.up k x H3 hlt hyy
      have hcd2 := t.rest
      rw [drop_get hd] at hcd2
      unfold comp2D at hcd2
      cases hgd : g d (wipeE ρ vs) with
      | none => rw [hgd] at hcd2; cases hcd2
      | some ρ3 =>
        rw [hgd] at hcd2
        have hcd2 : ((noX (me ρ3)).bind fun t => (lift (frT t)).bind fun x => (comp2D g me (wipeE ρ vs) (ds.drop (k + 1))).bind fun r => .ok (x :: r)) = .ok l2 := hcd2
        have turn : ∀ S4, Ex S2 S4 → (∀ b o, H2 b = some o → H3 b = some o) → StR ⟨G.K, upd (rowB G.B rs) Da (.lst (refs rs)), G.S0⟩ S4 O2 (L2.wipe σ vs) H3 (wipeE ρ vs) → Rep G.K S4 d x →
            tGo X.K g vs x (L2.wipe σ vs) H3 fun σ2 H2 => L2.wipe σ2 vs = L2.wipe σ vs ∧ tT X.K WF cYes σ2 H2 fun b H3 => if b = true then tE X.K WF me σ2 H3 fun y H4 => ∃ acc, H4 Da = some (.lst acc) ∧ acc.length < sizeLine ∧ (fun H3 => k + 1 ≤ ds.length ∧ ∃ rs lr l2 S2 O2, Tn G g me vs σ ρ S1 H1 Da ds ls (k + 1) H3 rs lr l2 S2 O2) (upd H4 Da (.lst (acc ++ [y]))) else (fun H3 => k + 1 ≤ ds.length ∧ ∃ rs lr l2 S2 O2, Tn G g me vs σ ρ S1 H1 Da ds ls (k + 1) H3 rs lr l2 S2 O2) H3 := by
          intro S4 e4 k4 st4 rp4
          refine ⟨⟨G.K, upd (rowB G.B rs) Da (.lst (refs rs)), G.S0⟩, S4, O2, wipeE ρ vs, d, ρ3, eK, st4, by rw [← eK]; exact rp4, hgd, fun O5 σ5 st5 w1 w2 => ?_⟩
          have w1' : L2.wipe σ5 vs = L2.wipe σ vs := w1.trans (wipe_wipe σ vs vs fun _ h => h)
          have w2' : wipeE ρ3 vs = wipeE ρ vs := w2.trans (wipeE_wipe ρ vs vs fun _ h => h)
          refine ⟨w1', ⟨G.K, upd (rowB G.B rs) Da (.lst (refs rs)), G.S0⟩, S4, O5, ρ3, eK, st5, ?_⟩
          intro b' S6 H6 e6 k6 st6 rb
          cases rb
          rw [if_pos rfl]
          refine ⟨⟨G.K, upd (rowB G.B rs) Da (.lst (refs rs)), G.S0⟩, S6, O5, ρ3, eK, st6, Fin.noX ?_⟩
          cases hm : noX (me ρ3) with
          | bad => rw [hm] at hcd2; cases hcd2
          | ex y => rw [hm] at hcd2; cases hcd2
          | ok tt =>
            rw [hm, R.bind_ok] at hcd2
            intro y8 S8 H8 e8 k8 st8 rp8
            cases tt with
            | st d' => cases hcd2
            | sl l' => cases hcd2
            | fr row =>
              have hcd3 : (comp2D g me (wipeE ρ vs) (ds.drop (k + 1))).bind (fun r => R.ok (row :: r)) = .ok l2 := hcd2
              cases hr : comp2D g me (wipeE ρ vs) (ds.drop (k + 1)) with
              | bad => rw [hr] at hcd3; cases hcd3
              | ex y => rw [hr] at hcd3; cases hcd3
              | ok l3 =>
                rw [hr] at hcd3
                cases hcd3
                obtain ⟨b, ws, rfl, sb, bb, ob, hb, rb⟩ := rp8
                obtain ⟨d1, d2, d3⟩ := t.keep st1.exS0 sp st8
                have bb : upd (rowB G.B rs) Da (.lst (refs rs)) b = none := bb
                have nbd : b ≠ Da := fun z => by rw [z, upd_same] at bb; cases bb
                rw [upd_ne nbd] at bb
                obtain ⟨gb, nb⟩ := rowB_none bb
                have e18 : Ex S1 S8 := ((t.ex.trans e4).trans e6).trans e8
                have s1b : S1 b = none := by
                  cases z : S1 b with
                  | none => rfl
                  | some u => rw [e18 b u z] at sb; cases sb
                have st9 := st8.wipe vs
                rw [w1', w2'] at st9
                have ob' : ∀ j, b ∉ (if j ∈ vs then [] else O5 j) := fun j hj => by
                  split at hj
                  · cases hj
                  · exact ob j hj
                have st10 := StR.asideOld (p := b) (o := .lst ws) st9 hb sb ob'
                have eB : upd (upd (rowB G.B rs) Da (.lst (refs rs))) b (.lst ws) = upd (rowB G.B ((b, ws) :: rs)) Da (.lst (refs rs)) := by
                  funext c
                  show upd (upd (rowB G.B rs) Da (.lst (refs rs))) b (.lst ws) c = upd (upd (rowB G.B rs) b (.lst ws)) Da (.lst (refs rs)) c
                  by_cases h1 : c = b
                  · rw [h1, upd_same, upd_ne nbd, upd_same]
                  · by_cases h2 : c = Da
                    · rw [h2, upd_ne (Ne.symm nbd), upd_same, upd_same]
                    · rw [upd_ne h1, upd_ne h2, upd_ne h2, upd_ne h1]
                rw [eB] at st10
                have st11 : StR ⟨G.K, upd (rowB G.B ((b, ws) :: rs)) Da (.lst (refs ((b, ws) :: rs))), G.S0⟩ S8 _ (L2.wipe σ vs) (upd H8 Da (.lst (refs ((b, ws) :: rs)))) (wipeE ρ vs) :=
                  StR.asideUp (G := ⟨G.K, rowB G.B ((b, ws) :: rs), G.S0⟩) (o := .lst (refs rs)) (o' := .lst (refs ((b, ws) :: rs))) st10 d1
                obtain ⟨n1, n2⟩ := List.nodup_cons.mp t.nd
                refine ⟨refs rs, d2, sz_lt (by rw [refs_length]; have := t.len; omega), hlt, (b, ws) :: rs, row :: lr, l3, S8, (fun j => if j ∈ vs then [] else O5 j), ?_⟩
                have er : refs rs ++ [V.ref b] = refs ((b, ws) :: rs) := (refs_cons (b, ws) rs).symm
                rw [er]
                exact {
                  ex := e18
                  sd := d1
                  up := fun c o e => by
                    rw [upd_ne (fun z => by rw [z, hDa] at e; cases e)]
                    exact k8 c o (k6 c o (k4 c o (t.up c o e)))
                  at_ := upd_same
                  len := by have := t.len; rw [List.length_cons]; omega
                  rows := ⟨rb, t.rows.mono ((e4.trans e6).trans e8)⟩
                  eq := by rw [t.eq, List.reverse_cons, List.append_assoc]; rfl
                  rest := hr
                  nd := by
                    rw [List.map_cons]
                    refine List.nodup_cons.mpr ⟨?_, List.nodup_cons.mpr ⟨nb, n2⟩⟩
                    rw [List.mem_cons]
                    exact fun z => z.elim (fun z => nbd z.symm) n1
                  off := fun r hr' => by
                    rcases List.mem_cons.mp hr' with z | z
                    · rw [z]; exact ⟨s1b, sb, gb⟩
                    · obtain ⟨o1, _, o3⟩ := t.off r z
                      exact ⟨o1, d3 r z, o3⟩
                  st := st11 }
        rcases hx with ⟨rfl, rp⟩ | ⟨p, ws, lt, rfl, hn, rfl, rfl, rs'⟩
        · rw [← eK] at rp
          exact turn S2 (Same.refl _) (fun _ _ h => h) t.st (rp.mono t.ex)
        · obtain ⟨st4, e4, k4⟩ := t.st.stand (o := .tup ws) hn
          rw [← eK] at rs'
          exact turn _ e4 k4 st4 (.tup (.inl (.inl upd_same)) (rs'.mono (t.ex.trans e4)))
    · have hi' : k = ds.length := by omega
      subst hi'
      have hcd2 := t.rest
      rw [List.drop_length] at hcd2
      cases hcd2
      have hl : ls = lr.reverse := by rw [t.eq, List.append_nil]
      refine .inl ⟨yl.stop H2 t.up _ (Nat.le_refl _), ?_⟩
      have eO : (fun j => if j ∈ vs then [] else O j) = O := by
        funext j
        by_cases hj : j ∈ vs
        · rw [if_pos hj]
          have z := List.all_eq_true.mp hno j hj
          cases hs : ρ[j]? with
          | none => rw [st.out j (List.getElem?_eq_none_iff.mp hs)]
          | some s =>
            have z2 := st.slot j s hs
            rw [List.getD_eq_getElem?_getD, hs] at z
            cases s with
            | no => exact z2.symm
            | val d => exact z2.1.symm
            | _ => cases z
        · rw [if_neg hj]
      have e3 : O2 = O := by
        have z := StR.same stw t.st t.up
        rw [z, eO]
      subst e3
      have st3 := t.st
      obtain ⟨n1, n2⟩ := List.nodup_cons.mp t.nd
      have st5 : StR G S2 O2 σ H2 ρ := by
        refine ⟨fun b o e => ?_, st3.exS0, st3.exS, fun b hb => ?_, st1.len, fun j s e => (st1.slot j s e).mono t.ex fun a o _ h => t.up a o h, fun j a h => ⟨(st3.off j a h).1, (st1.off j a h).2⟩, st3.live, st1.apart, st1.out⟩
        · exact t.up b o (st1.exB b o e)
        · have hbd : b ≠ Da := fun z => hb (by rw [z]; exact t.sd)
          rcases st3.new b hb with h | h
          · exact .inl h
          · have h : upd (rowB G.B rs) Da (.lst (refs rs)) b = none := h
            rw [upd_ne hbd] at h
            exact .inr (rowB_none h).1
      have hrow : ∀ r ∈ rs, H2 r.1 = some (.lst r.2) := fun r hr => by
        have ne : r.1 ≠ Da := fun e => n1 (by rw [← e]; exact List.mem_map.mpr ⟨r, hr, rfl⟩)
        exact st3.exB r.1 _ (by show upd (rowB G.B rs) Da (.lst (refs rs)) r.1 = _; rw [upd_ne ne]; exact rowB_mem n2 hr)
      have hlen : lr.length = rs.length := t.rows.len
      by_cases hil : i < ρ.length
      · have st6 := st5.setSl i hil (s := .own2 ls) (v := .ref Da) (F := Da :: (rs.map (·.1)).reverse) ⟨Da, (rs.map (·.1)).reverse, rfl, rfl, ?_, ?_, ?_, ?_⟩ ?_
        · exact q1 S2 _ _ _ st6
        · refine List.nodup_cons.mpr ⟨?_, ?_⟩
          · rw [List.mem_reverse]; exact n1
          · exact (List.reverse_perm _).nodup_iff.mpr n2
        · rw [t.at_]
          unfold refs
          rw [List.map_reverse, List.map_map]
          rfl
        · rw [List.length_reverse, List.length_map, hl, List.length_reverse, hlen]
        · intro n b l h1 h2
          rw [hl] at h2
          have hn1 : n < (rs.map (·.1)).length := by
            have := (List.getElem?_eq_some_iff.mp h1).1
            rwa [List.length_reverse] at this
          rw [List.length_map] at hn1
          rw [List.getElem?_reverse (by rw [List.length_map]; exact hn1), List.length_map, List.getElem?_map] at h1
          rw [List.getElem?_reverse (by omega), hlen] at h2
          cases hrr : rs[rs.length - 1 - n]? with
          | none => rw [hrr] at h1; cases h1
          | some r =>
            rw [hrr] at h1
            cases h1
            exact ⟨r.2, hrow r (List.mem_of_getElem? hrr), t.rows.get h2 hrr⟩
        · intro b hb
          rcases List.mem_cons.mp hb with z | z
          · subst z
            refine ⟨t.sd, bp, by rw [t.at_]; simp, fun j _ hj => ?_⟩
            have := (st3.off j b hj).2
            have this : upd (rowB G.B rs) b (.lst (refs rs)) b = none := this
            rw [upd_same] at this
            cases this
          · rw [List.mem_reverse] at z
            obtain ⟨r, hr, rfl⟩ := List.mem_map.mp z
            obtain ⟨o1, o2, o3⟩ := t.off r hr
            refine ⟨o2, o3, by rw [hrow r hr]; simp, fun j _ hj => ?_⟩
            have := (st3.off j r.1 hj).2
            have this : upd (rowB G.B rs) Da (.lst (refs rs)) r.1 = none := this
            have ne : r.1 ≠ Da := fun e => n1 (by rw [← e]; exact List.mem_map.mpr ⟨r, hr, rfl⟩)
            rw [upd_ne ne, rowB_mem n2 hr] at this
            cases this
      · exact q1 S2 _ _ _ (st5.setOut i (by omega) _ _)
end
end RF

set_option Elab.async false
set_option linter.all false
set_option maxRecDepth 100000
set_option autoImplicit false
set_option maxHeartbeats 0
/-! RF, part R: rows of a list of lists are changed -/
namespace RF
open PySem PySem.Spec L2 PyProof.Rows
def onOwn2 (i : Nat) (ρ : Env) (k : List (List D) → Fl) : Fl := match ρ.getD i .no with
  | .own2 ls => k ls
  | _ => .bad
theorem onOwn2_some {W : WX} {i : Nat} {ρ : Env} {k : List (List D) → Fl} {G : Gd} {En : Ends} (h : FinS W (onOwn2 i ρ k) G En) : ∃ ls, ρ[i]? = some (.own2 ls) ∧ FinS W (k ls) G En := by
  unfold onOwn2 at h
  split at h
  · rename_i l hl
    exact ⟨l, getD_sl (by intro z; cases z) hl, h⟩
  · exact h.elim
def rowIx (ls : List (List D)) : D → Option (Nat × List D)
  | .int z => (ixN ls.length z).bind fun j => (ls[j]?).map fun l => (j, l)
  | _ => none
theorem rowIx_some {ls : List (List D)} {d : D} {j : Nat} {l : List D} (h : rowIx ls d = some (j, l)) : ∃ z, d = .int z ∧ ixN ls.length z = some j ∧ ls[j]? = some l := by
  unfold rowIx at h
  split at h
  · rename_i z
    cases hz : ixN ls.length z with
    | none => rw [hz] at h; cases h
    | some k =>
      rw [hz, Option.bind_some] at h
      cases hl : ls[k]? with
      | none => rw [hl] at h; cases h
      | some r =>
        rw [hl] at h
        cases h
        exact ⟨z, rfl, hz, hl⟩
  · cases h
/-- the row, in the heap -/
theorem StR.row {G : Gd} {S : Hp} {O : Nat → List Addr} {σ : L2.St} {H : Hp} {ρ : Env} (st : StR G S O σ H ρ) {i j : Nat} {z : Int} {ls : List (List D)} {l : List D} {a : Addr} (hi : ρ[i]? = some (.own2 ls)) (ha : σ[i]? = some (some (.ref a))) (hz : ixN ls.length z = some j) (hl : ls[j]? = some l) :
    ∃ as b vs, O i = a :: as ∧ H a = some (.lst (as.map V.ref)) ∧ as[j]? = some b ∧ atI (as.map V.ref) z = some (.ref b) ∧ H b = some (.lst vs) ∧ Reps G.K S l vs := by
  obtain ⟨a', as, e1, e2, nd, e3, hlen, hc⟩ := st.slot i _ hi
  rw [ha] at e1
  cases e1
  have hj : j < as.length := by rw [hlen]; exact (List.getElem?_eq_some_iff.mp hl).1
  obtain ⟨vs, h1, h2⟩ := hc j as[j] l (List.getElem?_eq_getElem hj) hl
  refine ⟨as, as[j], vs, e2, e3, List.getElem?_eq_getElem hj, ?_, h1, h2⟩
  rw [atI_of (j := j) (by rw [List.length_map, hlen]; exact hz), List.getElem?_map, List.getElem?_eq_getElem hj]
  rfl
section
variable {X : Cx} {W : WX} {e ej b : Expr} {m n q : ME} {pos p p2 p3 ap cp : Pos} {x : Str}
/-- x[j][k] = e -/
def sSet2 (i : Nat) (mj mk me : ME) : MS := fun ρ => toS ρ (me ρ) fun t => onOwn2 i ρ fun ls => toS ρ (mj ρ) fun j => toS ρ (lift (rowIx ls j.d)) fun r => toS ρ (mk ρ) fun k => nxO ((stT t.set).bind fun d => (setL r.2 k.d d).map fun l' => ρ.set i (.own2 (ls.set r.1 l')))
theorem ds_set2 (i : Nat) (he : DX X W e m) (hj : DX X W ej q) (hk : DX X W b n) (hi : X.N[i]? = some x := by rfl) (hv : Vis X.env.scope x := by first | exact Or.inl rfl | exact Or.inr (Or.inl rfl) | exact Or.inr (Or.inr rfl)) (hd : (x == ("__debug__" : Str)) = false := by decide)
    (hcd : (x == ("__classdict__" : Str)) = false := by decide) (hpl : PlainIx ej := by exact fun _ _ => rfl) (hs : swapsWithSole [.Subscript (.Subscript (.Name x p) ej p3) b p2] e pos.line X.env = pure false := by rfl) (hw : swappedStores [.Subscript (.Subscript (.Name x p) ej p3) b p2] e X.env = pure none := by rfl)
    (h1 : (assignEach [.Subscript (.Subscript (.Name x p) ej p3) b p2] X.env).map (·.2) = [assign (.Subscript (.Subscript (.Name x p) ej p3) b p2) X.env] := by rfl)
    (hsub : ∀ v, assign (.Subscript (.Subscript (.Name x p) ej p3) b p2) X.env v = (do
      let ov ← holding [v] (eval (.Subscript (.Name x p) ej p3) X.env)
      let iv ← holding [v, ov] (eval b X.env)
      standAt p2
      holding [v, ov, iv] (setItem ov iv v)
      release [v, ov, iv] []) := by intro _; rfl) : DS X W (.Assign [.Subscript (.Subscript (.Name x p) ej p3) b p2] e pos) (sSet2 i q n m) := by
  refine ⟨PS.weak (ps_asg he.pe (pg_sub (pe_ix ix_seq (pe_var hi hv hd hcd) hj.pe hpl) hk.pe set_list hsub) hs hw h1) ?_⟩
  rintro En σ H ⟨G, S, O, ρ, eK, st, q0⟩
  refine ⟨G, S, O, ρ, eK, st, FinS.bind (rep := rT G O) q0 fun t v S1 H1 s1 k1 st1 rp q1 => ?_⟩
  obtain ⟨S2, s2, st2, ro⟩ := RepT.settle st1 rp
  obtain ⟨ls, hl, q1⟩ := onOwn2_some q1
  obtain ⟨a, _, e1, _⟩ := st2.slot i _ hl
  refine ⟨.ref a, e1, G, S2, O, ρ, eK, st2, FinS.bind (rep := rT G O) q1 fun j y S3 H3 s3 k3 st3 rp3 q3 => ?_⟩
  obtain ⟨S4, s4, st4, ro4⟩ := RepT.settle st3 rp3
  cases hr : rowIx ls j.d with
  | none => rw [hr] at q3; exact q3.elim
  | some r =>
    obtain ⟨jj, row⟩ := r
    rw [hr] at q3
    obtain ⟨z, ez, hz, hrow⟩ := rowIx_some hr
    have hy := RepO.int (t := j.set) (by rw [T.set_d]; exact ez) ro4
    subst hy
    obtain ⟨as, bb, vs, o1, o2, o3, o4, o5, o6⟩ := st4.row hl e1 hz hrow
    refine .inl ⟨a, as.map V.ref, z, .ref bb, rfl, rfl, .inl (.inl o2), o4, ?_⟩
    refine ⟨G, S4, O, ρ, eK, st4, FinS.bind (rep := rT G O) q3 fun k y S5 H5 s5 k5 st5 rp5 q5 => ?_⟩
    obtain ⟨S6, s6, st6, ro6⟩ := RepT.settle st5 rp5
    obtain ⟨ρ', hρ, q5⟩ := nxO_some q5
    cases hzz : stT t.set with
    | none => rw [hzz] at hρ; cases hρ
    | some d =>
      rw [hzz, Option.bind_some] at hρ
      rw [stT_set hzz] at ro
      cases hs' : setL row k.d d with
      | none => rw [hs'] at hρ; cases hρ
      | some l' =>
        rw [hs'] at hρ
        cases hρ
        unfold setL at hs'
        split at hs'
        · rename_i kz hkz
          cases hjj : ixN row.length kz with
          | none => rw [hjj] at hs'; cases hs'
          | some kk =>
            rw [hjj] at hs'
            cases hs'
            obtain ⟨as', bb', vs', p1, p2', p3', p4, p5, p6⟩ := st6.row hl e1 hz hrow
            rw [o1] at p1
            cases p1
            rw [o3] at p3'
            cases p3'
            refine ⟨bb, vs', kz, kk, rfl, RepO.int (by rw [T.set_d]; exact hkz) ro6, p5, by rw [← p6.length]; exact hjj, ?_⟩
            exact q5 _ _ _ _ (st6.write2 hl o1 o3 (p6.set (Rep.mono (((s3.trans s4).trans s5).trans s6) (show Rep G.K S2 d v from ro)) kk))
        · cases hs'
/-- x[j].append(e) -/
def sApp2 (i : Nat) (mj me : ME) : MS := fun ρ => onOwn2 i ρ fun ls => toS ρ (mj ρ) fun j => toS ρ (lift (rowIx ls j.d)) fun r => toS ρ (me ρ) fun t => nxO ((stT t.set).bind fun d => if r.2.length < 100000 then some (ρ.set i (.own2 (ls.set r.1 (r.2 ++ [d])))) else none)
theorem ds_app2 (i : Nat) (hj : DX X W ej q) (he : DX X W e m) (hi : X.N[i]? = some x := by rfl) (hv : Vis X.env.scope x := by first | exact Or.inl rfl | exact Or.inr (Or.inl rfl) | exact Or.inr (Or.inr rfl)) (hd : (x == ("__debug__" : Str)) = false := by decide)
    (hcd : (x == ("__classdict__" : Str)) = false := by decide) (hpl : PlainIx ej := by exact fun _ _ => rfl)
    (hbase : attributeBase (.Subscript (.Name x p) ej p3) "append" X.env (eval (.Subscript (.Name x p) ej p3) X.env) = eval (.Subscript (.Name x p) ej p3) X.env := by rfl)
    (hfew : ((backTo cp (starEach (e :: []) X.env)).all (fun x => !x.1) && (backToKw cp (keywordEach [] X.env)).all (fun x => x.1.isSome)
      && decide ((e :: ([] : List Expr)).length + ([] : List Keyword).length + (if ([] : List Keyword).isEmpty then 0 else 1) < 30)) = true := by rfl)
    (hline : (ap.endLine == cp.line) = true := by rfl) (hs : starEach (e :: []) X.env = (false, eval e X.env) :: starEach [] X.env := by rfl) (hplain : (backTo cp (starEach [] X.env)).any (·.1) = false := by rfl)
    (hsw : swapsWith (.Call (.Attribute (.Subscript (.Name x p) ej p3) "append" ap) [e] [] cp) none pos.line X.env = pure false := by rfl) :
    DS X W (.Expr (.Call (.Attribute (.Subscript (.Name x p) ej p3) "append" ap) [e] [] cp) pos) (sApp2 i q m) := by
  refine ⟨PS.weak (ps_expr (pe_bm PySem.F.plainAttrs_list PySem.F.slot_list_append PySem.F.type_list_append mt_append (pe_ix ix_seq (pe_var hi hv hd hcd) hj.pe hpl) (pa_cons he.pe pa_nil hs) hbase hfew hline hs hplain) hsw) ?_⟩
  rintro En σ H ⟨G, S, O, ρ, eK, st, q0⟩
  obtain ⟨ls, hl, q1⟩ := onOwn2_some q0
  obtain ⟨a, _, e1, _⟩ := st.slot i _ hl
  refine ⟨.ref a, e1, G, S, O, ρ, eK, st, FinS.bind (rep := rT G O) q1 fun j y S3 H3 s3 k3 st3 rp3 q3 => ?_⟩
  obtain ⟨S4, s4, st4, ro4⟩ := RepT.settle st3 rp3
  cases hr : rowIx ls j.d with
  | none => rw [hr] at q3; exact q3.elim
  | some r =>
    obtain ⟨jj, row⟩ := r
    rw [hr] at q3
    obtain ⟨z, ez, hz, hrow⟩ := rowIx_some hr
    have hy := RepO.int (t := j.set) (by rw [T.set_d]; exact ez) ro4
    subst hy
    obtain ⟨as, bb, vs, o1, o2, o3, o4, o5, o6⟩ := st4.row hl e1 hz hrow
    refine .inl ⟨a, as.map V.ref, z, .ref bb, rfl, rfl, .inl (.inl o2), o4, .inl ⟨rfl, vs, .inl (.inl o5)⟩, ?_⟩
    refine ⟨G, S4, O, ρ, eK, st4, FinS.bind (rep := rT G O) q3 fun k y S5 H5 s5 k5 st5 rp5 q5 => ?_⟩
    obtain ⟨S6, s6, st6, ro6⟩ := RepT.settle st5 rp5
    obtain ⟨ρ', hρ, q5⟩ := nxO_some q5
    cases hzz : stT k.set with
    | none => rw [hzz] at hρ; cases hρ
    | some d =>
      rw [hzz, Option.bind_some] at hρ
      rw [stT_set hzz] at ro6
      split at hρ
      · rename_i hlen
        cases hρ
        obtain ⟨as', bb', vs', p1, p2', p3', p4, p5, p6⟩ := st6.row hl e1 hz hrow
        rw [o1] at p1
        cases p1
        rw [o3] at p3'
        cases p3'
        exact ⟨bb, vs', y, rfl, rfl, p5, by rw [← p6.length]; exact sz_lt hlen, q5 _ _ _ _ (st6.write2 hl o1 o3 (p6.append (.cons ro6 .nil)))⟩
      · cases hρ
/-- x[j].pop() -/
def sPop2 (i : Nat) (mj : ME) : MS := fun ρ => onOwn2 i ρ fun ls => toS ρ (mj ρ) fun j => toS ρ (lift (rowIx ls j.d)) fun r => if r.2 = [] then .bad else .nx (ρ.set i (.own2 (ls.set r.1 r.2.dropLast)))
theorem ds_pop2 (i : Nat) (hj : DX X W ej q) (hi : X.N[i]? = some x := by rfl) (hv : Vis X.env.scope x := by first | exact Or.inl rfl | exact Or.inr (Or.inl rfl) | exact Or.inr (Or.inr rfl)) (hd : (x == ("__debug__" : Str)) = false := by decide)
    (hcd : (x == ("__classdict__" : Str)) = false := by decide) (hpl : PlainIx ej := by exact fun _ _ => rfl)
    (hbase : attributeBase (.Subscript (.Name x p) ej p3) "pop" X.env (eval (.Subscript (.Name x p) ej p3) X.env) = eval (.Subscript (.Name x p) ej p3) X.env := by rfl)
    (hline : (ap.endLine == cp.line) = true := by rfl)
    (hsw : swapsWith (.Call (.Attribute (.Subscript (.Name x p) ej p3) "pop" ap) [] [] cp) none pos.line X.env = pure false := by rfl) :
    DS X W (.Expr (.Call (.Attribute (.Subscript (.Name x p) ej p3) "pop" ap) [] [] cp) pos) (sPop2 i q) := by
  refine ⟨PS.weak (ps_expr (pe_bm0 PySem.F.plainAttrs_list PySem.F.slot_list_pop PySem.F.type_list_pop mt_pop (pe_ix ix_seq (pe_var hi hv hd hcd) hj.pe hpl) hbase hline) hsw) ?_⟩
  rintro En σ H ⟨G, S, O, ρ, eK, st, q0⟩
  obtain ⟨ls, hl, q1⟩ := onOwn2_some q0
  obtain ⟨a, _, e1, _⟩ := st.slot i _ hl
  refine ⟨.ref a, e1, G, S, O, ρ, eK, st, FinS.bind (rep := rT G O) q1 fun j y S3 H3 s3 k3 st3 rp3 q3 => ?_⟩
  obtain ⟨S4, s4, st4, ro4⟩ := RepT.settle st3 rp3
  cases hr : rowIx ls j.d with
  | none => rw [hr] at q3; exact q3.elim
  | some r =>
    obtain ⟨jj, row⟩ := r
    rw [hr] at q3
    have q3 : FinS W (if row = [] then .bad else .nx (ρ.set i (.own2 (ls.set jj row.dropLast)))) G En := q3
    split at q3
    · exact q3.elim
    · rename_i hne
      obtain ⟨z, ez, hz, hrow⟩ := rowIx_some hr
      have hy := RepO.int (t := j.set) (by rw [T.set_d]; exact ez) ro4
      subst hy
      obtain ⟨as, bb, vs, o1, o2, o3, o4, o5, o6⟩ := st4.row hl e1 hz hrow
      have hlen : vs.length - 1 < vs.length := by
        rw [← o6.length]
        cases row with
        | nil => exact absurd rfl hne
        | cons z zs => rw [List.length_cons]; omega
      refine .inl ⟨a, as.map V.ref, z, .ref bb, rfl, rfl, .inl (.inl o2), o4, .inl ⟨rfl, vs, .inl (.inl o5)⟩, ?_⟩
      exact ⟨bb, vs, vs[vs.length - 1], rfl, rfl, o5, by simp [hlen], q3 _ _ _ _ (st4.write2 hl o1 o3 o6.dropLast)⟩
/-- x[j].clear() -/
def sClr2 (i : Nat) (mj : ME) : MS := fun ρ => onOwn2 i ρ fun ls => toS ρ (mj ρ) fun j => toS ρ (lift (rowIx ls j.d)) fun r => .nx (ρ.set i (.own2 (ls.set r.1 [])))
theorem ds_clr2 (i : Nat) (hj : DX X W ej q) (hi : X.N[i]? = some x := by rfl) (hv : Vis X.env.scope x := by first | exact Or.inl rfl | exact Or.inr (Or.inl rfl) | exact Or.inr (Or.inr rfl)) (hd : (x == ("__debug__" : Str)) = false := by decide)
    (hcd : (x == ("__classdict__" : Str)) = false := by decide) (hpl : PlainIx ej := by exact fun _ _ => rfl)
    (hbase : attributeBase (.Subscript (.Name x p) ej p3) "clear" X.env (eval (.Subscript (.Name x p) ej p3) X.env) = eval (.Subscript (.Name x p) ej p3) X.env := by rfl)
    (hline : (ap.endLine == cp.line) = true := by rfl)
    (hsw : swapsWith (.Call (.Attribute (.Subscript (.Name x p) ej p3) "clear" ap) [] [] cp) none pos.line X.env = pure false := by rfl) :
    DS X W (.Expr (.Call (.Attribute (.Subscript (.Name x p) ej p3) "clear" ap) [] [] cp) pos) (sClr2 i q) := by
  refine ⟨PS.weak (ps_expr (pe_bm0 PySem.F.plainAttrs_list PySem.F.slot_list_clear PySem.F.type_list_clear mt_clear (pe_ix ix_seq (pe_var hi hv hd hcd) hj.pe hpl) hbase hline) hsw) ?_⟩
  rintro En σ H ⟨G, S, O, ρ, eK, st, q0⟩
  obtain ⟨ls, hl, q1⟩ := onOwn2_some q0
  obtain ⟨a, _, e1, _⟩ := st.slot i _ hl
  refine ⟨.ref a, e1, G, S, O, ρ, eK, st, FinS.bind (rep := rT G O) q1 fun j y S3 H3 s3 k3 st3 rp3 q3 => ?_⟩
  obtain ⟨S4, s4, st4, ro4⟩ := RepT.settle st3 rp3
  cases hr : rowIx ls j.d with
  | none => rw [hr] at q3; exact q3.elim
  | some r =>
    obtain ⟨jj, row⟩ := r
    rw [hr] at q3
    obtain ⟨z, ez, hz, hrow⟩ := rowIx_some hr
    have hy := RepO.int (t := j.set) (by rw [T.set_d]; exact ez) ro4
    subst hy
    obtain ⟨as, bb, vs, o1, o2, o3, o4, o5, o6⟩ := st4.row hl e1 hz hrow
    refine .inl ⟨a, as.map V.ref, z, .ref bb, rfl, rfl, .inl (.inl o2), o4, .inl ⟨rfl, vs, .inl (.inl o5)⟩, ?_⟩
    exact ⟨bb, vs, rfl, rfl, o5, q3 _ _ _ _ (st4.write2 hl o1 o3 .nil)⟩
end
/-! ### made by hand: empty, then rows that another slot held -/
section
variable {G : Gd} {S : Hp} {O : Nat → List Addr} {σ : L2.St} {H : Hp} {ρ : Env}
theorem StR.new2 (st : StR G S O σ H ρ) (i : Nat) {v : V} (r : RepT G S O H (.fr []) v) : ∃ O', StR G S O' (σ.set i (some v)) H (ρ.set i (.own2 [])) := by
  obtain ⟨a, vs, rfl, h1, h2, h3, h4, q⟩ := r
  cases q
  by_cases h : i < ρ.length
  · refine ⟨_, st.setSl i h (s := .own2 []) (F := [a]) ⟨a, [], rfl, rfl, by simp, h4, rfl, fun n b l z => by simp at z⟩ fun b hb => ?_⟩
    have e : b = a := by simpa using hb
    subst e
    exact ⟨h1, h2, by rw [h4]; simp, fun j _ => h3 j⟩
  · exact ⟨O, st.setOut i (by omega) _ _⟩
theorem StR.move2 (st : StR G S O σ H ρ) {i j : Nat} {ls : List (List D)} {l : List D} (hi : ρ[i]? = some (.own2 ls)) (hj : ρ[j]? = some (.own l)) : ∃ (a b : Addr) (as : List Addr), σ[i]? = some (some (.ref a)) ∧ σ[j]? = some (some (.ref b)) ∧ H a = some (.lst (as.map V.ref)) ∧ as.length = ls.length ∧
    ∃ O', StR G S O' σ (upd H a (.lst (as.map V.ref ++ [V.ref b]))) ((ρ.set i (.own2 (ls ++ [l]))).set j .no) := by
  have hij : i ≠ j := fun z => by rw [z, hj] at hi; cases hi
  obtain ⟨a, as, e1, e2, nd, e3, hl, hc⟩ := st.slot i _ hi
  obtain ⟨b, vs, f1, f2, f3, fr⟩ := st.slot j _ hj
  rw [e2] at nd
  obtain ⟨na, nd'⟩ := List.nodup_cons.mp nd
  have aO : a ∈ O i := by rw [e2]; exact List.mem_cons_self
  have bO : b ∈ O j := by rw [f2]; exact List.mem_cons_self
  have nab : b ≠ a := fun z => hij (st.apart i j a aO (by rw [← z]; exact bO))
  have nbas : b ∉ as := fun z => hij (st.apart i j b (by rw [e2]; exact List.mem_cons_of_mem _ z) bO)
  obtain ⟨sa, ba⟩ := st.off i a aO
  obtain ⟨sb, bb⟩ := st.off j b bO
  refine ⟨a, b, as, e1, f1, e3, hl, fun k => if k = i then a :: (as ++ [b]) else if k = j then [] else O k, ⟨fun c o e => ?_, st.exS0, fun c o e => ?_, st.new, by rw [List.length_set, List.length_set]; exact st.len, fun k s e => ?_, fun k c q => ?_, fun k c q => ?_, fun k k' c q1 q2 => ?_, fun k hk => ?_⟩⟩
  · rw [upd_ne (fun z => by rw [z, ba] at e; cases e)]
    exact st.exB c o e
  · rw [upd_ne (fun z => by rw [z, sa] at e; cases e)]
    exact st.exS c o e
  · show SlR G.K S (upd H a (.lst (as.map V.ref ++ [V.ref b]))) s σ[k]? (if k = i then a :: (as ++ [b]) else if k = j then [] else O k)
    rcases get_set e with ⟨rfl, rfl⟩ | ⟨ne, e⟩
    · rw [if_neg (Ne.symm hij), if_pos rfl]
      rfl
    · rcases get_set e with ⟨rfl, rfl⟩ | ⟨ne2, e⟩
      · rw [if_pos rfl]
        refine ⟨a, as ++ [b], e1, rfl, ?_, by rw [upd_same, List.map_append]; rfl, by rw [List.length_append, List.length_append, hl]; rfl, fun n c l' h1 h2 => ?_⟩
        · refine List.nodup_cons.mpr ⟨?_, ?_⟩
          · rw [List.mem_append, List.mem_singleton]
            exact fun z => z.elim na (fun z => nab z.symm)
          · rw [List.nodup_append]
            refine ⟨nd', by simp, fun x hx y hy => ?_⟩
            rw [List.mem_singleton.mp hy]
            exact fun z => nbas (by rw [← z]; exact hx)
        · by_cases hn : n < as.length
          · rw [List.getElem?_append_left hn] at h1
            rw [List.getElem?_append_left (by omega)] at h2
            obtain ⟨ws, h3, h4⟩ := hc n c l' h1 h2
            refine ⟨ws, ?_, h4⟩
            rw [upd_ne (fun z => na (by rw [← z]; exact List.mem_of_getElem? h1))]
            exact h3
          · rw [List.getElem?_append_right (by omega)] at h1
            rw [List.getElem?_append_right (by omega), ← hl] at h2
            cases hz : n - as.length with
            | zero =>
              rw [hz] at h1 h2
              cases h1
              cases h2
              exact ⟨vs, by rw [upd_ne nab]; exact f3, fr⟩
            | succ w =>
              rw [hz] at h1
              simp at h1
      · rw [if_neg ne2, if_neg ne]
        refine (st.slot k s e).mono (Same.refl S) fun c o hc' hq => ?_
        rw [upd_ne (fun z => ne2 (st.apart k i a (by rw [← z]; exact hc') aO))]
        exact hq
  · have q : c ∈ (if k = i then a :: (as ++ [b]) else if k = j then [] else O k) := q
    split at q
    · rcases List.mem_cons.mp q with z | z
      · rw [z]; exact ⟨sa, ba⟩
      · rcases List.mem_append.mp z with z | z
        · exact st.off i c (by rw [e2]; exact List.mem_cons_of_mem _ z)
        · rw [List.mem_singleton.mp z]; exact ⟨sb, bb⟩
    · split at q
      · cases q
      · exact st.off k c q
  · have q : c ∈ (if k = i then a :: (as ++ [b]) else if k = j then [] else O k) := q
    by_cases hca : c = a
    · rw [hca, upd_same]; simp
    · rw [upd_ne hca]
      split at q
      · rcases List.mem_cons.mp q with z | z
        · exact absurd z hca
        · rcases List.mem_append.mp z with z | z
          · exact st.live i c (by rw [e2]; exact List.mem_cons_of_mem _ z)
          · rw [List.mem_singleton.mp z, f3]; simp
      · split at q
        · cases q
        · exact st.live k c q
  · have key : ∀ {k : Nat}, c ∈ (if k = i then a :: (as ++ [b]) else if k = j then [] else O k) → ∃ k', c ∈ O k' ∧ ((k' = i ∨ k' = j) ∧ k = i ∨ (k' = k ∧ k ≠ i ∧ k ≠ j)) := fun {k} q => by
      split at q
      · rename_i hk
        rcases List.mem_cons.mp q with z | z
        · exact ⟨i, by rw [z]; exact aO, .inl ⟨.inl rfl, hk⟩⟩
        · rcases List.mem_append.mp z with z | z
          · exact ⟨i, by rw [e2]; exact List.mem_cons_of_mem _ z, .inl ⟨.inl rfl, hk⟩⟩
          · exact ⟨j, by rw [List.mem_singleton.mp z]; exact bO, .inl ⟨.inr rfl, hk⟩⟩
      · rename_i hk
        split at q
        · cases q
        · rename_i hk2
          exact ⟨k, q, .inr ⟨rfl, hk, hk2⟩⟩
    obtain ⟨x, x1, x2⟩ := key q1
    obtain ⟨y, y1, y2⟩ := key q2
    have hxy := st.apart x y c x1 y1
    rcases x2 with ⟨x2, x3⟩ | ⟨x2, x3, x4⟩ <;> rcases y2 with ⟨y2, y3⟩ | ⟨y2, y3, y4⟩
    · rw [x3, y3]
    · exfalso
      rw [hxy, y2] at x2
      exact x2.elim y3 y4
    · exfalso
      rw [← hxy, x2] at y2
      exact y2.elim x3 x4
    · rw [← x2, ← y2]; exact hxy
  · rw [List.length_set, List.length_set] at hk
    show (if k = i then a :: (as ++ [b]) else if k = j then [] else O k) = []
    have h1 : i < ρ.length := (List.getElem?_eq_some_iff.mp hi).1
    rw [if_neg (by omega), st.out k hk]
    split <;> rfl
end
section
variable {X : Cx} {W : WX} {pos p p2 ap cp : Pos} {x y : Str}
/-- x = [] -/
def sNew2 (i : Nat) : MS := fun ρ => .nx (ρ.set i (.own2 []))
theorem ds_new2 (i : Nat) {e : Expr} {m : ME} (C : Ctx X W) (he : DX X W e m) (hm : ∀ ρ, m ρ = .ok (.fr [])) (hi : X.N[i]? = some x := by rfl) (hx : Loc X.env.scope x := by first | exact .inl rfl | exact .inr rfl) (hs : swapsWith e (some (.Name x p)) pos.line X.env = pure false := by rfl)
    (hf : X.fn x = true ∨ X.env.scope.names.lookup x = some .local := by first | exact .inl rfl | exact .inr rfl) : DS X W (.Assign [.Name x p] e pos) (sNew2 i) := by
  refine ⟨PS.weak (ps_set C.nd hi hx he.pe hs hf) ?_⟩
  rintro D σ H ⟨G, S, O, ρ, eK, st, q⟩
  refine ⟨G, S, O, ρ, eK, st, ?_⟩
  rw [hm ρ]
  intro v S1 H1 e1 k1 st1 rp
  obtain ⟨O', st'⟩ := st1.new2 i rp
  exact q S1 O' _ _ st'
/-- x.append(y), y a list of its slot's own: it goes over -/
def sMove2 (i j : Nat) : MS := fun ρ => onOwn2 i ρ fun ls => onOwn j ρ fun l => if ls.length < 100000 then .nx ((ρ.set i (.own2 (ls ++ [l]))).set j .no) else .bad
theorem ds_move2 (i j : Nat) (hi : X.N[i]? = some x := by rfl) (hj : X.N[j]? = some y := by rfl) (hv : Vis X.env.scope x := by first | exact Or.inl rfl | exact Or.inr (Or.inl rfl) | exact Or.inr (Or.inr rfl)) (hd : (x == ("__debug__" : Str)) = false := by decide)
    (hcd : (x == ("__classdict__" : Str)) = false := by decide) (hv2 : Vis X.env.scope y := by first | exact Or.inl rfl | exact Or.inr (Or.inl rfl) | exact Or.inr (Or.inr rfl)) (hd2 : (y == ("__debug__" : Str)) = false := by decide) (hcd2 : (y == ("__classdict__" : Str)) = false := by decide)
    (hbase : attributeBase (.Name x p) "append" X.env (eval (.Name x p) X.env) = eval (.Name x p) X.env := by rfl)
    (hfew : ((backTo cp (starEach (.Name y p2 :: []) X.env)).all (fun x => !x.1) && (backToKw cp (keywordEach [] X.env)).all (fun x => x.1.isSome)
      && decide ((Expr.Name y p2 :: ([] : List Expr)).length + ([] : List Keyword).length + (if ([] : List Keyword).isEmpty then 0 else 1) < 30)) = true := by rfl)
    (hline : (ap.endLine == cp.line) = true := by rfl) (hs : starEach (.Name y p2 :: []) X.env = (false, eval (.Name y p2) X.env) :: starEach [] X.env := by rfl) (hplain : (backTo cp (starEach [] X.env)).any (·.1) = false := by rfl)
    (hsw : swapsWith (.Call (.Attribute (.Name x p) "append" ap) [.Name y p2] [] cp) none pos.line X.env = pure false := by rfl) :
    DS X W (.Expr (.Call (.Attribute (.Name x p) "append" ap) [.Name y p2] [] cp) pos) (sMove2 i j) := by
  refine ⟨PS.weak (ps_expr (pe_bm PySem.F.plainAttrs_list PySem.F.slot_list_append PySem.F.type_list_append mt_append (pe_var hi hv hd hcd) (pa_cons (pe_var hj hv2 hd2 hcd2) pa_nil hs) hbase hfew hline hs hplain) hsw) ?_⟩
  rintro En σ H ⟨G, S, O, ρ, eK, st, q⟩
  obtain ⟨ls, hls, q1⟩ := onOwn2_some q
  obtain ⟨l, hl, q2⟩ := onOwn_some q1
  split at q2
  · rename_i hlen
    obtain ⟨a, b, as, e1, e2, e3, e4, O', st'⟩ := st.move2 hls hl
    exact ⟨.ref a, e1, .inl ⟨rfl, as.map V.ref, .inl (.inl e3)⟩, .ref b, e2, a, as.map V.ref, .ref b, rfl, rfl, e3, by rw [List.length_map, e4]; exact sz_lt hlen, q2 _ _ _ _ st'⟩
  · exact q2.elim
end
end RF

set_option Elab.async false
set_option linter.all false
set_option maxRecDepth 100000
set_option autoImplicit false
/-! RF, part S: a caught exception's fields as a pair -/
namespace RF
open PySem PySem.Spec L2
theorem ExI.xf {K : PySem.W.Frag} {c : Cl} (E : ExI K c) : XfC K (adK K c) := ⟨E.hga, E.hgt, E.hsub, E.hd⟩
/-- try: body; except c as i: j = (i.f, i.g) -/
def sTryF (cs : List Cl) (c : Cl) (i j : Nat) (f g : Str) (body : MS) : MS := fun ρ => match body ρ with
  | .ex ρ' x => if x.C ∈ cs ∧ i < ρ'.length then (if x.C = c then (match (x.ks.zip x.l).lookup f, (x.ks.zip x.l).lookup g with
      | some d, some e => .nx ((ρ'.set j (.val (.tup [d, e]))).set i .no)
      | _, _ => .bad) else if x.C.sub c = true then .bad else .ex ρ' x) else .bad
  | r => r
section
variable {X : Cx} {W : WX} {x n m : Str} {body : List Stmt} {np pm pn2 pn3 pa pos pos' q1 q2 q3 : Pos} {kt : Nat} {mb : MS}
theorem ds_tryF (cs : List Cl) (c : Cl) (i j : Nat) (f g : Str) (C : Ctx X W) (tk : Takes X W) (hc : Names X x (.ref (adK X.K c))) (hx : ∀ C ∈ cs, PySem.W.exmOne X.K (.ref (adK X.K C)) (.ref (adK X.K c)) = some (C.sub c))
    (E : ExI X.K c) (hnf : PySem.W.findIn X.K (.ref (adK X.K c)) f = some none) (hng : PySem.W.findIn X.K (.ref (adK X.K c)) g = some none)
    (hb : ∀ (W' : WX) (pn : List (Addr × Obj)) (xe : Value → Shared → Prop), Ctx (X.tr pn xe) W' → DSs (X.tr pn xe) W' body mb)
    (hst : X.stack = X.env :: X.outer := by rfl) (hfm : X.env.frame = some X.env.locals := by rfl) (hex : X.ex = [] := by rfl)
    (hi : X.N[i]? = some n := by rfl) (hj : X.N[j]? = some m := by rfl) (hij : i ≠ j := by decide) (hln : X.env.kindOf n = some .local := by rfl) (hvi : Vis X.env.scope n := by first | exact Or.inl rfl | exact Or.inr (Or.inl rfl) | exact Or.inr (Or.inr rfl)) (hlj : Loc X.env.scope m := by first | exact Or.inl rfl | exact Or.inr rfl)
    (hd : (n == ("__debug__" : Str)) = false := by decide) (hcd : (n == ("__classdict__" : Str)) = false := by decide) (hf : X.fn m = true ∨ X.env.scope.names.lookup m = some .local := by first | exact .inl rfl | exact .inr rfl)
    (hba : attributeBase (.Name n pn2) f X.env (eval (.Name n pn2) X.env) = eval (.Name n pn2) X.env := by rfl) (hbb : attributeBase (.Name n pn3) g X.env (eval (.Name n pn3) X.env) = eval (.Name n pn3) X.env := by rfl)
    (hs1 : starEach [.Attribute (.Name n pn2) f q1, .Attribute (.Name n pn3) g q2] X.env = (false, eval (.Attribute (.Name n pn2) f q1) X.env) :: starEach [.Attribute (.Name n pn3) g q2] X.env := by rfl)
    (hs2 : starEach [.Attribute (.Name n pn3) g q2] X.env = (false, eval (.Attribute (.Name n pn3) g q2) X.env) :: starEach [] X.env := by rfl)
    (hs : swapsWith (.Tuple [.Attribute (.Name n pn2) f q1, .Attribute (.Name n pn3) g q2] kt q3) (some (.Name m pm)) pa.line X.env = pure false := by rfl) :
    DS X W (.Try body [.ExceptHandler (some (.Name x np)) (some n) [.Assign [.Name m pm] (.Tuple [.Attribute (.Name n pn2) f q1, .Attribute (.Name n pn3) g q2] kt q3) pa] pos'] [] [] pos) (sTryF cs c i j f g mb) := by
  refine ⟨PS.weak (ps_try_kept hst hfm hex C.nd hi hln hc tk (tb := fun W' => tS X.K W' mb) (ts := fun a cls d => tAsg (tTup (tCons (tXf a cls d (adK X.K c) f (tVar i)) (tCons (tXf a cls d (adK X.K c) g (tVar i)) tNil))) (gName j)) (fun W' pn xe tk' po => (hb W' pn xe ⟨fun σ => passAt tk' σ, po, C.calm, C.nd, C.un⟩).pss) (fun a oe cls d pn hz hfl => pss_one (ps_set C.nd hj hlj (pe_tup (pa_cons (pe_xf E.xf hnf hz hfl (pe_var hi hvi hd hcd) hba) (pa_cons (pe_xf E.xf hng hz hfl (pe_var hi hvi hd hcd) hbb) pa_nil hs2) hs1)) hs hf))) ?_⟩
  rintro D σ H ⟨G, S, O, ρ, eK, st, q⟩
  refine ⟨G, S, O, ρ, eK, st, ?_⟩
  unfold sTryF at q
  cases hm : mb ρ with
  | bad => rw [hm] at q; exact q
  | nx ρ1 => rw [hm] at q; exact q
  | ct ρ1 => rw [hm] at q; exact q
  | bk ρ1 => rw [hm] at q; exact q
  | rt t => rw [hm] at q; exact q
  | ex ρ1 y =>
    rw [hm] at q
    simp only at q
    split at q
    · rename_i hcs
      intro d S1 O1 σ1 H1 st1 xr
      have hlt : i < σ1.length := by rw [st1.len]; exact hcs.2
      refine ⟨y.C.sub c, by rw [eK]; exact hx _ hcs.1, fun hbt a ha => ?_, fun hbf => ?_⟩
      · by_cases hyc : y.C = c
        · rw [if_pos hyc] at q
          split at q
          · rename_i d1 d2 hl1 hl2
            rcases xr with ⟨h1, h2, rfl⟩ | ⟨dx, vs, rfl, h2, h3, h4⟩
            · rw [h1] at hl1
              cases hl1
            · obtain ⟨v1, g1, r1⟩ := lookup_reps h4 hl1
              obtain ⟨v2, g2, r2⟩ := lookup_reps h4 hl2
              have hd1 : H1 dx = some (.xd (y.ks.zip vs)) := st1.exS _ _ h2
              have hcc : (Value.ref (adK G.K y.C)) = .ref (adK X.K c) := by rw [hyc, eK]
              refine ⟨.ref a, by rw [List.getElem?_set_self hlt], rfl, hcc, dx, _, v1, rfl, hd1, g1, .ref a, by rw [List.getElem?_set_self hlt], rfl, hcc, dx, _, v2, rfl, hd1, g2, ?_⟩
              refine ⟨by show 2 ≤ sizeLine; decide, fun p hp na => ?_⟩
              have hpa : a ≠ p := fun z => by
                rw [z, upd_same] at na
                cases na
              have key : ∃ O' S', StR G S' O' ((((σ1.set i (some (.ref a))).set j (some (.ref p))).set i none)) (upd (upd H1 p (.tup [v1, v2])) a (XV (.ref (adK G.K y.C)) (some dx) a)) ((ρ1.set j (.val (.tup [d1, d2]))).set i .no) := by
                obtain ⟨st2, e1, k1⟩ := st1.stand (o := .tup [v1, v2]) hp
                have rp : Rep G.K (upd S1 p (.tup [v1, v2])) (.tup [d1, d2]) (.ref p) := .tup (.inl (.inl upd_same)) (.cons (r1.mono e1) (.cons (r2.mono e1) .nil))
                obtain ⟨O3, st3⟩ := st2.setVal j rp
                have st4 := (st3.drop i none).grow (ex_upd (o := XV (.ref (adK G.K y.C)) (some dx) a) na)
                have e : (((σ1.set i (some (V.ref a))).set j (some (.ref p))).set i none) = (σ1.set j (some (.ref p))).set i none := by
                  rw [List.set_comm _ _ hij, List.set_set]
                rw [e]
                exact ⟨_, _, st4⟩
              obtain ⟨O', S', st'⟩ := key
              exact q S' O' _ _ st'
          · exact q.elim
        · rw [if_neg hyc, if_pos hbt] at q
          exact q.elim
      · have hyc : ¬ y.C = c := fun z => by
          rw [z] at hbf
          cases c <;> cases hbf
        rw [if_neg hyc, if_neg (by rw [hbf]; exact Bool.false_ne_true)] at q
        exact q d S1 O1 σ1 H1 st1 xr
    · exact q.elim
end
end RF

set_option Elab.async false
set_option linter.all false
set_option maxRecDepth 100000
set_option autoImplicit false
set_option maxHeartbeats 0
/-! RF, part T: for i, both in enumerate(zip(x, y)) -/
namespace RF
open PySem PySem.Spec PySem.W PySem.Calls PyProof.Rows PyProof.V L2
/-- a zip: what it keeps of its tuple -/
abbrev IsZg (h : Heap) (z TI TO : Addr) (p q : Value) : Prop := h.get? z = some { cls := .type "zip", dict := none, data := .fields #[p, q, .bool false, .ref TI, .ref TO], slots := #[] }
section
variable {prog : Program} {w : World} {A : Around} {E : Value → Shared → Prop} {s : Shared}
theorem gone_none {a : Addr} {Q : Option Obj → Shared → Prop} (ho : s.heap.get? a = none) (h : Q none s) : wpAny (model prog w) A (loadIfAlive a) Q E s := by
  have z : Q (s.heap.get? a) s := by rw [ho]; exact h
  exact fun _ _ _ => z
/-- its tuple may be taken again -/
structure Takes2 (prog : Program) (w : World) (s : Shared) (z TI TO : Addr) (p q : Value) : Prop where
  zg : IsZg s.heap z TI TO p q
  fr : ∀ (A : Around) (E : Value → Shared → Prop) (Q : Bool → Shared → Prop), Q true s → wpAny (model prog w) A (Builtin.SmallTypes.ownedTupleIsFree (.ref z)) Q E s
theorem takes_new {z TI TO : Addr} (g : IsZip s.heap z TI TO .none) : Takes2 prog w s z TI TO .none (.bool false) := ⟨g, fun A E Q h => by
  unfold Builtin.SmallTypes.ownedTupleIsFree
  exact wpAny_bind (wpAny_field g rfl (x := Value.none) rfl (wpAny_pure h))⟩
theorem takes_dead {z TI TO T : Addr} {f : Bool} (g : IsZipHeld s.heap z TI TO T f) (d : s.heap.get? T = none) : Takes2 prog w s z TI TO (rawInt T) (.bool f) := ⟨g, fun A E Q h => by
  unfold Builtin.SmallTypes.ownedTupleIsFree
  refine wpAny_bind (wpAny_field g rfl (x := rawInt T) rfl ?_)
  show wpAny _ _ (loadIfAlive ((T : Int).toNat) >>= _) _ _ _
  rw [Int.toNat_natCast]
  refine wpAny_bind (gone_none d ?_)
  simp only [Option.isNone_none, if_true]
  exact wpAny_pure h⟩
theorem ez_item {z TI TO i1 i2 l1 l2 : Addr} {p q : Value} {n1 n2 : Nat} {us vs : Array Value} {u v a b : Value} {Q : Value → Shared → Prop} (D : ZipApart z TI TO i1 i2 l1 l2)
    (t : Takes2 prog w s z TI TO p q) (gI : IsPair s.heap TI (.ref i1) (.ref i2)) (gO : IsPair s.heap TO a b)
    (j1 : s.heap.IsListIter i1 l1 n1) (j2 : s.heap.IsListIter i2 l2 n2) (k1 : s.heap.IsList l1 us) (k2 : s.heap.IsList l2 vs) (eu : us[n1]? = some u) (ev : vs[n2]? = some v)
    (K : ∀ g, IsZg g z TI TO (rawInt s.heap.objs.size) (.bool false) → IsPair g TO u v → g.IsListIter i1 l1 (n1 + 1) → g.IsListIter i2 l2 (n2 + 1) → IsPair g s.heap.objs.size u v → g.objs.size = s.heap.objs.size + 1 →
      (∀ c o, c ≠ z → c ≠ TO → c ≠ i1 → c ≠ i2 → s.heap.get? c = some o → g.get? c = some o) → Q (.ref s.heap.objs.size) { s with heap := g }) :
    wpAny (model prog w) A (Builtin.«zip.__next__» ⟨[.ref z], []⟩) (fun fin s' => ∃ v, fin = .done (.ret v) ∧ Q v s') E s := by
  have gz := t.zg
  show wpAny _ _ (field (Value.ref z) 2 >>= _) _ _ _
  refine wpAny_bind (wpAny_field gz rfl (x := Value.bool false) rfl ?_)
  show wpAny _ _ (field (Value.ref z) 3 >>= _) _ _ _
  refine wpAny_bind (wpAny_field gz rfl (x := Value.ref TI) rfl ?_)
  refine wpAny_bind (wpAny_seqItems gI rfl ?_)
  show wpAny _ _ (Builtin.SmallTypes.ownedTupleIsFree (Value.ref z) >>= _) _ _ _
  refine wpAny_bind (t.fr _ _ _ ?_)
  simp only [if_true]
  refine wpAny_bind (wpAny_rule ?_)
  refine wpAny_bind (wpAny_field gz rfl (x := Value.ref TO) rfl ?_)
  refine wpAny_bind (wpAny_setField_rec gz (by simp) fun ha za sa => ?_)
  replace za : IsZg ha z TI TO .ellipsis q := za
  refine wpAny_bind ?_
  simp only [List.zipIdx_cons, List.zipIdx_nil, List.forIn_cons, List.forIn_nil]
  refine wpAny_bind (wpAny_bind (wpAny_onRaise ?_))
  show wpAny _ _ (Builtin.SmallTypes.nextOf (Value.ref i1) >>= _) _ _ _
  refine wpAny_bind (wpAny_nextOf_list_item (j1.extBut sa.extBut D.i1z) (k1.extBut sa.extBut D.l1z) eu fun hb j1b sb => wpAny_pure ?_)
  have Ob : IsPair hb TO a b := sb.extBut _ _ D.TOi1 (sa.extBut _ _ D.TOz gO)
  refine wpAny_bind (wpAny_seqItems Ob rfl ?_)
  refine wpAny_bind (wpAny_updateSeq_pair Ob fun hc Oc sc => ?_)
  replace Oc : IsPair hc TO u b := Oc
  refine wpAny_bind (wpAny_letGo (wpAny_pure ?_))
  refine wpAny_bind (wpAny_bind (wpAny_onRaise ?_))
  show wpAny _ _ (Builtin.SmallTypes.nextOf (Value.ref i2) >>= _) _ _ _
  refine wpAny_bind (wpAny_nextOf_list_item (((j2.extBut sa.extBut D.i2z).extBut sb.extBut D.i12.symm).extBut sc.extBut D.TOi2.symm) (((k2.extBut sa.extBut D.l2z).extBut sb.extBut D.l2i1).extBut sc.extBut D.l2TO) ev fun hd j2d sd => wpAny_pure ?_)
  have Od : IsPair hd TO u b := sd.extBut _ _ D.TOi2 Oc
  refine wpAny_bind (wpAny_seqItems Od rfl ?_)
  refine wpAny_bind (wpAny_updateSeq_pair Od fun he Oe se => ?_)
  replace Oe : IsPair he TO u v := Oe
  refine wpAny_bind (wpAny_letGo (wpAny_pure (wpAny_pure ?_)))
  refine wpAny_bind (wpAny_seqItems Oe rfl ?_)
  refine wpAny_bind (wpAny_newTuple ?_)
  have sz : he.objs.size = s.heap.objs.size := by rw [se.1, sd.1, sc.1, sb.1, sa.1]
  have ze : IsZg he z TI TO .ellipsis q := se.extBut _ _ D.TOz.symm (sd.extBut _ _ D.i2z.symm (sc.extBut _ _ D.TOz.symm (sb.extBut _ _ D.i1z.symm za)))
  have ke : ∀ c o, c ≠ z → c ≠ TO → c ≠ i1 → c ≠ i2 → s.heap.get? c = some o → he.get? c = some o := fun c o c1 c2 c3 c4 x =>
    se.extBut _ _ c2 (sd.extBut _ _ c4 (sc.extBut _ _ c2 (sb.extBut _ _ c3 (sa.extBut _ _ c1 x))))
  have j1e : he.IsListIter i1 l1 (n1 + 1) := ((j1b.extBut sc.extBut D.TOi1.symm).extBut sd.extBut D.i12).extBut se.extBut D.TOi1.symm
  have j2e : he.IsListIter i2 l2 (n2 + 1) := j2d.extBut se.extBut D.TOi2.symm
  have zlt : z < he.objs.size := Heap.lt_size ze
  show wpAny _ _ (Builtin.SmallTypes.ownedTupleHandOut (Value.ref z) (Value.ref he.objs.size) >>= _) _ _ _
  refine wpAny_bind ?_
  unfold Builtin.SmallTypes.ownedTupleHandOut
  have zf : IsZg (he.push { cls := .type "tuple", data := .seq #[u, v] }) z TI TO .ellipsis q := Heap.get?_push_of_some _ ze
  refine wpAny_bind (wpAny_setField_rec zf (by simp) fun hf zf1 sf => ?_)
  replace zf1 : IsZg hf z TI TO (rawInt he.objs.size) q := zf1
  refine wpAny_setField_rec zf1 (by simp) fun hg zg sg => ?_
  replace zg : IsZg hg z TI TO (rawInt he.objs.size) (.bool false) := zg
  have up : ∀ c o, c ≠ z → he.get? c = some o → hg.get? c = some o := fun c o c1 x => sg.extBut _ _ c1 (sf.extBut _ _ c1 (Heap.get?_push_of_some _ x))
  have Tg : IsPair hg he.objs.size u v := sg.extBut _ _ (Nat.ne_of_gt zlt) (sf.extBut _ _ (Nat.ne_of_gt zlt) (Heap.get?_push_size _ rfl))
  have szg : hg.objs.size = he.objs.size + 1 := by rw [sg.1, sf.1, Heap.size_push]
  rw [sz] at zg Tg szg
  refine wpAny_pure ⟨_, rfl, ?_⟩
  show Q (.ref he.objs.size) _
  rw [sz]
  exact K hg zg (up _ _ D.TOz Oe) (j1e.at fun o x => up _ o D.i1z x) (j2e.at fun o x => up _ o D.i2z x) Tg szg fun c o c1 c2 c3 c4 x => up c o c1 (ke c o c1 c2 c3 c4 x)
theorem ez_end {z TI TO i1 i2 l1 l2 : Addr} {p q : Value} {n1 n2 : Nat} {us vs : Array Value} {a b : Value} {Q : PySem.Fin → Shared → Prop} (hh : A.handled = none) (D : ZipApart z TI TO i1 i2 l1 l2)
    (t : Takes2 prog w s z TI TO p q) (gI : IsPair s.heap TI (.ref i1) (.ref i2)) (gO : IsPair s.heap TO a b)
    (j1 : s.heap.IsListIter i1 l1 n1) (j2 : s.heap.IsListIter i2 l2 n2) (k1 : s.heap.IsList l1 us) (k2 : s.heap.IsList l2 vs) (ee : us[n1]? = none ∨ vs[n2]? = none)
    (K : ∀ g e, (∀ c o, c ≠ z → c ≠ TO → c ≠ i1 → c ≠ i2 → s.heap.get? c = some o → g.get? c = some o) → (∃ o, g.get? e = some o ∧ o.cls = .type "StopIteration") → E (.ref e) { s with heap := g }) :
    wpAny (model prog w) A (Builtin.«zip.__next__» ⟨[.ref z], []⟩) Q E s := by
  have gz := t.zg
  show wpAny _ _ (field (Value.ref z) 2 >>= _) _ _ _
  refine wpAny_bind (wpAny_field gz rfl (x := Value.bool false) rfl ?_)
  show wpAny _ _ (field (Value.ref z) 3 >>= _) _ _ _
  refine wpAny_bind (wpAny_field gz rfl (x := Value.ref TI) rfl ?_)
  refine wpAny_bind (wpAny_seqItems gI rfl ?_)
  show wpAny _ _ (Builtin.SmallTypes.ownedTupleIsFree (Value.ref z) >>= _) _ _ _
  refine wpAny_bind (t.fr _ _ _ ?_)
  simp only [if_true]
  refine wpAny_bind (wpAny_rule ?_)
  refine wpAny_bind (wpAny_field gz rfl (x := Value.ref TO) rfl ?_)
  refine wpAny_bind (wpAny_setField_rec gz (by simp) fun ha za sa => ?_)
  replace za : IsZg ha z TI TO .ellipsis q := za
  refine wpAny_bind ?_
  simp only [List.zipIdx_cons, List.zipIdx_nil, List.forIn_cons, List.forIn_nil]
  refine wpAny_bind (wpAny_bind (wpAny_onRaise ?_))
  show wpAny _ _ (Builtin.SmallTypes.nextOf (Value.ref i1) >>= _) _ _ _
  cases eu : us[n1]? with
  | none =>
    refine wpAny_bind (wpAny_nextOf_list_end hh (j1.extBut sa.extBut D.i1z) (k1.extBut sa.extBut D.l1z) eu fun hb e sb x => ?_)
    obtain ⟨oe, xo, xc⟩ := x
    have zb : IsZg hb z TI TO .ellipsis q := sb _ _ D.i1z.symm za
    have ne : e ≠ z := fun y => by
      subst y
      rw [zb] at xo
      cases xo
      simp at xc
    refine wpAny_setField_rec zb (by simp) fun hc _ sc => K hc e (fun c o c1 _ c3 _ y => sc.extBut _ _ c1 (sb _ _ c3 (sa.extBut _ _ c1 y))) ⟨oe, sc.extBut _ _ ne xo, xc⟩
  | some u =>
    have ev : vs[n2]? = none := by
      rcases ee with y | y
      · rw [eu] at y
        cases y
      · exact y
    refine wpAny_bind (wpAny_nextOf_list_item (j1.extBut sa.extBut D.i1z) (k1.extBut sa.extBut D.l1z) eu fun hb j1b sb => wpAny_pure ?_)
    have Ob : IsPair hb TO a b := sb.extBut _ _ D.TOi1 (sa.extBut _ _ D.TOz gO)
    refine wpAny_bind (wpAny_seqItems Ob rfl ?_)
    refine wpAny_bind (wpAny_updateSeq_pair Ob fun hc Oc sc => ?_)
    refine wpAny_bind (wpAny_letGo (wpAny_pure ?_))
    refine wpAny_bind (wpAny_bind (wpAny_onRaise ?_))
    show wpAny _ _ (Builtin.SmallTypes.nextOf (Value.ref i2) >>= _) _ _ _
    refine wpAny_bind (wpAny_nextOf_list_end hh (((j2.extBut sa.extBut D.i2z).extBut sb.extBut D.i12.symm).extBut sc.extBut D.TOi2.symm) (((k2.extBut sa.extBut D.l2z).extBut sb.extBut D.l2i1).extBut sc.extBut D.l2TO) ev fun hd e sd x => ?_)
    obtain ⟨oe, xo, xc⟩ := x
    have zd : IsZg hd z TI TO .ellipsis q := sd _ _ D.i2z.symm (sc.extBut _ _ D.TOz.symm (sb.extBut _ _ D.i1z.symm za))
    have ne : e ≠ z := fun y => by
      subst y
      rw [zd] at xo
      cases xo
      simp at xc
    refine wpAny_setField_rec zd (by simp) fun he _ se => K he e (fun c o c1 c2 c3 c4 y => se.extBut _ _ c1 (sd _ _ c4 (sc.extBut _ _ c2 (sb.extBut _ _ c3 (sa.extBut _ _ c1 y))))) ⟨oe, se.extBut _ _ ne xo, xc⟩
/-- the zip's state within an enumerate -/
structure ZSt (z TI TO i1 i2 a b : Addr) (i : Nat) (h : Heap) : Prop where
  gI : IsPair h TI (.ref i1) (.ref i2)
  gO : ∃ x y, IsPair h TO x y
  j1 : h.IsListIter i1 a i
  j2 : h.IsListIter i2 b i
  zz : IsZip h z TI TO .none ∨ ∃ T f, IsZipHeld h z TI TO T f
theorem zs_item {z TI TO i1 i2 a b : Addr} {i : Nat} {us vs : Array Value} {u v : Value} {Q : Value → Shared → Prop} (D : ZipApart z TI TO i1 i2 a b) (st : ZSt z TI TO i1 i2 a b i s.heap)
    (k1 : s.heap.IsList a us) (k2 : s.heap.IsList b vs) (eu : us[i]? = some u) (ev : vs[i]? = some v)
    (K : ∀ g, ZSt z TI TO i1 i2 a b (i + 1) g → IsPair g s.heap.objs.size u v → g.objs.size = s.heap.objs.size + 1 → (∀ c o, c ≠ z → c ≠ TO → c ≠ i1 → c ≠ i2 → s.heap.get? c = some o → g.get? c = some o) → Q (.ref s.heap.objs.size) { s with heap := g }) :
    wpAny (model prog w) A (Builtin.SmallTypes.nextOf (.ref z)) Q E s := by
  obtain ⟨x0, y0, gO⟩ := st.gO
  have fin : (∃ p q, IsZg s.heap z TI TO p q) → wpAny (model prog w) A.in1 (Builtin.«zip.__next__» ⟨[.ref z], []⟩) (fun fin s' => ∃ v, fin = .done (.ret v) ∧ wpAny (model prog w) A (pure v : Sem Value) Q E s') E s → wpAny (model prog w) A (Builtin.SmallTypes.nextOf (.ref z)) Q E s := by
    rintro ⟨p, q, g⟩ x
    have ty : s.TypeIs (.ref z) "zip" := ⟨_, g, rfl⟩
    unfold Builtin.SmallTypes.nextOf
    exact wpAny_bind (wpAny_callSpecial?_slot (name := Str.ofString "__next__") ty F.slot_zip_next (wpAny_call_entry F.slot_zip_next ty F.entry_zip_next x (F.args_zip_next_1 _)))
  have free : ∀ p q, Takes2 prog w s z TI TO p q → wpAny (model prog w) A (Builtin.SmallTypes.nextOf (.ref z)) Q E s := fun p q t =>
    fin ⟨p, q, t.zg⟩ (ez_item D t st.gI gO st.j1 st.j2 k1 k2 eu ev fun g c1 c2 c3 c4 c5 c6 c7 => wpAny_pure (K g ⟨c7 _ _ D.TIz D.TITO D.TIi1 D.TIi2 st.gI, ⟨_, _, c2⟩, c3, c4, .inr ⟨_, false, c1⟩⟩ c5 c6 c7))
  rcases st.zz with g | ⟨T, f, g⟩
  · exact free _ _ (takes_new g)
  · cases e : s.heap.get? T with
    | none => exact free _ _ (takes_dead g e)
    | some oT =>
      refine fin ⟨_, _, g⟩ (zip_next_item_held D g e st.gI st.j1 st.j2 k1 k2 eu ev fun h' c1 c3 c4 c5 c6 c7 => wpAny_pure (K h' ⟨c7 _ _ D.TIz D.TIi1 D.TIi2 st.gI, ⟨_, _, c7 _ _ D.TOz D.TOi1 D.TOi2 gO⟩, c3, c4, .inr ⟨_, true, c1⟩⟩ c5 c6 fun c o n1 _ n3 n4 x => c7 c o n1 n3 n4 x))
theorem zs_end {z TI TO i1 i2 a b : Addr} {i : Nat} {us vs : Array Value} {Q : Value → Shared → Prop} (hh : A.handled = none) (D : ZipApart z TI TO i1 i2 a b) (st : ZSt z TI TO i1 i2 a b i s.heap)
    (k1 : s.heap.IsList a us) (k2 : s.heap.IsList b vs) (ee : us[i]? = none ∨ vs[i]? = none)
    (K : ∀ g e, (∀ c o, c ≠ z → c ≠ TO → c ≠ i1 → c ≠ i2 → s.heap.get? c = some o → g.get? c = some o) → (∃ o, g.get? e = some o ∧ o.cls = .type "StopIteration") → E (.ref e) { s with heap := g }) :
    wpAny (model prog w) A (Builtin.SmallTypes.nextOf (.ref z)) Q E s := by
  obtain ⟨x0, y0, gO⟩ := st.gO
  have hh1 : A.in1.handled = none := hh
  have fin : (∃ p q, IsZg s.heap z TI TO p q) → wpAny (model prog w) A.in1 (Builtin.«zip.__next__» ⟨[.ref z], []⟩) (fun fin s' => ∃ v, fin = .done (.ret v) ∧ wpAny (model prog w) A (pure v : Sem Value) Q E s') E s → wpAny (model prog w) A (Builtin.SmallTypes.nextOf (.ref z)) Q E s := by
    rintro ⟨p, q, g⟩ x
    have ty : s.TypeIs (.ref z) "zip" := ⟨_, g, rfl⟩
    unfold Builtin.SmallTypes.nextOf
    exact wpAny_bind (wpAny_callSpecial?_slot (name := Str.ofString "__next__") ty F.slot_zip_next (wpAny_call_entry F.slot_zip_next ty F.entry_zip_next x (F.args_zip_next_1 _)))
  have free : ∀ p q, Takes2 prog w s z TI TO p q → wpAny (model prog w) A (Builtin.SmallTypes.nextOf (.ref z)) Q E s := fun p q t =>
    fin ⟨p, q, t.zg⟩ (ez_end hh1 D t st.gI gO st.j1 st.j2 k1 k2 ee K)
  rcases st.zz with g | ⟨T, f, g⟩
  · exact free _ _ (takes_new g)
  · cases e : s.heap.get? T with
    | none => exact free _ _ (takes_dead g e)
    | some oT => exact fin ⟨_, _, g⟩ (zip_next_end_held hh1 D g e st.gI st.j1 st.j2 k1 k2 ee fun h' e n x => K h' e (fun c o n1 _ n3 n4 y => n c o n1 n3 n4 y) x)
theorem en_item {e z TI TO i1 i2 a b : Addr} {i : Nat} {c : Int} {us vs : Array Value} {u v old : Value} {Q : Option Value → Shared → Prop} (D : ZipApart z TI TO i1 i2 a b) (ge : IsEnum s.heap e z c old) (st : ZSt z TI TO i1 i2 a b i s.heap)
    (ap : e ≠ z ∧ e ≠ TO ∧ e ≠ i1 ∧ e ≠ i2) (k1 : s.heap.IsList a us) (k2 : s.heap.IsList b vs) (eu : us[i]? = some u) (ev : vs[i]? = some v)
    (K : ∀ g g' tk, ZSt z TI TO i1 i2 a b (i + 1) g → IsPair g s.heap.objs.size u v → g.objs.size = s.heap.objs.size + 1 → (∀ c o, c ≠ z → c ≠ TO → c ≠ i1 → c ≠ i2 → s.heap.get? c = some o → g.get? c = some o) →
      IsEnumOut g' e z (c + 1) (.ref s.heap.objs.size) g.objs.size → g'.get? g.objs.size = some { cls := .type "tuple", data := .seq #[.int c tk, .ref s.heap.objs.size] } → (∀ b o, b ≠ e → g.get? b = some o → g'.get? b = some o) →
      Q (some (.ref g.objs.size)) { s with heap := g', toks := tk + 1 }) : wpAny (model prog w) A (pyNext (.ref e)) Q E s := by
  have ty : s.TypeIs (.ref e) "enumerate" := ⟨_, ge, rfl⟩
  unfold pyNext
  refine wpAny_bind (wpAny_attempt (wpAny_callSpecial?_slot (name := Str.ofString "__next__") ty F.slot_enumerate_next (wpAny_call_entry F.slot_enumerate_next ty F.entry_enumerate_next ?_ (F.args_enumerate_next_1 _))))
  obtain ⟨hp, gg, dd, t0, os⟩ := s
  show wpAny _ _ (field (Value.ref e) 2 >>= _) _ _ _
  refine wpAny_bind (wpAny_field ge rfl (x := Value.ref z) rfl ?_)
  refine wpAny_bind (zs_item D st k1 k2 eu ev fun g st1 gp gs gk => ?_)
  have e1 : IsEnum g e z c old := gk _ _ ap.1 ap.2.1 ap.2.2.1 ap.2.2.2 ge
  have elt : e < g.objs.size := Heap.lt_size e1
  show wpAny _ _ (field (Value.ref e) 3 >>= _) _ _ ⟨g, gg, dd, t0, os⟩
  refine wpAny_bind (wpAny_field e1 rfl (x := rawInt c) rfl ?_)
  show wpAny _ _ (field (Value.ref e) 4 >>= _) _ _ ⟨g, gg, dd, t0, os⟩
  refine wpAny_bind (wpAny_field e1 rfl (x := Value.none) rfl ?_)
  show wpAny _ _ (mkInt c >>= _) _ _ ⟨g, gg, dd, t0, os⟩
  refine wpAny_bind (wpAny_mkInt ?_)
  show wpAny _ _ (setField (Value.ref e) 3 (rawInt (c + 1)) >>= _) _ _ ⟨g, gg, dd, t0 + 1, os⟩
  refine wpAny_bind (wpAny_setField_rec e1 (by simp) fun ga ea sa => ?_)
  replace sa : Heap.SameBut e g ga := sa
  replace ea : IsEnum ga e z (c + 1) old := ea
  show wpAny _ _ (setField (Value.ref e) 4 Value.none >>= _) _ _ ⟨ga, gg, dd, t0 + 1, os⟩
  refine wpAny_bind (wpAny_setField_rec ea (by simp) fun gb eb sb => ?_)
  replace sb : Heap.SameBut e ga gb := sb
  replace eb : IsEnum gb e z (c + 1) old := eb
  show wpAny _ _ (newTuple [Value.int c t0, Value.ref hp.objs.size] >>= _) _ _ ⟨gb, gg, dd, t0 + 1, os⟩
  refine wpAny_bind (wpAny_newTuple ?_)
  have sz : gb.objs.size = g.objs.size := by rw [sb.1, sa.1]
  have ec : IsEnum (gb.push { cls := .type "tuple", data := .seq #[.int c t0, .ref hp.objs.size] }) e z (c + 1) old := Heap.get?_push_of_some _ eb
  have tc : (gb.push { cls := .type "tuple", data := .seq #[.int c t0, .ref hp.objs.size] }).get? g.objs.size = some { cls := .type "tuple", data := .seq #[.int c t0, .ref hp.objs.size] } := by
    rw [← sz]
    exact Heap.get?_push_size _ rfl
  have kc : ∀ b o, b ≠ e → g.get? b = some o → (gb.push { cls := .type "tuple", data := .seq #[.int c t0, .ref hp.objs.size] }).get? b = some o := fun b o nb x => Heap.get?_push_of_some _ (sb.extBut b o nb (sa.extBut b o nb x))
  generalize gb.push { cls := .type "tuple", data := .seq #[.int c t0, .ref hp.objs.size] } = gc at ec tc kc
  show wpAny _ _ (Builtin.SmallTypes.ownedTupleIsFree (Value.ref e) >>= _) _ _ ⟨gc, gg, dd, t0 + 1, os⟩
  rw [sz]
  refine wpAny_bind ?_
  unfold Builtin.SmallTypes.ownedTupleIsFree
  refine wpAny_bind (wpAny_field ec rfl (x := Value.none) rfl (wpAny_pure ?_))
  simp only [if_true]
  refine wpAny_bind (wpAny_rule ?_)
  refine wpAny_bind (wpAny_field ec rfl (x := old) rfl ?_)
  refine wpAny_bind (wpAny_setField_rec ec (by simp) fun gd ed sd => ?_)
  replace sd : Heap.SameBut e gc gd := sd
  replace ed : IsEnum gd e z (c + 1) (.ref hp.objs.size) := ed
  show wpAny _ _ (Builtin.SmallTypes.ownedTupleHandOut (Value.ref e) (Value.ref g.objs.size) >>= _) _ _ ⟨gd, gg, dd, t0 + 1, os⟩
  refine wpAny_bind ?_
  unfold Builtin.SmallTypes.ownedTupleHandOut
  refine wpAny_bind (wpAny_setField_rec ed (by simp) fun gf ef sf => ?_)
  replace sf : Heap.SameBut e gd gf := sf
  replace ef : IsEnumOut gf e z (c + 1) (.ref hp.objs.size) g.objs.size := ef
  refine wpAny_setField_rec ef (by simp) fun gl el sl => ?_
  replace sl : Heap.SameBut e gf gl := sl
  replace el : IsEnumOut gl e z (c + 1) (.ref hp.objs.size) g.objs.size := el
  have kl : ∀ b o, b ≠ e → gc.get? b = some o → gl.get? b = some o := fun b o nb x => sl.extBut b o nb (sf.extBut b o nb (sd.extBut b o nb x))
  refine wpAny_bind (wpAny_letGo (wpAny_pure ⟨_, rfl, wpAny_pure ?_⟩))
  exact K g gl t0 st1 gp gs gk el (kl _ _ (Nat.ne_of_gt elt) tc) fun b o nb x => kl b o nb (kc b o nb x)
theorem en_end {e z TI TO i1 i2 a b : Addr} {i : Nat} {c : Int} {us vs : Array Value} {old : Value} {Q : Option Value → Shared → Prop} (hh : A.handled = none) (D : ZipApart z TI TO i1 i2 a b) (ge : IsEnum s.heap e z c old) (st : ZSt z TI TO i1 i2 a b i s.heap)
    (k1 : s.heap.IsList a us) (k2 : s.heap.IsList b vs) (ee : us[i]? = none ∨ vs[i]? = none)
    (K : ∀ g, (∀ c o, c ≠ z → c ≠ TO → c ≠ i1 → c ≠ i2 → s.heap.get? c = some o → g.get? c = some o) → Q none { s with heap := g }) : wpAny (model prog w) A (pyNext (.ref e)) Q E s := by
  have ty : s.TypeIs (.ref e) "enumerate" := ⟨_, ge, rfl⟩
  unfold pyNext
  refine wpAny_bind (wpAny_attempt (wpAny_callSpecial?_slot (name := Str.ofString "__next__") ty F.slot_enumerate_next (wpAny_call_entry F.slot_enumerate_next ty F.entry_enumerate_next ?_ (F.args_enumerate_next_1 _))))
  show wpAny _ _ (field (Value.ref e) 2 >>= _) _ _ _
  refine wpAny_bind (wpAny_field ge rfl (x := Value.ref z) rfl ?_)
  refine wpAny_bind (zs_end (A := A.in1) hh D st k1 k2 ee fun g x gk xx => ?_)
  obtain ⟨o, xo, xc⟩ := xx
  refine wpAny_bind (wpAny_isInstance (T := "StopIteration") (b := true) ⟨o, xo, xc⟩ isSubtype_stop ?_)
  exact wpAny_pure (K _ gk)
end
/-! ### the walk -/
/-- each item in a new pair, that in a new pair with its place -/
def Itez (K : PySem.W.Frag) (a b : Addr) : It :=
  ⟨fun i H => ∃ (xs ys : List V) (x y : V), SqL K H a xs ∧ SqL K H b ys ∧ xs[i]? = some x ∧ ys[i]? = some y,
    fun i H v H' => ∃ U T x y, v = .ref T ∧ H U = none ∧ H T = none ∧ U ≠ T ∧ H' = upd (upd H U (.tup [x, y])) T (.tup [.int (i : Nat), .ref U]) ∧ (∀ xs, SqL K H a xs → xs[i]? = some x) ∧ ∀ ys, SqL K H b ys → ys[i]? = some y,
    fun i H => ∃ xs ys : List V, SqL K H a xs ∧ SqL K H b ys ∧ (xs.length ≤ i ∨ ys.length ≤ i)⟩
structure ESt (e z TI TO i1 i2 a b : Addr) (i : Nat) (h : Heap) : Prop where
  en : ∃ old, IsEnum h e z ((i : Nat) : Int) old
  zs : ZSt z TI TO i1 i2 a b i h
theorem zst_keep {z TI TO i1 i2 a b : Addr} {i : Nat} {h h' : Heap} (st : ZSt z TI TO i1 i2 a b i h) (k : ∀ c ∈ [z, TI, TO, i1, i2], ∀ o, h.get? c = some o → h'.get? c = some o) : ZSt z TI TO i1 i2 a b i h' where
  gI := k TI (by simp) _ st.gI
  gO := let ⟨x, y, g⟩ := st.gO; ⟨x, y, k TO (by simp) _ g⟩
  j1 := st.j1.at fun o q => k i1 (by simp) o q
  j2 := st.j2.at fun o q => k i2 (by simp) o q
  zz := by
    rcases st.zz with g | ⟨T, f, g⟩
    · exact .inl (k z (by simp) _ g)
    · exact .inr ⟨T, f, k z (by simp) _ g⟩
theorem turn_ez {P : Program} {w : World} {K : PySem.W.Frag} {elts : List Expr} {kk : Nat} {tpos : Pos} {a b e z TI TO i1 i2 : Addr} (D : ZipApart z TI TO i1 i2 a b) (ap : e ≠ z ∧ e ≠ TI ∧ e ≠ TO ∧ e ≠ i1 ∧ e ≠ i2 ∧ a ≠ e ∧ b ≠ e) :
    Turn P w K (.Tuple elts kk tpos) (Itez K a b) [e, z, TI, TO, i1, i2] e (fun i h => ESt e z TI TO i1 i2 a b i h) where
  mem := by simp
  obj := fun i h st c hc => by
    obtain ⟨⟨old, ge⟩, zs⟩ := st
    obtain ⟨x, y, gO⟩ := zs.gO
    obtain ⟨o1, x1, _, d1⟩ := zs.j1
    obtain ⟨o2, x2, _, d2⟩ := zs.j2
    have hc' : c = e ∨ c = z ∨ c = TI ∨ c = TO ∨ c = i1 ∨ c = i2 := by simpa using hc
    rcases hc' with q | q | q | q | q | q
    · rw [q]; exact ⟨_, ge, fun v y => nomatch y⟩
    · rw [q]
      rcases zs.zz with g | ⟨T, f, g⟩
      · exact ⟨_, g, fun v y => nomatch y⟩
      · exact ⟨_, g, fun v y => nomatch y⟩
    · rw [q]; exact ⟨_, zs.gI, fun v y => nomatch y⟩
    · rw [q]; exact ⟨_, gO, fun v y => nomatch y⟩
    · rw [q]; exact ⟨o1, x1, fun v y => by rw [d1] at y; cases y⟩
    · rw [q]; exact ⟨o2, x2, fun v y => by rw [d2] at y; cases y⟩
  keep := fun i h h' st k => by
    obtain ⟨⟨old, ge⟩, zs⟩ := st
    exact ⟨⟨old, k e (by simp) _ ge⟩, zst_keep zs fun c hc o q => k c (List.mem_cons_of_mem _ hc) o q⟩
  item := by
    intro X hP hw hK hc i pins s σ H E I hf st hg
    subst hP hw hK
    obtain ⟨⟨old, ge⟩, zs⟩ := st
    obtain ⟨xs, ys, x, y, qx, qy, ex, ey⟩ := hg
    obtain ⟨us, rv, p1, _⟩ := I.list qx
    obtain ⟨vs, rv2, p2, _⟩ := I.list qy
    obtain ⟨u, hu, ru⟩ := rv.get ex
    obtain ⟨v, hv, rv'⟩ := rv2.get ey
    have elt : e < s.heap.objs.size := Heap.lt_size ge
    have zlt : z < s.heap.objs.size := by
      rcases zs.zz with g | ⟨T, f, g⟩
      · exact Heap.lt_size g
      · exact Heap.lt_size g
    have ilt : TI < s.heap.objs.size := Heap.lt_size zs.gI
    have olt : TO < s.heap.objs.size := by obtain ⟨_, _, g⟩ := zs.gO; exact Heap.lt_size g
    have i1lt : i1 < s.heap.objs.size := by obtain ⟨_, g, _⟩ := zs.j1; exact Heap.lt_size g
    have i2lt : i2 < s.heap.objs.size := by obtain ⟨_, g, _⟩ := zs.j2; exact Heap.lt_size g
    refine en_item D ge zs ⟨ap.1, ap.2.2.1, ap.2.2.2.1, ap.2.2.2.2.1⟩ p1.isList p2.isList (u := u) (v := v) (by simpa using hu) (by simpa using hv) fun g g' tk st1 gp gs gk eo tp kp => ?_
    refine ⟨_, rfl, wpAny_letOwnedTupleGo_enum (s := { s with heap := g', toks := tk + 1 }) eo fun g2 e2 sb => ?_⟩
    have newU : ObjOk X.prog X.w (upd H s.heap.objs.size (.tup [x, y])) g s.heap.objs.size (.tup [x, y]) := ⟨by show 2 ≤ sizeLine; decide, [u, v], .cons ru (.cons rv' .nil), ⟨_, gp, rfl, _, rfl⟩⟩
    have I1 : Inv X pins σ (upd H s.heap.objs.size (.tup [x, y])) { s with heap := g } :=
      I.turnedNew (t' := s.toks) (ch := [e, z, TI, TO, i1, i2]) (fun c o hb q => gk c o (fun y => hb (by simp [y])) (fun y => hb (by simp [y])) (fun y => hb (by simp [y])) (fun y => hb (by simp [y])) q) hf (Nat.le_refl _) newU
    have hf1 : ∀ c ∈ [e, z, TI, TO, i1, i2], FpOk X pins (upd H s.heap.objs.size (.tup [x, y])) c := fun c hcm => by
      obtain ⟨f0, f1⟩ := hf c hcm
      have clt : c < s.heap.objs.size := by
        have hc' : c = e ∨ c = z ∨ c = TI ∨ c = TO ∨ c = i1 ∨ c = i2 := by simpa using hcm
        rcases hc' with q | q | q | q | q | q
        · rw [q]; exact elt
        · rw [q]; exact zlt
        · rw [q]; exact ilt
        · rw [q]; exact olt
        · rw [q]; exact i1lt
        · rw [q]; exact i2lt
      exact ⟨by rw [upd_ne (Nat.ne_of_lt clt)]; exact f0, f1⟩
    have k2 : ∀ c o, c ∉ [e, z, TI, TO, i1, i2] → g.get? c = some o → g2.get? c = some o := fun c o hcm q => (sb.2 c fun y => hcm (by simp [y])).trans (kp c o (fun y => hcm (by simp [y])) q)
    have tp2 : g2.get? g.objs.size = some { cls := .type "tuple", data := .seq #[.int i tk, .ref s.heap.objs.size] } := (sb.2 _ (by rw [gs]; exact Nat.ne_of_gt (Nat.lt_succ_of_lt elt))).trans tp
    have newT : ObjOk X.prog X.w (upd (upd H s.heap.objs.size (.tup [x, y])) g.objs.size (.tup [.int (i : Nat), .ref s.heap.objs.size])) g2 g.objs.size (.tup [.int (i : Nat), .ref s.heap.objs.size]) :=
      ⟨by show 2 ≤ sizeLine; decide, [.int i tk, .ref s.heap.objs.size], .cons ⟨_, rfl⟩ (.cons rfl .nil), ⟨_, tp2, rfl, _, rfl⟩⟩
    have I2 : Inv X pins σ (upd (upd H s.heap.objs.size (.tup [x, y])) g.objs.size (.tup [.int (i : Nat), .ref s.heap.objs.size])) { s with heap := g2, toks := tk + 1 } :=
      I1.turnedNew (t' := tk + 1) (ch := [e, z, TI, TO, i1, i2]) k2 hf1 (Nat.le_refl _) newT
    have hUT : s.heap.objs.size ≠ g.objs.size := by rw [gs]; exact Nat.ne_of_lt (Nat.lt_succ_self _)
    refine ⟨.ref g.objs.size, _, I2, rfl, ⟨s.heap.objs.size, _, x, y, rfl, I.hok.fresh (Nat.le_refl _), I.hok.fresh (by rw [gs]; exact Nat.le_succ _), hUT, rfl, fun l hl => by rw [I.list_inj hl qx]; exact ex, fun l hl => by rw [I.list_inj hl qy]; exact ey⟩, ⟨⟨.ref s.heap.objs.size, ?_⟩, zst_keep st1 fun c hcm o q => ?_⟩, fun c hcm => ?_⟩
    · have e1 : ((i + 1 : Nat) : Int) = (i : Int) + 1 := by omega
      rw [e1]; exact e2
    · have ne : c ≠ e := fun y => by
        have hc' : c = z ∨ c = TI ∨ c = TO ∨ c = i1 ∨ c = i2 := by simpa using hcm
        rcases hc' with q | q | q | q | q
        · exact ap.1 (y.symm.trans q)
        · exact ap.2.1 (y.symm.trans q)
        · exact ap.2.2.1 (y.symm.trans q)
        · exact ap.2.2.2.1 (y.symm.trans q)
        · exact ap.2.2.2.2.1 (y.symm.trans q)
      exact (sb.2 c ne).trans (kp c o ne q)
    · have h1 := (hf1 c hcm).1
      have clt : c < g.objs.size := by
        rw [gs]
        have hc' : c = e ∨ c = z ∨ c = TI ∨ c = TO ∨ c = i1 ∨ c = i2 := by simpa using hcm
        rcases hc' with q | q | q | q | q | q
        · rw [q]; exact Nat.lt_succ_of_lt elt
        · rw [q]; exact Nat.lt_succ_of_lt zlt
        · rw [q]; exact Nat.lt_succ_of_lt ilt
        · rw [q]; exact Nat.lt_succ_of_lt olt
        · rw [q]; exact Nat.lt_succ_of_lt i1lt
        · rw [q]; exact Nat.lt_succ_of_lt i2lt
      rw [upd_ne (Nat.ne_of_lt clt)]
      exact h1
  done := by
    intro X hP hw hK hc i pins s σ H E I hf st hg
    subst hP hw hK
    obtain ⟨⟨old, ge⟩, zs⟩ := st
    obtain ⟨xs, ys, qx, qy, hend⟩ := hg
    obtain ⟨us, rv, p1, _⟩ := I.list qx
    obtain ⟨vs, rv2, p2, _⟩ := I.list qy
    have l1 := rv.length
    have l2 := rv2.length
    have ee : us.toArray[i]? = none ∨ vs.toArray[i]? = none := by
      rcases hend with q | q
      · exact .inl (by simp; omega)
      · exact .inr (by simp; omega)
    exact en_end (I.ok.hd hc) D ge zs p1.isList p2.isList ee fun g gk => ⟨rfl, I.turnedL (t' := s.toks) (ch := [e, z, TI, TO, i1, i2]) (fun c o hb q => gk c o (fun y => hb (by simp [y])) (fun y => hb (by simp [y])) (fun y => hb (by simp [y])) (fun y => hb (by simp [y])) q) hf⟩
  self := fun A i s Q E st h => let ⟨⟨_, ge⟩, _⟩ := st; wpAny_pyIter_enum ge h
end RF

set_option Elab.async false
set_option linter.all false
set_option maxRecDepth 100000
set_option autoImplicit false
set_option maxHeartbeats 0
/-! RF, part U: for i, both in enumerate(zip(x, y)), the model -/
namespace RF
open PySem PySem.Spec PySem.W PySem.Calls PyProof.Rows PyProof.V L2
theorem news_ez (z TI TO : Addr) :
    Meets (Builtin.«enumerate.__new__» ⟨[.type "enumerate", .ref z], []⟩) (fun _ R s => IsZip s.heap z TI TO .none ∧
      R (.ok (.ret (.ref s.heap.objs.size))) { s with heap := s.heap.push { cls := .type "enumerate", data := .fields #[.none, .bool false, .ref z, rawInt 0, .none, .none] } }) :=
  .of_wp fun prog w A R s h => by
    obtain ⟨hp, g, d, tk, os⟩ := s; obtain ⟨hz, h⟩ := h
    have hsub := sub_enumerate
    have hZ : IsZip (Shared.heap ⟨hp, g, d, tk, os⟩) z TI TO .none := hz
    have q1 : ∀ {A' : Around} {E : Value → Shared → Prop} {Q : Value → Shared → Prop}, Q (.ref z) ⟨hp, g, d, tk, os⟩ → wpAny (model prog w) A' (pyIter (.ref z)) Q E ⟨hp, g, d, tk, os⟩ := fun q => wpAny_pyIter_zip hZ q
    wp_walk using PySem.AutoSeq1.wpAny_loadPart' hz
    refine wpAny_stack_any fun st => wpAny_pure ?_
    split
    · rename_i c _ _ _ _ _
      cases (c == Value.type "enumerate")
      · wp_walk using q1
        exact ⟨_, rfl, h⟩
      · wp_walk using q1
        exact ⟨_, rfl, h⟩
    · wp_walk using q1
      exact ⟨_, rfl, h⟩
theorem call_ez {prog : Program} {w : World} {A : Around} {E : Value → Shared → Prop} {s : Shared} {z TI TO : Addr} {Q : Value → Shared → Prop} (g : IsZip s.heap z TI TO .none)
    (h : ∀ h', IsEnum h' s.heap.objs.size z 0 .none → h'.objs.size = s.heap.objs.size + 1 → (∀ b o, s.heap.get? b = some o → h'.get? b = some o) → Q (.ref s.heap.objs.size) { s with heap := h' }) :
    wpAny (model prog w) A (call (.type "enumerate") [.ref z]) Q E s := by
  refine callType_new F.called_enumerate (by decide) (F.typeCall_enumerate_1 _) (F.newCall_enumerate_1 _) (fun obj => F.args_object_init_2 obj _) F.entry_enumerate_new (news_ez z TI TO) ⟨g, ?_⟩
  have he : IsEnum (s.heap.push { cls := .type "enumerate", data := .fields #[.none, .bool false, .ref z, rawInt 0, .none, .none] }) s.heap.objs.size z 0 .none := Heap.get?_push_size _ rfl
  exact ⟨⟨_, he, rfl⟩, h _ he (Heap.size_push ..) fun b o x => Heap.get?_push_of_some _ x⟩
section
variable {X : Cx} {W : WX} {tg iter e e2 : Expr} {ta : TA} {p p1 pos cpos tpos : Pos} {elts : List Expr} {kk : Nat}
def iEz (K : PySem.W.Frag) (ta : TA) : TI := fun σ H R => ta σ H fun vs H1 => ∃ a b xs ys, vs = [.ref a, .ref b] ∧ SqL K H1 a xs ∧ SqL K H1 b ys ∧ R (Itez K a b) H1
theorem pi_ez (hg : Gl X "enumerate") (hm : X.mg "enumerate" = none) (hg2 : Gl X "zip") (hm2 : X.mg "zip" = none) (ha : PA X [e, e2] ta) (hs : starEach [e, e2] X.env = (false, eval e X.env) :: starEach [e2] X.env := by rfl) (hpl : (backTo cpos (starEach [e2] X.env)).any (·.1) = false := by rfl)
    (hs2 : starEach [.Call (.Name "zip" p1) [e, e2] [] cpos] X.env = (false, eval (.Call (.Name "zip" p1) [e, e2] [] cpos) X.env) :: starEach [] X.env := by rfl) :
    PI X (.Tuple elts kk tpos) (.Call (.Name "enumerate" p) [.Call (.Name "zip" p1) [e, e2] [] cpos] [] pos) (iEz X.K ta) := by
  refine ⟨fun pins s σ H R I h => ?_⟩
  refine Call_ (ld_blt I hg hm boot_enumerate (PyProof.Rows.callWith_type1 (args_cons ?_ hs2) hs2))
  refine Call_ (ld_blt I hg2 hm2 PyProof.Rows.boot_zip (PyProof.Rows.callWith_type1 (thn (ha.run cpos pins s σ H _ I h) fun us s1 ⟨vs, H1, I1, r1, q1⟩ => ?_) hs hpl))
  obtain ⟨a, b, xs, ys, ex, hqx, hqy, q⟩ := q1
  subst ex
  cases r1 with
  | cons r rr =>
    cases rr with
    | cons r' rr =>
      cases rr
      cases r
      cases r'
      obtain ⟨its, rv, y1, _⟩ := I1.list hqx
      obtain ⟨its2, rv2, y2, _⟩ := I1.list hqy
      have la : a < s1.heap.objs.size := y1.lt
      have lb : b < s1.heap.objs.size := y2.lt
      refine call_zip_2 y1.isList y2.isList fun g gz gI gO j1 j2 gs gk => args_nil ?_
      refine call_ez (s := { s1 with heap := g }) gz fun g2 ge gs2 gk2 => wpAny_pyIter_enum ge ?_
      have hgs : g.objs.size = s1.heap.objs.size + 5 := gs
      have I2 : Inv X pins σ H1 { s1 with heap := g2 } := I1.kept (t' := s1.toks) fun c o x => gk2 c o (gk c o x)
      have nz : ∀ j, j < 5 → g.objs.size ≠ s1.heap.objs.size + j := fun j hj => by rw [hgs]; exact fun x => by have := Nat.add_left_cancel x; omega
      refine ⟨g.objs.size, [g.objs.size, s1.heap.objs.size + 4, s1.heap.objs.size + 2, s1.heap.objs.size + 3, s1.heap.objs.size, s1.heap.objs.size + 1], _, _, H1, rfl, I2, turn_ez (PySem.W.ktu_apart s1.heap.objs.size a b la lb) ⟨nz 4 (by decide), nz 2 (by decide), nz 3 (by decide), nz 0 (by decide), nz 1 (by decide), by rw [hgs]; exact Nat.ne_of_lt (Nat.lt_of_lt_of_le la (Nat.le_add_right _ _)), by rw [hgs]; exact Nat.ne_of_lt (Nat.lt_of_lt_of_le lb (Nat.le_add_right _ _))⟩,
        ⟨⟨.none, ge⟩, ⟨gk2 _ _ gI, ⟨_, _, gk2 _ _ gO⟩, j1.at fun o x => gk2 _ o x, j2.at fun o x => gk2 _ o x, .inl (gk2 _ _ gz)⟩⟩, fun c hcm => ?_, q⟩
      have e' : c = g.objs.size ∨ c = s1.heap.objs.size + 4 ∨ c = s1.heap.objs.size + 2 ∨ c = s1.heap.objs.size + 3 ∨ c = s1.heap.objs.size ∨ c = s1.heap.objs.size + 1 := by simpa using hcm
      have hle : s1.heap.objs.size ≤ c := by
        rcases e' with z | z | z | z | z | z
        · rw [z, hgs]; exact Nat.le_add_right _ _
        · rw [z]; exact Nat.le_add_right _ _
        · rw [z]; exact Nat.le_add_right _ _
        · rw [z]; exact Nat.le_add_right _ _
        · rw [z]; exact Nat.le_refl _
        · rw [z]; exact Nat.le_add_right _ _
      exact I1.fpOk hle (I1.hok.fresh hle)
/-- the data of enumerate(zip(x, y)) -/
def ezD (l l' : List D) : List D := enumD 0 (zipD l l')
theorem ezD_get {l l' : List D} {i : Nat} {d d' : D} (h : l[i]? = some d) (h' : l'[i]? = some d') : (ezD l l')[i]? = some (.tup [.int (i : Nat), .tup [d, d']]) := by
  unfold ezD
  have := enumD_get 0 (zipD l l') i _ (zipD_get l l' i d d' h h')
  rwa [Nat.zero_add] at this
theorem ezD_length (l l' : List D) : (ezD l l').length = min l.length l'.length := by unfold ezD; rw [enumD_length, zipD_length]
/-- the walk yields these data -/
structure Yz (K : PySem.W.Frag) (S : Hp) (J : It) (ds : List D) : Prop where
  go : ∀ H, Ex S H → ∀ i, i < ds.length → J.go i H
  stop : ∀ H, Ex S H → ∀ i, ds.length ≤ i → J.stop i H
  yld : ∀ H, Ex S H → ∀ i x H', i < ds.length → J.yld i H x H' → ∃ d d' U T v v', ds[i]? = some (.tup [.int (i : Nat), .tup [d, d']]) ∧ x = .ref T ∧ H U = none ∧ H T = none ∧ U ≠ T ∧ H' = upd (upd H U (.tup [v, v'])) T (.tup [.int (i : Nat), .ref U]) ∧ Rep K S d v ∧ Rep K S d' v'
theorem yz_ez {K : PySem.W.Frag} {S : Hp} {a b : Addr} {vs ws : List V} {l l' : List D} (h : SqL K S a vs) (r : Reps K S l vs) (h' : SqL K S b ws) (r' : Reps K S l' ws) : Yz K S (Itez K a b) (ezD l l') where
  go := fun H e i hi => by
    rw [ezD_length, r.length, r'.length] at hi
    exact ⟨vs, ws, vs[i]'(by omega), ws[i]'(by omega), ex_l e h, ex_l e h', by simp, by simp⟩
  stop := fun H e i hi => by
    rw [ezD_length, r.length, r'.length] at hi
    exact ⟨vs, ws, ex_l e h, ex_l e h', by omega⟩
  yld := fun H e i x H' hi hy => by
    obtain ⟨U, T, v, v', rfl, hU, hT, hne, rfl, hx, hy⟩ := hy
    obtain ⟨d, h1, h2⟩ := r.getV (hx vs (ex_l e h))
    obtain ⟨d', h1', h2'⟩ := r'.getV (hy ws (ex_l e h'))
    exact ⟨d, d', U, T, v, v', ezD_get h1 h1', rfl, hU, hT, hne, rfl, h2, h2'⟩
def sForEz (ma : MA) (g : MG) (s : MS) : MS := fun ρ => toS ρ ((ma ρ).bind fun ts => lift ((stLs ts).bind fun ls => match ls with
  | [l, l'] => some (ezD l l')
  | _ => none)) fun ds => forD g s ds ρ
abbrev rZ (K : PySem.W.Frag) : Hp → Hp → List D → It → Prop := fun S _ ds J => Yz K S J ds
def tIz (K : PySem.W.Frag) (W : WX) (m : MI) : TI := fun σ H R => ∃ G S O ρ, G.K = K ∧ StR G S O σ H ρ ∧ Fin W (rZ K) (m ρ) G S O σ H ρ R
def mEz (ma : MA) : MI := fun ρ => (ma ρ).bind fun ts => lift ((stLs ts).bind fun ls => match ls with
  | [l, l'] => some (ezD l l')
  | _ => none)
theorem di_ez {ma : MA} (hg : Gl X "enumerate") (hm : X.mg "enumerate" = none) (hg2 : Gl X "zip") (hm2 : X.mg "zip" = none) (ha : DA X W [e, e2] ma) (hs : starEach [e, e2] X.env = (false, eval e X.env) :: starEach [e2] X.env := by rfl) (hpl : (backTo cpos (starEach [e2] X.env)).any (·.1) = false := by rfl)
    (hs2 : starEach [.Call (.Name "zip" p1) [e, e2] [] cpos] X.env = (false, eval (.Call (.Name "zip" p1) [e, e2] [] cpos) X.env) :: starEach [] X.env := by rfl) :
    PI X (.Tuple elts kk tpos) (.Call (.Name "enumerate" p) [.Call (.Name "zip" p1) [e, e2] [] cpos] [] pos) (tIz X.K W (mEz ma)) := by
  refine PI.weak (pi_ez hg hm hg2 hm2 ha.pa hs hpl hs2) ?_
  rintro σ H R' ⟨G, S, O, ρ, eK, st, q⟩
  refine ⟨G, S, O, ρ, eK, st, Fin.bind (rep' := rTs G) q fun ts x S1 H1 s1 k1 st1 rp q1 => ?_⟩
  have rp : RepOs G.K S1 H1 ts x := rp
  rw [eK] at rp
  cases hz : stLs ts with
  | none => rw [hz] at q1; exact q1.elim
  | some ls =>
    rw [hz, Option.bind_some] at q1
    split at q1
    · obtain ⟨a, b, vs, ws, rfl, h1, r1, h2, r2⟩ := stLs_two rp hz
      exact ⟨a, b, vs, ws, rfl, ex_l st1.exS h1, ex_l st1.exS h2, q1 _ S1 H1 (Same.refl _) (Same.refl _) st1 (yz_ez h1 r1 h2 r2)⟩
    · exact q1.elim
theorem ds_forEz {ma : MA} {g : MG} {s : MS} {body : List Stmt} (C : Ctx X W) (hi : PI X tg iter (tIz X.K W (mEz ma))) (hg : DG X tg g) (hb : DSs X W body s) (hs : ∀ x, foldedSetIterable iter X.env x = pure x := by intro _; rfl) : DS X W (.For tg iter body [] pos) (sForEz ma g s) := by
  refine ⟨PS.weak (ps_for C.own C.calm hi hg.pg hb.pss hs) ?_⟩
  rintro D σ H ⟨G, S, O, ρ, eK, st, q⟩
  refine ⟨G, S, O, ρ, eK, st, FinS.bind (rep := rZ X.K) q fun ds J S1 H1 s1 k1 st1 yl q1 => ?_⟩
  refine ⟨fun i n σ H => n = ds.length - i ∧ i ≤ ds.length ∧ ∃ S O ρ, Ex S1 S ∧ StR G S O σ H ρ ∧ FinS W (forD g s (ds.drop i) ρ) G D, ⟨_, rfl, Nat.zero_le _, S1, O, ρ, Same.refl _, st1, q1⟩, ?_⟩
  rintro i n σ2 H2 ⟨rfl, hle, S2, O2, ρ2, e2, st2, q2⟩
  by_cases hlt : i < ds.length
  · refine .inr ⟨yl.go H2 (e2.trans st2.exS) i hlt, fun σ' H' => ∃ S O ρ, Ex S1 S ∧ StR G S O σ' H' ρ ∧ FinS W (forD g s (ds.drop (i + 1)) ρ) G D, fun σ' H' h => ⟨ds.length - (i + 1), by omega, rfl, hlt, h⟩, fun x H' hy => ?_⟩
    obtain ⟨d, d', U, T, v, v', hd, rfl, hU, hT, hne, rfl, rv, rv'⟩ := yl.yld H2 (e2.trans st2.exS) i x H' hlt hy
    rw [drop_get hd] at q2
    unfold forD at q2
    cases hgd : g (.tup [.int (i : Nat), .tup [d, d']]) ρ2 with
    | none => rw [hgd] at q2; exact q2.elim
    | some ρ3 =>
      rw [hgd] at q2
      obtain ⟨stU, eU, _⟩ := st2.stand (o := .tup [v, v']) hU
      have hT2 : upd H2 U (.tup [v, v']) T = none := by rw [upd_ne (fun z => hne z.symm)]; exact hT
      obtain ⟨st3, eT, _⟩ := stU.stand (o := .tup [.int (i : Nat), .ref U]) hT2
      have e3 := eU.trans eT
      generalize hS3 : upd (upd S2 U (.tup [v, v'])) T (.tup [.int (i : Nat), .ref U]) = S3 at *
      have repI : Rep G.K S3 (.tup [d, d']) (.ref U) := by
        rw [← eK] at rv rv'
        refine .tup (.inl (.inl (eT _ _ upd_same))) (.cons (rv.mono (e2.trans e3)) (.cons (rv'.mono (e2.trans e3)) .nil))
      have rp : Rep G.K S3 (.tup [.int (i : Nat), .tup [d, d']]) (.ref T) := by
        refine .tup (.inl (.inl ?_)) (.cons (.int _) (.cons repI .nil))
        rw [← hS3]
        exact upd_same
      refine ⟨G, S3, O2, ρ2, _, ρ3, eK, st3, by rw [← eK]; exact rp, hgd, fun O' σ' st' => ?_⟩
      refine ⟨⟨G.K, G.B, S3⟩, S3, O', ρ3, eK, ⟨st'.exB, Same.refl _, st'.exS, fun b hb => .inl hb, st'.len, st'.slot, st'.off, st'.live, st'.apart, st'.out⟩, ?_⟩
      have back : ∀ {S4 : Hp} {O4 : Nat → List Addr} {σ4 : L2.St} {H4 : Hp} {ρ4 : Env}, StR ⟨G.K, G.B, S3⟩ S4 O4 σ4 H4 ρ4 → StR G S4 O4 σ4 H4 ρ4 := fun {S4 O4 σ4 H4 ρ4} z =>
        ⟨z.exB, st3.exS0.trans z.exS0, z.exS, fun b hb => by
          rcases z.new b hb with h | h
          · exact st3.new b h
          · exact .inr h, z.len, z.slot, z.off, z.live, z.apart, z.out⟩
      simp only at q2
      cases hr : s ρ3 with
      | nx ρ' =>
        rw [hr] at q2
        exact fun S4 O4 σ4 H4 z => ⟨S4, O4, ρ', (e2.trans e3).trans z.exS0, back z, q2⟩
      | ct ρ' =>
        rw [hr] at q2
        exact fun S4 O4 σ4 H4 z => ⟨S4, O4, ρ', (e2.trans e3).trans z.exS0, back z, q2⟩
      | bk ρ' =>
        rw [hr] at q2
        exact fun S4 O4 σ4 H4 z => q2 S4 O4 σ4 H4 (back z)
      | bad => rw [hr] at q2; exact q2
      | rt t =>
        rw [hr] at q2
        intro v S4 H4 rr
        obtain ⟨r1, r2, r3, r4, r5⟩ := rr
        refine q2 v S4 H4 ⟨r1, st3.exS0.trans r2, r3, fun b hb => ?_, r5⟩
        rcases r4 b hb with h | h
        · exact st3.new b h
        · exact .inr h
      | ex ρ' x =>
        rw [hr] at q2
        exact fun d' S4 O4 σ4 H4 z xr => q2 d' S4 O4 σ4 H4 (back z) xr
  · have hi' : i = ds.length := by omega
    subst hi'
    rw [List.drop_length] at q2
    exact .inl ⟨yl.stop H2 (e2.trans st2.exS) _ (Nat.le_refl _), q2 S2 O2 σ2 H2 st2⟩
end
end RF

set_option Elab.async false
set_option linter.all false
set_option maxRecDepth 100000
set_option autoImplicit false
set_option maxHeartbeats 0
/-! RF, part V: defs that hand back lists that are the caller's own, with lists of its own within -/
namespace RF
open PySem PySem.Spec L2

/-- what is handed back: as ever | a list of lists of its own | a tuple of a list of its own and a value -/
inductive Ow where
  | pl (t : T) | o2 (ls : List (List D)) | pr (l : List D) (d : D)
def ResO (K : PySem.W.Frag) (B S H : Hp) : Ow → V → Prop
  | .pl t, v => ResT K B S H t v
  | .o2 ls, v => ∃ a as, v = .ref a ∧ (a :: as).Nodup ∧ (∀ b ∈ a :: as, S b = none ∧ B b = none) ∧ H a = some (.lst (as.map V.ref)) ∧ as.length = ls.length ∧ ∀ (i : Nat) (b : Addr) (l : List D), as[i]? = some b → ls[i]? = some l → ∃ vs, H b = some (.lst vs) ∧ Reps K S l vs
  | .pr l d, v => ∃ a b vs w, v = .ref a ∧ S a = some (.tup [.ref b, w]) ∧ S b = none ∧ B b = none ∧ H b = some (.lst vs) ∧ Reps K S l vs ∧ Rep K S d w
def spO (K : PySem.W.Frag) (n : Nat) (f : List D → R Ow) : Sp := fun vs H Q E => ∃ S0 ds, ds.length = n ∧ Ex S0 H ∧ Reps K S0 ds vs ∧ match f ds with
  | .bad => False
  | .ok o => ∀ v S' H', Grown H S0 H' S' → ResO K H S' H' o v → Q v H'
  | .ex x => ∀ d S' H', Grown H S0 H' S' → XcR K S' x d → E (.ref (adK K x.C)) d H'
def plD : Ow → T
  | .pl t => t
  | .o2 ls => .fr (ls.map D.lst)
  | .pr l d => .st (.tup [.lst l, d])
def plF (f : List D → R Ow) (ds : List D) : R T := (f ds).bind fun o => .ok (plD o)
/-- rows let stand -/
theorem rows_stand {K : PySem.W.Frag} {B H : Hp} : ∀ (as : List Addr) (ls : List (List D)) (S : Hp), Ex S H → as.Nodup → as.length = ls.length → (∀ b ∈ as, S b = none ∧ B b = none) →
    (∀ (i : Nat) (b : Addr) (l : List D), as[i]? = some b → ls[i]? = some l → ∃ vs, H b = some (.lst vs) ∧ Reps K S l vs) →
    ∃ S', Ex S S' ∧ Ex S' H ∧ Reps K S' (ls.map D.lst) (as.map V.ref) ∧ (∀ c, c ∉ as → S' c = S c) ∧ ∀ b, S' b ≠ none → S b ≠ none ∨ B b = none
  | [], [], S, e, _, _, _, _ => ⟨S, Same.refl S, e, .nil, fun _ _ => rfl, fun _ h => .inl h⟩
  | [], _ :: _, _, _, _, h, _, _ => by cases h
  | _ :: _, [], _, _, _, h, _, _ => by cases h
  | a :: as, l :: ls, S, e, nd, hl, hf, hc => by
    obtain ⟨vs, ha, ra⟩ := hc 0 a l rfl rfl
    obtain ⟨sa, ba⟩ := hf a List.mem_cons_self
    have e1 : Ex S (upd S a (.lst vs)) := ex_upd sa
    have e2 : Ex (upd S a (.lst vs)) H := fun b u h => by
      by_cases hb : b = a
      · subst hb
        rw [upd_same] at h
        rw [← h]; exact ha
      · rw [upd_ne hb] at h
        exact e b u h
    obtain ⟨na, nd'⟩ := List.nodup_cons.mp nd
    have h1 : ∀ b ∈ as, upd S a (.lst vs) b = none ∧ B b = none := fun b hb => by
      obtain ⟨s1, s2⟩ := hf b (List.mem_cons_of_mem _ hb)
      exact ⟨by rw [upd_ne (fun z => na (by rw [← z]; exact hb))]; exact s1, s2⟩
    have h2 : ∀ (i : Nat) (b : Addr) (l : List D), as[i]? = some b → ls[i]? = some l → ∃ vs', H b = some (.lst vs') ∧ Reps K (upd S a (.lst vs)) l vs' := fun i b l' h1 h2 => by
      obtain ⟨ws, h3, h4⟩ := hc (i + 1) b l' (by rw [List.getElem?_cons_succ]; exact h1) (by rw [List.getElem?_cons_succ]; exact h2)
      exact ⟨ws, h3, h4.mono e1⟩
    obtain ⟨S', f1, f2, rs, ho, hn⟩ := rows_stand as ls (upd S a (.lst vs)) e2 nd' (Nat.succ.inj hl) h1 h2
    refine ⟨S', e1.trans f1, f2, .cons (.lst (.inl (.inl (f1 _ _ upd_same))) (ra.mono (e1.trans f1))) rs, fun c hcc => ?_, fun b hb => ?_⟩
    · rw [ho c (fun z => hcc (List.mem_cons_of_mem _ z)), upd_ne (fun z => hcc (by rw [z]; exact List.mem_cons_self))]
    · rcases hn b hb with z | z
      · by_cases hba : b = a
        · exact .inr (by rw [hba]; exact ba)
        · rw [upd_ne hba] at z
          exact .inl z
      · exact .inr z
/-- the weaker promise: what is handed back is let stand -/
theorem spO_plain {K : PySem.W.Frag} {n : Nat} {f : List D → R Ow} (vs : List V) (H : Hp) (Q : VK) (E : XK) (h : spD K n (plF f) vs H Q E) : spO K n f vs H Q E := by
  obtain ⟨S0, ds, hl, e0, r, q⟩ := h
  refine ⟨S0, ds, hl, e0, r, ?_⟩
  unfold plF at q
  cases hf : f ds with
  | bad => rw [hf] at q; exact q
  | ex x => rw [hf] at q; exact q
  | ok o =>
    rw [hf] at q
    have q : ∀ v S' H', Grown H S0 H' S' → ResT K H S' H' (plD o) v → Q v H' := q
    intro v S' H' gr ro
    cases o with
    | pl t => exact q v S' H' gr ro
    | o2 ls =>
      obtain ⟨a, as, rfl, nd, hn, ha, hl, hc⟩ := ro
      obtain ⟨na, nd'⟩ := List.nodup_cons.mp nd
      obtain ⟨S2, f1, f2, rs, ho, hw⟩ := rows_stand (B := H) as ls S' gr.sub nd' hl (fun b hb => hn b (List.mem_cons_of_mem _ hb)) hc
      obtain ⟨a1, a2⟩ := hn a List.mem_cons_self
      refine q (.ref a) S2 H' ⟨gr.eH, gr.eS.trans f1, f2, fun b hb => ?_⟩ ⟨a, _, rfl, by rw [ho a na]; exact a1, a2, ha, rs⟩
      rcases hw b hb with z | z
      · exact gr.new b z
      · exact .inr z
    | pr l d =>
      obtain ⟨a, b, vs, w, rfl, h1, h2, h3, h4, h5, h6⟩ := ro
      have e1 : Ex S' (upd S' b (.lst vs)) := ex_upd h2
      refine q (.ref a) (upd S' b (.lst vs)) H' ⟨gr.eH, gr.eS.trans e1, fun c u h => ?_, fun c hc => ?_⟩ (.tup (.inl (.inl (e1 _ _ h1))) (.cons (.lst (.inl (.inl upd_same)) (h5.mono e1)) (.cons (h6.mono e1) .nil)))
      · by_cases hb : c = b
        · subst hb
          rw [upd_same] at h
          rw [← h]; exact h4
        · rw [upd_ne hb] at h
          exact gr.sub c u h
      · by_cases hb : c = b
        · exact .inr (by rw [hb]; exact h3)
        · rw [upd_ne hb] at hc
          exact gr.new c hc

/-! ### bodies -/
abbrev MB := Env → R Ow
def RetO (G : Gd) (H' S' : Hp) (o : Ow) (v : V) : Prop := Ex G.B H' ∧ Ex G.S0 S' ∧ Ex S' H' ∧ (∀ b, S' b ≠ none → G.S0 b ≠ none ∨ G.B b = none) ∧ ResO G.K G.B S' H' o v
def FinO (W : WX) (r : R Ow) (G : Gd) (D : Ends) : Prop := match r with
  | .bad => False
  | .ok o => ∀ v S H, RetO G H S o v → D.rt v H
  | .ex x => ∀ d S O σ H ρ, StR G S O σ H ρ → XcR G.K S x d → W (.ref (adK G.K x.C)) d σ H
def tBo (K : PySem.W.Frag) (W : WX) (m : MB) : TS := fun D σ H => ∃ G S O ρ, G.K = K ∧ StR G S O σ H ρ ∧ FinO W (m ρ) G D
structure DBo (X : Cx) (W : WX) (st : List Stmt) (m : MB) : Prop where
  pss : PSs X st (tBo X.K W m)
def seqO (r : Fl) (m : MB) : R Ow := match r with
  | .nx ρ => m ρ
  | .rt t => .ok (.pl (toFr t))
  | .ex _ x => .ex x
  | _ => .bad
def oSeq (s : MS) (m : MB) : MB := fun ρ => seqO (s ρ) m
section
variable {X : Cx} {W : WX} {e a b : Expr} {es : List Expr} {st : Stmt} {sts : List Stmt} {m n q : ME} {ma : MA} {s t : MS} {mo : MB} {pos p p1 : Pos} {x y : Str}
theorem do_cons (h1 : DS X W st s) (h2 : DBo X W sts mo) : DBo X W (st :: sts) (oSeq s mo) := by
  refine ⟨PSs.weak (pss_cons h1.ps h2.pss) ?_⟩
  rintro D σ H ⟨G, S, O, ρ, eK, st, q⟩
  refine ⟨G, S, O, ρ, eK, st, ?_⟩
  unfold oSeq at q
  cases hr : s ρ with
  | nx ρ' =>
    rw [hr] at q
    exact fun S' O' σ' H' st' => ⟨G, S', O', ρ', eK, st', q⟩
  | bad => rw [hr] at q; exact q
  | ct ρ' => rw [hr] at q; exact q.elim
  | bk ρ' => rw [hr] at q; exact q.elim
  | rt t =>
    rw [hr] at q
    rintro v S1 H1 ⟨r1, r2, r3, r4, r5⟩
    refine q v S1 H1 ⟨r1, r2, r3, r4, ?_⟩
    cases t with
    | st d => exact r5
    | fr l => exact r5
    | sl l => exact r5
  | ex ρ' x =>
    rw [hr] at q
    exact fun d S1 O1 σ1 H1 st1 xr => q d S1 O1 σ1 H1 ρ' st1 xr
/-- return y, a list of lists of its own -/
def oRet2 (i : Nat) : MB := fun ρ => match ρ.getD i .no with
  | .own2 ls => .ok (.o2 ls)
  | _ => .bad
theorem do_ret2 (i : Nat) (hi : X.N[i]? = some x := by rfl) (hv : Vis X.env.scope x := by first | exact Or.inl rfl | exact Or.inr (Or.inl rfl) | exact Or.inr (Or.inr rfl)) (hd : (x == ("__debug__" : Str)) = false := by decide)
    (hcd : (x == ("__classdict__" : Str)) = false := by decide) : DBo X W [.Return (some (.Name x p)) pos] (oRet2 i) := by
  refine ⟨PSs.weak (pss_one (ps_ret (pe_var hi hv hd hcd))) ?_⟩
  rintro D σ H ⟨G, S, O, ρ, eK, st, q⟩
  unfold oRet2 at q
  cases hr : ρ.getD i .no with
  | own2 ls =>
    rw [hr] at q
    have hs := getD_sl (z := .own2 ls) (fun z => nomatch z) hr
    obtain ⟨a, as, e1, e2, nd, e3, hl, hc⟩ := st.slot i _ hs
    refine ⟨.ref a, e1, q (.ref a) S H ⟨st.exB, st.exS0, st.exS, st.new, a, as, rfl, by rw [← e2]; exact nd, fun b hb => ?_, e3, hl, hc⟩⟩
    rw [← e2] at hb
    exact st.off i b hb
  | _ => rw [hr] at q; exact q.elim
/-- return (a, b): the first a new list or a slot's own, or both as they are -/
def oRetP (m n : ME) : MB := fun ρ => (m ρ).bind fun t => (n ρ).bind fun u => match t, u with
  | .st d, .st e => .ok (.pl (.st (.tup [d, e])))
  | .sl l, .st e => .ok (.pr l e)
  | .fr l, .st e => if scalD e = true then .ok (.pr l e) else .bad
  | _, _ => .bad
theorem do_retP {kk : Nat} (h1 : DX X W a m) (h2 : DX X W b n) (hs : starEach [a, b] X.env = (false, eval a X.env) :: starEach [b] X.env := by rfl) (hs2 : starEach [b] X.env = (false, eval b X.env) :: starEach [] X.env := by rfl) : DBo X W [.Return (some (.Tuple [a, b] kk p)) pos] (oRetP m n) := by
  refine ⟨PSs.weak (pss_one (ps_ret (pe_tup (pa_cons h1.pe (pa_cons h2.pe pa_nil hs2) hs)))) ?_⟩
  rintro D σ H ⟨G, S, O, ρ, eK, st, q⟩
  unfold oRetP at q
  refine ⟨G, S, O, ρ, eK, st, ?_⟩
  have hb : FinO W ((m ρ).bind fun t => (n ρ).bind fun u => match t, u with
    | .st d, .st e => R.ok (.pl (.st (.tup [d, e])))
    | .sl l, .st e => .ok (.pr l e)
    | .fr l, .st e => if scalD e = true then .ok (.pr l e) else .bad
    | _, _ => .bad) G D := q
  cases hm : m ρ with
  | bad => rw [hm] at hb; exact hb
  | ex x => rw [hm] at hb; exact fun d S2 H2 e2 k2 st xr => hb d S2 O σ H2 ρ st xr
  | ok t =>
    rw [hm, R.bind_ok] at hb
    intro v S1 H1 s1 k1 st1 rp
    have rp : RepT G S1 O H1 t v := rp
    cases hn : n ρ with
    | bad => rw [hn] at hb; exact hb.elim
    | ex x =>
      refine ⟨G, S1, O, ρ, eK, st1, ?_⟩
      rw [hn] at hb ⊢
      exact fun d S2 H2 e2 k2 st xr => hb d S2 O σ H2 ρ st xr
    | ok u =>
      rw [hn, R.bind_ok] at hb
      cases u with
      | fr l => cases t <;> exact hb.elim
      | sl l => cases t <;> exact hb.elim
      | st e =>
        cases t with
        | st d =>
          refine ⟨G, S1, O, ρ, eK, st1, ?_⟩
          rw [hn]
          intro w S2 H2 s2 k2 st2 rp2
          refine ⟨(show (2 : Nat) ≤ sizeLine by decide), fun pp hp => ?_⟩
          obtain ⟨st3, x1, x2⟩ := st2.stand (o := .tup [v, w]) hp
          exact hb (.ref pp) _ _ ⟨st3.exB, st3.exS0, st3.exS, st3.new, .tup (.inl (.inl upd_same)) (.cons ((Rep.mono s2 rp).mono x1) (.cons (Rep.mono x1 rp2) .nil))⟩
        | sl l =>
          refine ⟨G, S1, O, ρ, eK, st1, ?_⟩
          rw [hn]
          intro w S2 H2 s2 k2 st2 rp2
          refine ⟨(show (2 : Nat) ≤ sizeLine by decide), fun pp hp => ?_⟩
          obtain ⟨st3, x1, x2⟩ := st2.stand (o := .tup [v, w]) hp
          obtain ⟨aa, vs, rfl, ⟨j, hj⟩, ha, ra⟩ := rp
          obtain ⟨o1, o2⟩ := st3.off j aa hj
          exact hb (.ref pp) _ _ ⟨st3.exB, st3.exS0, st3.exS, st3.new, pp, aa, vs, w, rfl, upd_same, o1, o2, x2 _ _ (k2 _ _ ha), ra.mono (s2.trans x1), Rep.mono x1 rp2⟩
        | fr l =>
          have hb : FinO W (if scalD e = true then .ok (.pr l e) else .bad) G D := hb
          by_cases hsc : scalD e = true
          · rw [if_pos hsc] at hb
            obtain ⟨aa, vs, rfl, a1, a2, a3, a4, ra⟩ := rp
            obtain ⟨stA, eA⟩ := st1.adopt a4 a1 a2 a3
            refine ⟨G, upd S1 aa (.lst vs), O, ρ, eK, stA, ?_⟩
            rw [hn]
            intro w S2 H2 s2 k2 st2 rp2
            refine ⟨(show (2 : Nat) ≤ sizeLine by decide), fun pp hp => ?_⟩
            have st4 := st1.grow k2
            obtain ⟨st3, x1, x2⟩ := st4.stand (o := .tup [.ref aa, w]) hp
            have hpa : aa ≠ pp := fun z => by
              rw [← z, k2 _ _ a4] at hp
              cases hp
            exact hb (.ref pp) _ _ ⟨st3.exB, st3.exS0, st3.exS, st3.new, pp, aa, vs, w, rfl, upd_same, by rw [upd_ne hpa]; exact a1, a2, x2 _ _ (k2 _ _ a4), ra.mono x1, Rep.scal rp2 hsc⟩
          · rw [if_neg hsc] at hb
            exact hb.elim
/-- a def's pure meaning; n: its slots -/
def runO (n : Nat) (m : MB) (ds : List D) : R Ow := m (ds.map Sl.val ++ List.replicate (n - ds.length) Sl.no)
end
section
variable {P : Program} {w : World} {K : PySem.W.Frag} {mg : Str → Option Value} {base : Heap}
theorem ok_defO {x qual : Str} {st : Stmt} {f : Addr} {fd : FuncData} {N ps : List Str} {k n nn : Nat} {m : MB} (F : Fun K x qual st f fd) (S : FnScope N ps (defScope st)) (hn' : ps.length = n) (hN' : N.length = nn)
    (hbody : ∀ (cdv : Value) (A : Around) (outer : List PySem.Env) (s : Shared) (H : Hp) (E : XK), Room k (A.deeper (PyProof.Rows.envOfC qual (defScope st) s.heap.objs.size f cdv)) →
      Ctx (cxOf (L2.CX P w) P w K mg base N qual (defScope st) f cdv A outer s H E) (fun cls d _ H' => E cls d H') → Takes (cxOf (L2.CX P w) P w K mg base N qual (defScope st) f cdv A outer s H E) (fun cls d _ H' => E cls d H') →
      DBo (cxOf (L2.CX P w) P w K mg base N qual (defScope st) f cdv A outer s H E) (fun cls d _ H' => E cls d H') (defBody st) m) :
    FnOk P w K mg base (L2.CX P w) (k + 1) f fd ps (spO K n (runO nn m)) := by
  subst hn' hN'
  have hle : ps.length ≤ N.length := by
    have h := congrArg List.length S.pre
    rw [List.length_take] at h
    omega
  refine F.okX S (fun vs H Q E h => ?_) (fun cdv A outer s H vs Q E hr h => ?_)
  · obtain ⟨S0, ds, hl, _, r, _⟩ := h
    rw [← r.length, hl]
  · obtain ⟨S0, ds, hl, e0, r, q⟩ := h
    obtain ⟨cx, tk⟩ := ctx_of (P := P) (w := w) (K := K) (mg := mg) (base := base) (E := E) (H := H) (outer := outer) S.nd hr.units S.kind
    refine ⟨_, (hbody cdv A outer s H E hr cx tk).pss, ⟨K, H, S0⟩, S0, _, _, rfl, start_ok (by rw [hl]; exact hle) e0 r, ?_⟩
    unfold runO at q
    cases hm : m (ds.map Sl.val ++ List.replicate (N.length - ds.length) Sl.no) with
    | bad => rw [hm] at q; exact q
    | ok o =>
      rw [hm] at q
      rintro v S1 H1 ⟨r1, r2, r3, r4, r5⟩
      exact q v S1 H1 ⟨r1, r2, r3, r4⟩ r5
    | ex x =>
      rw [hm] at q
      exact fun d S1 O1 σ1 H1 ρ1 st1 xr => q d S1 H1 ⟨st1.exB, st1.exS0, st1.exS, st1.new⟩ xr
end
structure CalO (P : Program) (w : World) (K : PySem.W.Frag) (mg : Str → Option Value) (base : Heap) (k : Nat) (x : Str) (n : Nat) (g : List D → R Ow) : Prop where
  ex : ∃ f fd ps, FnOk P w K mg base (L2.CX P w) k f fd ps (spO K n g) ∧ mg x = some (.ref f) ∧ PySem.W.keepIn K (.ref f) = true ∧ Binds K fd ps []
theorem CalO.plain {P : Program} {w : World} {K : PySem.W.Frag} {mg : Str → Option Value} {base : Heap} {k : Nat} {x : Str} {n : Nat} {g : List D → R Ow} (F : CalO P w K mg base k x n g) : Cal P w K mg base k x n (plF g) := by
  obtain ⟨f, fd, ps, h1, h2⟩ := F.ex
  exact ⟨f, fd, ps, h1.imp spO_plain, h2⟩

/-! ### what is handed back is taken -/
def setO (i : Nat) (ρ : Env) : Ow → Fl
  | .pl (.st d) => .nx (ρ.set i (.val d))
  | .pl (.fr l) => .nx (ρ.set i (.own l))
  | .pl (.sl _) => .bad
  | .o2 ls => .nx (ρ.set i (.own2 ls))
  | .pr l d => .nx (ρ.set i (.pr l d))
def callO (n : Nat) (g : List D → R Ow) (ts : List T) : R Ow := if ts.length = n ∧ ts.all isSt = true then g (ts.map T.d) else .bad
def sAsgO (i n : Nat) (g : List D → R Ow) (ma : MA) : MS := fun ρ => toS ρ (ma ρ) fun ts => toS ρ (callO n g ts) fun o => setO i ρ o
def set2O (i j : Nat) (ρ : Env) : Ow → Fl
  | .pl (.st (.tup [d, e])) => .nx ((ρ.set i (.val d)).set j (.val e))
  | .pr l e => .nx ((ρ.set i (.own l)).set j (.val e))
  | _ => .bad
def sUnpO (i j n : Nat) (g : List D → R Ow) (ma : MA) : MS := fun ρ => toS ρ (ma ρ) fun ts => toS ρ (callO n g ts) fun o => set2O i j ρ o
section
variable {G : Gd} {S : Hp} {O : Nat → List Addr} {σ : L2.St} {H : Hp} {ρ : Env}
theorem StR.setO2 (st : StR G S O σ H ρ) (i : Nat) {ls : List (List D)} {v : V} {B : Hp} (hB : ∀ b, B b = none → H b = none → G.B b = none ∧ ∀ j, b ∉ O j) (hH : True) (r : ∃ a as, v = .ref a ∧ (a :: as).Nodup ∧ (∀ b ∈ a :: as, S b = none ∧ G.B b = none ∧ ∀ j, b ∉ O j) ∧ H a = some (.lst (as.map V.ref)) ∧ as.length = ls.length ∧ ∀ (i : Nat) (b : Addr) (l : List D), as[i]? = some b → ls[i]? = some l → ∃ vs, H b = some (.lst vs) ∧ Reps G.K S l vs) :
    ∃ O', StR G S O' (σ.set i (some v)) H (ρ.set i (.own2 ls)) := by
  obtain ⟨a, as, rfl, nd, hn, ha, hl, hc⟩ := r
  by_cases h : i < ρ.length
  · refine ⟨_, st.setSl i h (s := .own2 ls) (F := a :: as) ⟨a, as, rfl, rfl, nd, ha, hl, hc⟩ fun b hb => ?_⟩
    obtain ⟨h1, h2, h3⟩ := hn b hb
    refine ⟨h1, h2, ?_, fun j _ => h3 j⟩
    rcases List.mem_cons.mp hb with z | z
    · rw [z, ha]; simp
    · obtain ⟨k, hk, hk2⟩ := List.getElem_of_mem z
      obtain ⟨vs, h5, _⟩ := hc k b (ls[k]'(by rw [← hl]; exact hk)) (by rw [List.getElem?_eq_getElem hk, hk2]) (List.getElem?_eq_getElem _)
      rw [h5]; simp
  · exact ⟨O, st.setOut i (by omega) _ _⟩
theorem StR.setPr (st : StR G S O σ H ρ) (i : Nat) {l : List D} {d : D} {v : V} (r : ∃ a b vs w, v = .ref a ∧ S a = some (.tup [.ref b, w]) ∧ S b = none ∧ G.B b = none ∧ (∀ j, b ∉ O j) ∧ H b = some (.lst vs) ∧ Reps G.K S l vs ∧ Rep G.K S d w) :
    ∃ O', StR G S O' (σ.set i (some v)) H (ρ.set i (.pr l d)) := by
  obtain ⟨a, b, vs, w, rfl, h1, h2, h3, h4, h5, h6, h7⟩ := r
  by_cases h : i < ρ.length
  · refine ⟨_, st.setSl i h (s := .pr l d) (F := [b]) ⟨a, b, vs, w, rfl, rfl, h1, h5, h6, h7⟩ fun c hb => ?_⟩
    have e : c = b := by simpa using hb
    subst e
    exact ⟨h2, h3, by rw [h5]; simp, fun j _ => h4 j⟩
  · exact ⟨O, st.setOut i (by omega) _ _⟩
/-- what a call hands back, to a slot -/
theorem StR.setRes (st : StR G S O σ H ρ) {S' H' : Hp} (gr : Grown H S H' S') (i : Nat) {o : Ow} {v : V} (r : ResO G.K H S' H' o v) {W : WX} {En : Ends} (q : FinS W (setO i ρ o) G En) : En.nx (σ.set i (some v)) H' := by
  have st' := st.called (fun _ => False) gr.eH gr.sub gr.eS gr.new
  have nO : ∀ b, H b = none → ∀ j, b ∉ O j := fun b hb j hj => st.live j b hj hb
  cases o with
  | pl t =>
    cases t with
    | st d => exact q _ _ _ _ (st'.setVal i r).choose_spec
    | fr l =>
      obtain ⟨a, vs, e1, e2, e3, e4, e5⟩ := r
      exact q _ _ _ _ (st'.setOwn i ⟨a, vs, e1, e2, none_of_B st e3, nO a e3, e4, e5⟩).choose_spec
    | sl l => exact q.elim
  | o2 ls =>
    obtain ⟨a, as, e1, nd, hn, ha, hl, hc⟩ := r
    exact q _ _ _ _ (st'.setO2 (B := G.B) i (fun b h1 h2 => ⟨h1, fun j hj => st'.live j b hj h2⟩) trivial ⟨a, as, e1, nd, fun b hb => ⟨(hn b hb).1, none_of_B st (hn b hb).2, nO b (hn b hb).2⟩, ha, hl, hc⟩).choose_spec
  | pr l d =>
    obtain ⟨a, b, vs, w, e1, h1, h2, h3, h4, h5, h6⟩ := r
    exact q _ _ _ _ (st'.setPr i ⟨a, b, vs, w, e1, h1, h2, none_of_B st h3, nO b h3, h4, h5, h6⟩).choose_spec
end
section
variable {X : Cx} {W : WX} {e a b : Expr} {es : List Expr} {m n q : ME} {ma : MA} {pos p p1 p2 cp pt : Pos} {x y f : Str}
theorem ds_asgO (i : Nat) {k j nn : Nat} {g : List D → R Ow} (C : Ctx X W) (F : CalO X.prog X.w X.K X.mg X.base k f nn g) (hr : Room j X.A) (ha : DA X W (e :: es) ma) (hj : k ≤ j := by decide) (hg : Gl X f := by rfl) (hdb : (f == ("__debug__" : Str)) = false := by decide)
    (he : starEach (e :: es) X.env = (false, eval e X.env) :: starEach es X.env := by rfl) (hpl : (backTo cp (starEach es X.env)).any (·.1) = false := by rfl)
    (hi : X.N[i]? = some x := by rfl) (hx : Loc X.env.scope x := by first | exact .inl rfl | exact .inr rfl) (hs : swapsWith (.Call (.Name f p1) (e :: es) [] cp) (some (.Name x p)) pos.line X.env = pure false := by rfl)
    (hf : X.fn x = true ∨ X.env.scope.names.lookup x = some .local := by first | exact .inl rfl | exact .inr rfl) : DS X W (.Assign [.Name x p] (.Call (.Name f p1) (e :: es) [] cp) pos) (sAsgO i nn g ma) := by
  obtain ⟨fa, fd, ps, h1, h2, h3, h4⟩ := F.ex
  refine ⟨PS.weak (ps_set C.nd hi hx (pe_callS h1 (hr.mono hj) hg h2 h3 h4 C.can ha.pa hdb he hpl) hs hf) ?_⟩
  rintro En σ H ⟨G, S, O, ρ, eK, st, q⟩
  refine ⟨G, S, O, ρ, eK, st, FinS.bind (rep := rTs G) q fun ts xs S1 H1 s1 k1 st1 rp q1 => ?_⟩
  unfold callO at q1
  by_cases hc : ts.length = nn ∧ ts.all isSt = true
  · rw [if_pos hc] at q1
    rw [← eK]
    refine ⟨S1, ts.map T.d, by rw [List.length_map]; exact hc.1, st1.exS, rp.reps hc.2, ?_⟩
    cases hgg : g (ts.map T.d) with
    | bad => rw [hgg] at q1; exact q1
    | ok o =>
      rw [hgg] at q1
      exact fun v S' H' gr r => st1.setRes gr i r q1
    | ex x =>
      rw [hgg] at q1
      exact fun d S' H' gr xr => q1 d S' O σ H' (st1.called (fun _ => False) gr.eH gr.sub gr.eS gr.new) xr
  · rw [if_neg hc] at q1
    exact q1.elim
theorem ds_unpO (i i2 : Nat) {k j nn kk : Nat} {g : List D → R Ow} (C : Ctx X W) (F : CalO X.prog X.w X.K X.mg X.base k f nn g) (hr : Room j X.A) (ha : DA X W (e :: es) ma) (hj : k ≤ j := by decide) (hg : Gl X f := by rfl) (hdb : (f == ("__debug__" : Str)) = false := by decide)
    (he : starEach (e :: es) X.env = (false, eval e X.env) :: starEach es X.env := by rfl) (hpl : (backTo cp (starEach es X.env)).any (·.1) = false := by rfl)
    (hi : X.N[i]? = some x := by rfl) (hx : Loc X.env.scope x := by first | exact .inl rfl | exact .inr rfl) (hf : X.fn x = true ∨ X.env.scope.names.lookup x = some .local := by first | exact .inl rfl | exact .inr rfl)
    (hi2 : X.N[i2]? = some y := by rfl) (hx2 : Loc X.env.scope y := by first | exact .inl rfl | exact .inr rfl) (hf2 : X.fn y = true ∨ X.env.scope.names.lookup y = some .local := by first | exact .inl rfl | exact .inr rfl)
    (hs : swapsWithSole [.Tuple [.Name x p, .Name y p2] kk pt] (.Call (.Name f p1) (e :: es) [] cp) pos.line X.env = pure false := by rfl) (hw : swappedStores [.Tuple [.Name x p, .Name y p2] kk pt] (.Call (.Name f p1) (e :: es) [] cp) X.env = pure none := by rfl)
    (hh : (assignEach [.Tuple [.Name x p, .Name y p2] kk pt] X.env).map (·.2) = [assign (.Tuple [.Name x p, .Name y p2] kk pt) X.env] := by rfl)
    (t1 : (assignEach [.Name x p, .Name y p2] X.env).map (·.2) = assign (.Name x p) X.env :: (assignEach [.Name y p2] X.env).map (·.2) := by rfl)
    (t2 : (assignEach [.Name y p2] X.env).map (·.2) = assign (.Name y p2) X.env :: (assignEach [] X.env).map (·.2) := by rfl)
    (t3 : (assignEach [.Name x p, .Name y p2] X.env).length = 2 := by rfl) (t4 : (assignEach [.Name x p, .Name y p2] X.env).findIdx? (·.1) = none := by rfl) :
    DS X W (.Assign [.Tuple [.Name x p, .Name y p2] kk pt] (.Call (.Name f p1) (e :: es) [] cp) pos) (sUnpO i i2 nn g ma) := by
  obtain ⟨fa, fd, ps, h1, h2, h3, h4⟩ := F.ex
  refine ⟨PS.weak (ps_asg (pe_callS h1 (hr.mono hj) hg h2 h3 h4 C.can ha.pa hdb he hpl) (pg_tup C.calm (pgs_cons (pg_name C.nd hi hx hf) (pgs_cons (pg_name C.nd hi2 hx2 hf2) pgs_nil t2) t1) t3 t4) hs hw hh) ?_⟩
  rintro En σ H ⟨G, S, O, ρ, eK, st, q⟩
  refine ⟨G, S, O, ρ, eK, st, FinS.bind (rep := rTs G) q fun ts xs S1 H1 s1 k1 st1 rp q1 => ?_⟩
  unfold callO at q1
  by_cases hc : ts.length = nn ∧ ts.all isSt = true
  · rw [if_pos hc] at q1
    rw [← eK]
    refine ⟨S1, ts.map T.d, by rw [List.length_map]; exact hc.1, st1.exS, rp.reps hc.2, ?_⟩
    cases hgg : g (ts.map T.d) with
    | bad => rw [hgg] at q1; exact q1
    | ok o =>
      rw [hgg] at q1
      intro v S' H' gr r
      have st' := st1.called (fun _ => False) gr.eH gr.sub gr.eS gr.new
      have q2 : FinS W (set2O i i2 ρ o) G En := q1
      clear q1
      unfold set2O at q2
      split at q2
      · rename_i d1 d2
        have r : Rep G.K S' (.tup [d1, d2]) v := r
        cases r with
        | tup hq rs =>
          cases rs with
          | cons r1 rs =>
            cases rs with
            | cons r2 rs =>
              cases rs
              obtain ⟨O1, s1⟩ := st'.setVal i r1
              obtain ⟨O2, s2⟩ := s1.setVal i2 r2
              exact ⟨_, _, rfl, ex_t gr.sub hq, rfl, _, _, rfl, _, _, rfl, rfl, q2 _ _ _ _ s2⟩
      · rename_i l d2
        obtain ⟨aa, bb, vs, w, rfl, a1, a2, a3, a4, a5, a6⟩ := r
        obtain ⟨O1, s1⟩ := st'.setOwn i (l := l) (v := .ref bb) ⟨bb, vs, rfl, a2, none_of_B st1 a3, fun j hj => st1.live j bb hj a3, a4, a5⟩
        obtain ⟨O2, s2⟩ := s1.setVal i2 a6
        exact ⟨_, _, rfl, .inl (.inl (gr.sub _ _ a1)), rfl, _, _, rfl, _, _, rfl, rfl, q2 _ _ _ _ s2⟩
      · exact q2.elim
    | ex x =>
      rw [hgg] at q1
      exact fun d S' H' gr xr => q1 d S' O σ H' (st1.called (fun _ => False) gr.eH gr.sub gr.eS gr.new) xr
  · rw [if_neg hc] at q1
    exact q1.elim
end
end RF

set_option Elab.async false
set_option linter.all false
set_option maxRecDepth 100000
set_option autoImplicit false
set_option maxHeartbeats 0
/-! RF, part W: a slot's own lists, within tuples and lists, are changed -/
namespace RF
open PySem PySem.Spec L2 PyProof.Rows
section
variable {X : Cx} {W : WX} {e ej b : Expr} {m n q : ME} {pos p p2 p3 ap cp : Pos} {x : Str}
theorem StR.writeP {G : Gd} {S : Hp} {O : Nat → List Addr} {σ : L2.St} {H : Hp} {ρ : Env} (st : StR G S O σ H ρ) {i : Nat} {l l' : List D} {d : D} (hi : ρ[i]? = some (.pr l d)) : ∃ a b vs w, σ[i]? = some (some (.ref a)) ∧ S a = some (.tup [.ref b, w]) ∧ H b = some (.lst vs) ∧
    ∀ vs', Reps G.K S l' vs' → StR G S O σ (upd H b (.lst vs')) (ρ.set i (.pr l' d)) := by
  obtain ⟨a, b, vs, w, e1, e2, e3, e4, r, q⟩ := st.slot i _ hi
  refine ⟨a, b, vs, w, e1, e3, e4, fun vs' r' => ?_⟩
  have hO : b ∈ O i := by rw [e2]; exact List.mem_cons_self
  obtain ⟨o1, o2⟩ := st.off i b hO
  refine ⟨fun c o e => ?_, st.exS0, fun c o e => ?_, st.new, by rw [List.length_set]; exact st.len, fun j s e => ?_, st.off, fun j c q => ?_, st.apart, fun j hj => st.out j (by rw [List.length_set] at hj; exact hj)⟩
  · rw [upd_ne (fun z => by rw [z, o2] at e; cases e)]
    exact st.exB c o e
  · rw [upd_ne (fun z => by rw [z, o1] at e; cases e)]
    exact st.exS c o e
  · rcases get_set e with ⟨rfl, rfl⟩ | ⟨ne, e⟩
    · exact ⟨a, b, vs', w, e1, e2, e3, upd_same, r', q⟩
    · refine (st.slot j s e).mono (Same.refl S) fun c o hb hq => ?_
      rw [upd_ne (fun z => ne (st.apart j i b (by rw [← z]; exact hb) hO))]
      exact hq
  · by_cases hb : c = b
    · subst hb
      rw [upd_same]; simp
    · rw [upd_ne hb]
      exact st.live j c q
/-- x[0].clear(), x a tuple of a list of its own and a value -/
def sClrP (i : Nat) : MS := fun ρ => match ρ.getD i .no with
  | .pr _ d => .nx (ρ.set i (.pr [] d))
  | _ => .bad
theorem ds_clrP (i : Nat) (hi : X.N[i]? = some x := by rfl) (hv : Vis X.env.scope x := by first | exact Or.inl rfl | exact Or.inr (Or.inl rfl) | exact Or.inr (Or.inr rfl)) (hd : (x == ("__debug__" : Str)) = false := by decide)
    (hcd : (x == ("__classdict__" : Str)) = false := by decide) (he0 : DX X W ej (eC (.int 0))) (hpl : PlainIx ej := by exact fun _ _ => rfl)
    (hbase : attributeBase (.Subscript (.Name x p) ej p3) "clear" X.env (eval (.Subscript (.Name x p) ej p3) X.env) = eval (.Subscript (.Name x p) ej p3) X.env := by rfl)
    (hline : (ap.endLine == cp.line) = true := by rfl)
    (hsw : swapsWith (.Call (.Attribute (.Subscript (.Name x p) ej p3) "clear" ap) [] [] cp) none pos.line X.env = pure false := by rfl) :
    DS X W (.Expr (.Call (.Attribute (.Subscript (.Name x p) ej p3) "clear" ap) [] [] cp) pos) (sClrP i) := by
  refine ⟨PS.weak (ps_expr (pe_bm0 PySem.F.plainAttrs_list PySem.F.slot_list_clear PySem.F.type_list_clear mt_clear (pe_ix ix_seq (pe_var hi hv hd hcd) he0.pe hpl) hbase hline) hsw) ?_⟩
  rintro En σ H ⟨G, S, O, ρ, eK, st, q0⟩
  unfold sClrP at q0
  cases hr : ρ.getD i .no with
  | pr l d =>
    rw [hr] at q0
    have hs := getD_sl (z := .pr l d) (fun z => nomatch z) hr
    obtain ⟨a, bb, vs, w, e1, e2, e3, wr⟩ := st.writeP (l' := []) hs
    refine ⟨.ref a, e1, G, S, O, ρ, eK, st, fun y S3 H3 s3 k3 st3 rp3 => ?_⟩
    have rp3 : Rep G.K S3 (.int 0) y := rp3
    cases rp3
    obtain ⟨a', bb', vs', w', f1, f2, f3, wr⟩ := st3.writeP (l' := []) hs
    rw [e1] at f1
    cases f1
    have hT := st3.exS _ _ f2
    refine .inr (.inl ⟨a, [.ref bb', w'], 0, .ref bb', rfl, rfl, .inl (.inl hT), rfl, .inl ⟨rfl, vs', .inl (.inl f3)⟩, ?_⟩)
    exact ⟨bb', vs', rfl, rfl, f3, q0 _ _ _ _ (wr [] .nil)⟩
  | _ => rw [hr] at q0; exact q0.elim
/-- a test, a slot's own lists let stand for it alone -/
def cScal (i : Nat) (c : MT) : MT := fun ρ => noX (c (fzz i ρ))
theorem dt_scal {c : MT} (i : Nat) (h : DT X W e c) : DT X W e (cScal i c) := by
  refine ⟨PT.weak h.pt ?_⟩
  rintro σ H Q ⟨G, S, O, ρ, eK, st, q⟩
  have key : ∃ S' O', Ex S S' ∧ StR G S' O' σ H (fzz i ρ) := by
    unfold fzz
    cases hr : ρ.getD i .no with
    | own2 ls =>
      obtain ⟨S', O', v, x1, st', _⟩ := st.freeze2 (getD_sl (by intro z; cases z) hr)
      exact ⟨S', O', x1, st'⟩
    | pr l d =>
      obtain ⟨S', O', x1, st', _⟩ := st.freezeP (getD_sl (by intro z; cases z) hr)
      exact ⟨S', O', x1, st'⟩
    | _ => exact ⟨S, O, Same.refl S, st⟩
  obtain ⟨S', O', x1, st'⟩ := key
  refine ⟨G, S', O', fzz i ρ, eK, st', ?_⟩
  unfold cScal at q
  cases hm : c (fzz i ρ) with
  | bad => rw [hm] at q; exact q
  | ex x => rw [hm] at q; exact q.elim
  | ok t =>
    rw [hm] at q
    intro v S2 H2 e2 k2 st2 rp
    exact q v S H2 (Same.refl S) k2 (st.grow k2) rp
end
end RF

set_option Elab.async false
set_option linter.all false
set_option maxRecDepth 100000
set_option autoImplicit false
set_option maxHeartbeats 0
/-! RF, part X: lists of lists of a slot's own are copied, walked and changed -/
namespace RF
open PySem PySem.Spec L2 PyProof.Rows
/-- y = [.. for x in z], the rows new, z a list of lists of its own -/
def sOwn2F (i j : Nat) (mi : MI) (vs : List Nat) (g : MG) (me : ME) : MS := fun ρ => if noOwn (fzz j ρ) vs = true then (match mi (fzz j ρ) with
  | .ok ds => match comp2D g me (wipeE (fzz j ρ) vs) ds with
    | .ok ls => if ds.length ≤ 100000 ∧ ls.all (fun l => l.all scD) = true then .nx (ρ.set i (.own2 ls)) else .bad
    | _ => .bad
  | _ => .bad) else .bad
section
variable {X : Cx} {W : WX} {elt iter tg : Expr} {mi : MI} {g : MG} {me : ME} {pos : Pos}
theorem ds_own2F (i jF : Nat) {y : Str} {py spos : Pos} {scope : Scope} (own : List (Str × Nat)) (C : Ctx X W) (hi : DIc X W tg iter mi) (ok : BlkOk X.N X.env.scope scope own)
    (hg : ∀ (s : Shared) (H : Hp) (C : Addr) (cl : List (Str × Addr)) (fp : List Addr), DGc (X.blk s H scope (compEnvC scope cl C X.env) fp) tg g (own.map (·.2)))
    (he : ∀ (s : Shared) (H : Hp) (C : Addr) (cl : List (Str × Addr)) (fp : List Addr), DX (X.blk s H scope (compEnvC scope cl C X.env) fp) WF elt me)
    (hsw : swapsWith (.ListComp elt [⟨tg, iter, [], 0⟩] scope pos) (some (.Name y py)) spos.line X.env = pure true)
    (hy : X.N[i]? = some y := by rfl) (hyl : X.env.scope.names.lookup y = some .local := by rfl) (hs : ∀ x, foldedSetIterable iter X.env x = pure x := by intro _; rfl) :
    DS X W (.Assign [.Name y py] (.ListComp elt [⟨tg, iter, [], 0⟩] scope pos) spos) (sOwn2F i jF mi (own.map (·.2)) g me) := by
  generalize hvs : own.map (·.2) = vs at *
  have base := ps_setLc (te := tE X.K WF me) (tt := tT X.K WF cYes) (g := tGo X.K g (own.map (·.2))) C.calm C.nd hy hyl hsw hi.pi ok (fun s H C cl fp => by rw [hvs]; exact (hg s H C cl fp).pg) (fun s H C cl fp => (dts_nil (W := WF)).pts) (fun s H C cl fp => (he s H C cl fp).pe) hs
  rw [hvs] at base
  refine ⟨PS.weak base ?_⟩
  rintro D σ H ⟨G, S0, O0, ρ0, eK, st0, q⟩
  have key : ∃ S' O', Ex S0 S' ∧ StR G S' O' σ H (fzz jF ρ0) ∧ ∀ j b, b ∈ O0 j → b ∈ O' j ∨ S' b ≠ none := by
    unfold fzz
    cases hr : ρ0.getD jF .no with
    | own2 ls =>
      obtain ⟨S', O', v, x1, st', _, _, h1, h2⟩ := st0.freeze2 (getD_sl (by intro z; cases z) hr)
      refine ⟨S', O', x1, st', fun j b hb => ?_⟩
      by_cases hj : j = jF
      · subst hj
        exact .inr (h2 b hb)
      · rw [h1 j hj]
        exact .inl hb
    | pr l d =>
      obtain ⟨S', O', x1, st', h1, h2⟩ := st0.freezeP (getD_sl (by intro z; cases z) hr)
      refine ⟨S', O', x1, st', fun j b hb => ?_⟩
      by_cases hj : j = jF
      · subst hj
        exact .inr (h2 b hb)
      · rw [h1 j hj]
        exact .inl hb
    | _ => exact ⟨S0, O0, Same.refl S0, st0, fun _ _ hb => .inl hb⟩
  obtain ⟨S, O, xF, st, hOO⟩ := key
  unfold sOwn2F at q
  generalize hρ : fzz jF ρ0 = ρ at *
  split at q
  case isFalse => exact q.elim
  rename_i hno
  cases hmi : mi ρ with
  | bad => rw [hmi] at q; exact q.elim
  | ex x => rw [hmi] at q; exact q.elim
  | ok ds =>
  rw [hmi] at q
  have q1 : FinS W (match comp2D g me (wipeE ρ vs) ds with
    | .ok ls => if ds.length ≤ 100000 ∧ ls.all (fun l => l.all scD) = true then .nx (ρ0.set i (.own2 ls)) else .bad
    | _ => .bad) G D := q
  refine ⟨G, S, O, ρ, eK, st, ?_⟩
  rw [hmi]
  intro J S1 H1 s1 k1 st1 yl
  intro Da hDa
  cases hcd : comp2D g me (wipeE ρ vs) ds with
  | bad => rw [hcd] at q1; exact q1.elim
  | ex x => rw [hcd] at q1; exact q1.elim
  | ok ls =>
    rw [hcd] at q1
    have q1 : FinS W (if ds.length ≤ 100000 ∧ ls.all (fun l => l.all scD) = true then .nx (ρ0.set i (.own2 ls)) else .bad) G D := q1
    split at q1
    case isFalse => exact q1.elim
    rename_i hbigs
    obtain ⟨hbig, hsc⟩ := hbigs
    have stw := st1.wipe vs
    obtain ⟨st2, sp, bp, op⟩ := st1.aside (o := .lst []) hDa
    have stw2 := (stw.aside (o := .lst []) hDa).1
    refine ⟨fun k n H2 => n = ds.length - k ∧ k ≤ ds.length ∧ ∃ rs lr l2 S2 O2, Tn G g me vs σ ρ S1 H1 Da ds ls k H2 rs lr l2 S2 O2, ⟨_, rfl, Nat.zero_le _, [], [], ls, S1, _, ⟨Same.refl _, sp, fun b o e => ?_, upd_same, Nat.le_refl _, trivial, rfl, hcd, by simp, fun r hr => (by cases hr), stw2⟩⟩, ?_⟩
    · rw [upd_ne (fun z => by rw [z, hDa] at e; cases e)]
      exact e
    rintro k n H2 ⟨rfl, hle, rs, lr, l2, S2, O2, t⟩
    by_cases hlt : k < ds.length
    · refine .inr ⟨yl.go H2 t.up k hlt, fun H3 => k + 1 ≤ ds.length ∧ ∃ rs lr l2 S2 O2, Tn G g me vs σ ρ S1 H1 Da ds ls (k + 1) H3 rs lr l2 S2 O2, fun H3 h => ⟨ds.length - (k + 1), by omega, rfl, h⟩, fun x H3 hyy => ?_⟩
      obtain ⟨d, hd, hx⟩ := yl.yld H2 t.up k x H3 hlt hyy
      have hcd2 := t.rest
      rw [drop_get hd] at hcd2
      unfold comp2D at hcd2
      cases hgd : g d (wipeE ρ vs) with
      | none => rw [hgd] at hcd2; cases hcd2
      | some ρ3 =>
        rw [hgd] at hcd2
        have hcd2 : ((noX (me ρ3)).bind fun t => (lift (frT t)).bind fun x => (comp2D g me (wipeE ρ vs) (ds.drop (k + 1))).bind fun r => .ok (x :: r)) = .ok l2 := hcd2
        have turn : ∀ S4, Ex S2 S4 → (∀ b o, H2 b = some o → H3 b = some o) → StR ⟨G.K, upd (rowB G.B rs) Da (.lst (refs rs)), G.S0⟩ S4 O2 (L2.wipe σ vs) H3 (wipeE ρ vs) → Rep G.K S4 d x →
            tGo X.K g vs x (L2.wipe σ vs) H3 fun σ2 H2 => L2.wipe σ2 vs = L2.wipe σ vs ∧ tT X.K WF cYes σ2 H2 fun b H3 => if b = true then tE X.K WF me σ2 H3 fun y H4 => ∃ acc, H4 Da = some (.lst acc) ∧ acc.length < sizeLine ∧ (fun H3 => k + 1 ≤ ds.length ∧ ∃ rs lr l2 S2 O2, Tn G g me vs σ ρ S1 H1 Da ds ls (k + 1) H3 rs lr l2 S2 O2) (upd H4 Da (.lst (acc ++ [y]))) else (fun H3 => k + 1 ≤ ds.length ∧ ∃ rs lr l2 S2 O2, Tn G g me vs σ ρ S1 H1 Da ds ls (k + 1) H3 rs lr l2 S2 O2) H3 := by
          intro S4 e4 k4 st4 rp4
          refine ⟨⟨G.K, upd (rowB G.B rs) Da (.lst (refs rs)), G.S0⟩, S4, O2, wipeE ρ vs, d, ρ3, eK, st4, by rw [← eK]; exact rp4, hgd, fun O5 σ5 st5 w1 w2 => ?_⟩
          have w1' : L2.wipe σ5 vs = L2.wipe σ vs := w1.trans (wipe_wipe σ vs vs fun _ h => h)
          have w2' : wipeE ρ3 vs = wipeE ρ vs := w2.trans (wipeE_wipe ρ vs vs fun _ h => h)
          refine ⟨w1', ⟨G.K, upd (rowB G.B rs) Da (.lst (refs rs)), G.S0⟩, S4, O5, ρ3, eK, st5, ?_⟩
          intro b' S6 H6 e6 k6 st6 rb
          cases rb
          rw [if_pos rfl]
          refine ⟨⟨G.K, upd (rowB G.B rs) Da (.lst (refs rs)), G.S0⟩, S6, O5, ρ3, eK, st6, Fin.noX ?_⟩
          cases hm : noX (me ρ3) with
          | bad => rw [hm] at hcd2; cases hcd2
          | ex y => rw [hm] at hcd2; cases hcd2
          | ok tt =>
            rw [hm, R.bind_ok] at hcd2
            intro y8 S8 H8 e8 k8 st8 rp8
            cases tt with
            | st d' => cases hcd2
            | sl l' => cases hcd2
            | fr row =>
              have hcd3 : (comp2D g me (wipeE ρ vs) (ds.drop (k + 1))).bind (fun r => R.ok (row :: r)) = .ok l2 := hcd2
              cases hr : comp2D g me (wipeE ρ vs) (ds.drop (k + 1)) with
              | bad => rw [hr] at hcd3; cases hcd3
              | ex y => rw [hr] at hcd3; cases hcd3
              | ok l3 =>
                rw [hr] at hcd3
                cases hcd3
                obtain ⟨b, ws, rfl, sb, bb, ob, hb, rb⟩ := rp8
                obtain ⟨d1, d2, d3⟩ := t.keep st1.exS0 sp st8
                have bb : upd (rowB G.B rs) Da (.lst (refs rs)) b = none := bb
                have nbd : b ≠ Da := fun z => by rw [z, upd_same] at bb; cases bb
                rw [upd_ne nbd] at bb
                obtain ⟨gb, nb⟩ := rowB_none bb
                have e18 : Ex S1 S8 := ((t.ex.trans e4).trans e6).trans e8
                have s1b : S1 b = none := by
                  cases z : S1 b with
                  | none => rfl
                  | some u => rw [e18 b u z] at sb; cases sb
                have st9 := st8.wipe vs
                rw [w1', w2'] at st9
                have ob' : ∀ j, b ∉ (if j ∈ vs then [] else O5 j) := fun j hj => by
                  split at hj
                  · cases hj
                  · exact ob j hj
                have st10 := StR.asideOld (p := b) (o := .lst ws) st9 hb sb ob'
                have eB : upd (upd (rowB G.B rs) Da (.lst (refs rs))) b (.lst ws) = upd (rowB G.B ((b, ws) :: rs)) Da (.lst (refs rs)) := by
                  funext c
                  show upd (upd (rowB G.B rs) Da (.lst (refs rs))) b (.lst ws) c = upd (upd (rowB G.B rs) b (.lst ws)) Da (.lst (refs rs)) c
                  by_cases h1 : c = b
                  · rw [h1, upd_same, upd_ne nbd, upd_same]
                  · by_cases h2 : c = Da
                    · rw [h2, upd_ne (Ne.symm nbd), upd_same, upd_same]
                    · rw [upd_ne h1, upd_ne h2, upd_ne h2, upd_ne h1]
                rw [eB] at st10
                have st11 : StR ⟨G.K, upd (rowB G.B ((b, ws) :: rs)) Da (.lst (refs ((b, ws) :: rs))), G.S0⟩ S8 _ (L2.wipe σ vs) (upd H8 Da (.lst (refs ((b, ws) :: rs)))) (wipeE ρ vs) :=
                  StR.asideUp (G := ⟨G.K, rowB G.B ((b, ws) :: rs), G.S0⟩) (o := .lst (refs rs)) (o' := .lst (refs ((b, ws) :: rs))) st10 d1
                obtain ⟨n1, n2⟩ := List.nodup_cons.mp t.nd
                refine ⟨refs rs, d2, sz_lt (by rw [refs_length]; have := t.len; omega), hlt, (b, ws) :: rs, row :: lr, l3, S8, (fun j => if j ∈ vs then [] else O5 j), ?_⟩
                have er : refs rs ++ [V.ref b] = refs ((b, ws) :: rs) := (refs_cons (b, ws) rs).symm
                rw [er]
                exact {
                  ex := e18
                  sd := d1
                  up := fun c o e => by
                    rw [upd_ne (fun z => by rw [z, hDa] at e; cases e)]
                    exact k8 c o (k6 c o (k4 c o (t.up c o e)))
                  at_ := upd_same
                  len := by have := t.len; rw [List.length_cons]; omega
                  rows := ⟨rb, t.rows.mono ((e4.trans e6).trans e8)⟩
                  eq := by rw [t.eq, List.reverse_cons, List.append_assoc]; rfl
                  rest := hr
                  nd := by
                    rw [List.map_cons]
                    refine List.nodup_cons.mpr ⟨?_, List.nodup_cons.mpr ⟨nb, n2⟩⟩
                    rw [List.mem_cons]
                    exact fun z => z.elim (fun z => nbd z.symm) n1
                  off := fun r hr' => by
                    rcases List.mem_cons.mp hr' with z | z
                    · rw [z]; exact ⟨s1b, sb, gb⟩
                    · obtain ⟨o1, _, o3⟩ := t.off r z
                      exact ⟨o1, d3 r z, o3⟩
                  st := st11 }
        rcases hx with ⟨rfl, rp⟩ | ⟨p, ws, lt, rfl, hn, rfl, rfl, rs'⟩
        · rw [← eK] at rp
          exact turn S2 (Same.refl _) (fun _ _ h => h) t.st (rp.mono t.ex)
        · obtain ⟨st4, e4, k4⟩ := t.st.stand (o := .tup ws) hn
          rw [← eK] at rs'
          exact turn _ e4 k4 st4 (.tup (.inl (.inl upd_same)) (rs'.mono (t.ex.trans e4)))
    · have hi' : k = ds.length := by omega
      subst hi'
      have hcd2 := t.rest
      rw [List.drop_length] at hcd2
      cases hcd2
      have hl : ls = lr.reverse := by rw [t.eq, List.append_nil]
      refine .inl ⟨yl.stop H2 t.up _ (Nat.le_refl _), ?_⟩
      have eO : (fun j => if j ∈ vs then [] else O j) = O := by
        funext j
        by_cases hj : j ∈ vs
        · rw [if_pos hj]
          have z := List.all_eq_true.mp hno j hj
          cases hs : ρ[j]? with
          | none => rw [st.out j (List.getElem?_eq_none_iff.mp hs)]
          | some s =>
            have z2 := st.slot j s hs
            rw [List.getD_eq_getElem?_getD, hs] at z
            cases s with
            | no => exact z2.symm
            | val d => exact z2.1.symm
            | _ => cases z
        · rw [if_neg hj]
      have e3 : O2 = O := by
        have z := StR.same stw t.st t.up
        rw [z, eO]
      subst e3
      have st3 := t.st
      obtain ⟨n1, n2⟩ := List.nodup_cons.mp t.nd
      have st5 : StR G S2 O2 σ H2 ρ := by
        refine ⟨fun b o e => ?_, st3.exS0, st3.exS, fun b hb => ?_, st1.len, fun j s e => (st1.slot j s e).mono t.ex fun a o _ h => t.up a o h, fun j a h => ⟨(st3.off j a h).1, (st1.off j a h).2⟩, st3.live, st1.apart, st1.out⟩
        · exact t.up b o (st1.exB b o e)
        · have hbd : b ≠ Da := fun z => hb (by rw [z]; exact t.sd)
          rcases st3.new b hb with h | h
          · exact .inl h
          · have h : upd (rowB G.B rs) Da (.lst (refs rs)) b = none := h
            rw [upd_ne hbd] at h
            exact .inr (rowB_none h).1
      have hrow : ∀ r ∈ rs, H2 r.1 = some (.lst r.2) := fun r hr => by
        have ne : r.1 ≠ Da := fun e => n1 (by rw [← e]; exact List.mem_map.mpr ⟨r, hr, rfl⟩)
        exact st3.exB r.1 _ (by show upd (rowB G.B rs) Da (.lst (refs rs)) r.1 = _; rw [upd_ne ne]; exact rowB_mem n2 hr)
      have hlen : lr.length = rs.length := t.rows.len
      have st7 : StR G S0 O0 σ H2 ρ0 := st0.grow (k1.trans t.up)
      have x2 : Ex S0 S2 := (xF.trans s1).trans t.ex
      have sN : ∀ b, S2 b = none → S0 b = none := fun b hb => by
        cases z : S0 b with
        | none => rfl
        | some u => rw [x2 b u z] at hb; cases hb
      have oN : ∀ b, S2 b = none → (∀ j, b ∉ O2 j) → ∀ j, b ∉ O0 j := fun b hb hj j z => by
        rcases hOO j b z with h | h
        · exact hj j h
        · obtain ⟨u, hu⟩ := Option.ne_none_iff_exists'.mp h
          rw [(s1.trans t.ex) b u hu] at hb
          cases hb
      by_cases hil : i < ρ0.length
      · have st6 := st7.setSl i hil (s := .own2 ls) (v := .ref Da) (F := Da :: (rs.map (·.1)).reverse) ⟨Da, (rs.map (·.1)).reverse, rfl, rfl, ?_, ?_, ?_, ?_⟩ ?_
        · exact q1 S0 _ _ _ st6
        · refine List.nodup_cons.mpr ⟨?_, ?_⟩
          · rw [List.mem_reverse]; exact n1
          · exact (List.reverse_perm _).nodup_iff.mpr n2
        · rw [t.at_]
          unfold refs
          rw [List.map_reverse, List.map_map]
          rfl
        · rw [List.length_reverse, List.length_map, hl, List.length_reverse, hlen]
        · intro n b l h1 h2
          rw [hl] at h2
          have hn1 : n < (rs.map (·.1)).length := by
            have := (List.getElem?_eq_some_iff.mp h1).1
            rwa [List.length_reverse] at this
          rw [List.length_map] at hn1
          rw [List.getElem?_reverse (by rw [List.length_map]; exact hn1), List.length_map, List.getElem?_map] at h1
          rw [List.getElem?_reverse (by omega), hlen] at h2
          cases hrr : rs[rs.length - 1 - n]? with
          | none => rw [hrr] at h1; cases h1
          | some r =>
            rw [hrr] at h1
            cases h1
            refine ⟨r.2, hrow r (List.mem_of_getElem? hrr), Reps.sc ?_ (t.rows.get h2 hrr)⟩
            exact List.all_eq_true.mp hsc l (by rw [hl]; exact List.mem_reverse.mpr (List.mem_of_getElem? h2))
        · intro b hb
          rcases List.mem_cons.mp hb with z | z
          · subst z
            refine ⟨sN _ t.sd, bp, by rw [t.at_]; simp, fun j _ => oN _ t.sd (fun j hj => ?_) j⟩
            have := (st3.off j b hj).2
            have this : upd (rowB G.B rs) b (.lst (refs rs)) b = none := this
            rw [upd_same] at this
            cases this
          · rw [List.mem_reverse] at z
            obtain ⟨r, hr, rfl⟩ := List.mem_map.mp z
            obtain ⟨o1, o2, o3⟩ := t.off r hr
            refine ⟨sN _ o2, o3, by rw [hrow r hr]; simp, fun j _ => oN _ o2 (fun j hj => ?_) j⟩
            have := (st3.off j r.1 hj).2
            have this : upd (rowB G.B rs) Da (.lst (refs rs)) r.1 = none := this
            have ne : r.1 ≠ Da := fun e => n1 (by rw [← e]; exact List.mem_map.mpr ⟨r, hr, rfl⟩)
            rw [upd_ne ne, rowB_mem n2 hr] at this
            cases this
      · exact q1 S0 _ _ _ (st7.setOut i (by omega) _ _)
end
section
variable {G : Gd} {S : Hp} {O : Nat → List Addr} {σ : L2.St} {H : Hp} {ρ : Env}
theorem StR.addRow (st : StR G S O σ H ρ) {i : Nat} {ls : List (List D)} {l : List D} {a p : Addr} {as : List Addr} {vs : List V} (hi : ρ[i]? = some (.own2 ls)) (hO : O i = a :: as) (hp : H p = none) (r : Reps G.K S l vs) :
    ∃ O', StR G S O' σ (upd (upd H p (.lst vs)) a (.lst ((as ++ [p]).map V.ref))) (ρ.set i (.own2 (ls ++ [l]))) := by
  obtain ⟨a', as', e1, e2, nd, e3, hl, hc⟩ := st.slot i _ hi
  rw [hO] at e2
  cases e2
  rw [hO] at nd
  obtain ⟨na, nd'⟩ := List.nodup_cons.mp nd
  have aO : a ∈ O i := by rw [hO]; exact List.mem_cons_self
  obtain ⟨sa, ba⟩ := st.off i a aO
  have sp : S p = none := by
    cases e : S p with
    | none => rfl
    | some u => rw [st.exS p u e] at hp; cases hp
  have bp : G.B p = none := none_of_B st hp
  have pO : ∀ k, p ∉ O k := fun k z => st.live k p z hp
  have npa : p ≠ a := fun z => pO i (by rw [z]; exact aO)
  have st1 := st.grow (ex_upd (o := .lst vs) hp)
  refine ⟨fun k => if k = i then a :: (as ++ [p]) else O k, ⟨fun c o e => ?_, st.exS0, fun c o e => ?_, st.new, by rw [List.length_set]; exact st.len, fun k s e => ?_, fun k c q => ?_, fun k c q => ?_, fun k k' c q1 q2 => ?_, fun k hk => ?_⟩⟩
  · rw [upd_ne (fun z => by rw [z, ba] at e; cases e)]
    exact st1.exB c o e
  · rw [upd_ne (fun z => by rw [z, sa] at e; cases e)]
    exact st1.exS c o e
  · rcases get_set e with ⟨rfl, rfl⟩ | ⟨ne, e⟩
    · show SlR G.K S _ (.own2 (ls ++ [l])) σ[k]? (if k = k then a :: (as ++ [p]) else O k)
      rw [if_pos rfl]
      refine ⟨a, as ++ [p], e1, rfl, ?_, upd_same, by rw [List.length_append, List.length_append, hl]; rfl, fun n b l' h1 h2 => ?_⟩
      · refine List.nodup_cons.mpr ⟨fun z => ?_, List.nodup_append.mpr ⟨nd', by simp, fun x hx y hy => ?_⟩⟩
        · rcases List.mem_append.mp z with z | z
          · exact na z
          · exact npa (List.mem_singleton.mp z).symm
        · rw [List.mem_singleton.mp hy]
          exact fun z => pO k (by rw [hO, ← z]; exact List.mem_cons_of_mem _ hx)
      · by_cases hn : n < as.length
        · rw [List.getElem?_append_left hn] at h1
          rw [List.getElem?_append_left (by omega)] at h2
          obtain ⟨ws, h3, h4⟩ := hc n b l' h1 h2
          refine ⟨ws, ?_, h4⟩
          have hbm := List.mem_of_getElem? h1
          rw [upd_ne (fun z => na (by rw [← z]; exact hbm)), upd_ne (fun z => by rw [z, hp] at h3; cases h3)]
          exact h3
        · have hn' : n = as.length := by
            have := (List.getElem?_eq_some_iff.mp h1).1
            rw [List.length_append, List.length_singleton] at this
            omega
          subst hn'
          rw [List.getElem?_append_right (Nat.le_refl _), Nat.sub_self] at h1
          rw [List.getElem?_append_right (by omega), hl, Nat.sub_self] at h2
          cases h1
          cases h2
          exact ⟨vs, by rw [upd_ne npa, upd_same], r⟩
    · show SlR G.K S _ s σ[k]? (if k = i then a :: (as ++ [p]) else O k)
      rw [if_neg ne]
      refine (st1.slot k s e).mono (Same.refl S) fun c o hc' hq => ?_
      rw [upd_ne (fun z => ne (st.apart k i a (by rw [← z]; exact hc') aO))]
      exact hq
  · have q : c ∈ (if k = i then a :: (as ++ [p]) else O k) := q
    split at q
    · rcases List.mem_cons.mp q with z | z
      · rw [z]; exact ⟨sa, ba⟩
      · rcases List.mem_append.mp z with z | z
        · exact st.off i c (by rw [hO]; exact List.mem_cons_of_mem _ z)
        · rw [List.mem_singleton.mp z]; exact ⟨sp, bp⟩
    · exact st.off k c q
  · have q : c ∈ (if k = i then a :: (as ++ [p]) else O k) := q
    by_cases hca : c = a
    · rw [hca, upd_same]; simp
    · rw [upd_ne hca]
      by_cases hcp : c = p
      · rw [hcp, upd_same]; simp
      · rw [upd_ne hcp]
        split at q
        · rcases List.mem_cons.mp q with z | z
          · exact absurd z hca
          · rcases List.mem_append.mp z with z | z
            · exact st.live i c (by rw [hO]; exact List.mem_cons_of_mem _ z)
            · exact absurd (List.mem_singleton.mp z) hcp
        · exact st.live k c q
  · have z : ∀ {k : Nat}, k ≠ i → c ∈ O k → c ∈ a :: (as ++ [p]) → False := fun {k} ne h1 h2 => by
      rcases List.mem_cons.mp h2 with z | z
      · exact ne (st.apart k i c h1 (by rw [z]; exact aO))
      · rcases List.mem_append.mp z with z | z
        · exact ne (st.apart k i c h1 (by rw [hO]; exact List.mem_cons_of_mem _ z))
        · exact pO k (by rw [← List.mem_singleton.mp z]; exact h1)
    have q1 : c ∈ (if k = i then a :: (as ++ [p]) else O k) := q1
    have q2 : c ∈ (if k' = i then a :: (as ++ [p]) else O k') := q2
    split at q1 <;> split at q2
    · rename_i h1 h2; rw [h1, h2]
    · rename_i h1 h2; exact (z h2 q2 q1).elim
    · rename_i h1 h2; exact (z h1 q1 q2).elim
    · exact st.apart k k' c q1 q2
  · rw [List.length_set] at hk
    show (if k = i then a :: (as ++ [p]) else O k) = []
    have hik : k ≠ i := fun z => by
      have := (List.getElem?_eq_some_iff.mp hi).1
      omega
    rw [if_neg hik]
    exact st.out k hk
end
section
variable {X : Cx} {W : WX} {e : Expr} {m : ME} {pos p pr ap cp lp vp : Pos} {x y : Str} {jc : PySem.Str}
/-- x.append([]) -/
def sAppN2 (i : Nat) : MS := fun ρ => onOwn2 i ρ fun ls => if ls.length < 100000 then .nx (ρ.set i (.own2 (ls ++ [[]]))) else .bad
theorem ds_appN2 (i : Nat) (hi : X.N[i]? = some x := by rfl) (hv : Vis X.env.scope x := by first | exact Or.inl rfl | exact Or.inr (Or.inl rfl) | exact Or.inr (Or.inr rfl)) (hd : (x == ("__debug__" : Str)) = false := by decide)
    (hcd : (x == ("__classdict__" : Str)) = false := by decide)
    (hbase : attributeBase (.Name x p) "append" X.env (eval (.Name x p) X.env) = eval (.Name x p) X.env := by rfl)
    (hfew : ((backTo cp (starEach ((.List [] lp) :: []) X.env)).all (fun x => !x.1) && (backToKw cp (keywordEach [] X.env)).all (fun x => x.1.isSome)
      && decide (((.List [] lp) :: ([] : List Expr)).length + ([] : List Keyword).length + (if ([] : List Keyword).isEmpty then 0 else 1) < 30)) = true := by rfl)
    (hline : (ap.endLine == cp.line) = true := by rfl) (hs : starEach ((.List [] lp) :: []) X.env = (false, eval (.List [] lp) X.env) :: starEach [] X.env := by rfl) (hplain : (backTo cp (starEach [] X.env)).any (·.1) = false := by rfl)
    (hsw : swapsWith (.Call (.Attribute (.Name x p) "append" ap) [(.List [] lp)] [] cp) none pos.line X.env = pure false := by rfl) :
    DS X W (.Expr (.Call (.Attribute (.Name x p) "append" ap) [(.List [] lp)] [] cp) pos) (sAppN2 i) := by
  refine ⟨PS.weak (ps_expr (pe_bm PySem.F.plainAttrs_list PySem.F.slot_list_append PySem.F.type_list_append mt_append (pe_var hi hv hd hcd) (pa_cons (pe_lst pa_nil) pa_nil hs) hbase hfew hline hs hplain) hsw) ?_⟩
  rintro En σ H ⟨G, S, O, ρ, eK, st, q⟩
  obtain ⟨ls, hl, q1⟩ := onOwn2_some q
  split at q1
  case isFalse => exact q1.elim
  rename_i hlen
  obtain ⟨a, as, e1, e2, nd, e3, hll, hc⟩ := st.slot i _ hl
  refine ⟨.ref a, e1, .inl ⟨rfl, as.map V.ref, .inl (.inl e3)⟩, Nat.zero_le _, fun pp hp => ?_⟩
  have npa : pp ≠ a := fun z => by rw [z, e3] at hp; cases hp
  obtain ⟨O', st'⟩ := st.addRow (l := []) (vs := []) hl e2 hp .nil
  refine ⟨a, as.map V.ref, .ref pp, rfl, rfl, by rw [upd_ne (Ne.symm npa)]; exact e3, by rw [List.length_map, hll]; exact sz_lt hlen, ?_⟩
  rw [List.map_append] at st'
  exact q1 _ _ _ _ st'
/-- for y in x: y.append(c), x a list of lists of its own -/
def appd (c : Int) (i : Nat) (ls : List (List D)) : List (List D) := (ls.take i).map (fun l => l ++ [.int c]) ++ ls.drop i
def sEach2 (i k : Nat) (c : Int) : MS := fun ρ => if i ≠ k ∧ k < ρ.length then onOwn2 i ρ fun ls => if ls.all (fun l => decide (l.length < 100000)) = true then .nx ((ρ.set k .no).set i (.own2 (ls.map fun l => l ++ [.int c]))) else .bad else .bad
theorem appd_step (c : Int) {ls : List (List D)} {i : Nat} {l : List D} (h : ls[i]? = some l) : (appd c i ls)[i]? = some l ∧ (appd c i ls).set i (l ++ [.int c]) = appd c (i + 1) ls := by
  have hi := (List.getElem?_eq_some_iff.mp h).1
  have hl := (List.getElem?_eq_some_iff.mp h).2
  have e1 : ((ls.take i).map fun l => l ++ [D.int c]).length = i := by rw [List.length_map, List.length_take]; omega
  have e2 : ls.drop i = l :: ls.drop (i + 1) := by rw [List.drop_eq_getElem_cons hi, hl]
  unfold appd
  constructor
  · rw [List.getElem?_append_right (by omega), e1, Nat.sub_self, e2]
    rfl
  · rw [List.set_append_right _ _ (by omega), e1, Nat.sub_self, e2, List.set_cons_zero]
    rw [show ls.take (i + 1) = ls.take i ++ [l] by rw [List.take_succ, h]; rfl, List.map_append, List.append_assoc]
    rfl
theorem ds_each2 (i k : Nat) {c : Int} (C : Ctx X W) (hi : X.N[i]? = some x := by rfl) (hv : Vis X.env.scope x := by first | exact Or.inl rfl | exact Or.inr (Or.inl rfl) | exact Or.inr (Or.inr rfl)) (hd : (x == ("__debug__" : Str)) = false := by decide)
    (hcd : (x == ("__classdict__" : Str)) = false := by decide)
    (hk : X.N[k]? = some y := by rfl) (hx : Loc X.env.scope y := by first | exact .inl rfl | exact .inr rfl) (hf : X.fn y = true ∨ X.env.scope.names.lookup y = some .local := by first | exact .inl rfl | exact .inr rfl)
    (hv2 : Vis X.env.scope y := by first | exact Or.inl rfl | exact Or.inr (Or.inl rfl) | exact Or.inr (Or.inr rfl)) (hd2 : (y == ("__debug__" : Str)) = false := by decide)
    (hcd2 : (y == ("__classdict__" : Str)) = false := by decide)
    (he : DX X W e (eC (.int c)))
    (hbase : attributeBase (.Name y p) "append" X.env (eval (.Name y p) X.env) = eval (.Name y p) X.env := by rfl)
    (hfew : ((backTo cp (starEach (e :: []) X.env)).all (fun x => !x.1) && (backToKw cp (keywordEach [] X.env)).all (fun x => x.1.isSome)
      && decide ((e :: ([] : List Expr)).length + ([] : List Keyword).length + (if ([] : List Keyword).isEmpty then 0 else 1) < 30)) = true := by rfl)
    (hline : (ap.endLine == cp.line) = true := by rfl) (hs : starEach (e :: []) X.env = (false, eval e X.env) :: starEach [] X.env := by rfl) (hplain : (backTo cp (starEach [] X.env)).any (·.1) = false := by rfl)
    (hsw : swapsWith (.Call (.Attribute (.Name y p) "append" ap) [e] [] cp) none pr.line X.env = pure false := by rfl)
    (hfo : ∀ z, foldedSetIterable (.Name x vp) X.env z = pure z := by intro _; rfl) :
    DS X W (.For (.Name y lp) (.Name x vp) [.Expr (.Call (.Attribute (.Name y p) "append" ap) [e] [] cp) pr] [] pos) (sEach2 i k c) := by
  refine ⟨PS.weak (ps_for C.own C.calm (pi_list (pe_var hi hv hd hcd)) (pg_name C.nd hk hx hf) (pss_one (ps_expr (pe_bm PySem.F.plainAttrs_list PySem.F.slot_list_append PySem.F.type_list_append mt_append (pe_var hk hv2 hd2 hcd2) (pa_cons he.pe pa_nil hs) hbase hfew hline hs hplain) hsw)) hfo) ?_⟩
  rintro En σ H ⟨G, S, O, ρ, eK, st, q⟩
  unfold sEach2 at q
  split at q
  case isFalse => exact q.elim
  rename_i hikk
  obtain ⟨hik, hkl0⟩ := hikk
  obtain ⟨ls, hl, q1⟩ := onOwn2_some q
  split at q1
  case isFalse => exact q1.elim
  rename_i hsh
  obtain ⟨a, as, e1, e2, nd, e3, hll, hc⟩ := st.slot i _ hl
  refine ⟨.ref a, e1, a, rfl, ⟨as.map V.ref, .inl (.inl e3)⟩, ?_⟩
  obtain ⟨x0, hx0⟩ : ∃ x0, σ.set k x0 = σ := by
    by_cases hkl : k < σ.length
    · exact ⟨σ[k], List.set_getElem_self hkl⟩
    · exact ⟨none, List.set_eq_of_length_le (by omega)⟩
  have st0 := st.drop k x0
  rw [hx0] at st0
  have hl0 : (ρ.set k .no)[i]? = some (.own2 ls) := by rw [List.getElem?_set_ne (fun z => hik z.symm)]; exact hl
  generalize hρ1 : ρ.set k .no = ρ1 at *
  have hil : i < ρ1.length := (List.getElem?_eq_some_iff.mp hl0).1
  have hρk : ∀ s', (ρ1.set i s').set k .no = ρ1.set i s' := fun s' => by
    rw [List.set_comm _ _ hik, ← hρ1, List.set_set]
  refine ⟨fun j n σ' H' => n = ls.length - j ∧ j ≤ ls.length ∧ σ'[i]? = some (some (.ref a)) ∧ ∃ O', O' i = a :: as ∧ StR G S O' σ' H' (ρ1.set i (.own2 (appd c j ls))), ⟨_, rfl, Nat.zero_le _, e1, (fun j => if j = k then [] else O j), ?_, ?_⟩, ?_⟩
  · show (if i = k then [] else O i) = _
    rw [if_neg hik]
    exact e2
  · rw [show ρ1.set i (.own2 (appd c 0 ls)) = ρ1 from ?_]
    · exact st0
    · refine List.ext_getElem? fun j => ?_
      by_cases hj : i = j
      · subst hj
        rw [List.getElem?_set_self hil, hl0]
        rfl
      · rw [List.getElem?_set_ne hj]
  rintro j n σ' H' ⟨rfl, hj, f1, O', f2, st'⟩
  have hsl : (ρ1.set i (.own2 (appd c j ls)))[i]? = some (.own2 (appd c j ls)) := List.getElem?_set_self hil
  obtain ⟨a', as', g1, g2, gnd, g3, gl, gc⟩ := st'.slot i _ hsl
  rw [f2] at g2
  cases g2
  have hSq : SqL X.K H' a (as.map V.ref) := .inl (.inl g3)
  by_cases hlt : j < ls.length
  · have hja : j < as.length := by rw [hll]; exact hlt
    refine .inr ⟨⟨_, .ref as[j], hSq, by rw [List.getElem?_map, List.getElem?_eq_getElem hja]; rfl⟩, fun σ2 H2 => (ls.length - (j + 1) = ls.length - (j + 1) ∧ j + 1 ≤ ls.length ∧ σ2[i]? = some (some (.ref a)) ∧ ∃ O', O' i = a :: as ∧ StR G S O' σ2 H2 (ρ1.set i (.own2 (appd c (j + 1) ls)))), fun σ2 H2 h => ⟨_, by omega, h⟩, ?_⟩
    rintro v H2 ⟨rfl, hv1⟩
    have hv1 := hv1 _ hSq
    rw [List.getElem?_map, List.getElem?_eq_getElem hja] at hv1
    cases hv1
    have std := st'.drop k (some (.ref as[j]))
    rw [hρk] at std
    have hkN : σ'.length = ρ1.length := by rw [st'.len, List.length_set]
    have hrow := appd_step c (List.getElem?_eq_getElem hlt)
    obtain ⟨vs, hvs, rvs⟩ := gc j as[j] ls[j] (List.getElem?_eq_getElem hja) hrow.1
    have hkl : k < σ'.length := by
      rw [hkN, ← hρ1, List.length_set]
      exact hkl0
    show ∃ v, _
    refine ⟨.ref as[j], List.getElem?_set_self hkl, .inl ⟨rfl, vs, .inl (.inl hvs)⟩, G, S, _, _, eK, std, fun y' S3 H3 s3 k3 st3 rp3 => ?_⟩
    have rp3 : Rep G.K S3 (.int c) y' := rp3
    cases rp3
    have hO3 : (fun j => if j = k then [] else O' j) i = a :: as := by
      show (if i = k then [] else O' i) = _
      rw [if_neg hik]
      exact f2
    have hw := (std.grow k3).write2 (vs' := vs ++ [.int c]) (l' := ls[j] ++ [.int c]) hsl hO3 (List.getElem?_eq_getElem hja) (rvs.append (.cons (.int c) .nil))
    rw [List.set_set, hrow.2] at hw
    refine ⟨as[j], vs, .int c, rfl, rfl, k3 _ _ hvs, ?_, rfl, by omega, ?_, (fun j => if j = k then [] else O' j), hO3, hw⟩
    · rw [← rvs.length]
      have := of_decide_eq_true (List.all_eq_true.mp hsh ls[j] (List.getElem_mem hlt))
      exact sz_lt this
    · rw [List.getElem?_set_ne (fun z => hik z.symm)]
      exact f1
  · have hje : j = ls.length := by omega
    subst hje
    refine .inl ⟨⟨_, hSq, by rw [List.length_map, hll]; exact Nat.le_refl _⟩, ?_⟩
    have : appd c ls.length ls = ls.map fun l => l ++ [.int c] := by
      unfold appd
      rw [List.take_length, List.drop_length, List.append_nil]
    rw [this] at st'
    exact q1 _ _ _ _ st'
end
end RF

set_option Elab.async false
set_option linter.all false
set_option maxRecDepth 100000
set_option autoImplicit false
set_option maxHeartbeats 0
/-! RF, part Y: a walk of a slot's own list that stays the slot's; sorted, min -/
namespace RF
open PySem PySem.Spec L2 PyProof.Rows
def putAll (dl : List (Int × D)) : List Int → List (Int × D)
  | [] => dl
  | z :: zs => putAll (putL dl z (.bl true)) zs
theorem putL_len {dl : List (Int × D)} {z : Int} {d : D} : (putL dl z d).length ≤ dl.length + 1 := by
  unfold putL
  split
  · rw [List.length_map]; omega
  · simp
theorem putAll_len : ∀ (zs : List Int) (dl : List (Int × D)), (putAll dl zs).length ≤ dl.length + zs.length
  | [], _ => Nat.le_refl _
  | z :: zs, dl => by
    have h1 := putAll_len zs (putL dl z (.bl true))
    have h2 := putL_len (dl := dl) (z := z) (d := .bl true)
    show (putAll (putL dl z (.bl true)) zs).length ≤ _
    rw [List.length_cons]
    omega
theorem putAll_snoc (z : Int) : ∀ (zs : List Int) (dl : List (Int × D)), putAll dl (zs ++ [z]) = putL (putAll dl zs) z (.bl true)
  | [], _ => rfl
  | y :: zs, dl => putAll_snoc z zs (putL dl y (.bl true))
/-- for y in w: d[y] = True, w a list and d a dict of slots' own -/
def sForDic (i j k : Nat) : MS := fun ρ => if i ≠ k ∧ j ≠ k ∧ i ≠ j ∧ k < ρ.length then onOwn i ρ fun l => onDic j ρ fun dl => match intsOf l with
  | some zs => if dl.length + zs.length < 100000 then .nx ((ρ.set k .no).set j (.dic (putAll dl zs))) else .bad
  | none => .bad else .bad
section
variable {X : Cx} {W : WX} {e : Expr} {pos p p1 p2 pk sp lp vp : Pos} {x y d : Str}
theorem ds_forDic (i j k : Nat) (C : Ctx X W) (hi : X.N[i]? = some x := by rfl) (hv : Vis X.env.scope x := by first | exact Or.inl rfl | exact Or.inr (Or.inl rfl) | exact Or.inr (Or.inr rfl)) (hd : (x == ("__debug__" : Str)) = false := by decide)
    (hcd : (x == ("__classdict__" : Str)) = false := by decide)
    (hj : X.N[j]? = some d := by rfl) (hvj : Vis X.env.scope d := by first | exact Or.inl rfl | exact Or.inr (Or.inl rfl) | exact Or.inr (Or.inr rfl)) (hdj : (d == ("__debug__" : Str)) = false := by decide)
    (hcdj : (d == ("__classdict__" : Str)) = false := by decide)
    (hk : X.N[k]? = some y := by rfl) (hx : Loc X.env.scope y := by first | exact .inl rfl | exact .inr rfl) (hf : X.fn y = true ∨ X.env.scope.names.lookup y = some .local := by first | exact .inl rfl | exact .inr rfl)
    (hv2 : Vis X.env.scope y := by first | exact Or.inl rfl | exact Or.inr (Or.inl rfl) | exact Or.inr (Or.inr rfl)) (hd2 : (y == ("__debug__" : Str)) = false := by decide)
    (hcd2 : (y == ("__classdict__" : Str)) = false := by decide)
    (he : DX X W e (eC (.bl true)))
    (hs : swapsWith e (some (.Subscript (.Name d p1) (.Name y pk) p2)) sp.line X.env = pure false := by rfl)
    (hfo : ∀ z, foldedSetIterable (.Name x vp) X.env z = pure z := by intro _; rfl) :
    DS X W (.For (.Name y lp) (.Name x vp) [.Assign [.Subscript (.Name d p1) (.Name y pk) p2] e sp] [] pos) (sForDic i j k) := by
  refine ⟨PS.weak (ps_for C.own C.calm (pi_list (pe_var hi hv hd hcd)) (pg_name C.nd hk hx hf) (pss_one (ps_dput (by have := C.un; omega) (pe_var hj hvj hdj hcdj) (pe_var hk hv2 hd2 hcd2) he.pe hs)) hfo) ?_⟩
  rintro En σ H ⟨G, S, O, ρ, eK, st, q⟩
  unfold sForDic at q
  split at q
  case isFalse => exact q.elim
  rename_i hikk
  obtain ⟨hik, hjk, hij, hkl0⟩ := hikk
  obtain ⟨l, hl, q1⟩ := onOwn_some q
  obtain ⟨dl, hdl, q2⟩ := onDic_some q1
  cases hz : intsOf l with
  | none => rw [hz] at q2; exact q2.elim
  | some zs =>
  rw [hz] at q2
  have q2 : FinS W (if dl.length + zs.length < 100000 then .nx ((ρ.set k .no).set j (.dic (putAll dl zs))) else .bad) G En := q2
  split at q2
  case isFalse => exact q2.elim
  rename_i hlen
  obtain ⟨a, vs, e1, e2, e3, rv⟩ := st.slot i _ hl
  have hvs := rv.ints hz
  subst hvs
  refine ⟨.ref a, e1, a, rfl, ⟨zs.map V.int, .inl (.inl e3)⟩, ?_⟩
  obtain ⟨x0, hx0⟩ : ∃ x0, σ.set k x0 = σ := by
    by_cases hkl : k < σ.length
    · exact ⟨σ[k], List.set_getElem_self hkl⟩
    · exact ⟨none, List.set_eq_of_length_le (by omega)⟩
  have st0 := st.drop k x0
  rw [hx0] at st0
  have hl0 : (ρ.set k .no)[i]? = some (.own l) := by rw [List.getElem?_set_ne (fun z => hik z.symm)]; exact hl
  have hd0 : (ρ.set k .no)[j]? = some (.dic dl) := by rw [List.getElem?_set_ne (fun z => hjk z.symm)]; exact hdl
  generalize hρ1 : ρ.set k .no = ρ1 at *
  have hjl : j < ρ1.length := (List.getElem?_eq_some_iff.mp hd0).1
  have hρk : ∀ s', (ρ1.set j s').set k .no = ρ1.set j s' := fun s' => by
    rw [List.set_comm _ _ hjk, ← hρ1, List.set_set]
  have hli : ∀ s', (ρ1.set j s')[i]? = some (.own l) := fun s' => by
    rw [List.getElem?_set_ne (fun z => hij z.symm)]
    exact hl0
  refine ⟨fun n r σ' H' => r = zs.length - n ∧ n ≤ zs.length ∧ σ'[i]? = some (some (.ref a)) ∧ ∃ O', StR G S O' σ' H' (ρ1.set j (.dic (putAll dl (zs.take n)))), ⟨_, rfl, Nat.zero_le _, e1, (fun j => if j = k then [] else O j), ?_⟩, ?_⟩
  · rw [show ρ1.set j (.dic (putAll dl (zs.take 0))) = ρ1 from ?_]
    · exact st0
    · refine List.ext_getElem? fun n => ?_
      by_cases hn : j = n
      · subst hn
        rw [List.getElem?_set_self hjl, hd0]
        rfl
      · rw [List.getElem?_set_ne hn]
  rintro n r σ' H' ⟨rfl, hn, f1, O', st'⟩
  obtain ⟨a', vs', g1, g2, g3, gr⟩ := st'.slot i _ (hli _)
  rw [f1] at g1
  cases g1
  have hvs' := gr.ints hz
  subst hvs'
  have hSq : SqL X.K H' a (zs.map V.int) := .inl (.inl g3)
  by_cases hlt : n < zs.length
  · refine .inr ⟨⟨_, .int zs[n], hSq, by rw [List.getElem?_map, List.getElem?_eq_getElem hlt]; rfl⟩, fun σ2 H2 => (zs.length - (n + 1) = zs.length - (n + 1) ∧ n + 1 ≤ zs.length ∧ σ2[i]? = some (some (.ref a)) ∧ ∃ O', StR G S O' σ2 H2 (ρ1.set j (.dic (putAll dl (zs.take (n + 1)))))), fun σ2 H2 h => ⟨_, by omega, h⟩, ?_⟩
    rintro v H2 ⟨rfl, hv1⟩
    have hv1 := hv1 _ hSq
    rw [List.getElem?_map, List.getElem?_eq_getElem hlt] at hv1
    cases hv1
    have std := st'.drop k (some (.int zs[n]))
    rw [hρk] at std
    have hkN : σ'.length = ρ1.length := by rw [st'.len, List.length_set]
    have hkl : k < σ'.length := by
      rw [hkN, ← hρ1, List.length_set]
      exact hkl0
    have hdd : (ρ1.set j (.dic (putAll dl (zs.take n))))[j]? = some (.dic (putAll dl (zs.take n))) := List.getElem?_set_self hjl
    refine ⟨G, S, _, _, eK, std, fun v1 S3 H3 s3 k3 st3 rp3 => ?_⟩
    have rp3 : Rep G.K S3 (.bl true) v1 := rp3
    cases rp3
    have st4 := std.grow k3
    obtain ⟨ad, kvs, d1, d2, d3, st5⟩ := st4.putDic (d := .bl true) (v := .bl true) zs[n] hdd (.bl true)
    refine ⟨.ref ad, d1, .int zs[n], List.getElem?_set_self hkl, ad, _, rfl, .inl ⟨kvs, Sum.inl zs[n], d2, rfl, ?_, rfl⟩, rfl, by omega, ?_, (fun j => if j = k then [] else O' j), ?_⟩
    · have := putAll_len (zs.take n) dl
      rw [List.length_take] at this
      rw [d3]
      exact sz_lt (by omega)
    · rw [List.getElem?_set_ne (fun z => hik z.symm)]
      exact f1
    · rw [List.set_set] at st5
      rw [List.take_succ, List.getElem?_eq_getElem hlt, Option.toList_some, putAll_snoc]
      exact st5
  · have hje : n = zs.length := by omega
    subst hje
    refine .inl ⟨⟨_, hSq, by rw [List.length_map]; exact Nat.le_refl _⟩, ?_⟩
    rw [List.take_length] at st'
    exact q2 _ _ _ _ st'
end
/-! ### sorted, min -/
def sortI (l : List Int) : List Int := l.mergeSort fun a b => decide (a ≤ b)
theorem sortI_perm (l : List Int) : (sortI l).Perm l := List.mergeSort_perm l _
theorem sortI_srt (l : List Int) : (sortI l).Pairwise (· ≤ ·) := by
  have h := List.pairwise_mergeSort (le := fun a b : Int => decide (a ≤ b)) (fun a b c h1 h2 => decide_eq_true (Int.le_trans (of_decide_eq_true h1) (of_decide_eq_true h2))) (fun a b => by
    rcases Int.le_total a b with z | z
    · simp [z]
    · simp [z]) l
  exact h.imp fun h => of_decide_eq_true h
theorem srt_uniq : ∀ {a b : List Int}, a.Perm b → a.Pairwise (· ≤ ·) → b.Pairwise (· ≤ ·) → a = b
  | [], b, h, _, _ => (List.nil_perm.mp h).symm
  | x :: a, [], h, _, _ => by cases List.perm_nil.mp h
  | x :: a, y :: b, h, h1, h2 => by
    have e : x = y := by
      have m1 : x ∈ y :: b := h.mem_iff.mp List.mem_cons_self
      have m2 : y ∈ x :: a := h.mem_iff.mpr List.mem_cons_self
      have l1 : y ≤ x := by
        rcases List.mem_cons.mp m1 with z | z
        · omega
        · exact (List.pairwise_cons.mp h2).1 x z
      have l2 : x ≤ y := by
        rcases List.mem_cons.mp m2 with z | z
        · omega
        · exact (List.pairwise_cons.mp h1).1 y z
      omega
    subst e
    rw [srt_uniq (List.perm_cons x |>.mp h) (List.pairwise_cons.mp h1).2 (List.pairwise_cons.mp h2).2]
section
variable {K : PySem.W.Frag}
def bSorted : List D → Option T
  | [.lst l] => (intsOf l).map fun ns => .fr ((sortI ns).map D.int)
  | _ => none
theorem ra_sorted : RAOk K (rSortedI K) bSorted := by
  intro G S O σ H ρ ts z xs Q eK st r hz k
  subst eK
  unfold bSorted at hz
  split at hz
  · rename_i l e
    cases hi : intsOf l with
    | none => rw [hi] at hz; cases hz
    | some ns =>
      rw [hi] at hz
      cases hz
      obtain ⟨t, x, rfl, rfl, e1, r1⟩ := r.one e
      obtain ⟨p, vs, rfl, h1, q1⟩ := RepO.lst e1 st.exS r1
      refine ⟨p, ns, rfl, by rw [← q1.ints hi]; exact h1, fun ns' pp hp hs hn => ?_⟩
      have e2 : ns' = sortI ns := srt_uniq (hp.trans (sortI_perm ns).symm) hs (sortI_srt ns)
      subst e2
      exact done_fr st hn (Reps.ofInts _) k
  · cases hz
def minI : List Int → Int
  | [] => 0
  | [a] => a
  | a :: l => min a (minI l)
theorem minI_ok : ∀ {l : List Int}, 0 < l.length → minI l ∈ l ∧ ∀ y ∈ l, minI l ≤ y
  | [a], _ => ⟨List.mem_cons_self, fun y hy => by rw [List.mem_singleton.mp hy]; exact Int.le_refl _⟩
  | a :: b :: l, _ => by
    obtain ⟨h1, h2⟩ := minI_ok (l := b :: l) (by simp)
    show min a (minI (b :: l)) ∈ a :: b :: l ∧ ∀ y ∈ a :: b :: l, min a (minI (b :: l)) ≤ y
    refine ⟨?_, fun y hy => ?_⟩
    · rcases Int.le_total a (minI (b :: l)) with z | z
      · rw [Int.min_eq_left z]; exact List.mem_cons_self
      · rw [Int.min_eq_right z]; exact List.mem_cons_of_mem _ h1
    · rcases List.mem_cons.mp hy with z | z
      · rw [z]; exact Int.min_le_left _ _
      · exact Int.le_trans (Int.min_le_right _ _) (h2 y z)
def bMin1 : List D → Option T
  | [.lst l] => (intsOf l).bind fun ns => if 0 < ns.length then some (.st (.int (minI ns))) else none
  | _ => none
theorem ra_min1 : RAOk K (rMin K) bMin1 := by
  intro G S O σ H ρ ts z xs Q eK st r hz k
  subst eK
  unfold bMin1 at hz
  split at hz
  · rename_i l e
    cases hi : intsOf l with
    | none => rw [hi] at hz; cases hz
    | some ns =>
      rw [hi, Option.bind_some] at hz
      split at hz
      · rename_i hp
        cases hz
        obtain ⟨t, x, rfl, rfl, e1, r1⟩ := r.one e
        obtain ⟨p, vs, rfl, h1, q1⟩ := RepO.lst e1 st.exS r1
        refine ⟨p, ns, rfl, by rw [← q1.ints hi]; exact h1, hp, fun m hm hle => ?_⟩
        obtain ⟨n1, n2⟩ := minI_ok hp
        have e2 : m = minI ns := Int.le_antisymm (hle _ n1) (n2 _ hm)
        subst e2
        exact done_st st (.int _) k
      · cases hz
  · cases hz
end
end RF

set_option Elab.async false
set_option linter.all false
set_option maxRecDepth 100000
set_option autoImplicit false
set_option maxHeartbeats 0
/-! RF, part Z: texts -/
namespace RF
open PySem PySem.Spec L2 PyProof.Rows
def strD : D → Option Str
  | .str x => some x
  | _ => none
theorem strD_eq {d : D} {x : Str} (h : strD d = some x) : d = .str x := by
  cases d <;> cases h
  rfl
theorem Reps.ofStrs {K : PySem.W.Frag} {S : Hp} : ∀ l : List Str, Reps K S (l.map D.str) (l.map V.str)
  | [] => .nil
  | x :: l => .cons (.str x) (Reps.ofStrs l)
/-! ### x.name(y), x a text -/
def eM1 (f : Str → D → Option T) (m n : ME) : ME := fun ρ => (m ρ).bind fun t => (lift (strD t.d)).bind fun a => (n ρ).bind fun u => lift (f a u.d)
def M1Ok (K : PySem.W.Frag) (r : V → List V → Hp → VK → Prop) (f : Str → D → Option T) : Prop := ∀ (G : Gd) (S : Hp) (O : Nat → List Addr) (σ : L2.St) (H : Hp) (ρ : Env) (a : Str) (u z : T) (y : V) (Q : VK), G.K = K → StR G S O σ H ρ →
  RepO K S H u y → f a u.d = some z → (∀ v S' H', Ex S S' → Ex H H' → StR G S' O σ H' ρ → RepT G S' O H' z v → Q v H') → r (.str a) [y] H Q
section
variable {X : Cx} {W : WX} {a b e ea eb : Expr} {m n : ME} {ma : MA} {pos ap cp p : Pos} {name : Str} {id : String} {r : V → List V → Hp → VK → Prop} {f : Str → D → Option T}
theorem dx_m1 (slot : Slot "str" name id) (hty : typeOf (.builtin id) = pure (.type "method_descriptor")) (hmt : MtR X id r) (hf : M1Ok X.K r f) (hm : DX X W a m) (hn : DX X W b n)
    (hbase : attributeBase a name X.env (eval a X.env) = eval a X.env := by rfl)
    (hfew : ((backTo cp (starEach (b :: []) X.env)).all (fun x => !x.1) && (backToKw cp (keywordEach [] X.env)).all (fun x => x.1.isSome)
      && decide ((b :: ([] : List Expr)).length + ([] : List Keyword).length + (if ([] : List Keyword).isEmpty then 0 else 1) < 30)) = true := by rfl)
    (hline : (ap.endLine == cp.line) = true := by rfl) (hs : starEach (b :: []) X.env = (false, eval b X.env) :: starEach [] X.env := by rfl) (hplain : (backTo cp (starEach [] X.env)).any (·.1) = false := by rfl) :
    DX X W (.Call (.Attribute a name ap) [b] [] cp) (eM1 f m n) := by
  refine ⟨PE.weak (pe_bm PySem.F.plainAttrs_str slot hty hmt hm.pe (pa_cons hn.pe pa_nil hs) hbase hfew hline hs hplain) ?_⟩
  rintro σ H Q ⟨G, S, O, ρ, eK, st, q⟩
  refine ⟨G, S, O, ρ, eK, st, Fin.bind (rep' := rT G O) q fun t x S1 H1 s1 k1 st1 rp q1 => ?_⟩
  obtain ⟨S2, s2, st2, ro⟩ := RepT.settle st1 rp
  cases hl : strD t.d with
  | none => rw [hl] at q1; exact q1.elim
  | some l =>
    rw [hl] at q1
    have hx := RepO.str (t := t.set) (by rw [T.set_d]; exact strD_eq hl) ro
    subst hx
    refine ⟨rfl, ?_⟩
    have q2 : Fin W (rT G O) ((n ρ).bind fun u => lift (f l u.d)) G S1 O σ H1 ρ Q := q1
    refine ⟨G, S2, O, ρ, eK, st2, Fin.bind (rep' := rT G O) (q2.mono s2 (Same.refl H1)) fun u y S3 H3 s3 k3 st3 rp3 q3 => ?_⟩
    obtain ⟨S4, s4, st4, ro4⟩ := RepT.settle st3 rp3
    cases hz : f l u.d with
    | none => rw [hz] at q3; exact q3.elim
    | some z =>
      rw [hz] at q3
      exact hf G S4 O σ H3 ρ l u.set z y Q eK st4 (by rw [← eK]; exact ro4) (by rw [T.set_d]; exact hz) fun v S' H' x1 x2 st' rp' => q3 v S' H' (s4.trans x1) x2 st' rp'
def mStart (a : Str) : D → Option T
  | .str b => some (.st (.bl (Txt.startswith a b)))
  | _ => none
def mFind (a : Str) : D → Option T
  | .str b => some (.st (.int (Txt.find a b)))
  | _ => none
def mPart (a : Str) : D → Option T
  | .str b => if (b.length == 0) = false ∧ a.length ≤ 100000 then some (.st (.tup [.str (Txt.partition a b).1, .str (Txt.partition a b).2.1, .str (Txt.partition a b).2.2])) else none
  | _ => none
def mSplit (a : Str) : D → Option T
  | .str b => if (b.length == 0) = false ∧ a.length + 2 ≤ 100000 then some (.fr ((Txt.split a b).map D.str)) else none
  | _ => none
theorem m1_start {K : PySem.W.Frag} : M1Ok K (fun x xs H Q => ∃ a b, x = .str a ∧ xs = [.str b] ∧ Q (.bl (Txt.startswith a b)) H) mStart := by
  intro G S O σ H ρ a u z y Q eK st r hz k
  subst eK
  unfold mStart at hz
  split at hz
  · rename_i b e
    cases hz
    have hy := RepO.str e r
    subst hy
    exact ⟨a, b, rfl, rfl, done_st st (.bl _) k⟩
  · cases hz
theorem m1_find {K : PySem.W.Frag} : M1Ok K (fun x xs H Q => ∃ a b, x = .str a ∧ xs = [.str b] ∧ Q (.int (Txt.find a b)) H) mFind := by
  intro G S O σ H ρ a u z y Q eK st r hz k
  subst eK
  unfold mFind at hz
  split at hz
  · rename_i b e
    cases hz
    have hy := RepO.str e r
    subst hy
    exact ⟨a, b, rfl, rfl, done_st st (.int _) k⟩
  · cases hz
theorem m1_part {K : PySem.W.Frag} : M1Ok K (fun x xs H Q => ∃ a b, x = .str a ∧ xs = [.str b] ∧ (b.length == 0) = false ∧ a.length ≤ sizeLine ∧
    ∀ p, H p = none → Q (.ref p) (upd H p (.tup [.str (Txt.partition a b).1, .str (Txt.partition a b).2.1, .str (Txt.partition a b).2.2]))) mPart := by
  intro G S O σ H ρ a u z y Q eK st r hz k
  subst eK
  unfold mPart at hz
  split at hz
  · rename_i b e
    split at hz
    · rename_i hc
      cases hz
      have hy := RepO.str e r
      subst hy
      refine ⟨a, b, rfl, rfl, hc.1, sz_of hc.2, fun p hp => ?_⟩
      obtain ⟨st', x1, x2⟩ := st.stand (o := .tup [.str (Txt.partition a b).1, .str (Txt.partition a b).2.1, .str (Txt.partition a b).2.2]) hp
      exact k _ _ _ x1 x2 st' (.tup (.inl (.inl upd_same)) (.cons (.str _) (.cons (.str _) (.cons (.str _) .nil))))
    · cases hz
  · cases hz
theorem m1_split {K : PySem.W.Frag} : M1Ok K (fun x xs H Q => ∃ a b, x = .str a ∧ xs = [.str b] ∧ (b.length == 0) = false ∧ a.length + 2 ≤ sizeLine ∧ rNewStrs (Txt.split a b) H Q) mSplit := by
  intro G S O σ H ρ a u z y Q eK st r hz k
  subst eK
  unfold mSplit at hz
  split at hz
  · rename_i b e
    split at hz
    · rename_i hc
      cases hz
      have hy := RepO.str e r
      subst hy
      exact ⟨a, b, rfl, rfl, hc.1, sz_of hc.2, fun p hp => done_fr st hp (Reps.ofStrs _) k⟩
    · cases hz
  · cases hz
theorem dx_start (hm : DX X W a m) (hn : DX X W b n)
    (hbase : attributeBase a "startswith" X.env (eval a X.env) = eval a X.env := by rfl)
    (hfew : ((backTo cp (starEach (b :: []) X.env)).all (fun x => !x.1) && (backToKw cp (keywordEach [] X.env)).all (fun x => x.1.isSome)
      && decide ((b :: ([] : List Expr)).length + ([] : List Keyword).length + (if ([] : List Keyword).isEmpty then 0 else 1) < 30)) = true := by rfl)
    (hline : (ap.endLine == cp.line) = true := by rfl) (hs : starEach (b :: []) X.env = (false, eval b X.env) :: starEach [] X.env := by rfl) (hplain : (backTo cp (starEach [] X.env)).any (·.1) = false := by rfl) :
    DX X W (.Call (.Attribute a "startswith" ap) [b] [] cp) (eM1 mStart m n) := dx_m1 PySem.F.slot_str_startswith PySem.F.type_str_startswith mt_startswith m1_start hm hn hbase hfew hline hs hplain
theorem dx_find (hm : DX X W a m) (hn : DX X W b n)
    (hbase : attributeBase a "find" X.env (eval a X.env) = eval a X.env := by rfl)
    (hfew : ((backTo cp (starEach (b :: []) X.env)).all (fun x => !x.1) && (backToKw cp (keywordEach [] X.env)).all (fun x => x.1.isSome)
      && decide ((b :: ([] : List Expr)).length + ([] : List Keyword).length + (if ([] : List Keyword).isEmpty then 0 else 1) < 30)) = true := by rfl)
    (hline : (ap.endLine == cp.line) = true := by rfl) (hs : starEach (b :: []) X.env = (false, eval b X.env) :: starEach [] X.env := by rfl) (hplain : (backTo cp (starEach [] X.env)).any (·.1) = false := by rfl) :
    DX X W (.Call (.Attribute a "find" ap) [b] [] cp) (eM1 mFind m n) := dx_m1 PySem.F.slot_str_find PySem.F.type_str_find mt_find m1_find hm hn hbase hfew hline hs hplain
theorem dx_part (hm : DX X W a m) (hn : DX X W b n)
    (hbase : attributeBase a "partition" X.env (eval a X.env) = eval a X.env := by rfl)
    (hfew : ((backTo cp (starEach (b :: []) X.env)).all (fun x => !x.1) && (backToKw cp (keywordEach [] X.env)).all (fun x => x.1.isSome)
      && decide ((b :: ([] : List Expr)).length + ([] : List Keyword).length + (if ([] : List Keyword).isEmpty then 0 else 1) < 30)) = true := by rfl)
    (hline : (ap.endLine == cp.line) = true := by rfl) (hs : starEach (b :: []) X.env = (false, eval b X.env) :: starEach [] X.env := by rfl) (hplain : (backTo cp (starEach [] X.env)).any (·.1) = false := by rfl) :
    DX X W (.Call (.Attribute a "partition" ap) [b] [] cp) (eM1 mPart m n) := dx_m1 PySem.F.slot_str_partition PySem.F.type_str_partition mt_partition m1_part hm hn hbase hfew hline hs hplain
theorem dx_split (hm : DX X W a m) (hn : DX X W b n)
    (hbase : attributeBase a "split" X.env (eval a X.env) = eval a X.env := by rfl)
    (hfew : ((backTo cp (starEach (b :: []) X.env)).all (fun x => !x.1) && (backToKw cp (keywordEach [] X.env)).all (fun x => x.1.isSome)
      && decide ((b :: ([] : List Expr)).length + ([] : List Keyword).length + (if ([] : List Keyword).isEmpty then 0 else 1) < 30)) = true := by rfl)
    (hline : (ap.endLine == cp.line) = true := by rfl) (hs : starEach (b :: []) X.env = (false, eval b X.env) :: starEach [] X.env := by rfl) (hplain : (backTo cp (starEach [] X.env)).any (·.1) = false := by rfl) :
    DX X W (.Call (.Attribute a "split" ap) [b] [] cp) (eM1 mSplit m n) := dx_m1 PySem.F.slot_str_split PySem.F.type_str_split mt_split m1_split hm hn hbase hfew hline hs hplain
/-! ### a sign in a text; a text in a tuple of texts -/
def dInC (neg : Bool) : D → D → Option T
  | .str x, .str z => match x.cps.toList with
    | [c] => some (.st (.bl (if neg then !decide (c ∈ z.cps.toList) else decide (c ∈ z.cps.toList))))
    | _ => none
  | _, _ => none
theorem r2_inC {K : PySem.W.Frag} : R2Ok K (fun x y H Q => ∃ (c : Nat) (z : Str), x = .str ⟨#[c]⟩ ∧ y = .str z ∧ Q (.bl (decide (c ∈ z.cps.toList))) H) (dInC false) := by
  intro G S O σ H ρ t u z x y Q eK st r1 r2 hz k
  subst eK
  unfold dInC at hz
  split at hz
  · rename_i w z' e1 e2
    split at hz
    · rename_i c hc
      cases hz
      have h1 := RepO.str e1 r1
      have h2 := RepO.str e2 r2
      subst h1
      subst h2
      have hw : w = ⟨#[c]⟩ := by
        cases w with
        | mk cps =>
          have : cps = #[c] := Array.toList_inj.mp (by simpa using hc)
          rw [this]
      exact ⟨c, z', by rw [hw], rfl, done_st st (.bl _) k⟩
    · cases hz
  · cases hz
theorem r2_notinC {K : PySem.W.Frag} : R2Ok K (fun x y H Q => ∃ (c : Nat) (z : Str), x = .str ⟨#[c]⟩ ∧ y = .str z ∧ Q (.bl (!decide (c ∈ z.cps.toList))) H) (dInC true) := by
  intro G S O σ H ρ t u z x y Q eK st r1 r2 hz k
  subst eK
  unfold dInC at hz
  split at hz
  · rename_i w z' e1 e2
    split at hz
    · rename_i c hc
      cases hz
      have h1 := RepO.str e1 r1
      have h2 := RepO.str e2 r2
      subst h1
      subst h2
      have hw : w = ⟨#[c]⟩ := by
        cases w with
        | mk cps =>
          have : cps = #[c] := Array.toList_inj.mp (by simpa using hc)
          rw [this]
      exact ⟨c, z', by rw [hw], rfl, done_st st (.bl _) k⟩
    · cases hz
  · cases hz
theorem dx_inC (ha : DX X W a m) (hb : DX X W b n) (hm : behindInMarks .In b = false := by rfl) : DX X W (.Compare a [.In] [b] pos) (e2 (dInC false) m n) := dx_cmp op_in_sign r2_inC hm ha hb
theorem dx_notinC (ha : DX X W a m) (hb : DX X W b n) (hm : behindInMarks .NotIn b = false := by rfl) : DX X W (.Compare a [.NotIn] [b] pos) (e2 (dInC true) m n) := dx_cmp op_notIn_sign r2_notinC hm ha hb
theorem dt_inC (ha : DX X W a m) (hb : DX X W b n) (hm : behindInMarks .In b = false := by rfl) : DT X W (.Compare a [.In] [b] pos) (cV (e2 (dInC false) m n)) := dt_cmp op_in_sign r2_inC hm ha hb
theorem dt_notinC (ha : DX X W a m) (hb : DX X W b n) (hm : behindInMarks .NotIn b = false := by rfl) : DT X W (.Compare a [.NotIn] [b] pos) (cV (e2 (dInC true) m n)) := dt_cmp op_notIn_sign r2_notinC hm ha hb
def strsOf : List D → Option (List Str)
  | [] => some []
  | .str x :: l => (strsOf l).map fun xs => x :: xs
  | _ :: _ => none
theorem Reps.strs {K : PySem.W.Frag} {S : Hp} : ∀ {ds : List D} {vs : List V} {l : List Str}, Reps K S ds vs → strsOf ds = some l → vs = l.map V.str
  | _, _, _, .nil, h => by cases h; rfl
  | d :: ds, v :: vs, l, .cons h r, e => by
    cases d with
    | str x =>
      cases h
      cases hz : strsOf ds with
      | none => simp [strsOf, hz] at e
      | some xs =>
        simp [strsOf, hz] at e
        subst e
        rw [List.map_cons, Reps.strs r hz]
    | _ => cases e
def dInS (neg : Bool) : D → D → Option T
  | .str x, .tup l => (strsOf l).map fun xs => T.st (.bl (if neg then !decide (x ∈ xs) else decide (x ∈ xs)))
  | _, _ => none
theorem inV_strs (x : Str) : ∀ xs : List Str, inV (.str x) (xs.map V.str) = decide (x ∈ xs)
  | [] => rfl
  | a :: xs => by
    have ih := inV_strs x xs
    unfold inV at ih ⊢
    rw [List.map_cons, List.any_cons, ih]
    show (eqV (.str a) (.str x) || decide (x ∈ xs)) = _
    have h1 : eqV (.str a) (.str x) = decide (a = x) := by
      first
        | rfl
        | (unfold eqV; rfl)
        | simp [eqV]
    rw [h1]
    by_cases h : a = x
    · simp [h]
    · have h' : ¬ x = a := fun z => h z.symm
      simp [h, h']
theorem flat_strs : ∀ xs : List Str, (xs.map V.str).all flatV = true
  | [] => rfl
  | x :: xs => by
    rw [List.map_cons, List.all_cons, flat_strs xs]
    rfl
theorem r2_inS {K : PySem.W.Frag} (neg : Bool) : R2Ok K (rIn K neg) (dInS neg) := by
  intro G S O σ H ρ t u z x y Q eK st r1 r2 hz k
  subst eK
  unfold dInS at hz
  split at hz
  · rename_i i l e1 e2
    cases hi : strsOf l with
    | none => rw [hi] at hz; cases hz
    | some is =>
      rw [hi] at hz
      cases hz
      rw [RepO.str e1 r1]
      obtain ⟨p, vs, rfl, h1, q1⟩ := RepO.tup e2 st.exS r2
      rw [Reps.strs q1 hi] at h1
      refine ⟨p, _, rfl, .inr h1, rfl, flat_strs is, ?_⟩
      rw [inV_strs]
      exact done_st st (.bl _) k
  · cases hz
theorem dx_inS (ha : DX X W a m) (hb : DX X W b n) (hm : behindInMarks .In b = false := by rfl) : DX X W (.Compare a [.In] [b] pos) (e2 (dInS false) m n) := dx_cmp op_in_seq (r2_inS false) hm ha hb
theorem dx_notinS (ha : DX X W a m) (hb : DX X W b n) (hm : behindInMarks .NotIn b = false := by rfl) : DX X W (.Compare a [.NotIn] [b] pos) (e2 (dInS true) m n) := dx_cmp op_notIn_seq (r2_inS true) hm ha hb
theorem dt_inS (ha : DX X W a m) (hb : DX X W b n) (hm : behindInMarks .In b = false := by rfl) : DT X W (.Compare a [.In] [b] pos) (cV (e2 (dInS false) m n)) := dt_cmp op_in_seq (r2_inS false) hm ha hb
theorem dt_notinS (ha : DX X W a m) (hb : DX X W b n) (hm : behindInMarks .NotIn b = false := by rfl) : DT X W (.Compare a [.NotIn] [b] pos) (cV (e2 (dInS true) m n)) := dt_cmp op_notIn_seq (r2_inS true) hm ha hb
/-! ### int of a text -/
def bIntS : List D → Option T
  | [.str a] => (PySem.intText? a).bind fun n => if a.length ≤ 640 then some (.st (.int n)) else none
  | _ => none
theorem ra_intS {K : PySem.W.Frag} : RAOk K (fun xs H Q => ∃ a n, xs = [.str a] ∧ PySem.intText? a = some n ∧ a.length ≤ 640 ∧ Q (.int n) H) bIntS := by
  intro G S O σ H ρ ts z xs Q eK st r hz k
  subst eK
  unfold bIntS at hz
  split at hz
  · rename_i a e
    cases hn : PySem.intText? a with
    | none => rw [hn] at hz; cases hz
    | some n =>
      rw [hn, Option.bind_some] at hz
      split at hz
      · rename_i hl
        cases hz
        obtain ⟨t, x, rfl, rfl, e1, r1⟩ := r.one e
        have hx := RepO.str e1 r1
        subst hx
        exact ⟨a, n, rfl, hn, hl, done_st st (.int _) k⟩
      · cases hz
  · cases hz
/-! ### walks of texts; ranges with a step -/
def sgs (x : Str) : List D := x.cps.toList.map fun c => D.str ⟨#[c]⟩
def iTx (m : ME) : MI := fun ρ => (m ρ).bind fun t => (lift (strD t.d)).bind fun x => .ok (sgs x)
variable {tg : Expr}
theorem yl_str {K : PySem.W.Frag} {S B : Hp} {x : Str} : Yl K S B (Its x) (sgs x) where
  go := fun H e i hi => by
    unfold sgs at hi
    rw [List.length_map] at hi
    exact hi
  stop := fun H e i hi => by
    unfold sgs at hi
    rw [List.length_map] at hi
    exact hi
  yld := fun H e i v H' hi hy => by
    obtain ⟨rfl, c, hc, rfl⟩ := hy
    refine ⟨.str ⟨#[c]⟩, ?_, .inl ⟨rfl, .str _⟩⟩
    unfold sgs
    rw [List.getElem?_map, Array.getElem?_toList, hc]
    rfl
theorem di_tx (h : DX X W e m) : DI X W tg e (iTx m) := by
  refine ⟨PI.weak (pi_str h.pe) ?_⟩
  rintro σ H R' ⟨G, S, O, ρ, eK, st, q⟩
  refine ⟨G, S, O, ρ, eK, st, Fin.bind (rep' := rT G O) q fun t x S1 H1 s1 k1 st1 rp q1 => ?_⟩
  obtain ⟨S2, s2, st2, ro⟩ := RepT.settle st1 rp
  cases hl : strD t.d with
  | none => rw [hl] at q1; exact q1.elim
  | some l =>
    rw [hl] at q1
    have hx := RepO.str (t := t.set) (by rw [T.set_d]; exact strD_eq hl) ro
    exact ⟨l, hx, q1 _ S2 H1 s2 (Same.refl _) st2 yl_str⟩
def rngC (i c : Int) (n : Nat) : List D := (List.range n).map fun t => D.int (i + (t : Nat) * c)
def rgC (i j c : Int) : Bool := decide (c ≠ 0) && decide (c.natAbs < 1073741824) && Builtin.Range.small i j c && decide (Builtin.Range.rangeSize i j c = ((Builtin.Range.rangeSize i j c).toNat : Int))
theorem rgC_ok {i j c : Int} (h : rgC i j c = true) : RgC i j c (Builtin.Range.rangeSize i j c).toNat := by
  unfold rgC at h
  rw [Bool.and_eq_true, Bool.and_eq_true, Bool.and_eq_true] at h
  exact ⟨of_decide_eq_true h.1.1.1, of_decide_eq_true h.1.1.2, h.1.2, of_decide_eq_true h.2⟩
def rng3 : List D → Option (List D)
  | [.int i, .int j, .int c] => if rgC i j c = true then some (rngC i c (Builtin.Range.rangeSize i j c).toNat) else none
  | _ => none
theorem yl_rangeC {K : PySem.W.Frag} {S B : Hp} {lo c : Int} {n : Nat} : Yl K S B (Itc lo c n) (rngC lo c n) where
  go := fun H e i hi => by
    unfold rngC at hi
    rw [List.length_map, List.length_range] at hi
    exact hi
  stop := fun H e i hi => by
    unfold rngC at hi
    rw [List.length_map, List.length_range] at hi
    exact hi
  yld := fun H e i x H' hi hy => by
    unfold rngC at hi
    rw [List.length_map, List.length_range] at hi
    obtain ⟨rfl, rfl⟩ := hy
    refine ⟨.int (lo + (i : Nat) * c), ?_, .inl ⟨rfl, .int _⟩⟩
    unfold rngC
    rw [List.getElem?_map, List.getElem?_range hi]
    rfl
theorem repos_cons {K : PySem.W.Frag} {S H : Hp} {ts : List T} {xs : List V} {d : D} {ds : List D} (r : RepOs K S H ts xs) (e : ts.map T.d = d :: ds) : ∃ t ts' x xs', ts = t :: ts' ∧ xs = x :: xs' ∧ t.d = d ∧ ts'.map T.d = ds ∧ RepO K S H t x ∧ RepOs K S H ts' xs' := by
  cases r with
  | nil => cases e
  | cons r q =>
    rw [List.map_cons] at e
    injection e with e1 e2
    exact ⟨_, _, _, _, rfl, rfl, e1, e2, r, q⟩
theorem di_rng3 (hg : Gl X "range") (hm : X.mg "range" = none) (ha : DA X W [e, ea, eb] ma) (hs : starEach [e, ea, eb] X.env = (false, eval e X.env) :: starEach [ea, eb] X.env := by rfl) (hpl : (backTo pos (starEach [ea, eb] X.env)).any (·.1) = false := by rfl) : DI X W tg (.Call (.Name "range" p) [e, ea, eb] [] pos) (iA rng3 ma) := by
  refine ⟨PI.weak (pi_range3 hg hm ha.pa hs hpl) ?_⟩
  rintro σ H R' ⟨G, S, O, ρ, eK, st, q⟩
  refine ⟨G, S, O, ρ, eK, st, Fin.bind (rep' := rTs G) q fun ts x S1 H1 s1 k1 st1 rp q1 => ?_⟩
  cases hz : rng3 (ts.map T.d) with
  | none => rw [hz] at q1; exact q1.elim
  | some l =>
    rw [hz] at q1
    unfold rng3 at hz
    split at hz
    · rename_i i j c ej
      split at hz
      · rename_i hc
        cases hz
        have rp : RepOs G.K S1 H1 ts x := rp
        obtain ⟨t1, ts', x1, xs', rfl, rfl, h1, ej, r1, rp⟩ := repos_cons rp ej
        obtain ⟨t2, u2, y, z, rfl, rfl, h2, h3, r2, r3⟩ := RepOs.two rp ej
        rw [RepO.int h1 r1, RepO.int h2 r2, RepO.int h3 r3]
        exact ⟨i, j, c, _, rfl, rgC_ok hc, q1 _ S1 H1 (Same.refl _) (Same.refl _) st1 yl_rangeC⟩
      · cases hz
    · cases hz
/-! ### str of an int, a text times a number -/
def bStr : List D → Option T
  | [.int i] => if i.natAbs.log2 < 1920 then some (.st (.str (toString i))) else none
  | _ => none
theorem ra_str {K : PySem.W.Frag} : RAOk K (fun xs H Q => ∃ i, xs = [.int i] ∧ i.natAbs.log2 < 1920 ∧ Q (.str (toString i)) H) bStr := by
  intro G S O σ H ρ ts z xs Q eK st r hz k
  subst eK
  unfold bStr at hz
  split at hz
  · rename_i a e
    split at hz
    · rename_i hl
      cases hz
      obtain ⟨t, x, rfl, rfl, e1, r1⟩ := r.one e
      have hx := RepO.int e1 r1
      subst hx
      exact ⟨a, rfl, hl, done_st st (.str _) k⟩
    · cases hz
  · cases hz
/-- few enough -/
def mulSok (x : Str) (n : Int) : Bool := decide (-1000 < n) && decide (n < 1000) && decide (x.length ≤ 100)
theorem mulSok_ok {x : Str} {n : Int} (h : mulSok x n = true) : PySem.MulOk x n := by
  unfold mulSok at h
  rw [Bool.and_eq_true, Bool.and_eq_true] at h
  have h1 := of_decide_eq_true h.1.1
  have h2 := of_decide_eq_true h.1.2
  have h3 := of_decide_eq_true h.2
  refine ⟨?_, fun h4 _ => ?_, fun h4 _ => ?_⟩
  · rw [decide_eq_false (by omega), decide_eq_false (by omega)]
    rfl
  · have : (1000 : Int) ≤ (2 ^ 63 - 1) / n := by
      rw [Int.le_ediv_iff_mul_le (by omega)]
      omega
    omega
  · have h5 : x.length * n.toNat ≤ 100 * 1000 := Nat.mul_le_mul h3 (by omega)
    have h6 := sz_of (n := x.length * n.toNat) (by omega)
    unfold PySem.Builtin.Str.tooLong
    simp
    omega
theorem op_mulS : OpR X (binaryOp .Mult) (fun x y H Q => ∃ (a : Str) (n : Int), x = .str a ∧ y = .int n ∧ mulSok a n = true ∧ Q (.str (Txt.mul a n)) H) := by
  intro pins s σ H x y v u Q I rx ry h
  obtain ⟨a, n, rfl, rfl, hz, q⟩ := h
  obtain ⟨t, rfl⟩ := rx
  obtain ⟨t', rfl⟩ := ry
  exact SB.mul (mulSok_ok hz) fun t' k => ⟨.str (Txt.mul a n), H, I.tok _, ⟨_, rfl⟩, q⟩
def dMulS : D → D → Option T
  | .str x, .int n => if mulSok x n = true then some (.st (.str (Txt.mul x n))) else none
  | _, _ => none
theorem r2_mulS {K : PySem.W.Frag} : R2Ok K (fun x y H Q => ∃ (a : Str) (n : Int), x = .str a ∧ y = .int n ∧ mulSok a n = true ∧ Q (.str (Txt.mul a n)) H) dMulS := by
  intro G S O σ H ρ t u z x y Q eK st r1 r2 hz k
  subst eK
  unfold dMulS at hz
  split at hz
  · rename_i w n e1 e2
    split at hz
    · rename_i hc
      cases hz
      have h1 := RepO.str e1 r1
      have h2 := RepO.int e2 r2
      subst h1
      subst h2
      exact ⟨w, n, rfl, rfl, hc, done_st st (.str _) k⟩
    · cases hz
  · cases hz
theorem dx_mulS (ha : DX X W a m) (hb : DX X W b n) : DX X W (.BinOp a .Mult b pos) (e2 dMulS m n) := dx_op op_mulS r2_mulS ha hb
end
end RF

set_option Elab.async false
set_option linter.all false
set_option maxRecDepth 100000
set_option autoImplicit false
/-! the pure part: how models are reckoned -/
namespace RF
open PySem PySem.Spec L2
section
variable {ρ : Env} {i j n : Nat} {m m' : ME} {c c' : MT} {s t : MS} {ma : MA}
@[simp] theorem p_eC (d : D) : eC d ρ = .ok (.st d) := (rfl)
def slG (ρ : Env) (i : Nat) : Sl := ρ.getD i .no
@[simp] theorem slG_0 (a : Sl) (l : Env) : slG (a :: l) 0 = a := (rfl)
@[simp] theorem slG_s (a : Sl) (l : Env) (i : Nat) : slG (a :: l) (i + 1) = slG l i := (rfl)
@[simp] theorem p_eV : eV i ρ = slT (slG ρ i) := (rfl)
@[simp] theorem p_slV (d : D) : slT (.val d) = .ok (.st d) := (rfl)
@[simp] theorem p_slO (l : List D) : slT (.own l) = .ok (.sl l) := (rfl)
@[simp] theorem p_e1 (f : D → Option T) : e1 f m ρ = (m ρ).bind fun t => lift (f t.d) := (rfl)
@[simp] theorem p_e2 (f : D → D → Option T) : e2 f m m' ρ = (m ρ).bind fun t => (m' ρ).bind fun u => lift (f t.d u.d) := (rfl)
@[simp] theorem p_aN : aN ρ = .ok [] := (rfl)
@[simp] theorem p_aC : aC m ma ρ = (m ρ).bind fun t => (ma ρ).bind fun ts => .ok (t.set :: ts) := (rfl)
@[simp] theorem p_eB (f : List D → Option T) : eB f ma ρ = (ma ρ).bind fun ts => lift (f (ts.map T.d)) := (rfl)
@[simp] theorem p_eL : eL ma ρ = (ma ρ).bind fun ts => lift ((stD ts).bind fun ds => if ds.length ≤ 100000 then some (T.fr ds) else none) := (rfl)
@[simp] theorem p_eTup : eTup ma ρ = (ma ρ).bind fun ts => lift ((stD ts).bind fun ds => if ds.length ≤ 100000 then some (T.st (.tup ds)) else none) := (rfl)
@[simp] theorem p_cV : cV m ρ = (m ρ).bind fun t => lift (dB t.d) := (rfl)
@[simp] theorem p_cNot : cNot c ρ = (c ρ).bind fun b => .ok (!b) := (rfl)
@[simp] theorem p_cAnd : cAnd c c' ρ = (c ρ).bind fun x => if x then c' ρ else .ok false := (rfl)
@[simp] theorem p_cOr : cOr c c' ρ = (c ρ).bind fun x => if x then .ok true else c' ρ := (rfl)
@[simp] theorem p_eT : eT c ρ = (c ρ).bind fun b => .ok (.st (.bl b)) := (rfl)
@[simp] theorem p_eIf : eIf c m m' ρ = (c ρ).bind fun x => if x then m ρ else m' ρ := (rfl)
@[simp] theorem p_eAnd : eAnd c m ρ = (c ρ).bind fun x => if x then m ρ else .ok (.st (.bl false)) := (rfl)
@[simp] theorem p_eOr : eOr c m ρ = (c ρ).bind fun x => if x then .ok (.st (.bl true)) else m ρ := (rfl)
@[simp] theorem p_dB (b : Bool) : dB (.bl b) = some b := (rfl)
@[simp] theorem p_add (a b : Int) : dAdd (.int a) (.int b) = some (.st (.int (a + b))) := (rfl)
@[simp] theorem p_sub (a b : Int) : dSub (.int a) (.int b) = some (.st (.int (a - b))) := (rfl)
theorem p_addL {a b : List D} (h : a.length + b.length ≤ 100000) : dAdd (.lst a) (.lst b) = some (.fr (a ++ b)) := if_pos h
theorem p_addS {a b : Str} (h : a.length + b.length ≤ 100000) : dAdd (.str a) (.str b) = some (.st (.str (a ++ b))) := if_pos h
/-- small enough to be multiplied -/
def MulOk (a b : Int) : Prop := a.natAbs.log2 < 60 ∨ b.natAbs.log2 < 60 ∨ a.natAbs.log2 + b.natAbs.log2 < 1000000
/-- below a power of two -/
def Sm (k : Nat) (a : Int) : Prop := a.natAbs < 2 ^ k
theorem log2_lt {a : Int} {k : Nat} (h : Sm k a) (hk : 0 < k) : a.natAbs.log2 < k := by
  by_cases h0 : a.natAbs = 0
  · rw [h0]; simpa using hk
  · exact (Nat.log2_lt h0).mpr h
theorem Sm.mono {k l : Nat} {a : Int} (h : Sm k a) (hl : k ≤ l) : Sm l a := Nat.lt_of_lt_of_le h (Nat.pow_le_pow_right (by decide) hl)
theorem Sm.mul {k l : Nat} {a b : Int} (h : Sm k a) (h' : Sm l b) : Sm (k + l) (a * b) := by
  unfold Sm at *
  rw [Int.natAbs_mul, Nat.pow_add]
  exact Nat.mul_lt_mul'' h h'
theorem Sm.add {k : Nat} {a b : Int} (h : Sm k a) (h' : Sm k b) : Sm (k + 1) (a + b) := by
  unfold Sm at *
  have := Int.natAbs_add_le a b
  rw [Nat.pow_succ]
  omega
theorem Sm.neg {k : Nat} {a : Int} (h : Sm k a) : Sm k (-a) := by
  unfold Sm at *
  rwa [Int.natAbs_neg]
theorem Sm.sub {k : Nat} {a b : Int} (h : Sm k a) (h' : Sm k b) : Sm (k + 1) (a - b) := by
  rw [Int.sub_eq_add_neg]
  exact h.add h'.neg
theorem Sm.zero (k : Nat) : Sm k 0 := by
  unfold Sm
  exact Nat.pow_pos (by decide)
theorem Sm.mod {a b : Int} {k : Nat} (hb : 0 < b) (h : Sm k b) : Sm k (a % b) := by
  unfold Sm at *
  have h1 := Int.emod_nonneg a (by omega : b ≠ 0)
  have h2 := Int.emod_lt_of_pos a hb
  omega
theorem Sm.le {a b : Int} {k : Nat} (h : Sm k b) (h0 : 0 ≤ a) (hb : a ≤ b) : Sm k a := by
  unfold Sm at *
  omega
theorem Sm.ok {k l : Nat} {a b : Int} (h : Sm k a) (h' : Sm l b) (hk : k + l < 1000000) : MulOk a b := by
  have h1 := log2_lt (h.mono (Nat.le_succ k)) (Nat.succ_pos k)
  have h2 := log2_lt (h'.mono (Nat.le_succ l)) (Nat.succ_pos l)
  exact .inr (.inr (by omega))
theorem Sm.okL {a b : Int} (h : Sm 60 a) : MulOk a b := .inl (log2_lt h (by decide))
theorem Sm.okR {a b : Int} (h : Sm 60 b) : MulOk a b := .inr (.inl (log2_lt h (by decide)))
theorem p_mul {a b : Int} (h : MulOk a b) : dMul (.int a) (.int b) = some (.st (.int (a * b))) := if_pos h
theorem p_mod {a b : Int} (h : 0 < b) : dMod (.int a) (.int b) = some (.st (.int (a % b))) := if_pos h
theorem p_div {a b : Int} (h : 0 < b) (h' : b ≤ 2 ^ 250) : dDiv (.int a) (.int b) = some (.st (.int (a / b))) := if_pos ⟨h, Nat.lt_trans (log2_lt (k := 251) (by unfold Sm; omega) (by decide)) (by decide)⟩
theorem p_pow {a b : Int} (h : 0 ≤ b) (h' : b ≤ 1000000) (h2 : a.natAbs < 2 ^ 64) : dPow (.int a) (.int b) = some (.st (.int (a ^ b.toNat))) := if_pos ⟨h, h', h2⟩
@[simp] theorem p_neg (a : Int) : dNeg (.int a) = some (.st (.int (-a))) := (rfl)
@[simp] theorem p_cmp (p : Int → Int → Bool) (a b : Int) : dCmp p (.int a) (.int b) = some (.st (.bl (p a b))) := (rfl)
theorem sh_int (a : Int) : shD (.int a) = true := by unfold shD toPy; rfl
theorem sh_bl (a : Bool) : shD (.bl a) = true := by unfold shD toPy; rfl
theorem eqD_int (a b : Int) : eqD (.int a) (.int b) = decide (a = b) := by
  unfold eqD toPy PyData.eqv
  by_cases h : a = b <;> simp [h]
theorem eqD_bl (a b : Bool) : eqD (.bl a) (.bl b) = decide (a = b) := by
  unfold eqD toPy PyData.eqv
  cases a <;> cases b <;> rfl
@[simp] theorem p_eqI (a b : Int) : dEq (.int a) (.int b) = some (.st (.bl (decide (a = b)))) := by
  unfold dEq
  rw [sh_int, sh_int, if_pos ⟨rfl, rfl⟩, eqD_int]
@[simp] theorem p_neI (a b : Int) : dNe (.int a) (.int b) = some (.st (.bl (!decide (a = b)))) := by
  unfold dNe
  rw [sh_int, sh_int, if_pos ⟨rfl, rfl⟩, eqD_int]
@[simp] theorem p_eqB (a b : Bool) : dEq (.bl a) (.bl b) = some (.st (.bl (decide (a = b)))) := by
  unfold dEq
  rw [sh_bl, sh_bl, if_pos ⟨rfl, rfl⟩, eqD_bl]
@[simp] theorem p_isN (d : D) : dIsN d .non = some (.st (.bl (isNon d))) := (rfl)
@[simp] theorem p_notN (d : D) : dNotN d .non = some (.st (.bl (!isNon d))) := (rfl)
@[simp] theorem p_len (l : List D) : bLen [.lst l] = some (.st (.int l.length)) := (rfl)
@[simp] theorem p_lenT (l : List D) : bLen [.tup l] = some (.st (.int l.length)) := (rfl)
@[simp] theorem p_list (l : List D) : bList [.lst l] = some (.fr l) := (rfl)
@[simp] theorem p_max (a b : Int) : bMax [.int a, .int b] = some (.st (.int (max a b))) := by
  show some (T.st (D.int (if b > a then b else a))) = _
  congr 3
  omega
@[simp] theorem p_min (a b : Int) : bMin [.int a, .int b] = some (.st (.int (min a b))) := by
  show some (T.st (D.int (if b < a then b else a))) = _
  congr 3
  omega
@[simp] theorem p_absI (a : Int) : bAbs [.int a] = some (.st (.int (a.natAbs : Int))) := by
  show some (T.st (D.int (if a < 0 then -a else a))) = _
  congr 3
  split <;> omega
@[simp] theorem p_intI (a : Int) : bInt [.int a] = some (.st (.int a)) := (rfl)
@[simp] theorem p_intB (a : Bool) : bInt [.bl a] = some (.st (.int (if a then 1 else 0))) := (rfl)
@[simp] theorem p_isi (c : String) : eIsi c m ρ = (m ρ).bind fun t => lift ((isiD c t.d).map fun b => T.st (.bl b)) := (rfl)
@[simp] theorem p_ixL (l : List D) (k : Int) : dIx (.lst l) (.int k) = (atI l k).map T.st := (rfl)
@[simp] theorem p_ixT (l : List D) (k : Int) : dIx (.tup l) (.int k) = (atI l k).map T.st := (rfl)
@[simp] theorem p_oN : oN ρ = .ok none := (rfl)
@[simp] theorem p_oS : oS m ρ = (m ρ).bind fun t => lift ((dInt t.d).map some) := (rfl)
@[simp] theorem p_dInt (a : Int) : dInt (.int a) = some a := (rfl)
@[simp] theorem p_slL (l : List D) (lo hi : Option Int) : dSl (.lst l) lo hi = some (.fr (cutD l lo hi)) := (rfl)
@[simp] theorem p_eSl (lo hi : MO) : eSl m lo hi ρ = (m ρ).bind fun t => (lo ρ).bind fun l => (hi ρ).bind fun h => lift (dSl t.d l h) := (rfl)
@[simp] theorem p_eCall (n : Nat) (g : List D → R T) : eCall n g ma ρ = (ma ρ).bind (callD n g) := (rfl)
@[simp] theorem p_setst (d : D) : (T.st d).set = .st d := (rfl)
@[simp] theorem p_setfr (l : List D) : (T.fr l).set = .st (.lst l) := (rfl)
@[simp] theorem p_setsl (l : List D) : (T.sl l).set = .sl l := (rfl)
@[simp] theorem p_stD0 : stD [] = some [] := (rfl)
@[simp] theorem p_stD1 (d : D) (ts : List T) : stD (.st d :: ts) = (stD ts).map fun ds => d :: ds := (rfl)
@[simp] theorem p_stT (d : D) : stT (.st d) = some d := (rfl)
@[simp] theorem p_isSt (d : D) : isSt (.st d) = true := (rfl)
@[simp] theorem p_isSl (d : List D) : isSt (.sl d) = false := (rfl)
/-! statements -/
@[simp] theorem p_skip : sSkip ρ = .nx ρ := (rfl)
@[simp] theorem p_seq : sSeq s t ρ = seqK (s ρ) t := (rfl)
@[simp] theorem p_seqN (ρ' : Env) : seqK (.nx ρ') t = t ρ' := (rfl)
@[simp] theorem p_seqR (x : T) : seqK (.rt x) t = .rt x := (rfl)
@[simp] theorem p_seqC (ρ' : Env) : seqK (.ct ρ') t = .ct ρ' := (rfl)
@[simp] theorem p_seqX (ρ' : Env) (x : Xc) : seqK (.ex ρ' x) t = .ex ρ' x := (rfl)
@[simp] theorem p_ct : sCt ρ = .ct ρ := (rfl)
@[simp] theorem p_sif : sIf c s t ρ = toS ρ (c ρ) fun b => if b then s ρ else t ρ := (rfl)
@[simp] theorem p_sret : sRet m ρ = toS ρ (m ρ) fun t => .rt t := (rfl)
@[simp] theorem p_drop : sDrop m ρ = toS ρ (m ρ) fun _ => .nx ρ := (rfl)
@[simp] theorem p_val : sVal i m ρ = toS ρ (m ρ) fun t => match t with
  | .st d => .nx (ρ.set i (.val d))
  | .fr l => .nx (ρ.set i (.val (.lst l)))
  | .sl _ => .bad := rfl
@[simp] theorem p_own : sOwn i m ρ = toS ρ (m ρ) fun t => match t with
  | .st d => .nx (ρ.set i (.val d))
  | .fr l => .nx (ρ.set i (.own l))
  | .sl _ => .bad := rfl
@[simp] theorem p_sfor (mi : MI) (g : MG) : sFor mi g s ρ = toS ρ (mi ρ) fun ds => forD g s ds ρ := (rfl)
@[simp] theorem p_gN (d : D) : gN i d ρ = some (ρ.set i (.val d)) := (rfl)
@[simp] theorem p_gT (gs : MGs) (l : List D) : gT n gs (.tup l) ρ = if l.length = n then gs l ρ else none := (rfl)
@[simp] theorem p_gsN : gsN [] ρ = some ρ := (rfl)
@[simp] theorem p_gsC (g : MG) (gs : MGs) (d : D) (r : List D) : gsC g gs (d :: r) ρ = (g d ρ).bind (gs r) := (rfl)
@[simp] theorem p_iL : iL m ρ = (m ρ).bind fun t => lift (stL t) := (rfl)
@[simp] theorem p_iLc : iLc m ρ = (m ρ).bind fun t => lift (lsT t) := (rfl)
@[simp] theorem p_iA (f : List D → Option (List D)) : iA f ma ρ = (ma ρ).bind fun ts => lift (f (ts.map T.d)) := (rfl)
@[simp] theorem p_iS (f : List (List D) → Option (List D)) : iS f ma ρ = (ma ρ).bind fun ts => lift ((stLs ts).bind f) := (rfl)
@[simp] theorem p_iSc (f : List (List D) → Option (List D)) : iSc f ma ρ = (ma ρ).bind fun ts => lift ((lsTs ts).bind f) := (rfl)
@[simp] theorem p_stL1 (l : List D) : stL (.st (.lst l)) = some l := (rfl)
@[simp] theorem p_stL2 (l : List D) : stL (.fr l) = some l := (rfl)
@[simp] theorem p_lsT1 (l : List D) : lsT (.st (.lst l)) = some l := (rfl)
@[simp] theorem p_lsT2 (l : List D) : lsT (.fr l) = some l := (rfl)
@[simp] theorem p_lsT3 (l : List D) : lsT (.sl l) = some l := (rfl)
@[simp] theorem p_stLs0 : stLs [] = some [] := (rfl)
@[simp] theorem p_stLs1 (t : T) (ts : List T) : stLs (t :: ts) = (stL t).bind fun l => (stLs ts).map fun ls => l :: ls := (rfl)
@[simp] theorem p_lsTs0 : lsTs [] = some [] := (rfl)
@[simp] theorem p_lsTs1 (t : T) (ts : List T) : lsTs (t :: ts) = (lsT t).bind fun l => (lsTs ts).map fun ls => l :: ls := (rfl)
@[simp] theorem p_revF (l : List D) : revF [l] = some l.reverse := (rfl)
@[simp] theorem p_enF (l : List D) : enF [l] = some (enumD 0 l) := (rfl)
@[simp] theorem p_zipF (l l' : List D) : zipF [l, l'] = some (zipD l l') := (rfl)
theorem p_rng1 {a : Int} (h : -(2 ^ 62) ≤ a) (h' : a < 2 ^ 62) : rng1 [.int a] = some (rngD 0 a.toNat) := if_pos (decide_eq_true ⟨h, h'⟩)
theorem p_rng2 {a b : Int} (h : -(2 ^ 62) ≤ a) (h' : a < 2 ^ 62) (h2 : -(2 ^ 62) ≤ b) (h3 : b < 2 ^ 62) : rng2 [.int a, .int b] = some (rngD a (b - a).toNat) := if_pos ⟨decide_eq_true ⟨h, h'⟩, decide_eq_true ⟨h2, h3⟩⟩
@[simp] theorem p_outR1 (t : T) : outR (.rt t) = .ok (toFr t) := (rfl)
@[simp] theorem p_outR2 (ρ : Env) : outR (.nx ρ) = .ok (.st .non) := (rfl)
@[simp] theorem p_toFr1 (d : D) : toFr (.st d) = .st d := (rfl)
@[simp] theorem p_toFr2 (d : List D) : toFr (.fr d) = .fr d := (rfl)
@[simp] theorem p_toFr3 (d : List D) : toFr (.sl d) = .fr d := (rfl)
theorem p_callD (g : List D → R T) (ts : List T) : callD n g ts = if ts.length = n then (if ts.all isSt = true then g (ts.map T.d) else dropR (g (ts.map T.d))) else .bad := rfl
@[simp] theorem p_call1 (g : List D → R T) (d : D) : callD 1 g [.st d] = g [d] := (rfl)
@[simp] theorem p_call2 (g : List D → R T) (d e : D) : callD 2 g [.st d, .st e] = g [d, e] := (rfl)
@[simp] theorem p_call3 (g : List D → R T) (d e f : D) : callD 3 g [.st d, .st e, .st f] = g [d, e, f] := (rfl)
@[simp] theorem p_call4 (g : List D → R T) (d e f h : D) : callD 4 g [.st d, .st e, .st f, .st h] = g [d, e, f, h] := (rfl)
@[simp] theorem p_cYes : cYes ρ = .ok true := (rfl)
end


/-! ### what is wanted of a run -/
structure Post where
  nx : Env → Prop
  ct : Env → Prop
  bk : Env → Prop
  rt : T → Prop
  ex : Env → Xc → Prop
@[irreducible] def WFl (r : Fl) (P : Post) : Prop := match r with
  | .bad => False
  | .nx ρ => P.nx ρ
  | .ct ρ => P.ct ρ
  | .bk ρ => P.bk ρ
  | .rt t => P.rt t
  | .ex ρ x => P.ex ρ x
def PR (r : R T) : Post := ⟨fun _ => .ok (.st .non) = r, fun _ => False, fun _ => False, fun t => .ok (toFr t) = r, fun _ x => .ex x = r⟩
section
variable {P : Post} {ρ : Env} {r r' : Fl} {t : MS} {x : T} {e : Xc}
@[simp] theorem wf_nx : WFl (.nx ρ) P = P.nx ρ := by unfold WFl; rfl
@[simp] theorem wf_ct : WFl (.ct ρ) P = P.ct ρ := by unfold WFl; rfl
@[simp] theorem wf_bk : WFl (.bk ρ) P = P.bk ρ := by unfold WFl; rfl
@[simp] theorem wf_rt : WFl (.rt x) P = P.rt x := by unfold WFl; rfl
@[simp] theorem wf_ex : WFl (.ex ρ e) P = P.ex ρ e := by unfold WFl; rfl
@[simp] theorem wf_bad : WFl .bad P = False := by unfold WFl; rfl
@[simp] theorem pr_nx {z : R T} : (PR z).nx ρ = (.ok (.st .non) = z) := (rfl)
@[simp] theorem pr_rt {z : R T} : (PR z).rt x = (.ok (toFr x) = z) := (rfl)
@[simp] theorem pr_ex {z : R T} : (PR z).ex ρ e = (.ex e = z) := (rfl)
@[simp] theorem pr_ct {z : R T} : (PR z).ct ρ = False := (rfl)
@[simp] theorem pr_bk {z : R T} : (PR z).bk ρ = False := (rfl)
theorem run_of {r : Fl} {z : R T} (h : WFl r (PR z)) : outR r = z := by
  cases r with
  | bad => rw [wf_bad] at h; exact h.elim
  | nx ρ => rw [wf_nx] at h; exact h
  | ct ρ => rw [wf_ct] at h; exact h.elim
  | bk ρ => rw [wf_bk] at h; exact h.elim
  | rt t => rw [wf_rt] at h; exact h
  | ex ρ x => rw [wf_ex] at h; exact h
@[simp] theorem wf_seq : WFl (seqK r t) P = WFl r ⟨fun ρ => WFl (t ρ) P, P.ct, P.bk, P.rt, P.ex⟩ := by cases r <;> simp only [seqK, wf_nx, wf_ct, wf_bk, wf_rt, wf_ex, wf_bad]
@[simp] theorem wf_ite {c : Prop} [Decidable c] : WFl (if c then r else r') P ↔ (c → WFl r P) ∧ (¬ c → WFl r' P) := by
  by_cases h : c <;> simp [h]
@[simp] theorem seq_ite {c : Prop} [Decidable c] : seqK (if c then r else r') t = if c then seqK r t else seqK r' t := by
  by_cases h : c <;> simp [h]
end
@[simp] theorem bind_ite {α β : Type} {c : Prop} [Decidable c] {a b : R α} {k : α → R β} : (if c then a else b).bind k = if c then a.bind k else b.bind k := by
  by_cases h : c <;> simp [h]
@[simp] theorem toS_ite {α : Type} {c : Prop} [Decidable c] {a b : R α} {k : α → Fl} {ρ : Env} : toS ρ (if c then a else b) k = if c then toS ρ a k else toS ρ b k := by
  by_cases h : c <;> simp [h]
@[simp] theorem lift_ite {α : Type} {c : Prop} [Decidable c] {a b : Option α} : lift (if c then a else b) = if c then lift a else lift b := by
  by_cases h : c <;> simp [h]
def gP (o : Option Env) (P : Env → Prop) : Prop := match o with
  | some ρ => P ρ
  | none => False
@[simp] theorem gP_some {ρ : Env} {P : Env → Prop} : gP (some ρ) P = P ρ := (rfl)
/-! ### loops -/
theorem wp_for0 {α : Type} {g : MG} {s : MS} {P : Post} (f : α → D) (I : List α → Env → Prop) : ∀ (l done : List α) (ρ : Env), I done ρ →
    (∀ (J : Env → Prop) d a rest ρ, done ++ l = d ++ a :: rest → I d ρ → (∀ ρ2, I (d ++ [a]) ρ2 → J ρ2) → gP (g (f a) ρ) fun ρ1 => WFl (s ρ1) ⟨J, J, P.nx, P.rt, P.ex⟩) → (∀ ρ, I (done ++ l) ρ → P.nx ρ) → WFl (forD g s (l.map f) ρ) P
  | [], done, ρ, h, _, z => by
    rw [List.append_nil] at z
    show WFl (.nx ρ) P
    rw [wf_nx]
    exact z ρ h
  | a :: l, done, ρ, h, st, z => by
    have h1 := st (I (done ++ [a])) done a l ρ rfl h (fun _ z => z)
    rw [List.map_cons]
    unfold forD
    cases e : g (f a) ρ with
    | none => rw [e] at h1; exact h1.elim
    | some ρ1 =>
      rw [e] at h1
      have h2 : WFl (s ρ1) ⟨I (done ++ [a]), I (done ++ [a]), P.nx, P.rt, P.ex⟩ := h1
      have ea : done ++ a :: l = (done ++ [a]) ++ l := by simp
      rw [ea] at z st
      show WFl (match s ρ1 with
        | .nx ρ' => forD g s (l.map f) ρ'
        | .ct ρ' => forD g s (l.map f) ρ'
        | .bk ρ' => .nx ρ'
        | r => r) P
      cases hs : s ρ1 with
      | bad => rw [hs, wf_bad] at h2; exact h2.elim
      | nx ρ' => rw [hs, wf_nx] at h2; exact wp_for0 f I l _ ρ' h2 st z
      | ct ρ' => rw [hs, wf_ct] at h2; exact wp_for0 f I l _ ρ' h2 st z
      | bk ρ' => rw [hs, wf_bk] at h2; exact wf_nx ▸ h2
      | rt t => rw [hs, wf_rt] at h2; exact wf_rt ▸ h2
      | ex ρ' x => rw [hs, wf_ex] at h2; exact wf_ex ▸ h2
section
variable {α β : Type} {g : MG} {s : MS} {P : Post} {ρ : Env}
theorem wp_for (f : α → D) {l : List α} (I : List α → Env → Prop) (h0 : I [] ρ)
    (st : ∀ (J : Env → Prop) d a rest ρ, l = d ++ a :: rest → I d ρ → (∀ ρ2, I (d ++ [a]) ρ2 → J ρ2) → gP (g (f a) ρ) fun ρ1 => WFl (s ρ1) ⟨J, J, P.nx, P.rt, P.ex⟩) (h1 : ∀ ρ, I l ρ → P.nx ρ) : WFl (forD g s (l.map f) ρ) P :=
  wp_for0 f I l [] ρ h0 st h1
theorem wp_forD {l : List D} (I : List D → Env → Prop) (h0 : I [] ρ)
    (st : ∀ (J : Env → Prop) d a rest ρ, l = d ++ a :: rest → I d ρ → (∀ ρ2, I (d ++ [a]) ρ2 → J ρ2) → gP (g a ρ) fun ρ1 => WFl (s ρ1) ⟨J, J, P.nx, P.rt, P.ex⟩) (h1 : ∀ ρ, I l ρ → P.nx ρ) : WFl (forD g s l ρ) P := by
  have := wp_for (g := g) (s := s) (P := P) (ρ := ρ) (id : D → D) (l := l) I h0 st h1
  rwa [List.map_id] at this
theorem range_split {n i : Nat} {d rest : List Nat} (h : List.range n = d ++ i :: rest) : d = List.range i ∧ i < n := by
  have h1 : d.length < n := by
    have := congrArg List.length h
    simp at this
    omega
  have h2 : (List.range n)[d.length]? = some i := by rw [h]; simp
  rw [List.getElem?_range h1] at h2
  cases h2
  refine ⟨?_, h1⟩
  have h3 := congrArg (List.take d.length) h
  rw [List.take_left, List.take_range, Nat.min_eq_left (Nat.le_of_lt h1)] at h3
  exact h3.symm
theorem wp_rng {lo : Int} {n : Nat} (I : Nat → Env → Prop) (h0 : I 0 ρ)
    (st : ∀ (J : Env → Prop) i ρ, i < n → I i ρ → (∀ ρ2, I (i + 1) ρ2 → J ρ2) → gP (g (.int (lo + (i : Nat))) ρ) fun ρ1 => WFl (s ρ1) ⟨J, J, P.nx, P.rt, P.ex⟩) (h1 : ∀ ρ, I n ρ → P.nx ρ) : WFl (forD g s (rngD lo n) ρ) P := by
  unfold rngD
  refine wp_for (fun i : Nat => D.int (lo + (i : Nat))) (fun d ρ => I d.length ρ) h0 (fun J d i rest ρ e h hJ => ?_) (fun ρ h => h1 ρ (by rwa [List.length_range] at h))
  obtain ⟨rfl, hi⟩ := range_split e
  rw [List.length_range] at h
  exact st J i ρ hi h fun ρ2 z => hJ ρ2 (by rw [List.length_append, List.length_range]; exact z)
theorem enumD_map (f : α → D) : ∀ (k : Nat) (l : List α), enumD k (l.map f) = (l.zipIdx k).map fun p => D.tup [.int (p.2 : Nat), f p.1]
  | _, [] => rfl
  | k, a :: l => by
    rw [List.map_cons]
    unfold enumD
    rw [enumD_map f (k + 1) l]
    rfl
theorem zipIdx_split {l : List α} {a : α} {i : Nat} {d rest : List (α × Nat)} (h : l.zipIdx = d ++ (a, i) :: rest) : i = d.length ∧ l = d.map Prod.fst ++ a :: rest.map Prod.fst := by
  have h1 : l.zipIdx[d.length]? = some (a, i) := by rw [h]; simp
  rw [List.getElem?_zipIdx] at h1
  have h2 : i = d.length := by
    cases hl : l[d.length]? with
    | none => rw [hl] at h1; cases h1
    | some b =>
      rw [hl] at h1
      have := Option.some.inj h1
      have := congrArg Prod.snd this
      simp at this
      omega
  refine ⟨h2, ?_⟩
  have h3 := congrArg (List.map Prod.fst) h
  simpa using h3
theorem wp_enum (f : α → D) {l : List α} (I : List α → Env → Prop) (h0 : I [] ρ)
    (st : ∀ (J : Env → Prop) d a rest ρ, l = d ++ a :: rest → I d ρ → (∀ ρ2, I (d ++ [a]) ρ2 → J ρ2) → gP (g (.tup [.int (d.length : Nat), f a]) ρ) fun ρ1 => WFl (s ρ1) ⟨J, J, P.nx, P.rt, P.ex⟩) (h1 : ∀ ρ, I l ρ → P.nx ρ) : WFl (forD g s (enumD 0 (l.map f)) ρ) P := by
  rw [enumD_map]
  refine wp_for _ (fun d ρ => I (d.map Prod.fst) ρ) h0 (fun J d p rest ρ e h hJ => ?_) (fun ρ h => h1 ρ (by simpa using h))
  obtain ⟨a, i⟩ := p
  obtain ⟨rfl, e2⟩ := zipIdx_split e
  have := st J _ a _ ρ e2 h fun ρ2 z => hJ ρ2 (by rw [List.map_append]; exact z)
  rw [List.length_map] at this
  exact this
theorem zipD_map (f : α → D) (f' : β → D) : ∀ (l : List α) (l' : List β), zipD (l.map f) (l'.map f') = (l.zip l').map fun p => D.tup [f p.1, f' p.2]
  | [], _ => by simp [zipD]
  | _ :: _, [] => by simp [zipD]
  | a :: l, b :: l' => by
    rw [List.map_cons, List.map_cons]
    unfold zipD
    rw [zipD_map f f' l l']
    rfl
end
/-! ### comprehensions -/
section
variable {α : Type} {g : MG} {c : MT} {me : ME} {ρ : Env}
theorem comp_map (f : α → D) (h : α → D) : ∀ (l : List α), (∀ a ∈ l, gP (g (f a) ρ) fun ρ1 => c ρ1 = .ok true ∧ (me ρ1 = .ok (.st (h a)))) → compD g c me ρ (l.map f) = .ok (l.map h)
  | [], _ => rfl
  | a :: l, H => by
    have h1 := H a (List.mem_cons_self ..)
    rw [List.map_cons]
    unfold compD
    cases e : g (f a) ρ with
    | none => rw [e] at h1; exact h1.elim
    | some ρ1 =>
      rw [e] at h1
      obtain ⟨h2, h3⟩ := h1
      simp only [h2, h3, noX, R.bind_ok, if_true, p_setst, p_stT, lift_some]
      rw [comp_map f h l fun b hb => H b (List.mem_cons_of_mem _ hb)]
      rfl
end
/-! ### lists of numbers -/
@[irreducible] def nl (l : List Int) : List D := l.map D.int
abbrev il (l : List Int) : D := .lst (nl l)
/-- lists of lists of numbers -/
@[irreducible] def nll (l : List (List Int)) : List D := l.map fun r => D.lst (nl r)
abbrev ill (l : List (List Int)) : D := .lst (nll l)
/-- the number at a place -/
def gi (l : List Int) (k : Nat) : Int := l.getD k 0
def gr (l : List (List Int)) (k : Nat) : List Int := l.getD k []
def cutL {α : Type} (xs : List α) (lo hi : Option Int) : List α := (xs.drop (HT.sIx xs.length 0 lo)).take (HT.sIx xs.length xs.length hi - HT.sIx xs.length 0 lo)
theorem cutD_map {α : Type} (f : α → D) (l : List α) (lo hi : Option Int) : cutD (l.map f) lo hi = (cutL l lo hi).map f := by
  unfold cutD cutL
  rw [List.length_map, ← List.map_drop, ← List.map_take]
theorem cutL_length {α : Type} (l : List α) (lo hi : Option Int) : (cutL l lo hi).length ≤ l.length := by
  unfold cutL
  rw [List.length_take, List.length_drop]
  omega
theorem cutL_mem {α : Type} {l : List α} {lo hi : Option Int} {a : α} (h : a ∈ cutL l lo hi) : a ∈ l := List.mem_of_mem_drop (List.mem_of_mem_take h)
theorem sIx_some (n d : Nat) (k : Nat) : HT.sIx n d (some (k : Int)) = min k n := by
  unfold HT.sIx
  first | (simp; omega) | (split <;> omega)
@[simp] theorem ints_cut (l : List Int) (lo hi : Option Int) : cutD (nl l) lo hi = nl (cutL l lo hi) := by (try unfold nll); (try unfold nl); exact cutD_map _ l lo hi
@[simp] theorem rows_cut (l : List (List Int)) (lo hi : Option Int) : cutD (nll l) lo hi = nll (cutL l lo hi) := by (try unfold nll); (try unfold nl); exact cutD_map _ l lo hi
@[simp] theorem ints_length (l : List Int) : (nl l).length = l.length := by (try unfold nll); (try unfold nl); exact List.length_map ..
@[simp] theorem rows_length (l : List (List Int)) : (nll l).length = l.length := by (try unfold nll); (try unfold nl); exact List.length_map ..
@[simp] theorem ints_app (a b : List Int) : nl a ++ nl b = nl (a ++ b) := by (try unfold nll); (try unfold nl); exact (List.map_append ..).symm
@[simp] theorem rows_app (a b : List (List Int)) : nll a ++ nll b = nll (a ++ b) := by (try unfold nll); (try unfold nl); exact (List.map_append ..).symm
@[simp] theorem ints_rev (a : List Int) : (nl a).reverse = nl a.reverse := by (try unfold nll); (try unfold nl); exact (List.map_reverse ..).symm
@[simp] theorem rows_rev (a : List (List Int)) : (nll a).reverse = nll a.reverse := by (try unfold nll); (try unfold nl); exact (List.map_reverse ..).symm
@[simp] theorem ints_snoc (a : Int) (l : List Int) : nl l ++ [D.int a] = nl (l ++ [a]) := by (try unfold nll); (try unfold nl); simp
@[simp] theorem rows_snoc (a : List Int) (l : List (List Int)) : nll l ++ [D.lst (nl a)] = nll (l ++ [a]) := by (try unfold nll); (try unfold nl); simp
@[simp] theorem rows_nil : nll [] = nl [] := by (try unfold nll); (try unfold nl); rfl
@[simp] theorem t_fr_0 : T.fr [] = T.fr (nl []) := by (try unfold nll); (try unfold nl); rfl
@[simp] theorem t_fr_1 (a : Int) : T.fr [D.int a] = T.fr (nl [a]) := by (try unfold nll); (try unfold nl); rfl
@[simp] theorem t_fr_2 (a b : Int) : T.fr [D.int a, D.int b] = T.fr (nl [a, b]) := by (try unfold nll); (try unfold nl); rfl
@[simp] theorem t_fr_c (a : Int) (l : List Int) : T.fr (D.int a :: nl l) = T.fr (nl (a :: l)) := by (try unfold nll); (try unfold nl); rfl
@[simp] theorem t_fr_r1 (a : List Int) : T.fr [D.lst (nl a)] = T.fr (nll [a]) := by (try unfold nll); (try unfold nl); rfl
@[simp] theorem t_fr_r2 (a b : List Int) : T.fr [D.lst (nl a), D.lst (nl b)] = T.fr (nll [a, b]) := by (try unfold nll); (try unfold nl); rfl
@[simp] theorem t_fr_r3 (a b c : List Int) : T.fr [D.lst (nl a), D.lst (nl b), D.lst (nl c)] = T.fr (nll [a, b, c]) := by (try unfold nll); (try unfold nl); rfl
@[simp] theorem t_fr_rc (a : List Int) (l : List (List Int)) : T.fr (D.lst (nl a) :: nll l) = T.fr (nll (a :: l)) := by (try unfold nll); (try unfold nl); rfl
@[simp] theorem d_lst_0 : D.lst [] = D.lst (nl []) := by (try unfold nll); (try unfold nl); rfl
@[simp] theorem d_lst_1 (a : Int) : D.lst [D.int a] = D.lst (nl [a]) := by (try unfold nll); (try unfold nl); rfl
@[simp] theorem d_lst_2 (a b : Int) : D.lst [D.int a, D.int b] = D.lst (nl [a, b]) := by (try unfold nll); (try unfold nl); rfl
@[simp] theorem d_lst_c (a : Int) (l : List Int) : D.lst (D.int a :: nl l) = D.lst (nl (a :: l)) := by (try unfold nll); (try unfold nl); rfl
@[simp] theorem d_lst_r1 (a : List Int) : D.lst [D.lst (nl a)] = D.lst (nll [a]) := by (try unfold nll); (try unfold nl); rfl
@[simp] theorem d_lst_r2 (a b : List Int) : D.lst [D.lst (nl a), D.lst (nl b)] = D.lst (nll [a, b]) := by (try unfold nll); (try unfold nl); rfl
@[simp] theorem d_lst_r3 (a b c : List Int) : D.lst [D.lst (nl a), D.lst (nl b), D.lst (nl c)] = D.lst (nll [a, b, c]) := by (try unfold nll); (try unfold nl); rfl
@[simp] theorem d_lst_rc (a : List Int) (l : List (List Int)) : D.lst (D.lst (nl a) :: nll l) = D.lst (nll (a :: l)) := by (try unfold nll); (try unfold nl); rfl
@[simp] theorem sl_own_0 : Sl.own [] = Sl.own (nl []) := by (try unfold nll); (try unfold nl); rfl
@[simp] theorem sl_own_1 (a : Int) : Sl.own [D.int a] = Sl.own (nl [a]) := by (try unfold nll); (try unfold nl); rfl
@[simp] theorem sl_own_2 (a b : Int) : Sl.own [D.int a, D.int b] = Sl.own (nl [a, b]) := by (try unfold nll); (try unfold nl); rfl
@[simp] theorem sl_own_c (a : Int) (l : List Int) : Sl.own (D.int a :: nl l) = Sl.own (nl (a :: l)) := by (try unfold nll); (try unfold nl); rfl
@[simp] theorem sl_own_r1 (a : List Int) : Sl.own [D.lst (nl a)] = Sl.own (nll [a]) := by (try unfold nll); (try unfold nl); rfl
@[simp] theorem sl_own_r2 (a b : List Int) : Sl.own [D.lst (nl a), D.lst (nl b)] = Sl.own (nll [a, b]) := by (try unfold nll); (try unfold nl); rfl
@[simp] theorem sl_own_r3 (a b c : List Int) : Sl.own [D.lst (nl a), D.lst (nl b), D.lst (nl c)] = Sl.own (nll [a, b, c]) := by (try unfold nll); (try unfold nl); rfl
@[simp] theorem sl_own_rc (a : List Int) (l : List (List Int)) : Sl.own (D.lst (nl a) :: nll l) = Sl.own (nll (a :: l)) := by (try unfold nll); (try unfold nl); rfl
@[simp] theorem t_sl_0 : T.sl [] = T.sl (nl []) := by (try unfold nll); (try unfold nl); rfl
@[simp] theorem t_sl_1 (a : Int) : T.sl [D.int a] = T.sl (nl [a]) := by (try unfold nll); (try unfold nl); rfl
@[simp] theorem t_sl_2 (a b : Int) : T.sl [D.int a, D.int b] = T.sl (nl [a, b]) := by (try unfold nll); (try unfold nl); rfl
@[simp] theorem t_sl_c (a : Int) (l : List Int) : T.sl (D.int a :: nl l) = T.sl (nl (a :: l)) := by (try unfold nll); (try unfold nl); rfl
@[simp] theorem t_sl_r1 (a : List Int) : T.sl [D.lst (nl a)] = T.sl (nll [a]) := by (try unfold nll); (try unfold nl); rfl
@[simp] theorem t_sl_r2 (a b : List Int) : T.sl [D.lst (nl a), D.lst (nl b)] = T.sl (nll [a, b]) := by (try unfold nll); (try unfold nl); rfl
@[simp] theorem t_sl_r3 (a b c : List Int) : T.sl [D.lst (nl a), D.lst (nl b), D.lst (nl c)] = T.sl (nll [a, b, c]) := by (try unfold nll); (try unfold nl); rfl
@[simp] theorem t_sl_rc (a : List Int) (l : List (List Int)) : T.sl (D.lst (nl a) :: nll l) = T.sl (nll (a :: l)) := by (try unfold nll); (try unfold nl); rfl
@[simp] theorem ints_rep (n : Nat) (a : Int) : List.replicate n (D.int a) = nl (List.replicate n a) := by (try unfold nll); (try unfold nl); exact (List.map_replicate ..).symm
@[simp] theorem ints_dropLast (a : List Int) : (nl a).dropLast = nl a.dropLast := by (try unfold nll); (try unfold nl); exact (List.map_dropLast ..).symm
@[simp] theorem ints_eq_nil (a : List Int) : (nl a = []) = (a = []) := by cases a <;> simp [nl]
theorem ints_inj : ∀ {a b : List Int}, nl a = nl b → a = b
  | [], [], _ => rfl
  | [], _ :: _, h => by simp [nl] at h
  | _ :: _, [], h => by simp [nl] at h
  | x :: a, y :: b, h => by
    unfold nl at h
    rw [List.map_cons, List.map_cons] at h
    obtain ⟨h1, h2⟩ := List.cons.inj h
    rw [D.int.inj h1, ints_inj (a := a) (b := b) (by unfold nl; exact h2)]
theorem atI_map {α : Type} (f : α → D) (l : List α) {k : Int} (h : 0 ≤ k) : atI (l.map f) k = (l[k.toNat]?).map f := by
  unfold L2.atI L2.ixN
  rw [if_pos h, List.length_map]
  by_cases h1 : k < l.length
  · rw [if_pos h1, Option.bind_some, List.getElem?_map]
  · rw [if_neg h1, List.getElem?_eq_none (by omega)]
    rfl
theorem ints_at {l : List Int} {k : Int} (h : 0 ≤ k) (h1 : k < l.length) : atI (nl l) k = some (.int (gi l k.toNat)) := by
  have h2 : k.toNat < l.length := by omega
  unfold nl gi
  rw [atI_map D.int l h, List.getD_eq_getElem?_getD, List.getElem?_eq_getElem h2]
  rfl
theorem rows_at {l : List (List Int)} {k : Int} (h : 0 ≤ k) (h1 : k < l.length) : atI (nll l) k = some (.lst (nl (gr l k.toNat))) := by
  have h2 : k.toNat < l.length := by omega
  unfold nll gr
  rw [atI_map _ l h, List.getD_eq_getElem?_getD, List.getElem?_eq_getElem h2]
  rfl
theorem gi_mem {l : List Int} {k : Nat} (h : k < l.length) : gi l k ∈ l := by
  unfold gi
  rw [List.getD_eq_getElem?_getD, List.getElem?_eq_getElem h]
  exact List.getElem_mem ..
theorem gi_none {l : List Int} {k : Nat} (h : l.length ≤ k) : gi l k = 0 := by
  unfold gi
  rw [List.getD_eq_getElem?_getD, List.getElem?_eq_none h]
  rfl
theorem gr_mem {l : List (List Int)} {k : Nat} (h : k < l.length) : gr l k ∈ l := by
  unfold gr
  rw [List.getD_eq_getElem?_getD, List.getElem?_eq_getElem h]
  exact List.getElem_mem ..
section
variable {g : MG} {s : MS} {P : Post} {ρ : Env}
theorem wp_ints {l : List Int} (I : List Int → Env → Prop) (h0 : I [] ρ)
    (st : ∀ (J : Env → Prop) d a rest ρ, l = d ++ a :: rest → I d ρ → (∀ ρ2, I (d ++ [a]) ρ2 → J ρ2) → gP (g (.int a) ρ) fun ρ1 => WFl (s ρ1) ⟨J, J, P.nx, P.rt, P.ex⟩) (h1 : ∀ ρ, I l ρ → P.nx ρ) : WFl (forD g s (nl l) ρ) P := by
  unfold nl
  exact wp_for D.int I h0 st h1
theorem wp_rows {l : List (List Int)} (I : List (List Int) → Env → Prop) (h0 : I [] ρ)
    (st : ∀ (J : Env → Prop) d a rest ρ, l = d ++ a :: rest → I d ρ → (∀ ρ2, I (d ++ [a]) ρ2 → J ρ2) → gP (g (.lst (nl a)) ρ) fun ρ1 => WFl (s ρ1) ⟨J, J, P.nx, P.rt, P.ex⟩) (h1 : ∀ ρ, I l ρ → P.nx ρ) : WFl (forD g s (nll l) ρ) P := by
  unfold nll
  exact wp_for _ I h0 st h1
theorem wp_enumI {l : List Int} (I : List Int → Env → Prop) (h0 : I [] ρ)
    (st : ∀ (J : Env → Prop) d a rest ρ, l = d ++ a :: rest → I d ρ → (∀ ρ2, I (d ++ [a]) ρ2 → J ρ2) → gP (g (.tup [.int (d.length : Nat), .int a]) ρ) fun ρ1 => WFl (s ρ1) ⟨J, J, P.nx, P.rt, P.ex⟩) (h1 : ∀ ρ, I l ρ → P.nx ρ) : WFl (forD g s (enumD 0 (nl l)) ρ) P := by
  unfold nl
  exact wp_enum D.int I h0 st h1
theorem wp_enumR {l : List (List Int)} (I : List (List Int) → Env → Prop) (h0 : I [] ρ)
    (st : ∀ (J : Env → Prop) d a rest ρ, l = d ++ a :: rest → I d ρ → (∀ ρ2, I (d ++ [a]) ρ2 → J ρ2) → gP (g (.tup [.int (d.length : Nat), .lst (nl a)]) ρ) fun ρ1 => WFl (s ρ1) ⟨J, J, P.nx, P.rt, P.ex⟩) (h1 : ∀ ρ, I l ρ → P.nx ρ) : WFl (forD g s (enumD 0 (nll l)) ρ) P := by
  unfold nll
  exact wp_enum _ I h0 st h1
/-- the last first, with its place -/
theorem wp_enumRev {l : List Int} (I : List Int → Env → Prop) (h0 : I [] ρ)
    (st : ∀ (J : Env → Prop) d a r ρ, l = d ++ a :: r → I r ρ → (∀ ρ2, I (a :: r) ρ2 → J ρ2) → gP (g (.tup [.int (d.length : Nat), .int a]) ρ) fun ρ1 => WFl (s ρ1) ⟨J, J, P.nx, P.rt, P.ex⟩) (h1 : ∀ ρ, I l ρ → P.nx ρ) : WFl (forD g s (enumD 0 (nl l)).reverse ρ) P := by
  unfold nl
  rw [enumD_map, ← List.map_reverse]
  refine wp_for _ (fun d ρ => I (d.map Prod.fst).reverse ρ) h0 (fun J d p rest ρ e h hJ => ?_) (fun ρ h => h1 ρ ?_)
  · obtain ⟨a, i⟩ := p
    have e1 := congrArg List.reverse e
    rw [List.reverse_reverse, List.reverse_append, List.reverse_cons, List.append_assoc] at e1
    obtain ⟨rfl, e2⟩ := zipIdx_split e1
    have := st J (rest.reverse.map Prod.fst) a (d.map Prod.fst).reverse ρ (by rw [e2]; simp) h (fun ρ2 z => hJ ρ2 (by rw [List.map_append, List.reverse_append]; exact z))
    rw [List.length_map] at this
    exact this
  · rw [List.map_reverse, List.reverse_reverse] at h
    simpa using h
end
section
variable {g : MG} {c : MT} {me : ME} {ρ : Env}
theorem comp_ints (h : Int → Int) (l : List Int) (H : ∀ a ∈ l, gP (g (.int a) ρ) fun ρ1 => c ρ1 = .ok true ∧ (me ρ1 = .ok (.st (.int (h a))))) : compD g c me ρ (nl l) = .ok (nl (l.map h)) := by
  unfold nl
  rw [List.map_map]
  exact comp_map D.int _ l H
theorem comp_rng (n : Nat) (lo : Int) (h : Nat → Int) (H : ∀ i, i < n → gP (g (.int (lo + (i : Nat))) ρ) fun ρ1 => c ρ1 = .ok true ∧ (me ρ1 = .ok (.st (.int (h i))))) : compD g c me ρ (rngD lo n) = .ok (nl ((List.range n).map h)) := by
  unfold nl rngD
  rw [List.map_map]
  exact comp_map _ _ _ fun i hi => H i (List.mem_range.mp hi)
end
/-! ### comprehensions, repeated lists -/
def slNo : Sl → Bool
  | .no => true
  | .val _ => true
  | _ => false
@[simp] theorem slNo_no : slNo .no = true := (rfl)
@[simp] theorem slNo_val (d : D) : slNo (.val d) = true := (rfl)
@[simp] theorem noOwn_nil (ρ : Env) : noOwn ρ [] = true := (rfl)
@[simp] theorem noOwn_cons (ρ : Env) (v : Nat) (vs : List Nat) : noOwn ρ (v :: vs) = (slNo (slG ρ v) && noOwn ρ vs) := (rfl)
@[simp] theorem wipeE_nil (ρ : Env) : wipeE ρ [] = ρ := (rfl)
@[simp] theorem wipeE_cons (ρ : Env) (v : Nat) (vs : List Nat) : wipeE ρ (v :: vs) = (wipeE ρ vs).set v .no := (rfl)
@[simp] theorem p_eComp {mi : MI} {vs : List Nat} {g : MG} {c : MT} {me : ME} {ρ : Env} : eComp mi vs g c me ρ = if noOwn ρ vs = true then (mi ρ).bind fun ds => (compD g c me (wipeE ρ vs) ds).bind fun l => if ds.length ≤ 100000 then .ok (.fr l) else .bad else .bad := by
  unfold eComp
  congr 2
  funext ds
  congr 1
  funext l
  by_cases h : ds.length ≤ 100000
  · rw [if_pos h, if_pos h]; rfl
  · rw [if_neg h, if_neg h]; rfl
@[simp] theorem p_rep {ma : MA} {n : ME} {ρ : Env} : eRep ma n ρ = (ma ρ).bind fun ts => (lift ((stD ts).bind fun ds => if ds.length ≤ 100000 then some ds else none)).bind fun ds => (n ρ).bind fun t => lift (dRep ds t.d) := (rfl)
theorem p_dRep {d : D} {i : Int} (h : -(2 ^ 63) ≤ i) (h' : i ≤ 100000) : dRep [d] (.int i) = some (.fr (List.replicate i.toNat d)) := by
  have : (List.replicate i.toNat [d]).flatten = List.replicate i.toNat d := by
    induction i.toNat with
    | zero => rfl
    | succ n ih => rw [List.replicate_succ, List.flatten_cons, ih, List.replicate_succ]; rfl
  unfold dRep
  simp only [List.length_singleton, Nat.one_mul]
  rw [if_pos ⟨h, by omega, by show i.toNat ≤ 100000; omega⟩, this]
end RF

set_option Elab.async false
set_option linter.all false
set_option maxRecDepth 100000
set_option autoImplicit false
/-! the pure part: == of data -/
namespace RF
open PySem PySem.Spec L2
def Dq (k : Nat) (d : D) : Prop := (toPy d).canLay0 = true ∧ (toPy d).depth ≤ k
theorem Dq.sh {k : Nat} {d : D} (h : Dq k d) (hk : k ≤ 64) : shD d = true := by
  unfold shD SeqAt.shaped
  rw [h.1, decide_eq_true (Nat.le_trans h.2 hk)]
  rfl
theorem dp_int (i : Int) : Dq 0 (.int i) := by
  unfold Dq toPy PyData.canLay0 PyData.depth; exact ⟨rfl, Nat.le_refl _⟩
theorem dp_bl (i : Bool) : Dq 0 (.bl i) := by
  unfold Dq toPy PyData.canLay0 PyData.depth; exact ⟨rfl, Nat.le_refl _⟩
theorem dp_non : Dq 0 .non := by
  unfold Dq toPy PyData.canLay0 PyData.depth; exact ⟨rfl, Nat.le_refl _⟩
theorem dps {k : Nat} : ∀ l : List D, (∀ d ∈ l, Dq k d) → PyData.canLayAll0 (toPys l) = true ∧ PyData.depthAll (toPys l) ≤ k
  | [], _ => by unfold toPys PyData.canLayAll0 PyData.depthAll; exact ⟨rfl, Nat.zero_le _⟩
  | d :: l, h => by
    obtain ⟨h1, h2⟩ := h d (List.mem_cons_self ..)
    obtain ⟨h3, h4⟩ := dps l fun b hb => h b (List.mem_cons_of_mem _ hb)
    unfold toPys PyData.canLayAll0 PyData.depthAll
    exact ⟨by rw [h1, h3]; rfl, Nat.max_le.mpr ⟨h2, h4⟩⟩
theorem dp_lst {k : Nat} {l : List D} (h : ∀ d ∈ l, Dq k d) : Dq (k + 1) (.lst l) := by
  obtain ⟨h1, h2⟩ := dps l h
  unfold Dq toPy PyData.canLay0 PyData.depth
  exact ⟨h1, Nat.succ_le_succ h2⟩
theorem dp_tup {k : Nat} {l : List D} (h : ∀ d ∈ l, Dq k d) : Dq (k + 1) (.tup l) := by
  obtain ⟨h1, h2⟩ := dps l h
  unfold Dq toPy PyData.canLay0 PyData.depth
  exact ⟨h1, Nat.succ_le_succ h2⟩
theorem Dq.mono {k l : Nat} {d : D} (h : Dq k d) (hl : k ≤ l) : Dq l d := ⟨h.1, Nat.le_trans h.2 hl⟩
/-- f tells a as data that == tells apart -/
structure Emb {α : Type} [DecidableEq α] (f : α → D) (k : Nat) : Prop where
  dp : ∀ a, Dq k (f a)
  eq : ∀ a b, eqD (f a) (f b) = decide (a = b)
theorem emb_int : Emb D.int 0 := ⟨dp_int, eqD_int⟩
theorem emb_bl : Emb D.bl 0 := ⟨dp_bl, eqD_bl⟩
theorem eqvAll_map {α : Type} [DecidableEq α] {f : α → D} {k : Nat} (E : Emb f k) : ∀ l l' : List α, PyData.eqvAll (toPys (l.map f)) (toPys (l'.map f)) = decide (l = l')
  | [], [] => by simp [toPys, PyData.eqvAll]
  | [], b :: l' => by simp [toPys, PyData.eqvAll]
  | a :: l, [] => by simp [toPys, PyData.eqvAll]
  | a :: l, b :: l' => by
    have h1 := E.eq a b
    unfold eqD at h1
    rw [List.map_cons, List.map_cons]
    unfold toPys PyData.eqvAll
    rw [h1, eqvAll_map E l l']
    by_cases h : a = b <;> by_cases h' : l = l' <;> simp [h, h']
theorem Emb.lst {α : Type} [DecidableEq α] {f : α → D} {k : Nat} (E : Emb f k) : Emb (fun l : List α => D.lst (l.map f)) (k + 1) where
  dp := fun l => dp_lst fun d hd => by
    obtain ⟨a, _, rfl⟩ := List.mem_map.mp hd
    exact E.dp a
  eq := fun a b => by
    unfold eqD toPy PyData.eqv
    exact eqvAll_map E a b
theorem Emb.pair {α β : Type} [DecidableEq α] [DecidableEq β] {f : α → D} {g : β → D} {k l : Nat} (E : Emb f k) (F : Emb g l) : Emb (fun p : α × β => D.tup [f p.1, g p.2]) (max k l + 1) where
  dp := fun p => dp_tup fun d hd => by
    rcases List.mem_cons.mp hd with rfl | hd
    · exact (E.dp _).mono (Nat.le_max_left _ _)
    · rw [List.mem_singleton.mp hd]; exact (F.dp _).mono (Nat.le_max_right _ _)
  eq := fun a b => by
    have h1 := E.eq a.1 b.1
    have h2 := F.eq a.2 b.2
    unfold eqD at h1 h2
    unfold eqD toPy PyData.eqv
    simp only [toPys, PyData.eqvAll, h1, h2]
    obtain ⟨a1, a2⟩ := a
    obtain ⟨b1, b2⟩ := b
    by_cases h : a1 = b1 <;> by_cases h' : a2 = b2 <;> simp [h, h']
theorem Emb.eq' {α : Type} [DecidableEq α] {f : α → D} {k : Nat} (E : Emb f k) (hk : k ≤ 64) (a b : α) : dEq (f a) (f b) = some (.st (.bl (decide (a = b)))) := by
  unfold dEq
  rw [if_pos ⟨(E.dp a).sh hk, (E.dp b).sh hk⟩, E.eq]
theorem Emb.ne' {α : Type} [DecidableEq α] {f : α → D} {k : Nat} (E : Emb f k) (hk : k ≤ 64) (a b : α) : dNe (f a) (f b) = some (.st (.bl (!decide (a = b)))) := by
  unfold dNe
  rw [if_pos ⟨(E.dp a).sh hk, (E.dp b).sh hk⟩, E.eq]
theorem emb_il : Emb il 1 := by
  unfold il nl
  exact emb_int.lst
theorem emb_ill : Emb ill 2 := by
  unfold ill nll
  exact emb_il.lst
@[simp] theorem p_eqL (a b : List Int) : dEq (.lst (nl a)) (.lst (nl b)) = some (.st (.bl (decide (a = b)))) := emb_il.eq' (by decide) a b
@[simp] theorem p_neL (a b : List Int) : dNe (.lst (nl a)) (.lst (nl b)) = some (.st (.bl (!decide (a = b)))) := emb_il.ne' (by decide) a b
@[simp] theorem p_eqLL (a b : List (List Int)) : dEq (.lst (nll a)) (.lst (nll b)) = some (.st (.bl (decide (a = b)))) := emb_ill.eq' (by decide) a b
@[simp] theorem p_neLL (a b : List (List Int)) : dNe (.lst (nll a)) (.lst (nll b)) = some (.st (.bl (!decide (a = b)))) := emb_ill.ne' (by decide) a b
/-- an empty list beside lists of lists -/
@[simp] theorem p_eqLL0 (a : List (List Int)) : dEq (.lst (nll a)) (.lst (nl [])) = some (.st (.bl (decide (a = [])))) := by
  rw [← rows_nil]
  exact emb_ill.eq' (by decide) a []
@[simp] theorem p_neLL0 (a : List (List Int)) : dNe (.lst (nll a)) (.lst (nl [])) = some (.st (.bl (!decide (a = [])))) := by
  rw [← rows_nil]
  exact emb_ill.ne' (by decide) a []
end RF

set_option Elab.async false
set_option linter.all false
set_option maxRecDepth 100000
set_option autoImplicit false
/-! the pure part: lists of one's own -/
namespace RF
open PySem PySem.Spec L2
def slOwn (s : Sl) (k : List D → Fl) : Fl := match s with
  | .own l => k l
  | _ => .bad
@[simp] theorem slOwn_own (l : List D) (k : List D → Fl) : slOwn (.own l) k = k l := (rfl)
section
variable {ρ : Env} {i : Nat} {m mi : ME}
theorem p_onOwn (k : List D → Fl) : onOwn i ρ k = slOwn (slG ρ i) k := rfl
@[simp] theorem p_sSet : sSet i mi m ρ = toS ρ (m ρ) fun t => slOwn (slG ρ i) fun l => toS ρ (mi ρ) fun k => nxO ((stT t.set).bind fun d => (setL l k.d d).map fun l' => ρ.set i (.own l')) := (rfl)
@[simp] theorem p_sAugIx : sAugIx i mi m ρ = slOwn (slG ρ i) fun l => toS ρ (mi ρ) fun k => toS ρ (lift (isIx l k.d)) fun _ => toS ρ (m ρ) fun t => nxO ((augL l k.d t.d).map fun l' => ρ.set i (.own l')) := (rfl)
@[simp] theorem p_sApp : sApp i m ρ = slOwn (slG ρ i) fun l => toS ρ (m ρ) fun t => nxO ((stT t.set).bind fun d => if l.length < 100000 then some (ρ.set i (.own (l ++ [d]))) else none) := (rfl)
@[simp] theorem p_sIns : sIns i m ρ = slOwn (slG ρ i) fun l => toS ρ (m ρ) fun t => nxO ((stT t.set).bind fun d => if l.length < 100000 then some (ρ.set i (.own (d :: l))) else none) := (rfl)
@[simp] theorem p_sPop : sPop i ρ = slOwn (slG ρ i) fun l => if l = [] then .bad else .nx (ρ.set i (.own l.dropLast)) := (rfl)
@[simp] theorem p_sClr : sClr i ρ = slOwn (slG ρ i) fun _ => .nx (ρ.set i (.own [])) := (rfl)
@[simp] theorem p_nxO (ρ : Env) : nxO (some ρ) = .nx ρ := (rfl)
@[simp] theorem nxO_ite {c : Prop} [Decidable c] {a b : Option Env} : nxO (if c then a else b) = if c then nxO a else nxO b := by by_cases h : c <;> simp [h]
@[simp] theorem p_nxO0 : nxO none = .bad := (rfl)
@[simp] theorem p_sTmpApp : sTmpApp m ρ = toS ρ (m ρ) fun t => match t with
  | .fr l => if l.length < 100000 then .nx ρ else .bad
  | _ => .bad := rfl
@[simp] theorem p_fz (s : MS) : sFz i s ρ = s (fz i ρ) := (rfl)
def slFz (ρ : Env) (i : Nat) (s : Sl) : Env := match s with
  | .own l => ρ.set i (.val (.lst l))
  | _ => ρ
@[simp] theorem slFz_own (l : List D) : slFz ρ i (.own l) = ρ.set i (.val (.lst l)) := (rfl)
@[simp] theorem slFz_val (d : D) : slFz ρ i (.val d) = ρ := (rfl)
@[simp] theorem slFz_no : slFz ρ i .no = ρ := (rfl)
@[simp] theorem p_fz1 : fz i ρ = slFz ρ i (slG ρ i) := (rfl)
theorem slG_set_ne {j : Nat} (s : Sl) (h : i ≠ j) : slG (ρ.set i s) j = slG ρ j := by
  unfold slG
  rw [List.getD_eq_getElem?_getD, List.getD_eq_getElem?_getD, List.getElem?_set_ne h]
end
section
theorem ixN_pos {n : Nat} {k : Int} (h0 : 0 ≤ k) (h1 : k < n) : ixN n k = some k.toNat := by
  unfold ixN
  rw [if_pos h0, if_pos h1]
theorem ixN_neg {n : Nat} {k : Int} (h0 : k < 0) (h1 : -(n : Int) ≤ k) : ixN n k = some (k + n).toNat := by
  unfold ixN
  rw [if_neg (by omega), if_pos h1]
theorem ints_set {l : List Int} {k a : Int} (h0 : 0 ≤ k) (h1 : k < l.length) : setL (nl l) (.int k) (.int a) = some (nl (l.set k.toNat a)) := by
  unfold setL nl
  simp only
  rw [List.length_map, ixN_pos h0 h1, Option.map_some, List.map_set]
theorem rows_set {l : List (List Int)} {k : Int} {a : List Int} (h0 : 0 ≤ k) (h1 : k < l.length) : setL (nll l) (.int k) (.lst (nl a)) = some (nll (l.set k.toNat a)) := by
  unfold setL nll
  simp only
  rw [List.length_map, ixN_pos h0 h1, Option.map_some, List.map_set]
theorem ints_isIx {l : List Int} {k : Int} (h0 : 0 ≤ k) (h1 : k < l.length) : isIx (nl l) (.int k) = some () := by
  unfold isIx
  simp only
  rw [ints_at h0 h1]
  rfl
theorem ints_aug {l : List Int} {k v : Int} (h0 : 0 ≤ k) (h1 : k < l.length) : augL (nl l) (.int k) (.int v) = some (nl (l.set k.toNat (gi l k.toNat + v))) := by
  unfold augL
  simp only
  have h2 : k.toNat < l.length := by omega
  rw [ints_length, ixN_pos h0 h1, Option.bind_some]
  unfold nl gi
  rw [List.getElem?_map, List.getElem?_eq_getElem h2]
  simp only [Option.map_some]
  rw [List.map_set, List.getD_eq_getElem?_getD, List.getElem?_eq_getElem h2, Option.getD_some]
@[simp] theorem ints_last (l : List Int) (a : Int) : atI (nl (l ++ [a])) (-1) = some (.int a) := by
  unfold L2.atI
  rw [ints_length, ixN_neg (by omega) (by simp; omega), Option.bind_some]
  unfold nl
  rw [List.getElem?_map]
  have : (-1 + ((l ++ [a]).length : Int)).toNat = l.length := by simp; omega
  rw [this]
  simp
theorem ints_neg {l : List Int} {k : Int} (h0 : k < 0) (h1 : -(l.length : Int) ≤ k) : atI (nl l) k = some (.int (gi l (k + l.length).toNat)) := by
  unfold L2.atI
  rw [ints_length, ixN_neg h0 h1, Option.bind_some]
  unfold nl gi
  have : (k + (l.length : Int)).toNat < l.length := by omega
  rw [List.getElem?_map, List.getD_eq_getElem?_getD, List.getElem?_eq_getElem this]
  rfl
end
/-! the arguments that a slot holds alone -/
@[simp] theorem p_call1sl (g : List D → R T) (l : List D) : callD 1 g [.sl l] = dropR (g [.lst l]) := (rfl)
@[simp] theorem p_call2sl (g : List D → R T) (l : List D) (d : D) : callD 2 g [.sl l, .st d] = dropR (g [.lst l, d]) := (rfl)
@[simp] theorem p_call2sr (g : List D → R T) (l : List D) (d : D) : callD 2 g [.st d, .sl l] = dropR (g [d, .lst l]) := (rfl)
@[simp] theorem p_call2ss (g : List D → R T) (l l' : List D) : callD 2 g [.sl l, .sl l'] = dropR (g [.lst l, .lst l']) := (rfl)
@[simp] theorem p_dropR (t : T) : dropR (.ok t) = if flatT t = true then .ok t else .bad := (rfl)
@[simp] theorem p_flat_st (d : D) : flatT (.st d) = flatD d := (rfl)
@[simp] theorem p_flat_fr (l : List D) : flatT (.fr l) = l.all flatD := (rfl)
@[simp] theorem p_flat_int (i : Int) : flatD (.int i) = true := (rfl)
@[simp] theorem p_flat_bl (i : Bool) : flatD (.bl i) = true := (rfl)
@[simp] theorem p_flat_non : flatD .non = true := (rfl)
@[simp] theorem p_flat_ints (l : List Int) : (nl l).all flatD = true := by
  unfold nl
  rw [List.all_map]
  simp
@[simp] theorem p_d_st (d : D) : (T.st d).d = d := (rfl)
@[simp] theorem p_d_fr (l : List D) : (T.fr l).d = .lst l := (rfl)
@[simp] theorem p_d_sl (l : List D) : (T.sl l).d = .lst l := (rfl)
/-! while -/
theorem while_end {c : MT} {s : MS} {ρ : Env} {n : Nat} (h : c ρ = .ok false) : whileD c s (n + 1) ρ = .nx ρ := by
  unfold whileD
  rw [h]
  rfl
theorem while_step {c : MT} {s : MS} {ρ ρ' : Env} {n : Nat} (h : c ρ = .ok true) (hs : s ρ = .nx ρ' ∨ s ρ = .ct ρ') : whileD c s (n + 1) ρ = whileD c s n ρ' := by
  rw [whileD, h]
  rcases hs with hs | hs <;> simp [hs]
/-- a while with a measure -/
theorem wp_while {c : MT} {s : MS} {P : Post} (I : Nat → Env → Prop) (Z : Env → Prop)
    (st : ∀ (J : Env → Prop) k ρ, I k ρ → (∀ j ρ', j < k → I j ρ' → J ρ') → ∃ b, c ρ = .ok b ∧ (b = false → Z ρ) ∧ (b = true → WFl (s ρ) ⟨J, J, P.nx, P.rt, P.ex⟩)) (hz : ∀ ρ, Z ρ → P.nx ρ) :
    ∀ (n k : Nat) (ρ : Env), k < n → I k ρ → WFl (whileD c s n ρ) P
  | 0, k, ρ, h, _ => absurd h (Nat.not_lt_zero _)
  | n + 1, k, ρ, h, hi => by
    obtain ⟨b, h1, h2, h3⟩ := st (fun ρ' => ∃ j, j < k ∧ I j ρ') k ρ hi fun j ρ' hj z => ⟨j, hj, z⟩
    rw [whileD, h1]
    cases b with
    | false =>
      show WFl (.nx ρ) P
      rw [wf_nx]
      exact hz ρ (h2 rfl)
    | true =>
      have h4 := h3 rfl
      simp only [toS_ok, if_true]
      cases hs : s ρ with
      | bad => rw [hs, wf_bad] at h4; exact h4.elim
      | nx ρ' => rw [hs, wf_nx] at h4; obtain ⟨j, hj, hi'⟩ := h4; exact wp_while I Z st hz n j ρ' (by omega) hi'
      | ct ρ' => rw [hs, wf_ct] at h4; obtain ⟨j, hj, hi'⟩ := h4; exact wp_while I Z st hz n j ρ' (by omega) hi'
      | bk ρ' => rw [hs, wf_bk] at h4; exact wf_nx ▸ h4
      | rt t => rw [hs, wf_rt] at h4; exact wf_rt ▸ h4
      | ex ρ' x => rw [hs, wf_ex] at h4; exact wf_ex ▸ h4
@[simp] theorem p_while {N : Nat} {c : MT} {s : MS} {ρ : Env} : sWhile N c s ρ = whileD c s N ρ := (rfl)
@[simp] theorem p_all (l : List Bool) : bAll [.lst (l.map D.bl)] = some (.st (.bl (l.all id))) := by
  have : ∀ l : List Bool, blsOf (l.map D.bl) = some l := by
    intro l
    induction l with
    | nil => rfl
    | cons a l ih => simp [blsOf, ih]
  unfold bAll
  simp only [this]
  rfl
@[simp] theorem p_sum (l : List Int) : bSum [.lst (nl l)] = some (.st (.int l.sum)) := by
  have : ∀ l : List Int, intsOf (nl l) = some l := by
    intro l
    unfold nl
    induction l with
    | nil => rfl
    | cons a l ih => simp [intsOf, ih]
  unfold bSum
  simp only [this]
  rfl
theorem p_addI {a b : List Int} (h : a.length + b.length ≤ 100000) : dAdd (.lst (nl a)) (.lst (nl b)) = some (.fr (nl (a ++ b))) := by
  rw [p_addL (by rw [ints_length, ints_length]; exact h), ints_app]
theorem p_addR {a b : List (List Int)} (h : a.length + b.length ≤ 100000) : dAdd (.lst (nll a)) (.lst (nll b)) = some (.fr (nll (a ++ b))) := by
  rw [p_addL (by rw [rows_length, rows_length]; exact h), rows_app]
/-! what an if has set, put together -/
section
variable {c : Prop} [Decidable c]
theorem m_nx {ρ ρ' : Env} : (if c then Fl.nx ρ else Fl.nx ρ') = Fl.nx (if c then ρ else ρ') := by by_cases h : c <;> simp [h]
theorem m_cons {a b : Sl} {l m : Env} : (if c then a :: l else b :: m) = (if c then a else b) :: (if c then l else m) := by by_cases h : c <;> simp [h]
theorem m_val {a b : D} : (if c then Sl.val a else Sl.val b) = Sl.val (if c then a else b) := by by_cases h : c <;> simp [h]
theorem m_lst {a b : List D} : (if c then D.lst a else D.lst b) = D.lst (if c then a else b) := by by_cases h : c <;> simp [h]
theorem m_nl {a b : List Int} : (if c then nl a else nl b) = nl (if c then a else b) := by by_cases h : c <;> simp [h]
theorem m_nll {a b : List (List Int)} : (if c then nll a else nll b) = nll (if c then a else b) := by by_cases h : c <;> simp [h]
theorem m_int {a b : Int} : (if c then D.int a else D.int b) = D.int (if c then a else b) := by by_cases h : c <;> simp [h]
end
theorem law_out {f : List D → R T} (h : ∀ ns : List Int, ns.length ≤ 63 → f [il ns] = .ok (.st (.bl true))) : ∀ ns : List Int, ns.length ≤ 63 → f [.lst (ns.map D.int)] = .ok (.st (.bl true)) := by
  intro ns hn
  have z := h ns hn
  unfold il nl at z
  exact z
/-! a result of which something is known -/
def PQ (Q : T → Prop) : Post := ⟨fun _ => Q (.st .non), fun _ => False, fun _ => False, fun t => Q (toFr t), fun _ _ => False⟩
section
variable {Q : T → Prop} {ρ : Env} {x : T} {e : Xc}
theorem run_ex {r : Fl} (h : WFl r (PQ Q)) : ∃ t, outR r = .ok t ∧ Q t := by
  cases r with
  | bad => rw [wf_bad] at h; exact h.elim
  | nx ρ => rw [wf_nx] at h; exact ⟨_, rfl, h⟩
  | ct ρ => rw [wf_ct] at h; exact h.elim
  | bk ρ => rw [wf_bk] at h; exact h.elim
  | rt t => rw [wf_rt] at h; exact ⟨_, rfl, h⟩
  | ex ρ x => rw [wf_ex] at h; exact h.elim
@[simp] theorem pq_nx : (PQ Q).nx ρ = Q (.st .non) := (rfl)
@[simp] theorem pq_rt : (PQ Q).rt x = Q (toFr x) := (rfl)
@[simp] theorem pq_ex : (PQ Q).ex ρ e = False := (rfl)
@[simp] theorem pq_ct : (PQ Q).ct ρ = False := (rfl)
@[simp] theorem pq_bk : (PQ Q).bk ρ = False := (rfl)
end
/-- the number, the list that a model tells -/
def numOf (r : R T) : Int := match r with
  | .ok (.st (.int v)) => v
  | _ => 0
theorem num_of {r : R T} {Q : Int → Prop} (h : ∃ t, r = .ok t ∧ ∃ v, t = .st (.int v) ∧ Q v) : r = .ok (.st (.int (numOf r))) ∧ Q (numOf r) := by
  obtain ⟨t, rfl, v, rfl, q⟩ := h
  exact ⟨rfl, q⟩
end RF

set_option Elab.async false
set_option linter.all false
set_option maxRecDepth 100000
set_option autoImplicit false
/-! the pure part: one thing after the other -/
namespace RF
open PySem PySem.Spec L2
/-- one statement, then the others -/
theorem wq_seq {s t : MS} {ρ : Env} {P : Post} (h : ∀ K : Env → Prop, (∀ ρ', WFl (t ρ') P → K ρ') → WFl (s ρ) ⟨K, P.ct, P.bk, P.rt, P.ex⟩) : WFl (sSeq s t ρ) P := by
  rw [p_seq, wf_seq]
  exact h _ (fun _ z => z)
theorem p_calls (n : Nat) (g : List D → R T) (ts : List T) : callD n g ts = if ts.length = n then (if ts.all isSt = true then g (ts.map T.d) else dropR (g (ts.map T.d))) else .bad := (rfl)
@[simp] theorem p_call3sl (g : List D → R T) (l : List D) (d e : D) : callD 3 g [.sl l, .st d, .st e] = dropR (g [.lst l, d, e]) := (rfl)
@[simp] theorem p_call3sm (g : List D → R T) (l : List D) (d e : D) : callD 3 g [.st d, .sl l, .st e] = dropR (g [d, .lst l, e]) := (rfl)
@[simp] theorem p_call3sr (g : List D → R T) (l : List D) (d e : D) : callD 3 g [.st d, .st e, .sl l] = dropR (g [d, e, .lst l]) := (rfl)
/-! loops: only the slots at V change -/
def upV (ρ : Env) : List Nat → List Sl → Env
  | v :: V, x :: xs => (upV ρ V xs).set v x
  | _, _ => ρ
@[simp] theorem upV_nil (ρ : Env) (xs : List Sl) : upV ρ [] xs = ρ := (rfl)
@[simp] theorem upV_cons (ρ : Env) (v : Nat) (V : List Nat) (x : Sl) (xs : List Sl) : upV ρ (v :: V) (x :: xs) = (upV ρ V xs).set v x := (rfl)
def atV (ρ : Env) (V : List Nat) : List Sl := V.map fun v => slG ρ v
@[simp] theorem atV_nil (ρ : Env) : atV ρ [] = [] := (rfl)
@[simp] theorem atV_cons (ρ : Env) (v : Nat) (V : List Nat) : atV ρ (v :: V) = slG ρ v :: atV ρ V := (rfl)
theorem set_slG (ρ : Env) (i : Nat) : ρ.set i (slG ρ i) = ρ := by
  refine List.ext_getElem? fun j => ?_
  rw [List.getElem?_set]
  split
  · rename_i h
    subst h
    split
    · rename_i h
      unfold slG
      rw [List.getD_eq_getElem?_getD, List.getElem?_eq_getElem h]
      rfl
    · rename_i h
      exact (List.getElem?_eq_none (by omega)).symm
  · rfl
theorem upV_at (ρ : Env) : ∀ V : List Nat, upV ρ V (atV ρ V) = ρ
  | [] => rfl
  | v :: V => by
    rw [atV_cons, upV_cons, upV_at ρ V, set_slG]
section
variable {α : Type} {g : MG} {s : MS} {P : Post} {ρ : Env}
theorem wv_for (V : List Nat) (f : α → D) {l : List α} (I : List α → List Sl → Prop) (h0 : I [] (atV ρ V))
    (st : ∀ (J : Env → Prop) d a rest xs, l = d ++ a :: rest → I d xs → (∀ ys, I (d ++ [a]) ys → J (upV ρ V ys)) → gP (g (f a) (upV ρ V xs)) fun ρ1 => WFl (s ρ1) ⟨J, J, P.nx, P.rt, P.ex⟩) (h1 : ∀ xs, I l xs → P.nx (upV ρ V xs)) : WFl (forD g s (l.map f) ρ) P :=
  wp_for f (fun d ρ' => ∃ xs, ρ' = upV ρ V xs ∧ I d xs) ⟨_, (upV_at ρ V).symm, h0⟩ (fun J d a rest ρ' e ⟨xs, e1, h⟩ hJ => by subst e1; exact st J d a rest xs e h fun ys hy => hJ _ ⟨ys, rfl, hy⟩) (fun ρ' ⟨xs, e, h⟩ => by subst e; exact h1 xs h)
theorem wv_ints (V : List Nat) {l : List Int} (I : List Int → List Sl → Prop) (h0 : I [] (atV ρ V))
    (st : ∀ (J : Env → Prop) d a rest xs, l = d ++ a :: rest → I d xs → (∀ ys, I (d ++ [a]) ys → J (upV ρ V ys)) → gP (g (.int a) (upV ρ V xs)) fun ρ1 => WFl (s ρ1) ⟨J, J, P.nx, P.rt, P.ex⟩) (h1 : ∀ xs, I l xs → P.nx (upV ρ V xs)) : WFl (forD g s (nl l) ρ) P := by
  unfold nl
  exact wv_for V D.int I h0 st h1
theorem wv_rows (V : List Nat) {l : List (List Int)} (I : List (List Int) → List Sl → Prop) (h0 : I [] (atV ρ V))
    (st : ∀ (J : Env → Prop) d a rest xs, l = d ++ a :: rest → I d xs → (∀ ys, I (d ++ [a]) ys → J (upV ρ V ys)) → gP (g (.lst (nl a)) (upV ρ V xs)) fun ρ1 => WFl (s ρ1) ⟨J, J, P.nx, P.rt, P.ex⟩) (h1 : ∀ xs, I l xs → P.nx (upV ρ V xs)) : WFl (forD g s (nll l) ρ) P := by
  unfold nll
  exact wv_for V _ I h0 st h1
theorem wv_rng (V : List Nat) {lo : Int} {n : Nat} (I : Nat → List Sl → Prop) (h0 : I 0 (atV ρ V))
    (st : ∀ (J : Env → Prop) i xs, i < n → I i xs → (∀ ys, I (i + 1) ys → J (upV ρ V ys)) → gP (g (.int (lo + (i : Nat))) (upV ρ V xs)) fun ρ1 => WFl (s ρ1) ⟨J, J, P.nx, P.rt, P.ex⟩) (h1 : ∀ xs, I n xs → P.nx (upV ρ V xs)) : WFl (forD g s (rngD lo n) ρ) P :=
  wp_rng (fun d ρ' => ∃ xs, ρ' = upV ρ V xs ∧ I d xs) ⟨_, (upV_at ρ V).symm, h0⟩ (fun J i ρ' e ⟨xs, e1, h⟩ hJ => by subst e1; exact st J i xs e h fun ys hy => hJ _ ⟨ys, rfl, hy⟩) (fun ρ' ⟨xs, e, h⟩ => by subst e; exact h1 xs h)
theorem wv_enumI (V : List Nat) {l : List Int} (I : List Int → List Sl → Prop) (h0 : I [] (atV ρ V))
    (st : ∀ (J : Env → Prop) d a rest xs, l = d ++ a :: rest → I d xs → (∀ ys, I (d ++ [a]) ys → J (upV ρ V ys)) → gP (g (.tup [.int (d.length : Nat), .int a]) (upV ρ V xs)) fun ρ1 => WFl (s ρ1) ⟨J, J, P.nx, P.rt, P.ex⟩) (h1 : ∀ xs, I l xs → P.nx (upV ρ V xs)) : WFl (forD g s (enumD 0 (nl l)) ρ) P :=
  wp_enumI (fun d ρ' => ∃ xs, ρ' = upV ρ V xs ∧ I d xs) ⟨_, (upV_at ρ V).symm, h0⟩ (fun J d a rest ρ' e ⟨xs, e1, h⟩ hJ => by subst e1; exact st J d a rest xs e h fun ys hy => hJ _ ⟨ys, rfl, hy⟩) (fun ρ' ⟨xs, e, h⟩ => by subst e; exact h1 xs h)
theorem wv_enumR (V : List Nat) {l : List (List Int)} (I : List (List Int) → List Sl → Prop) (h0 : I [] (atV ρ V))
    (st : ∀ (J : Env → Prop) d a rest xs, l = d ++ a :: rest → I d xs → (∀ ys, I (d ++ [a]) ys → J (upV ρ V ys)) → gP (g (.tup [.int (d.length : Nat), .lst (nl a)]) (upV ρ V xs)) fun ρ1 => WFl (s ρ1) ⟨J, J, P.nx, P.rt, P.ex⟩) (h1 : ∀ xs, I l xs → P.nx (upV ρ V xs)) : WFl (forD g s (enumD 0 (nll l)) ρ) P :=
  wp_enumR (fun d ρ' => ∃ xs, ρ' = upV ρ V xs ∧ I d xs) ⟨_, (upV_at ρ V).symm, h0⟩ (fun J d a rest ρ' e ⟨xs, e1, h⟩ hJ => by subst e1; exact st J d a rest xs e h fun ys hy => hJ _ ⟨ys, rfl, hy⟩) (fun ρ' ⟨xs, e, h⟩ => by subst e; exact h1 xs h)
theorem wv_enumRev (V : List Nat) {l : List Int} (I : List Int → List Sl → Prop) (h0 : I [] (atV ρ V))
    (st : ∀ (J : Env → Prop) d a r xs, l = d ++ a :: r → I r xs → (∀ ys, I (a :: r) ys → J (upV ρ V ys)) → gP (g (.tup [.int (d.length : Nat), .int a]) (upV ρ V xs)) fun ρ1 => WFl (s ρ1) ⟨J, J, P.nx, P.rt, P.ex⟩) (h1 : ∀ xs, I l xs → P.nx (upV ρ V xs)) : WFl (forD g s (enumD 0 (nl l)).reverse ρ) P :=
  wp_enumRev (fun d ρ' => ∃ xs, ρ' = upV ρ V xs ∧ I d xs) ⟨_, (upV_at ρ V).symm, h0⟩ (fun J d a rest ρ' e ⟨xs, e1, h⟩ hJ => by subst e1; exact st J d a rest xs e h fun ys hy => hJ _ ⟨ys, rfl, hy⟩) (fun ρ' ⟨xs, e, h⟩ => by subst e; exact h1 xs h)
theorem wv_zip (V : List Nat) {a b : List Int} (I : List (Int × Int) → List Sl → Prop) (h0 : I [] (atV ρ V))
    (st : ∀ (J : Env → Prop) d p rest xs, a.zip b = d ++ p :: rest → I d xs → (∀ ys, I (d ++ [p]) ys → J (upV ρ V ys)) → gP (g (.tup [.int p.1, .int p.2]) (upV ρ V xs)) fun ρ1 => WFl (s ρ1) ⟨J, J, P.nx, P.rt, P.ex⟩) (h1 : ∀ xs, I (a.zip b) xs → P.nx (upV ρ V xs)) : WFl (forD g s (zipD (nl a) (nl b)) ρ) P := by
  unfold nl
  rw [zipD_map]
  exact wv_for V _ I h0 st h1
theorem wv_while (V : List Nat) {c : MT} {n : Nat} (I : Nat → List Sl → Prop) (Z : List Sl → Prop) (k : Nat) (hk : k < n) (h0 : I k (atV ρ V))
    (st : ∀ (J : Env → Prop) k xs, I k xs → (∀ j ys, j < k → I j ys → J (upV ρ V ys)) → ∃ b, c (upV ρ V xs) = .ok b ∧ (b = false → Z xs) ∧ (b = true → WFl (s (upV ρ V xs)) ⟨J, J, P.nx, P.rt, P.ex⟩)) (hz : ∀ xs, Z xs → P.nx (upV ρ V xs)) : WFl (whileD c s n ρ) P :=
  wp_while (fun k ρ' => ∃ xs, ρ' = upV ρ V xs ∧ I k xs) (fun ρ' => ∃ xs, ρ' = upV ρ V xs ∧ Z xs)
    (fun J k ρ' ⟨xs, e, h⟩ hJ => by
      subst e
      obtain ⟨b, h1, h2, h3⟩ := st J k xs h fun j ys hj hy => hJ j _ hj ⟨ys, rfl, hy⟩
      exact ⟨b, h1, fun z => ⟨xs, rfl, h2 z⟩, h3⟩)
    (fun ρ' ⟨xs, e, h⟩ => by subst e; exact hz xs h) n k ρ hk ⟨_, (upV_at ρ V).symm, h0⟩
end
def upto (n : Nat) : List Int := (List.range n).map fun i : Nat => (i : Int)
theorem rngD_nl (n : Nat) : rngD 0 n = nl (upto n) := by
  unfold rngD nl upto
  rw [List.map_map]
  refine List.map_congr_left fun i _ => ?_
  simp
@[simp] theorem upto_length (n : Nat) : (upto n).length = n := by unfold upto; rw [List.length_map, List.length_range]
theorem upto_mem {n : Nat} {x : Int} (h : x ∈ upto n) : 0 ≤ x ∧ x < n := by
  unfold upto at h
  obtain ⟨i, hi, rfl⟩ := List.mem_map.mp h
  have := List.mem_range.mp hi
  omega
theorem rg_of {k : Int} (h : 0 ≤ k) (h' : k ≤ 100000) : (dInt (.int k)).bind (fun n => if rgO n = true then some (T.fr (rngD 0 n.toNat)) else none) = some (T.fr (nl (upto k.toNat))) := by
  show (if rgO k = true then some (T.fr (rngD 0 k.toNat)) else none) = _
  rw [if_pos (show rgO k = true from decide_eq_true ⟨h, h'⟩), rngD_nl]
theorem p_lRg1 {m : ME} {ρ : Env} {k : Int} (hm : m ρ = .ok (.st (.int k))) (h : 0 ≤ k) (h' : k ≤ 100000) : lRg1 m ρ = .ok (.fr (nl (upto k.toNat))) := by
  unfold lRg1
  rw [hm]
  show lift _ = _
  rw [p_d_st, rg_of h h']
  rfl
/-- list(range(k)) -/
def rgK : D → R T
  | .int k => if rgO k = true then .ok (.fr (nl (upto k.toNat))) else .bad
  | _ => .bad
@[simp] theorem p_lRg {m : ME} {ρ : Env} : lRg1 m ρ = (m ρ).bind fun t => rgK t.d := by
  unfold lRg1
  congr 1
  funext t
  cases hd : t.d with
  | int k =>
    show lift (if rgO k = true then some (T.fr (rngD 0 k.toNat)) else none) = if rgO k = true then _ else _
    rw [rngD_nl]
    by_cases h : rgO k = true <;> simp [h]
  | _ => rfl
theorem p_rgK {k : Int} (h : 0 ≤ k) (h' : k ≤ 100000) : rgK (.int k) = .ok (.fr (nl (upto k.toNat))) := if_pos (show rgO k = true from decide_eq_true ⟨h, h'⟩)
end RF

set_option Elab.async false
set_option linter.all false
set_option maxRecDepth 100000
set_option autoImplicit false
set_option maxHeartbeats 0
namespace RF.M
noncomputable section
open PySem PySem.Spec L2 RF
/-- at -/
def b_P_at : MS :=
    sSeq (sVal 2 (eC (.int 0)))
    (sSeq (sFor (iS revF (aC (eV 0) (aN))) (gN 3) (sVal 2 (e2 dAdd (e2 dMul (eV 2) (eV 1)) (eV 3))))
    (sRet (eV 2)))
def d_P_at : List D → R T := runD 4 b_P_at
/-- _law_whole -/
def b_L_whole : MS :=
    sRet (eAnd (cV (eIsi "int" (eV 0))) (eT (cNot (cV (eIsi "bool" (eV 0))))))
def d_L_whole : List D → R T := runD 1 b_L_whole
/-- _law_at -/
def b_L_at : MS :=
    sSeq (sIf (cV (e2 dLt (eV 1) (eB bLen (aC (eV 0) (aN))))) (sRet (e2 dIx (eV 0) (eV 1))) (sSkip))
    (sRet (eC (.int 0)))
def d_L_at : List D → R T := runD 2 b_L_at
/-- _law_number -/
def b_L_number : MS :=
    sSeq (sVal 1 (e2 dMod (e2 dDiv (eV 0) (eC (.int 4))) (e2 dPow (eC (.int 10)) (eC (.int 60)))))
    (sSeq (sIf (cV (e2 dEq (e2 dMod (eV 0) (eC (.int 4))) (eC (.int 0)))) (sRet (e2 dSub (e2 dMod (eV 1) (eC (.int 5))) (eC (.int 2)))) (sSkip))
    (sSeq (sIf (cV (e2 dEq (e2 dMod (eV 0) (eC (.int 4))) (eC (.int 1)))) (sRet (e2 dSub (eC (.int 0)) (eV 1))) (sSkip))
    (sRet (eV 1))))
def d_L_number : List D → R T := runD 2 b_L_number
/-- _law_poly -/
def b_L_poly : MS :=
    sSeq (sVal 2 (eComp (iLc (eV 0)) [3] (gN 3) (cYes) (eCall 1 d_L_number (aC (eV 3) (aN)))))
    (sSeq (sIf (cAnd (cV (e2 dEq (e2 dMod (eV 1) (eC (.int 3))) (eC (.int 1)))) (cV (e2 dLt (eB bLen (aC (eV 2) (aN))) (eC (.int 11))))) (sVal 2 (e2 dAdd (eV 2) (eRep (aC (eC (.int 0)) (aN)) (e2 dAdd (eC (.int 1)) (e2 dMod (e2 dDiv (eV 1) (eC (.int 3))) (eC (.int 2))))))) (sSkip))
    (sRet (eV 2)))
def d_L_poly : List D → R T := runD 4 b_L_poly
/-- trimmed -/
def b_P_trimmed : MS :=
    sSeq (sOwn 1 (eB bList (aC (eV 0) (aN))))
    (sSeq (sWhile 1000000 (cAnd (cV (e2 dGt (eB bLen (aC (eV 1) (aN))) (eC (.int 0)))) (cV (e2 dEq (e2 dIx (eV 1) (e1 dNeg (eC (.int 1)))) (eC (.int 0))))) (sPop 1))
    (sRet (eV 1)))
def d_P_trimmed : List D → R T := runD 2 b_P_trimmed
/-- plus -/
def b_P_plus : MS :=
    sSeq (sOwn 2 (eRep (aC (eC (.int 0)) (aN)) (eB bMax (aC (eB bLen (aC (eV 0) (aN))) (aC (eB bLen (aC (eV 1) (aN))) (aN))))))
    (sSeq (sFor (iS enF (aC (eV 0) (aN))) (gT 2 (gsC (gN 3) (gsC (gN 4) (gsN)))) (sAugIx 2 (eV 3) (eV 4)))
    (sSeq (sFor (iS enF (aC (eV 1) (aN))) (gT 2 (gsC (gN 3) (gsC (gN 4) (gsN)))) (sAugIx 2 (eV 3) (eV 4)))
    (sRet (eCall 1 d_P_trimmed (aC (eV 2) (aN))))))
def d_P_plus : List D → R T := runD 5 b_P_plus
/-- times -/
def b_P_times : MS :=
    sSeq (sOwn 2 (eRep (aC (eC (.int 0)) (aN)) (e2 dAdd (eB bLen (aC (eV 0) (aN))) (eB bLen (aC (eV 1) (aN))))))
    (sSeq (sFor (iS enF (aC (eV 0) (aN))) (gT 2 (gsC (gN 3) (gsC (gN 4) (gsN)))) (sFor (iS enF (aC (eV 1) (aN))) (gT 2 (gsC (gN 5) (gsC (gN 6) (gsN)))) (sAugIx 2 (e2 dAdd (eV 3) (eV 5)) (e2 dMul (eV 4) (eV 6)))))
    (sRet (eCall 1 d_P_trimmed (aC (eV 2) (aN)))))
def d_P_times : List D → R T := runD 7 b_P_times
/-- _law_same -/
def b_L_same : MS :=
    sSeq (sIf (cOr (cNot (cV (eIsi "list" (eV 0)))) (cV (e2 dNe (eB bLen (aC (eV 0) (aN))) (eB bLen (aC (eV 1) (aN)))))) (sRet (eC (.bl false))) (sSkip))
    (sRet (eAnd (cV (eB bAll (aC (eComp (iLc (eV 0)) [2] (gN 2) (cYes) (eCall 1 d_L_whole (aC (eV 2) (aN)))) (aN)))) (e2 dEq (eV 0) (eV 1))))
def d_L_same : List D → R T := runD 3 b_L_same
/-- _law_trimmed -/
def b_L_trimmed : MS :=
    sSeq (sOwn 1 (eB bList (aC (eV 0) (aN))))
    (sSeq (sWhile 1000000 (cAnd (cV (e2 dGt (eB bLen (aC (eV 1) (aN))) (eC (.int 0)))) (cV (e2 dEq (e2 dIx (eV 1) (e1 dNeg (eC (.int 1)))) (eC (.int 0))))) (sPop 1))
    (sRet (eV 1)))
def d_L_trimmed : List D → R T := runD 2 b_L_trimmed
/-- _law_times -/
def b_L_times : MS :=
    sSeq (sOwn 2 (eRep (aC (eC (.int 0)) (aN)) (e2 dAdd (eB bLen (aC (eV 0) (aN))) (eB bLen (aC (eV 1) (aN))))))
    (sSeq (sFor (iA rng1 (aC (eB bLen (aC (eV 0) (aN))) (aN))) (gN 3) (sFor (iA rng1 (aC (eB bLen (aC (eV 1) (aN))) (aN))) (gN 4) (sSet 2 (e2 dAdd (eV 3) (eV 4)) (e2 dAdd (e2 dIx (eV 2) (e2 dAdd (eV 3) (eV 4))) (e2 dMul (e2 dIx (eV 0) (eV 3)) (e2 dIx (eV 1) (eV 4)))))))
    (sRet (eCall 1 d_L_trimmed (aC (eV 2) (aN)))))
def d_L_times : List D → R T := runD 5 b_L_times
/-- _law_plus -/
def b_L_plus : MS :=
    sSeq (sVal 2 (eB bMax (aC (eB bLen (aC (eV 0) (aN))) (aC (eB bLen (aC (eV 1) (aN))) (aN)))))
    (sSeq (sVal 3 (e2 dAdd (eV 0) (eRep (aC (eC (.int 0)) (aN)) (e2 dSub (eV 2) (eB bLen (aC (eV 0) (aN)))))))
    (sSeq (sVal 4 (e2 dAdd (eV 1) (eRep (aC (eC (.int 0)) (aN)) (e2 dSub (eV 2) (eB bLen (aC (eV 1) (aN)))))))
    (sRet (eCall 1 d_L_trimmed (aC (eComp (iSc zipF (aC (eV 3) (aC (eV 4) (aN)))) [5, 6] (gT 2 (gsC (gN 5) (gsC (gN 6) (gsN)))) (cYes) (e2 dAdd (eV 5) (eV 6))) (aN))))))
def d_L_plus : List D → R T := runD 7 b_L_plus
/-- put_in -/
def b_P_put_in : MS :=
    sSeq (sOwn 2 (eL (aN)))
    (sSeq (sFor (iS revF (aC (eV 0) (aN))) (gN 3) (sOwn 2 (eCall 2 d_P_plus (aC (eCall 2 d_P_times (aC (eV 2) (aC (eV 1) (aN)))) (aC (eL (aC (eV 3) (aN))) (aN))))))
    (sRet (eV 2)))
def d_P_put_in : List D → R T := runD 4 b_P_put_in
/-- falls -/
def b_P_falls : MS :=
    sSeq (sVal 1 (eCall 1 d_P_trimmed (aC (eV 0) (aN))))
    (sSeq (sOwn 2 (eL (aN)))
    (sSeq (sWhile 1000000 (cV (e2 dGt (eB bLen (aC (eV 1) (aN))) (eC (.int 0)))) (sSeq (sVal 3 (eC (.int 0)))
    (sSeq (sOwn 4 (eL (aN)))
    (sSeq (sFor (iS revF (aC (eV 1) (aN))) (gN 5) (sSeq (sVal 3 (e2 dAdd (e2 dMul (eV 3) (eB bLen (aC (eV 2) (aN)))) (eV 5)))
    (sIns 4 (eV 3))))
    (sSeq (sAppPop 2 4)
    (sFz 4 (sVal 1 (eV 4))))))))
    (sRet (eV 2))))
def d_P_falls : List D → R T := runD 6 b_P_falls
/-- unfolded -/
def b_P_unfolded : MS :=
    sSeq (sOwn 1 (eL (aN)))
    (sSeq (sFor (iS revF (aC (lEnumerate (aC (eV 0) (aN))) (aN))) (gT 2 (gsC (gN 2) (gsC (gN 3) (gsN)))) (sOwn 1 (eCall 2 d_P_plus (aC (eCall 2 d_P_times (aC (eV 1) (aC (eL (aC (e1 dNeg (eV 2)) (aC (eC (.int 1)) (aN)))) (aN)))) (aC (eL (aC (eV 3) (aN))) (aN))))))
    (sRet (eV 1)))
def d_P_unfolded : List D → R T := runD 4 b_P_unfolded
/-- at_falls -/
def b_P_at_falls : MS :=
    sSeq (sVal 2 (eC (.int 0)))
    (sSeq (sFor (iS revF (aC (lEnumerate (aC (eV 0) (aN))) (aN))) (gT 2 (gsC (gN 3) (gsC (gN 4) (gsN)))) (sVal 2 (e2 dAdd (e2 dMul (eV 2) (e2 dSub (eV 1) (eV 3))) (eV 4))))
    (sRet (eV 2)))
def d_P_at_falls : List D → R T := runD 5 b_P_at_falls
/-- shared -/
def b_P_shared : MS :=
    sSeq (sWhile 1000000 (cV (e2 dGt (eV 1) (eC (.int 0)))) (sPar 0 1 (aC (eV 1) (aC (e2 dMod (eV 0) (eV 1)) (aN)))))
    (sRet (eV 0))
def d_P_shared : List D → R T := runD 2 b_P_shared
/-- tops_of -/
def b_P_tops_of : MS :=
    sSeq (sOwn 1 (eL (aN)))
    (sSeq (sVal 2 (eC (.int 1)))
    (sSeq (sVal 3 (eV 0))
    (sSeq (sWhile 1000000 (cV (e2 dGt (eV 3) (eC (.int 1)))) (sSeq (sApp 1 (eV 3))
    (sSeq (sVal 2 (e2 dMul (eV 2) (eB bLen (aC (eV 1) (aN)))))
    (sVal 3 (e2 dDiv (eV 0) (eCall 2 d_P_shared (aC (eV 0) (aC (eV 2) (aN)))))))))
    (sRet (eV 1)))))
def d_P_tops_of : List D → R T := runD 4 b_P_tops_of
/-- __init__ -/
def b_P___init__ : MS :=
    sSeq (sIf (cOr (cV (e2 dLt (eV 1) (eC (.int 1)))) (cV (e2 dGt (eV 1) (eC (.int 60))))) (sRaise .badRest) (sSkip))
    (sSeq (sFldC .rests 0 "many" (eV 1))
    (sFldC .rests 0 "tops" (eCall 1 d_P_tops_of (aC (eV 1) (aN)))))
/-- _law_called -/
def b_L_called : MS :=
    sSeq (sIf (cV (e2 dIsN (eV 0) (eC .non))) (sRet (eL (aN))) (sSkip))
    (sSeq (sVal 1 (eL (aC (eIsx exA (fun C => C.sub .badRest) (eV 0)) (aC (eIsx exA (fun C => C.sub .badForm) (eV 0)) (aC (eIsx exA (fun C => C.sub .badTable) (eV 0)) (aN))))))
    (sSeq (sVal 1 (e2 dAdd (eV 1) (eL (aC (eIsx exA (fun C => C.sub .noForm) (eV 0)) (aC (eIsx exA (fun C => C.sub .tooGreat) (eV 0)) (aC (eIsx exA (fun C => C.sub .noText) (eV 0)) (aN)))))))
    (sSeq (sVal 1 (e2 dAdd (eV 1) (eL (aC (eIsx exA (fun C => C.sub .meets) (eV 0)) (aC (eIsx exA (fun C => C.sub .lone) (eV 0)) (aN))))))
    (sSeq (sVal 2 (eL (aC (eC (.str "rest")) (aC (eC (.str "form")) (aC (eC (.str "table")) (aC (eC (.str "noform")) (aC (eC (.str "great")) (aC (eC (.str "text")) (aC (eC (.str "meets")) (aC (eC (.str "lone")) (aN)))))))))))
    (sSeq (sVal 3 (eComp (iSc zipF (aC (eV 2) (aC (eV 1) (aN)))) [4, 5] (gT 2 (gsC (gN 4) (gsC (gN 5) (gsN)))) (cV (eV 5)) (eV 4)))
    (sSeq (sIf (cV (eIsx exA (fun _ => true) (eV 0))) (sRet (eV 3)) (sSkip))
    (sRet (eL (aC (eC (.str "none")) (aN))))))))))
def d_L_called : List D → R T := runD 6 b_L_called
/-- _law_tops -/
def b_L_tops : MS :=
    sSeq (sOwn 1 (eL (aN)))
    (sSeq (sVal 2 (eV 0))
    (sSeq (sVal 3 (eC (.int 0)))
    (sSeq (sWhile 1000000 (cV (e2 dGt (eV 2) (eC (.int 1)))) (sSeq (sApp 1 (eV 2))
    (sSeq (sVal 3 (e2 dAdd (eV 3) (eC (.int 1))))
    (sSeq (sVal 4 (eV 2))
    (sSeq (sVal 5 (eV 3))
    (sSeq (sWhile 1000000 (cV (e2 dGt (eV 5) (eC (.int 0)))) (sPar 4 5 (aC (eV 5) (aC (e2 dMod (eV 4) (eV 5)) (aN)))))
    (sVal 2 (e2 dDiv (eV 2) (eV 4)))))))))
    (sRet (eV 1)))))
def d_L_tops : List D → R T := runD 6 b_L_tops
/-- look_at_form -/
def b_P_look_at_form : MS :=
    sSeq (sIf (cV (e2 dNe (eB bLen (aC (eV 1) (aN))) (eB bLen (aC (e1 (fldD .rests "tops") (eV 0)) (aN))))) (sRaise .badForm) (sSkip))
    (sFor (iS zipF (aC (eV 1) (aC (e1 (fldD .rests "tops") (eV 0)) (aN)))) (gT 2 (gsC (gN 2) (gsC (gN 3) (gsN)))) (sIf (cOr (cV (e2 dLt (eV 2) (eC (.int 0)))) (cV (e2 dGe (eV 2) (eV 3)))) (sRaise .badForm) (sSkip)))
def d_P_look_at_form : List D → R T := runD 4 b_P_look_at_form
/-- form_of -/
def b_P_form_of1 : MS :=
    sSeq (sVal 2 (eCall 1 d_P_falls (aC (eV 1) (aN))))
    (sSeq (sVal 2 (e2 dAdd (eV 2) (eComp (iLc (eSl (e1 (fldD .rests "tops") (eV 0)) (oS (eB bLen (aC (eV 2) (aN)))) (oN))) [3] (gN 3) (cYes) (eC (.int 0)))))
    (sRet (eComp (iSc zipF (aC (eV 2) (aC (e1 (fldD .rests "tops") (eV 0)) (aN)))) [4, 3] (gT 2 (gsC (gN 4) (gsC (gN 3) (gsN)))) (cYes) (e2 dMod (eV 4) (eV 3)))))
def d_P_form_of1 : List D → R T := runD 5 b_P_form_of1
/-- rest_at -/
def b_P_rest_at1 : MS :=
    sRet (e2 dMod (eCall 2 d_P_at_falls (aC (eV 1) (aC (e2 dMod (eV 2) (e1 (fldD .rests "many") (eV 0))) (aN)))) (e1 (fldD .rests "many") (eV 0)))
def d_P_rest_at1 : List D → R T := runD 3 b_P_rest_at1
/-- value -/
def b_P_value : MS :=
    sSeq (sDrop (eCall 2 d_P_look_at_form (aC (eV 0) (aC (eV 1) (aN)))))
    (sRet (eCall 3 d_P_rest_at1 (aC (eV 0) (aC (eV 1) (aC (eV 2) (aN))))))
def d_P_value : List D → R T := runD 3 b_P_value
/-- _law_cell -/
def b_L_cell : MS :=
    sSeq (sIf (cV (e2 dLt (eV 1) (eB bLen (aC (eV 0) (aN))))) (sRet (e2 dMod (e2 dIx (eV 0) (eV 1)) (eC (.int 2147483647)))) (sSkip))
    (sRet (eC (.int 0)))
def d_L_cell : List D → R T := runD 2 b_L_cell
/-- _law_many -/
def b_L_many : MS :=
    sSeq (sIf (cV (e2 dEq (e2 dMod (eV 0) (eC (.int 3))) (eC (.int 0)))) (sRet (e2 dAdd (eC (.int 1)) (e2 dMod (e2 dDiv (eV 0) (eC (.int 3))) (eC (.int 60))))) (sSkip))
    (sSeq (sIf (cV (e2 dEq (e2 dMod (eV 0) (eC (.int 3))) (eC (.int 1)))) (sRet (e2 dIx (eL (aC (eC (.int 4)) (aC (eC (.int 8)) (aC (eC (.int 9)) (aC (eC (.int 12)) (aC (eC (.int 16)) (aC (eC (.int 27)) (aC (eC (.int 30)) (aC (eC (.int 36)) (aC (eC (.int 60)) (aC (eC (.int 6)) (aC (eC (.int 2)) (aC (eC (.int 49)) (aN)))))))))))))) (e2 dMod (e2 dDiv (eV 0) (eC (.int 3))) (eC (.int 12))))) (sSkip))
    (sRet (e2 dAdd (eC (.int 2)) (e2 dMod (e2 dDiv (eV 0) (eC (.int 3))) (eC (.int 15))))))
def d_L_many : List D → R T := runD 1 b_L_many
/-- _law_poly -/
def b_L_poly1 : MS :=
    sSeq (sOwn 3 (eL (aN)))
    (sSeq (sFor (iA rng2 (aC (eV 1) (aC (eB bMin (aC (e2 dAdd (eV 1) (eV 2)) (aC (eB bLen (aC (eV 0) (aN))) (aN)))) (aN)))) (gN 4) (sSeq (sVal 5 (e2 dSub (e2 dMod (e2 dIx (eV 0) (eV 4)) (e2 dMul (eC (.int 2)) (e2 dPow (eC (.int 10)) (eC (.int 59))))) (e2 dPow (eC (.int 10)) (eC (.int 59)))))
    (sSeq (sIf (cV (e2 dGt (e2 dMod (e2 dIx (eV 0) (eV 4)) (eC (.int 4))) (eC (.int 0)))) (sVal 5 (e2 dSub (e2 dMod (e2 dDiv (e2 dIx (eV 0) (eV 4)) (eC (.int 4))) (eC (.int 41))) (eC (.int 20)))) (sSkip))
    (sApp 3 (eV 5)))))
    (sRet (eV 3)))
def d_L_poly1 : List D → R T := runD 6 b_L_poly1
/-- _law_rest -/
def b_L_rest : MS :=
    sSeq (sVal 3 (eC (.int 0)))
    (sSeq (sFor (iS revF (aC (eV 0) (aN))) (gN 4) (sVal 3 (e2 dMod (e2 dAdd (e2 dMul (eV 3) (eV 1)) (eV 4)) (eV 2))))
    (sRet (eV 3)))
def d_L_rest : List D → R T := runD 5 b_L_rest
/-- _law_falling_rest -/
def b_L_falling_rest : MS :=
    sSeq (sVal 3 (eC (.int 0)))
    (sSeq (sVal 4 (eC (.int 1)))
    (sSeq (sFor (iS enF (aC (eV 0) (aN))) (gT 2 (gsC (gN 5) (gsC (gN 6) (gsN)))) (sSeq (sVal 3 (e2 dMod (e2 dAdd (eV 3) (e2 dMul (eV 6) (eV 4))) (eV 2)))
    (sVal 4 (e2 dMod (e2 dMul (eV 4) (e2 dSub (eV 1) (eV 5))) (eV 2)))))
    (sRet (eV 3))))
def d_L_falling_rest : List D → R T := runD 7 b_L_falling_rest
/-- _law_is_form -/
def b_L_is_form : MS :=
    sSeq (sIf (cOr (cNot (cV (eIsi "list" (eV 0)))) (cV (e2 dNe (eB bLen (aC (eV 0) (aN))) (eB bLen (aC (eV 1) (aN)))))) (sRet (eC (.bl false))) (sSkip))
    (sSeq (sFor (iS zipF (aC (eV 0) (aC (eV 1) (aN)))) (gT 2 (gsC (gN 2) (gsC (gN 3) (gsN)))) (sSeq (sIf (cOr (cNot (cV (eIsi "int" (eV 2)))) (cV (eIsi "bool" (eV 2)))) (sRet (eC (.bl false))) (sSkip))
    (sIf (cOr (cV (e2 dLt (eV 2) (eC (.int 0)))) (cV (e2 dGe (eV 2) (eV 3)))) (sRet (eC (.bl false))) (sSkip))))
    (sRet (eC (.bl true))))
def d_L_is_form : List D → R T := runD 4 b_L_is_form
/-- look_at_table -/
def b_P_look_at_table : MS :=
    sSeq (sIf (cV (e2 dNe (eB bLen (aC (eV 1) (aN))) (e1 (fldD .rests "many") (eV 0)))) (sRaise .badTable) (sSkip))
    (sFor (iL (eV 1)) (gN 2) (sIf (cOr (cV (e2 dLt (eV 2) (eC (.int 0)))) (cV (e2 dGe (eV 2) (e1 (fldD .rests "many") (eV 0))))) (sRaise .badTable) (sSkip)))
def d_P_look_at_table : List D → R T := runD 3 b_P_look_at_table
/-- table -/
def b_P_table : MS :=
    sSeq (sDrop (eCall 2 d_P_look_at_form (aC (eV 0) (aC (eV 1) (aN)))))
    (sRet (eComp (iA rng1 (aC (e1 (fldD .rests "many") (eV 0)) (aN))) [2] (gN 2) (cYes) (eCall 3 d_P_rest_at1 (aC (eV 0) (aC (eV 1) (aC (eV 2) (aN)))))))
def d_P_table : List D → R T := runD 3 b_P_table
/-- share_of -/
def b_P_share_of1 : MS :=
    sSeq (sVal 3 (e2 dDiv (e1 (fldD .rests "many") (eV 0)) (eCall 2 d_P_shared (aC (e1 (fldD .rests "many") (eV 0)) (aC (eV 1) (aN))))))
    (sSeq (sFor (iA rng1 (aC (eV 3) (aN))) (gN 4) (sIf (cV (e2 dEq (e2 dMod (e2 dMul (eV 4) (eV 1)) (e1 (fldD .rests "many") (eV 0))) (e2 dMod (eV 2) (e1 (fldD .rests "many") (eV 0))))) (sRet (eV 4)) (sSkip)))
    (sRet (eC .non)))
def d_P_share_of1 : List D → R T := runD 5 b_P_share_of1
/-- read_off -/
def b_P_read_off1 : MS :=
    sSeq (sVal 2 (eB bList (aC (eV 1) (aN))))
    (sSeq (sVal 3 (eC (.int 1)))
    (sSeq (sOwn 4 (eL (aN)))
    (sSeq (sWhile 1000000 (cV (e2 dNe (eV 2) (eL (aN)))) (sSeq (sApp 4 (eCall 3 d_P_share_of1 (aC (eV 0) (aC (eV 3) (aC (e2 dIx (eV 2) (eC (.int 0))) (aN))))))
    (sSeq (sIf (cV (e2 dIsN (e2 dIx (eV 4) (e1 dNeg (eC (.int 1)))) (eC .non))) (sRet (eV 4)) (sSkip))
    (sSeq (sVal 3 (e2 dMul (eV 3) (eB bLen (aC (eV 4) (aN)))))
    (sVal 2 (eComp (iSc zipF (aC (eV 2) (aC (eSl (eV 2) (oS (eC (.int 1))) (oN)) (aN)))) [5, 6] (gT 2 (gsC (gN 5) (gsC (gN 6) (gsN)))) (cYes) (e2 dSub (eV 6) (eV 5))))))))
    (sRet (eV 4)))))
def d_P_read_off1 : List D → R T := runD 7 b_P_read_off1
/-- told_by -/
def b_P_told_by : MS :=
    sSeq (sDrop (eCall 2 d_P_look_at_table (aC (eV 0) (aC (eV 1) (aN)))))
    (sSeq (sVal 2 (eCall 2 d_P_read_off1 (aC (eV 0) (aC (eV 1) (aN)))))
    (sSeq (sIf (cV (e2 dIsN (e2 dIx (eV 2) (e1 dNeg (eC (.int 1)))) (eC .non))) (sRet (eC .non)) (sSkip))
    (sRet (eSl (eV 2) (oN) (oS (eB bLen (aC (e1 (fldD .rests "tops") (eV 0)) (aN))))))))
def d_P_told_by : List D → R T := runD 3 b_P_told_by
/-- added -/
def b_P_added : MS :=
    sSeq (sDrop (eCall 2 d_P_look_at_form (aC (eV 0) (aC (eV 1) (aN)))))
    (sSeq (sDrop (eCall 2 d_P_look_at_form (aC (eV 0) (aC (eV 2) (aN)))))
    (sSeq (sOwn 3 (eL (aN)))
    (sSeq (sFor (iS enF (aC (e1 (fldD .rests "tops") (eV 0)) (aN))) (gT 2 (gsC (gN 4) (gsC (gN 5) (gsN)))) (sApp 3 (e2 dMod (e2 dAdd (e2 dIx (eV 1) (eV 4)) (e2 dIx (eV 2) (eV 4))) (eV 5))))
    (sRet (eV 3)))))
def d_P_added : List D → R T := runD 6 b_P_added
/-- multiplied -/
def b_P_multiplied : MS :=
    sSeq (sVal 3 (eCall 2 d_P_table (aC (eV 0) (aC (eV 1) (aN)))))
    (sSeq (sVal 4 (eCall 2 d_P_table (aC (eV 0) (aC (eV 2) (aN)))))
    (sRet (eCall 2 d_P_told_by (aC (eV 0) (aC (eComp (iSc zipF (aC (eV 3) (aC (eV 4) (aN)))) [5, 6] (gT 2 (gsC (gN 5) (gsC (gN 6) (gsN)))) (cYes) (e2 dMod (e2 dMul (eV 5) (eV 6)) (e1 (fldD .rests "many") (eV 0)))) (aN))))))
def d_P_multiplied : List D → R T := runD 7 b_P_multiplied
/-- _law_form -/
def b_L_form : MS :=
    sSeq (sOwn 3 (eL (aN)))
    (sSeq (sVal 4 (eC (.int 5)))
    (sSeq (sFor (iS enF (aC (eV 2) (aN))) (gT 2 (gsC (gN 5) (gsC (gN 6) (gsN)))) (sSeq (sVal 4 (e2 dMod (e2 dAdd (e2 dAdd (e2 dAdd (e2 dAdd (e2 dMul (eV 4) (eV 4)) (e2 dMul (eC (.int 48271)) (eV 4))) (eV 5)) (eC (.int 11))) (eCall 2 d_L_cell (aC (eV 0) (aC (e2 dAdd (eV 1) (eV 5)) (aN))))) (eC (.int 2147483647))))
    (sApp 3 (e2 dMod (eV 4) (eV 6)))))
    (sRet (eV 3))))
def d_L_form : List D → R T := runD 7 b_L_form
/-- _law_rests -/
def b_L_rests : MS :=
    sRet (eComp (iA rng1 (aC (eV 1) (aN))) [2] (gN 2) (cYes) (eCall 3 d_L_falling_rest (aC (eV 0) (aC (eV 2) (aC (eV 1) (aN))))))
def d_L_rests : List D → R T := runD 3 b_L_rests
/-- put -/
def b_P_put : MS :=
    sSeq (sVal 3 (eCall 2 d_P_table (aC (eV 0) (aC (eV 1) (aN)))))
    (sRet (eCall 2 d_P_told_by (aC (eV 0) (aC (eComp (iLc (eCall 2 d_P_table (aC (eV 0) (aC (eV 2) (aN))))) [4] (gN 4) (cYes) (e2 dIx (eV 3) (eV 4))) (aN)))))
def d_P_put : List D → R T := runD 5 b_P_put
/-- many_forms -/
def b_P_many_forms1 : MS :=
    sSeq (sVal 1 (eC (.int 1)))
    (sSeq (sFor (iL (e1 (fldD .rests "tops") (eV 0))) (gN 2) (sVal 1 (e2 dMul (eV 1) (eV 2))))
    (sRet (eV 1)))
def d_P_many_forms1 : List D → R T := runD 3 b_P_many_forms1
/-- number_of -/
def b_P_number_of : MS :=
    sSeq (sDrop (eCall 2 d_P_look_at_form (aC (eV 0) (aC (eV 1) (aN)))))
    (sSeq (sVal 2 (eC (.int 0)))
    (sSeq (sFor (iS revF (aC (lZip (aC (eV 1) (aC (e1 (fldD .rests "tops") (eV 0)) (aN)))) (aN))) (gT 2 (gsC (gN 3) (gsC (gN 4) (gsN)))) (sVal 2 (e2 dAdd (e2 dMul (eV 2) (eV 4)) (eV 3))))
    (sRet (eV 2))))
def d_P_number_of : List D → R T := runD 5 b_P_number_of
/-- form_at -/
def b_P_form_at : MS :=
    sSeq (sIf (cOr (cV (e2 dLt (eV 1) (eC (.int 0)))) (cV (e2 dGe (eV 1) (eCall 1 d_P_many_forms1 (aC (eV 0) (aN)))))) (sRaise .noForm) (sSkip))
    (sSeq (sOwn 2 (eL (aN)))
    (sSeq (sFor (iL (e1 (fldD .rests "tops") (eV 0))) (gN 3) (sSeq (sAsg (gT 2 (gsC (gN 1) (gsC (gN 4) (gsN)))) (eB bDivmod (aC (eV 1) (aC (eV 3) (aN)))))
    (sApp 2 (eV 4))))
    (sRet (eV 2))))
def d_P_form_at : List D → R T := runD 5 b_P_form_at
/-- lone -/
def b_P_lone : MS :=
    sSeq (sFor (iS enF (aC (eCall 2 d_P_table (aC (eV 0) (aC (eV 1) (aN)))) (aN))) (gT 2 (gsC (gN 2) (gsC (gN 3) (gsN)))) (sIf (cV (e2 dGt (eCall 2 d_P_shared (aC (e1 (fldD .rests "many") (eV 0)) (aC (eV 3) (aN)))) (eC (.int 1)))) (sRet (eV 2)) (sSkip)))
    (sRet (eC .non))
def d_P_lone : List D → R T := runD 4 b_P_lone
/-- noughts -/
def b_P_noughts : MS :=
    sRet (eComp (iSc enF (aC (eCall 2 d_P_table (aC (eV 0) (aC (eV 1) (aN)))) (aN))) [2, 3] (gT 2 (gsC (gN 2) (gsC (gN 3) (gsN)))) (cV (e2 dEq (eV 3) (eC (.int 0)))) (eV 2))
def d_P_noughts : List D → R T := runD 4 b_P_noughts
/-- _law_thing -/
def b_L_thing : MS :=
    sSeq (sVal 3 (e2 dDiv (eV 0) (eC (.int 2147483647))))
    (sSeq (sIf (cV (e2 dEq (e2 dMod (eV 3) (eC (.int 2))) (eC (.int 1)))) (sSeq (sVal 3 (e2 dDiv (eV 3) (eC (.int 2))))
    (sSeq (sFor (iA rng1 (aC (eV 1) (aN))) (gN 4) (sVal 3 (e2 dDiv (eV 3) (eC (.int 1000)))))
    (sRet (e2 dMod (e2 dMod (eV 3) (eC (.int 1000))) (eV 2))))) (sSkip))
    (sSeq (sVal 5 (e2 dMod (e2 dAdd (e2 dAdd (e2 dMul (e2 dMod (eV 0) (eC (.int 2147483647))) (eC (.int 48271))) (e2 dMul (e2 dMul (eC (.int 69621)) (eV 1)) (eV 1))) (e2 dMul (eC (.int 7)) (eV 1))) (eC (.int 2147483629))))
    (sSeq (sVal 5 (e2 dMod (e2 dMul (eV 5) (eV 5)) (eC (.int 2147483587))))
    (sRet (e2 dMod (e2 dMod (e2 dMul (eV 5) (e2 dAdd (eV 5) (eC (.int 48271)))) (eC (.int 2147483563))) (eV 2))))))
def d_L_thing : List D → R T := runD 6 b_L_thing
/-- turned_over -/
def b_P_turned_over1 : MS :=
    sSeq (sFor (iA rng1 (aC (e1 (fldD .rests "many") (eV 0)) (aN))) (gN 2) (sIf (cV (e2 dEq (e2 dMod (e2 dMul (eV 1) (eV 2)) (e1 (fldD .rests "many") (eV 0))) (e2 dMod (eC (.int 1)) (e1 (fldD .rests "many") (eV 0))))) (sRet (eV 2)) (sSkip)))
    (sRet (eC (.int 0)))
def d_P_turned_over1 : List D → R T := runD 3 b_P_turned_over1
/-- partner -/
def b_P_partner : MS :=
    sSeq (sVal 2 (eCall 2 d_P_lone (aC (eV 0) (aC (eV 1) (aN)))))
    (sSeq (sIf (cV (e2 dNotN (eV 2) (eC .non))) (sRaiseI .lone ["place"] (aC (eV 2) (aN))) (sSkip))
    (sRet (eCall 2 d_P_told_by (aC (eV 0) (aC (eComp (iLc (eCall 2 d_P_table (aC (eV 0) (aC (eV 1) (aN))))) [3] (gN 3) (cYes) (eCall 2 d_P_turned_over1 (aC (eV 0) (aC (eV 3) (aN))))) (aN))))))
def d_P_partner : List D → R T := runD 4 b_P_partner
/-- at_two -/
def b_P_at_two : MS :=
    sRet (eCall 2 d_P_at (aC (eComp (iLc (eV 0)) [3] (gN 3) (cYes) (eCall 2 d_P_at (aC (eV 3) (aC (eV 2) (aN))))) (aC (eV 1) (aN))))
def d_P_at_two : List D → R T := runD 4 b_P_at_two
/-- _law_entry -/
def b_L_entry : MS :=
    sSeq (sIf (cV (e2 dEq (eB bLen (aC (eV 0) (aN))) (eC (.int 0)))) (sRet (eC (.int 0))) (sSkip))
    (sSeq (sVal 3 (e2 dIx (eV 0) (e2 dMod (eV 1) (eB bLen (aC (eV 0) (aN))))))
    (sSeq (sVal 4 (e2 dDiv (eV 3) (eC (.int 2))))
    (sSeq (sIf (cV (e2 dEq (e2 dMod (eV 3) (eC (.int 2))) (eC (.int 1)))) (sSeq (sFor (iA rng1 (aC (eB bMin (aC (eC (.int 59)) (aC (e2 dDiv (eV 1) (eB bLen (aC (eV 0) (aN)))) (aN)))) (aN))) (gN 5) (sVal 4 (e2 dDiv (eV 4) (e2 dSub (e2 dMul (eC (.int 2)) (eV 2)) (eC (.int 1))))))
    (sRet (e2 dAdd (e2 dSub (e2 dMod (eV 4) (e2 dSub (e2 dMul (eC (.int 2)) (eV 2)) (eC (.int 1)))) (eV 2)) (eC (.int 1))))) (sSkip))
    (sSeq (sVal 6 (e2 dMod (e2 dMul (eV 4) (e2 dAdd (eC (.int 1)) (e2 dMul (eV 1) (eV 1)))) (eV 2)))
    (sSeq (sIf (cV (e2 dEq (e2 dMod (e2 dAdd (eV 4) (eV 1)) (eC (.int 3))) (eC (.int 1)))) (sVal 6 (e2 dMod (eV 6) (eC (.int 7)))) (sSkip))
    (sSeq (sIf (cV (e2 dEq (e2 dMod (e2 dAdd (eV 4) (eV 1)) (eC (.int 7))) (eC (.int 2)))) (sVal 6 (eC (.int 0))) (sSkip))
    (sSeq (sIf (cV (e2 dEq (e2 dMod (e2 dDiv (eV 4) (eC (.int 2))) (eC (.int 2))) (eC (.int 1)))) (sRet (e2 dSub (eC (.int 0)) (eV 6))) (sSkip))
    (sRet (eV 6)))))))))
def d_L_entry : List D → R T := runD 7 b_L_entry
/-- _law_rows -/
def b_L_rows2 : MS :=
    sSeq (sOwn 4 (eL (aN)))
    (sSeq (sFor (iA rng1 (aC (eV 1) (aN))) (gN 5) (sSeq (sOwn 6 (eL (aN)))
    (sSeq (sFor (iA rng1 (aC (eCall 3 d_L_thing (aC (e2 dIx (eV 0) (eC (.int 0))) (aC (e2 dAdd (eV 3) (eV 5)) (aC (e2 dAdd (eV 2) (eC (.int 1))) (aN))))) (aN))) (gN 7) (sApp 6 (eCall 3 d_L_entry (aC (eV 0) (aC (e2 dAdd (e2 dMul (eV 5) (eV 2)) (eV 7)) (aC (e2 dPow (eC (.int 10)) (eC (.int 59))) (aN)))))))
    (sFz 6 (sApp 4 (eV 6))))))
    (sRet (eV 4)))
def d_L_rows2 : List D → R T := runD 8 b_L_rows2
/-- _law_due -/
def b_L_due5 : MS :=
    sSeq (sVal 3 (eC (.int 0)))
    (sSeq (sVal 4 (eC (.int 1)))
    (sSeq (sFor (iL (eV 0)) (gN 5) (sSeq (sVal 6 (eV 4))
    (sSeq (sFor (iL (eV 5)) (gN 7) (sSeq (sVal 3 (e2 dAdd (eV 3) (e2 dMul (eV 7) (eV 6))))
    (sVal 6 (e2 dMul (eV 6) (eV 2)))))
    (sVal 4 (e2 dMul (eV 4) (eV 1))))))
    (sRet (eV 3))))
def d_L_due5 : List D → R T := runD 8 b_L_due5
/-- figures_of -/
def b_P_figures_of : MS :=
    sSeq (sIf (cOr (cV (e2 dLt (eB bLen (aC (eV 0) (aN))) (eC (.int 1)))) (cOr (cV (e2 dGt (eB bLen (aC (eV 0) (aN))) (eV 1))) (cV (e2 dEq (e2 dIx (eV 0) (eC (.int 0))) (eC (.str "0")))))) (sRaise .noText) (sSkip))
    (sSeq (sFor (iTx (eV 0)) (gN 2) (sIf (cV (e2 (dInC true) (eV 2) (eC (.str "0123456789")))) (sRaise .noText) (sSkip)))
    (sRet (eB bIntS (aC (eV 0) (aN)))))
def d_P_figures_of : List D → R T := runD 3 b_P_figures_of
/-- power_of -/
def b_P_power_of : MS :=
    sSeq (sIf (cV (e2 dEq (eV 0) (eC (.str "")))) (sRet (eC (.int 1))) (sSkip))
    (sSeq (sIf (cV (e2 dNe (e2 dIx (eV 0) (eC (.int 0))) (eC (.str "^")))) (sRaise .noText) (sSkip))
    (sSeq (sVal 1 (eCall 2 d_P_figures_of (aC (eSl (eV 0) (oS (eC (.int 1))) (oN)) (aC (eC (.int 2)) (aN)))))
    (sSeq (sIf (cOr (cV (e2 dLt (eV 1) (eC (.int 2)))) (cV (e2 dGe (eV 1) (eC (.int 12))))) (sRaise .noText) (sSkip))
    (sRet (eV 1)))))
def d_P_power_of : List D → R T := runD 2 b_P_power_of
/-- term_of -/
def b_P_term_of : MS :=
    sSeq (sAsg (gT 3 (gsC (gN 1) (gsC (gN 2) (gsC (gN 3) (gsN))))) (eM1 mPart (eV 0) (eC (.str "x"))))
    (sSeq (sIf (cV (e2 dEq (eV 2) (eC (.str "")))) (sRet (eTup (aC (eCall 2 d_P_figures_of (aC (eV 1) (aC (eC (.int 60)) (aN)))) (aC (eC (.int 0)) (aN))))) (sSkip))
    (sSeq (sVal 4 (eC (.int 1)))
    (sSeq (sIf (cV (e2 dNe (eV 1) (eC (.str "")))) (sVal 4 (eCall 2 d_P_figures_of (aC (eV 1) (aC (eC (.int 60)) (aN))))) (sSkip))
    (sRet (eTup (aC (eV 4) (aC (eCall 1 d_P_power_of (aC (eV 3) (aN))) (aN))))))))
def d_P_term_of : List D → R T := runD 5 b_P_term_of
/-- signed -/
def b_P_signed : MS :=
    sSeq (sIf (cV (e2 dEq (eV 1) (eC (.int 0)))) (sSeq (sIf (cV (eM1 mStart (e2 dIx (eV 0) (eC (.int 0))) (eC (.str "-")))) (sRet (eTup (aC (eC (.bl true)) (aC (eSl (e2 dIx (eV 0) (eC (.int 0))) (oS (eC (.int 1))) (oN)) (aN))))) (sSkip))
    (sRet (eTup (aC (eC (.bl false)) (aC (e2 dIx (eV 0) (eC (.int 0))) (aN)))))) (sSkip))
    (sSeq (sIf (cV (e2 (dInS true) (e2 dIx (eV 0) (e2 dSub (eV 1) (eC (.int 1)))) (eTup (aC (eC (.str "+")) (aC (eC (.str "-")) (aN)))))) (sRaise .noText) (sSkip))
    (sRet (eTup (aC (e2 dEq (e2 dIx (eV 0) (e2 dSub (eV 1) (eC (.int 1)))) (eC (.str "-"))) (aC (e2 dIx (eV 0) (eV 1)) (aN))))))
def d_P_signed : List D → R T := runD 2 b_P_signed
/-- read -/
def b_P_read : MS :=
    sSeq (sIf (cV (e2 dEq (eV 0) (eC (.str "0")))) (sRet (eL (aN))) (sSkip))
    (sSeq (sVal 1 (eM1 mSplit (eV 0) (eC (.str " "))))
    (sSeq (sIf (cV (e2 dEq (e2 dMod (eB bLen (aC (eV 1) (aN))) (eC (.int 2))) (eC (.int 0)))) (sRaise .noText) (sSkip))
    (sSeq (sOwn 2 (eRep (aC (eC (.int 0)) (aN)) (eC (.int 12))))
    (sSeq (sVal 3 (eC (.int 12)))
    (sSeq (sFor (iA rng3 (aC (eC (.int 0)) (aC (eB bLen (aC (eV 1) (aN))) (aC (eC (.int 2)) (aN))))) (gN 4) (sSeq (sAsg (gT 2 (gsC (gN 5) (gsC (gN 6) (gsN)))) (eCall 2 d_P_signed (aC (eV 1) (aC (eV 4) (aN)))))
    (sSeq (sAsg (gT 2 (gsC (gN 7) (gsC (gN 8) (gsN)))) (eCall 1 d_P_term_of (aC (eV 6) (aN))))
    (sSeq (sIf (cV (e2 dGe (eV 8) (eV 3))) (sRaise .noText) (sSkip))
    (sSeq (sSet 2 (eV 8) (eIf (cV (eV 5)) (e1 dNeg (eV 7)) (eV 7)))
    (sVal 3 (eV 8)))))))
    (sRet (eCall 1 d_P_trimmed (aC (eV 2) (aN)))))))))
def d_P_read : List D → R T := runD 9 b_P_read
/-- shown_term -/
def b_P_shown_term : MS :=
    sSeq (sIf (cV (e2 dEq (eV 1) (eC (.int 0)))) (sRet (eB bStr (aC (eV 0) (aN)))) (sSkip))
    (sSeq (sVal 2 (eIf (cV (e2 dEq (eV 0) (eC (.int 1)))) (eC (.str "")) (eB bStr (aC (eV 0) (aN)))))
    (sSeq (sIf (cV (e2 dEq (eV 1) (eC (.int 1)))) (sRet (e2 dAdd (eV 2) (eC (.str "x")))) (sSkip))
    (sRet (e2 dAdd (e2 dAdd (eV 2) (eC (.str "x^"))) (eB bStr (aC (eV 1) (aN)))))))
def d_P_shown_term : List D → R T := runD 3 b_P_shown_term
/-- shown -/
def b_P_shown : MS :=
    sSeq (sVal 1 (eCall 1 d_P_trimmed (aC (eV 0) (aN))))
    (sSeq (sIf (cV (e2 dGt (eB bLen (aC (eV 1) (aN))) (eC (.int 12)))) (sRaise .tooGreat) (sSkip))
    (sSeq (sFor (iL (eV 1)) (gN 2) (sIf (cV (e2 dGe (eB bAbs (aC (eV 2) (aN))) (e2 dPow (eC (.int 10)) (eC (.int 60))))) (sRaise .tooGreat) (sSkip)))
    (sSeq (sVal 3 (eC (.str "")))
    (sSeq (sFor (iS revF (aC (lEnumerate (aC (eV 1) (aN))) (aN))) (gT 2 (gsC (gN 4) (gsC (gN 2) (gsN)))) (sSeq (sIf (cV (e2 dEq (eV 2) (eC (.int 0)))) (sCt) (sSkip))
    (sSeq (sIf (cV (e2 dEq (eV 3) (eC (.str "")))) (sVal 3 (eIf (cV (e2 dLt (eV 2) (eC (.int 0)))) (eC (.str "-")) (eC (.str "")))) (sVal 3 (e2 dAdd (eV 3) (eIf (cV (e2 dLt (eV 2) (eC (.int 0)))) (eC (.str " - ")) (eC (.str " + "))))))
    (sVal 3 (e2 dAdd (eV 3) (eCall 2 d_P_shown_term (aC (eB bAbs (aC (eV 2) (aN))) (aC (eV 4) (aN)))))))))
    (sRet (eIf (cV (e2 dEq (eV 3) (eC (.str "")))) (eC (.str "0")) (eV 3)))))))
def d_P_shown : List D → R T := runD 5 b_P_shown
/-- _law_drawn -/
def b_L_drawn1 : MS :=
    sSeq (sOwn 1 (eL (aN)))
    (sSeq (sFor (iL (eV 0)) (gN 2) (sSeq (sVal 3 (e2 dMod (e2 dDiv (eV 2) (eC (.int 6))) (e2 dPow (eC (.int 10)) (eC (.int 60)))))
    (sSeq (sVal 4 (e2 dMod (eV 2) (eC (.int 6))))
    (sApp 1 (e2 dIx (eL (aC (eC (.int 0)) (aC (eC (.int 1)) (aC (e2 dSub (eC (.int 0)) (eC (.int 1))) (aC (e2 dMod (eV 3) (eC (.int 12))) (aC (eV 3) (aC (e2 dSub (eC (.int 0)) (eV 3)) (aN)))))))) (eV 4))))))
    (sRet (eV 1)))
def d_L_drawn1 : List D → R T := runD 5 b_L_drawn1
/-- _law_shown -/
def b_L_shown : MS :=
    sSeq (sVal 1 (eC (.str "")))
    (sSeq (sFor (iA rng1 (aC (eB bLen (aC (eV 0) (aN))) (aN))) (gN 2) (sSeq (sVal 3 (e2 dSub (e2 dSub (eB bLen (aC (eV 0) (aN))) (eC (.int 1))) (eV 2)))
    (sSeq (sVal 4 (e2 dIx (eV 0) (eV 3)))
    (sSeq (sIf (cV (e2 dEq (eV 4) (eC (.int 0)))) (sCt) (sSkip))
    (sSeq (sVal 5 (e2 dIx (eL (aC (eC (.str " + ")) (aC (eC (.str " - ")) (aN)))) (eB bInt (aC (e2 dLt (eV 4) (eC (.int 0))) (aN)))))
    (sSeq (sIf (cV (e2 dEq (eV 1) (eC (.str "")))) (sVal 5 (e2 dIx (eL (aC (eC (.str "")) (aC (eC (.str "-")) (aN)))) (eB bInt (aC (e2 dLt (eV 4) (eC (.int 0))) (aN))))) (sSkip))
    (sSeq (sVal 6 (eC (.str "")))
    (sSeq (sIf (cOr (cV (e2 dGt (eB bAbs (aC (eV 4) (aN))) (eC (.int 1)))) (cV (e2 dEq (eV 3) (eC (.int 0))))) (sVal 6 (eB bStr (aC (eB bAbs (aC (eV 4) (aN))) (aN)))) (sSkip))
    (sSeq (sVal 7 (e2 dIx (eL (aC (eC (.str "")) (aC (eC (.str "x")) (aC (e2 dAdd (eC (.str "x^")) (eB bStr (aC (eV 3) (aN)))) (aN))))) (eB bMin (aC (eV 3) (aC (eC (.int 2)) (aN))))))
    (sVal 1 (e2 dAdd (e2 dAdd (e2 dAdd (eV 1) (eV 5)) (eV 6)) (eV 7))))))))))))
    (sSeq (sIf (cV (e2 dEq (eV 1) (eC (.str "")))) (sRet (eC (.str "0"))) (sSkip))
    (sRet (eV 1))))
def d_L_shown : List D → R T := runD 8 b_L_shown
/-- _law_term -/
def b_L_term : MS :=
    sSeq (sVal 3 (eB bStr (aC (e2 dAdd (eC (.int 1)) (e2 dMod (e2 dDiv (eV 0) (eC (.int 5))) (e2 dSub (e2 dPow (eC (.int 10)) (eC (.int 60))) (eC (.int 1))))) (aN))))
    (sSeq (sIf (cV (e2 dEq (e2 dMod (eV 0) (eC (.int 5))) (eC (.int 3)))) (sVal 3 (eC (.str "1"))) (sSkip))
    (sSeq (sIf (cOr (cAnd (cV (e2 dEq (e2 dMod (eV 0) (eC (.int 5))) (eC (.int 4)))) (cV (e2 dGt (eV 1) (eC (.int 0))))) (cAnd (cV (eV 2)) (cAnd (cV (e2 dEq (eV 3) (eC (.str "1")))) (cV (e2 dGt (eV 1) (eC (.int 0))))))) (sVal 3 (eC (.str ""))) (sSkip))
    (sRet (e2 dAdd (eV 3) (e2 dIx (eL (aC (eC (.str "")) (aC (eC (.str "x")) (aC (e2 dAdd (eC (.str "x^")) (eB bStr (aC (eV 1) (aN)))) (aN))))) (eB bMin (aC (eV 1) (aC (eC (.int 2)) (aN)))))))))
def d_L_term : List D → R T := runD 4 b_L_term
/-- _law_text -/
def b_L_text : MS :=
    sSeq (sVal 2 (eC (.str "")))
    (sSeq (sFor (iA rng1 (aC (eC (.int 12)) (aN))) (gN 3) (sSeq (sVal 4 (eCall 2 d_L_at (aC (eV 0) (aC (eV 3) (aN)))))
    (sIf (cV (e2 dGt (e2 dMod (eV 4) (eC (.int 5))) (eC (.int 0)))) (sSeq (sVal 5 (e2 dIx (eL (aC (eC (.str " + ")) (aC (eC (.str " - ")) (aN)))) (e2 dMod (e2 dDiv (eV 4) (eC (.int 5))) (eC (.int 2)))))
    (sSeq (sIf (cV (e2 dEq (eV 2) (eC (.str "")))) (sVal 5 (e2 dIx (eL (aC (eC (.str "")) (aC (eC (.str "-")) (aN)))) (e2 dMod (e2 dDiv (eV 4) (eC (.int 5))) (eC (.int 2))))) (sSkip))
    (sVal 2 (e2 dAdd (e2 dAdd (eV 2) (eV 5)) (eCall 3 d_L_term (aC (eV 4) (aC (e2 dSub (eC (.int 11)) (eV 3)) (aC (eV 1) (aN))))))))) (sSkip))))
    (sSeq (sIf (cV (e2 dEq (eV 2) (eC (.str "")))) (sRet (eC (.str "0"))) (sSkip))
    (sRet (eV 2))))
def d_L_text : List D → R T := runD 6 b_L_text
/-- _law_due -/
def b_L_due9 : MS :=
    sSeq (sOwn 1 (eL (aN)))
    (sSeq (sFor (iA rng1 (aC (eC (.int 12)) (aN))) (gN 2) (sSeq (sVal 3 (eCall 2 d_L_at (aC (eV 0) (aC (e2 dSub (eC (.int 11)) (eV 2)) (aN)))))
    (sSeq (sVal 4 (e2 dAdd (eC (.int 1)) (e2 dMod (e2 dDiv (eV 3) (eC (.int 5))) (e2 dSub (e2 dPow (eC (.int 10)) (eC (.int 60))) (eC (.int 1))))))
    (sSeq (sIf (cOr (cV (e2 dEq (e2 dMod (eV 3) (eC (.int 5))) (eC (.int 3)))) (cAnd (cV (e2 dEq (e2 dMod (eV 3) (eC (.int 5))) (eC (.int 4)))) (cV (e2 dGt (eV 2) (eC (.int 0)))))) (sVal 4 (eC (.int 1))) (sSkip))
    (sApp 1 (e2 dMul (e2 dIx (eL (aC (eV 4) (aC (e2 dSub (eC (.int 0)) (eV 4)) (aN)))) (e2 dMod (e2 dDiv (eV 3) (eC (.int 5))) (eC (.int 2)))) (eB bInt (aC (e2 dGt (e2 dMod (eV 3) (eC (.int 5))) (eC (.int 0))) (aN)))))))))
    (sRet (eCall 1 d_L_trimmed (aC (eV 1) (aN)))))
def d_L_due9 : List D → R T := runD 5 b_L_due9
/-- law -/
def b_law40 : MS :=
    sSeq (sVal 1 (eCall 2 d_L_text (aC (eV 0) (aC (eC (.bl false)) (aN)))))
    (sSeq (sVal 2 (eCall 1 d_L_due9 (aC (eV 0) (aN))))
    (sSeq (sOwn 3 (eCall 1 d_P_read (aC (eV 1) (aN))))
    (sSeq (sIf (cNot (cV (eCall 2 d_L_same (aC (eV 3) (aC (eV 2) (aN)))))) (sRet (eC (.bl false))) (sSkip))
    (sSeq (sVal 4 (eCall 1 d_P_shown (aC (eB bList (aC (eV 2) (aN))) (aN))))
    (sSeq (sIf (cOr (cNot (cV (eIsi "str" (eV 4)))) (cV (e2 dNe (eV 4) (eCall 2 d_L_text (aC (eV 0) (aC (eC (.bl true)) (aN))))))) (sRet (eC (.bl false))) (sSkip))
    (sSeq (sApp 3 (eC (.int 1)))
    (sRet (eAnd (cV (eCall 2 d_L_same (aC (eCall 1 d_P_read (aC (eV 1) (aN))) (aC (eV 2) (aN))))) (e2 dEq (eCall 1 d_P_shown (aC (eCall 1 d_P_read (aC (eV 1) (aN))) (aN))) (eV 4))))))))))
def d_law40 : List D → R T := runD 5 b_law40
/-- _law_count -/
def b_L_count : MS :=
    sSeq (sIf (cOr (cV (e2 dLt (eB bLen (aC (eV 0) (aN))) (eC (.int 1)))) (cOr (cV (e2 dGt (eB bLen (aC (eV 0) (aN))) (eV 1))) (cV (e2 dEq (e2 dIx (eV 0) (eC (.int 0))) (eC (.str "0")))))) (sRet (e1 dNeg (eC (.int 1)))) (sSkip))
    (sSeq (sFor (iTx (eV 0)) (gN 2) (sIf (cV (e2 (dInC true) (eV 2) (eC (.str "0123456789")))) (sRet (e1 dNeg (eC (.int 1)))) (sSkip)))
    (sRet (eB bIntS (aC (eV 0) (aN)))))
def d_L_count : List D → R T := runD 3 b_L_count
/-- _law_term -/
def b_L_term1 : MS :=
    sSeq (sVal 1 (eM1 mFind (eV 0) (eC (.str "x"))))
    (sSeq (sIf (cV (e2 dLt (eV 1) (eC (.int 0)))) (sRet (eTup (aC (eCall 2 d_L_count (aC (eV 0) (aC (eC (.int 60)) (aN)))) (aC (eC (.int 0)) (aN))))) (sSkip))
    (sSeq (sVal 2 (eC (.int 1)))
    (sSeq (sIf (cV (e2 dGt (eV 1) (eC (.int 0)))) (sVal 2 (eCall 2 d_L_count (aC (eSl (eV 0) (oN) (oS (eV 1))) (aC (eC (.int 60)) (aN))))) (sSkip))
    (sSeq (sVal 3 (eSl (eV 0) (oS (e2 dAdd (eV 1) (eC (.int 1)))) (oN)))
    (sSeq (sIf (cV (e2 dEq (eV 3) (eC (.str "")))) (sRet (eTup (aC (eV 2) (aC (eC (.int 1)) (aN))))) (sSkip))
    (sSeq (sVal 4 (eCall 2 d_L_count (aC (eSl (eV 3) (oS (eC (.int 1))) (oN)) (aC (eC (.int 2)) (aN)))))
    (sSeq (sIf (cOr (cV (e2 dNe (e2 dIx (eV 3) (eC (.int 0))) (eC (.str "^")))) (cOr (cV (e2 dLt (eV 4) (eC (.int 2)))) (cV (e2 dGt (eV 4) (eC (.int 11)))))) (sRet (eTup (aC (e1 dNeg (eC (.int 1))) (aC (eC (.int 0)) (aN))))) (sSkip))
    (sRet (eTup (aC (eV 2) (aC (eV 4) (aN))))))))))))
def d_L_term1 : List D → R T := runD 5 b_L_term1
/-- _law_read -/
def b_L_read : MS :=
    sSeq (sIf (cV (e2 dEq (eV 0) (eC (.str "0")))) (sRet (eL (aN))) (sSkip))
    (sSeq (sVal 1 (eM1 mSplit (eV 0) (eC (.str " "))))
    (sSeq (sIf (cV (e2 dEq (eSl (e2 dIx (eV 1) (eC (.int 0))) (oN) (oS (eC (.int 1)))) (eC (.str "-")))) (sVal 1 (e2 dAdd (eL (aC (eC (.str "-")) (aC (eSl (e2 dIx (eV 1) (eC (.int 0))) (oS (eC (.int 1))) (oN)) (aN)))) (eSl (eV 1) (oS (eC (.int 1))) (oN)))) (sVal 1 (e2 dAdd (eL (aC (eC (.str "+")) (aN))) (eV 1))))
    (sSeq (sIf (cV (e2 dEq (e2 dMod (eB bLen (aC (eV 1) (aN))) (eC (.int 2))) (eC (.int 1)))) (sRet (eC .non)) (sSkip))
    (sSeq (sOwn 2 (eRep (aC (eC (.int 0)) (aN)) (eC (.int 12))))
    (sSeq (sVal 3 (eC (.int 12)))
    (sSeq (sFor (iA rng3 (aC (eC (.int 0)) (aC (eB bLen (aC (eV 1) (aN))) (aC (eC (.int 2)) (aN))))) (gN 4) (sSeq (sAsg (gT 2 (gsC (gN 5) (gsC (gN 6) (gsN)))) (eCall 1 d_L_term1 (aC (e2 dIx (eV 1) (e2 dAdd (eV 4) (eC (.int 1)))) (aN))))
    (sSeq (sIf (cOr (cV (e2 (dInS true) (e2 dIx (eV 1) (eV 4)) (eTup (aC (eC (.str "+")) (aC (eC (.str "-")) (aN)))))) (cOr (cV (e2 dLt (eV 5) (eC (.int 1)))) (cV (e2 dGe (eV 6) (eV 3))))) (sRet (eC .non)) (sSkip))
    (sSeq (sSet 2 (eV 6) (e2 dIx (eL (aC (eV 5) (aC (e2 dSub (eC (.int 0)) (eV 5)) (aN)))) (eB bInt (aC (e2 dEq (e2 dIx (eV 1) (eV 4)) (eC (.str "-"))) (aN)))))
    (sVal 3 (eV 6))))))
    (sRet (eCall 1 d_L_trimmed (aC (eV 2) (aN))))))))))
def d_L_read : List D → R T := runD 7 b_L_read
/-- _law_odd -/
def b_L_odd : MS :=
    sSeq (sVal 1 (eL (aC (eC (.str "")) (aC (eC (.str " ")) (aC (eC (.str "-")) (aC (eC (.str "+")) (aC (eC (.str "00")) (aC (eC (.str "0x")) (aC (eC (.str "-0")) (aC (eC (.str "x + 0")) (aC (eC (.str "x^1")) (aC (eC (.str "x^0")) (aC (eC (.str "x^02")) (aC (eC (.str "x^12")) (aC (eC (.str "2 x")) (aC (eC (.str "x +1")) (aN)))))))))))))))))
    (sSeq (sVal 1 (e2 dAdd (eV 1) (eL (aC (eC (.str "x + -1")) (aC (eC (.str "1 + x")) (aC (eC (.str "x + x")) (aC (eC (.str "- x")) (aC (eC (.str "+x")) (aC (eC (.str "1x")) (aC (eC (.str "x^2x")) (aC (eC (.str "xx")) (aC (eC (.str "x^ 2")) (aC (eC (.str "x^2 + 3x")) (aN))))))))))))))
    (sRet (e2 dIx (eV 1) (e2 dMod (eV 0) (eC (.int 24))))))
def d_L_odd : List D → R T := runD 2 b_L_odd
/-- _law_bent -/
def b_L_bent : MS :=
    sSeq (sVal 2 (eCall 3 d_L_thing (aC (eV 1) (aC (eC (.int 31)) (aC (e2 dAdd (eB bLen (aC (eV 0) (aN))) (eC (.int 1))) (aN))))))
    (sSeq (sVal 3 (e2 dIx (eC (.str " +-x^0123456789.a")) (eCall 3 d_L_thing (aC (eV 1) (aC (eC (.int 32)) (aC (eC (.int 17)) (aN)))))))
    (sSeq (sVal 4 (e2 dMod (eV 1) (eC (.int 9))))
    (sSeq (sIf (cV (e2 dEq (eV 4) (eC (.int 1)))) (sRet (e2 dAdd (e2 dAdd (eSl (eV 0) (oN) (oS (eV 2))) (eV 3)) (eSl (eV 0) (oS (eV 2)) (oN)))) (sSkip))
    (sSeq (sIf (cV (e2 dEq (eV 4) (eC (.int 2)))) (sRet (e2 dAdd (e2 dAdd (eSl (eV 0) (oN) (oS (eV 2))) (eV 3)) (eSl (eV 0) (oS (e2 dAdd (eV 2) (eC (.int 1)))) (oN)))) (sSkip))
    (sSeq (sIf (cV (e2 dEq (eV 4) (eC (.int 3)))) (sRet (e2 dAdd (eSl (eV 0) (oN) (oS (eV 2))) (eSl (eV 0) (oS (e2 dAdd (eV 2) (eC (.int 1)))) (oN)))) (sSkip))
    (sSeq (sIf (cV (e2 dEq (eV 4) (eC (.int 4)))) (sSeq (sVal 5 (e2 dAdd (eSl (eV 0) (oS (e2 dAdd (eV 2) (eC (.int 1)))) (oS (e2 dAdd (eV 2) (eC (.int 2))))) (eSl (eV 0) (oS (eV 2)) (oS (e2 dAdd (eV 2) (eC (.int 1)))))))
    (sRet (e2 dAdd (e2 dAdd (eSl (eV 0) (oN) (oS (eV 2))) (eV 5)) (eSl (eV 0) (oS (e2 dAdd (eV 2) (eC (.int 2)))) (oN))))) (sSkip))
    (sSeq (sIf (cV (e2 dEq (eV 4) (eC (.int 5)))) (sRet (e2 dAdd (eV 0) (e2 dIx (eL (aC (eC (.str " ")) (aC (eC (.str " + 1")) (aC (eC (.str " - x")) (aC (eC (.str " + x^11")) (aN)))))) (e2 dMod (e2 dDiv (eV 1) (eC (.int 9))) (eC (.int 4)))))) (sSkip))
    (sSeq (sIf (cV (e2 dEq (eV 4) (eC (.int 6)))) (sRet (e2 dAdd (e2 dIx (eL (aC (eC (.str " ")) (aC (eC (.str "1 + ")) (aC (eC (.str "x^11 - ")) (aC (eC (.str "-")) (aN)))))) (e2 dMod (e2 dDiv (eV 1) (eC (.int 9))) (eC (.int 4)))) (eV 0))) (sSkip))
    (sSeq (sIf (cV (e2 dEq (eV 4) (eC (.int 7)))) (sRet (eCall 1 d_L_odd (aC (e2 dDiv (eV 1) (eC (.int 9))) (aN)))) (sSkip))
    (sSeq (sIf (cV (e2 dEq (eV 4) (eC (.int 8)))) (sRet (e2 dAdd (e2 dAdd (eC (.str "1")) (e2 dMulS (eC (.str "0")) (e2 dAdd (eC (.int 58)) (e2 dMod (e2 dDiv (eV 1) (eC (.int 9))) (eC (.int 3)))))) (e2 dIx (eL (aC (eC (.str "")) (aC (eC (.str "x")) (aC (eC (.str "x^2")) (aN))))) (e2 dMod (e2 dDiv (eV 1) (eC (.int 27))) (eC (.int 3)))))) (sSkip))
    (sRet (eV 0))))))))))))
def d_L_bent : List D → R T := runD 6 b_L_bent
end
end RF.M

set_option Elab.async false
set_option linter.all false
set_option maxRecDepth 100000
set_option autoImplicit false
/-! the pure part: try, isinstance of refusals, texts -/
namespace RF
open PySem PySem.Spec L2
section
variable {cs : List Cl} {c C : Cl} {i j : Nat} {body : MS} {ρ : Env} {P : Post} {g : Cl → Bool} {m : ME} {ks : List Str} {l : List D} {r : Fl}
def tryX (cs : List Cl) (c : Cl) (i j : Nat) (ρ' : Env) (x : Xc) : Fl := if x.C ∈ cs ∧ i < ρ'.length then (if x.C.sub c = true then .nx ((ρ'.set j (.val (.exc x.C x.ks x.l))).set i .no) else .ex ρ' x) else .bad
def tryK (cs : List Cl) (c : Cl) (i j : Nat) (r : Fl) : Fl := match r with
  | .ex ρ' x => tryX cs c i j ρ' x
  | r => r
@[simp] theorem p_sTry : sTry cs c i j body ρ = tryK cs c i j (body ρ) := by
  unfold sTry tryK tryX
  cases body ρ <;> rfl
@[simp] theorem wf_try : WFl (tryK cs c i j r) P = WFl r ⟨P.nx, P.ct, P.bk, P.rt, fun ρ x => WFl (tryX cs c i j ρ x) P⟩ := by
  cases r <;> simp only [tryK, wf_nx, wf_ct, wf_bk, wf_rt, wf_ex, wf_bad]
theorem sub_exA : ∀ C ∈ exA, C.sub .restError = true := allA rfl rfl rfl rfl rfl rfl rfl rfl
@[simp] theorem tryX_mk (ρ : Env) (h : C ∈ exA) (hi : i < ρ.length) : tryX exA .restError i j ρ ⟨C, ks, l⟩ = .nx ((ρ.set j (.val (.exc C ks l))).set i .no) := by
  unfold tryX
  rw [if_pos ⟨h, hi⟩]
  exact if_pos (sub_exA C h)
@[simp] theorem a_badRest : Cl.badRest ∈ exA := by decide
@[simp] theorem a_badForm : Cl.badForm ∈ exA := by decide
@[simp] theorem a_badTable : Cl.badTable ∈ exA := by decide
@[simp] theorem a_noForm : Cl.noForm ∈ exA := by decide
@[simp] theorem a_meets : Cl.meets ∈ exA := by decide
@[simp] theorem a_lone : Cl.lone ∈ exA := by decide
@[simp] theorem a_tooGreat : Cl.tooGreat ∈ exA := by decide
@[simp] theorem a_noText : Cl.noText ∈ exA := by decide
@[simp] theorem p_isx : eIsx cs g m ρ = (m ρ).bind fun t => lift ((isxD cs g t.d).map fun b => T.st (.bl b)) := (rfl)
@[simp] theorem isx_non : isxD cs g .non = some false := (rfl)
@[simp] theorem isx_exc (h : C ∈ exA) : isxD exA g (.exc C ks l) = some (g C) := if_pos h
@[simp] theorem p_isNon0 : isNon .non = true := (rfl)
@[simp] theorem p_isNonX : isNon (.exc C ks l) = false := (rfl)
@[simp] theorem p_isNonL (l : List D) : isNon (.lst l) = false := (rfl)
@[simp] theorem p_isNonI (a : Int) : isNon (.int a) = false := (rfl)
@[simp] theorem p_isNonT (l : List D) : isNon (.tup l) = false := (rfl)
end
/-! lists of one text -/
theorem dp_str {x : Str} (h : PyData.strOk x = true) : Dq 0 (.str x) := by
  unfold Dq toPy PyData.canLay0 PyData.depth; exact ⟨h, Nat.le_refl _⟩
theorem eqD_str (x y : Str) : eqD (.str x) (.str y) = decide (x = y) := by
  unfold eqD toPy PyData.eqv
  by_cases h : x = y <;> simp [h]
theorem eqD_str1 (x y : Str) : eqD (.lst [.str x]) (.lst [.str y]) = decide (x = y) := by
  have h := eqD_str x y
  unfold eqD at h ⊢
  unfold toPy PyData.eqv
  simp only [toPys, PyData.eqvAll, h, Bool.and_true]
theorem sh_str1 {x : Str} (h : PyData.strOk x = true) : shD (.lst [.str x]) = true :=
  (dp_lst (k := 0) (l := [.str x]) fun d hd => by rw [List.mem_singleton.mp hd]; exact dp_str h).sh (by decide)
theorem p_eqS1 {x y : Str} (h : PyData.strOk x = true) (h' : PyData.strOk y = true) : dEq (.lst [.str x]) (.lst [.str y]) = some (.st (.bl (decide (x = y)))) := by
  unfold dEq
  rw [if_pos ⟨sh_str1 h, sh_str1 h'⟩, eqD_str1]
theorem p_neS1 {x y : Str} (h : PyData.strOk x = true) (h' : PyData.strOk y = true) : dNe (.lst [.str x]) (.lst [.str y]) = some (.st (.bl (!decide (x = y)))) := by
  unfold dNe
  rw [if_pos ⟨sh_str1 h, sh_str1 h'⟩, eqD_str1]
end RF

set_option Elab.async false
set_option linter.all false
set_option maxRecDepth 100000
set_option autoImplicit false
/-! the pure part: lists of lists of a slot's own -/
namespace RF
open PySem PySem.Spec L2
@[irreducible] def nl2 (L : List (List Int)) : List (List D) := L.map nl
theorem nl2_eq (L : List (List Int)) : nl2 L = L.map nl := by unfold nl2; rfl
section
variable {g : MG} {me : ME} {ρ : Env}
theorem comp2_gen {α : Type} (f : α → D) (h : α → List Int) : ∀ l : List α, (∀ a ∈ l, gP (g (f a) ρ) fun ρ1 => me ρ1 = .ok (.fr (nl (h a)))) → comp2D g me ρ (l.map f) = .ok (nl2 (l.map h))
  | [], _ => by rw [nl2_eq]; rfl
  | a :: l, H => by
    have h1 := H a (List.mem_cons_self ..)
    have ih := comp2_gen f h l fun b hb => H b (List.mem_cons_of_mem _ hb)
    rw [List.map_cons]
    unfold comp2D
    cases e : g (f a) ρ with
    | none => rw [e] at h1; exact h1.elim
    | some ρ1 =>
      rw [e] at h1
      have h1 : me ρ1 = .ok (.fr (nl (h a))) := h1
      show (noX (me ρ1)).bind (fun t => (lift (frT t)).bind fun x => (comp2D g me ρ (l.map f)).bind fun r => .ok (x :: r)) = _
      rw [h1, ih]
      rw [nl2_eq, nl2_eq]
      rfl
theorem comp2_rng (n : Nat) (h : Nat → List Int) (H : ∀ i < n, gP (g (.int (i : Nat)) ρ) fun ρ1 => me ρ1 = .ok (.fr (nl (h i)))) : comp2D g me ρ (rngD 0 n) = .ok (nl2 ((List.range n).map h)) := by
  unfold rngD
  refine comp2_gen _ h _ fun i hi => ?_
  have := H i (List.mem_range.mp hi)
  rw [Int.zero_add]
  exact this
theorem comp2_rows (L : List (List Int)) (h : List Int → List Int) (H : ∀ a ∈ L, gP (g (.lst (nl a)) ρ) fun ρ1 => me ρ1 = .ok (.fr (nl (h a)))) : comp2D g me ρ (nll L) = .ok (nl2 (L.map h)) := by
  unfold nll
  exact comp2_gen _ h L H
end
def slOwn2 (s : Sl) (k : List (List D) → Fl) : Fl := match s with
  | .own2 ls => k ls
  | _ => .bad
@[simp] theorem slOwn2_own (ls : List (List D)) (k : List (List D) → Fl) : slOwn2 (.own2 ls) k = k ls := (rfl)
section
variable {ρ : Env} {i j : Nat} {mj mk me m : ME} {mi : MI} {vs : List Nat} {g : MG} {s : MS}
def rOf (r : R (List (List D))) (k : List (List D) → Fl) : Fl := match r with
  | .ok ls => k ls
  | _ => .bad
@[simp] theorem rOf_ok (ls : List (List D)) (k : List (List D) → Fl) : rOf (.ok ls) k = k ls := (rfl)
theorem p_sOwn2 : sOwn2 i mi vs g me ρ = if noOwn ρ vs = true then toS ρ (mi ρ) fun ds => rOf (comp2D g me (wipeE ρ vs) ds) fun ls => if ds.length ≤ 100000 then .nx (ρ.set i (.own2 ls)) else .bad else .bad := (rfl)
@[simp] theorem p_sSet2 : sSet2 i mj mk me ρ = toS ρ (me ρ) fun t => slOwn2 (slG ρ i) fun ls => toS ρ (mj ρ) fun j => toS ρ (lift (rowIx ls j.d)) fun r => toS ρ (mk ρ) fun k => nxO ((stT t.set).bind fun d => (setL r.2 k.d d).map fun l' => ρ.set i (.own2 (ls.set r.1 l'))) := (rfl)
@[simp] theorem p_sApp2 : sApp2 i mj me ρ = slOwn2 (slG ρ i) fun ls => toS ρ (mj ρ) fun j => toS ρ (lift (rowIx ls j.d)) fun r => toS ρ (me ρ) fun t => nxO ((stT t.set).bind fun d => if r.2.length < 100000 then some (ρ.set i (.own2 (ls.set r.1 (r.2 ++ [d])))) else none) := (rfl)
@[simp] theorem p_sPop2 : sPop2 i mj ρ = slOwn2 (slG ρ i) fun ls => toS ρ (mj ρ) fun j => toS ρ (lift (rowIx ls j.d)) fun r => if r.2 = [] then .bad else .nx (ρ.set i (.own2 (ls.set r.1 r.2.dropLast))) := (rfl)
@[simp] theorem p_sNew2 : sNew2 i ρ = .nx (ρ.set i (.own2 (nl2 []))) := by rw [nl2_eq]; rfl
@[simp] theorem p_sMove2 : sMove2 i j ρ = slOwn2 (slG ρ i) fun ls => slOwn (slG ρ j) fun l => if ls.length < 100000 then .nx ((ρ.set i (.own2 (ls ++ [l]))).set j .no) else .bad := (rfl)
def slFzz (ρ : Env) (i : Nat) (s : Sl) : Env := match s with
  | .own2 ls => ρ.set i (.val (.lst (ls.map D.lst)))
  | .pr l d => ρ.set i (.val (.tup [.lst l, d]))
  | _ => ρ
@[simp] theorem slFzz_pr (l : List D) (d : D) : slFzz ρ i (.pr l d) = ρ.set i (.val (.tup [.lst l, d])) := (rfl)
@[simp] theorem slFzz_val (d : D) : slFzz ρ i (.val d) = ρ := (rfl)
@[simp] theorem p_fzz : fzz i ρ = slFzz ρ i (slG ρ i) := (rfl)
@[simp] theorem slFzz_own2 (L : List (List Int)) : slFzz ρ i (.own2 (nl2 L)) = ρ.set i (.val (.lst (nll L))) := by
  rw [nl2_eq]
  unfold slFzz nll
  show ρ.set i (.val (.lst ((L.map nl).map D.lst))) = _
  rw [List.map_map]
  rfl
@[simp] theorem p_sFzz : sFzz i s ρ = s (fzz i ρ) := (rfl)
@[simp] theorem p_eScal : eScal i m ρ = (noX (m (fzz i ρ))).bind fun t => lift (scal t) := (rfl)
@[simp] theorem p_noX {α : Type} (a : α) : noX (R.ok a) = .ok a := (rfl)
@[simp] theorem scal_int (a : Int) : scal (.st (.int a)) = some (.st (.int a)) := (rfl)
@[simp] theorem scal_bl (a : Bool) : scal (.st (.bl a)) = some (.st (.bl a)) := (rfl)
@[simp] theorem scal_fr (l : List Int) : scal (.fr (nl l)) = some (.fr (nl l)) := by
  refine if_pos ?_
  unfold nl
  rw [List.all_eq_true]
  intro d hd
  obtain ⟨a, _, rfl⟩ := List.mem_map.mp hd
  rfl
theorem rowIx_at {L : List (List Int)} {z : Int} (h : 0 ≤ z) (h1 : z < L.length) : rowIx (nl2 L) (.int z) = some (z.toNat, nl (gr L z.toNat)) := by
  rw [nl2_eq]
  show ((ixN (L.map nl).length z).bind fun j => ((L.map nl)[j]?).map fun l => (j, l)) = _
  rw [List.length_map, ixN_pos h h1, Option.bind_some, List.getElem?_map]
  unfold gr
  rw [List.getD_eq_getElem?_getD, List.getElem?_eq_getElem (by omega)]
  rfl
@[simp] theorem nl2_set (L : List (List Int)) (j : Nat) (r : List Int) : (nl2 L).set j (nl r) = nl2 (L.set j r) := by rw [nl2_eq, nl2_eq, List.map_set]
@[simp] theorem nl2_app (L : List (List Int)) (r : List Int) : nl2 L ++ [nl r] = nl2 (L ++ [r]) := by rw [nl2_eq, nl2_eq, List.map_append]; rfl
@[simp] theorem nl2_length (L : List (List Int)) : (nl2 L).length = L.length := by rw [nl2_eq, List.length_map]
@[simp] theorem slNo_own2 (L : List (List D)) : slNo (.own2 L) = false := (rfl)
end
end RF

set_option Elab.async false
set_option linter.all false
set_option maxRecDepth 100000
set_option autoImplicit false
/-! the pure part: what is handed back as the caller's own -/
namespace RF
open PySem PySem.Spec L2
section
variable {ρ : Env} {i j n : Nat} {m m' : ME} {ma : MA} {s : MS} {mo : MB}
@[simp] theorem p_oSeq : oSeq s mo ρ = seqO (s ρ) mo := (rfl)
@[simp] theorem p_seqON (ρ' : Env) : seqO (.nx ρ') mo = mo ρ' := (rfl)
@[simp] theorem p_seqOR (t : T) : seqO (.rt t) mo = .ok (.pl (toFr t)) := (rfl)
@[simp] theorem p_seqOX (ρ' : Env) (x : Xc) : seqO (.ex ρ' x) mo = .ex x := (rfl)
@[simp] theorem p_oRetP : oRetP m m' ρ = (m ρ).bind fun t => (m' ρ).bind fun u => match t, u with
  | .st d, .st e => .ok (.pl (.st (.tup [d, e])))
  | .sl l, .st e => .ok (.pr l e)
  | .fr l, .st e => if scalD e = true then .ok (.pr l e) else .bad
  | _, _ => .bad := (rfl)
@[simp] theorem p_oRet2 : oRet2 i ρ = match slG ρ i with
  | .own2 ls => .ok (.o2 ls)
  | _ => .bad := (rfl)
@[simp] theorem p_sAsgO (g : List D → R Ow) : sAsgO i n g ma ρ = toS ρ (ma ρ) fun ts => toS ρ (callO n g ts) fun o => setO i ρ o := (rfl)
@[simp] theorem p_sUnpO (g : List D → R Ow) : sUnpO i j n g ma ρ = toS ρ (ma ρ) fun ts => toS ρ (callO n g ts) fun o => set2O i j ρ o := (rfl)
@[simp] theorem p_callO1 (g : List D → R Ow) (a : D) : callO 1 g [.st a] = g [a] := (rfl)
@[simp] theorem p_callO2 (g : List D → R Ow) (a b : D) : callO 2 g [.st a, .st b] = g [a, b] := (rfl)
@[simp] theorem p_setO0 (d : D) : setO i ρ (.pl (.st d)) = .nx (ρ.set i (.val d)) := (rfl)
@[simp] theorem p_setO1 (l : List D) : setO i ρ (.pl (.fr l)) = .nx (ρ.set i (.own l)) := (rfl)
@[simp] theorem p_setO2 (ls : List (List D)) : setO i ρ (.o2 ls) = .nx (ρ.set i (.own2 ls)) := (rfl)
@[simp] theorem p_setO3 (l : List D) (d : D) : setO i ρ (.pr l d) = .nx (ρ.set i (.pr l d)) := (rfl)
@[simp] theorem p_set2O0 (d e : D) : set2O i j ρ (.pl (.st (.tup [d, e]))) = .nx ((ρ.set i (.val d)).set j (.val e)) := (rfl)
@[simp] theorem p_set2O1 (l : List D) (e : D) : set2O i j ρ (.pr l e) = .nx ((ρ.set i (.own l)).set j (.val e)) := (rfl)
theorem wo_seq {z : R Ow} (h : ∀ K : Env → Prop, (∀ ρ', mo ρ' = z → K ρ') → WFl (s ρ) ⟨K, fun _ => False, fun _ => False, fun t => R.ok (Ow.pl (toFr t)) = z, fun _ x => R.ex x = z⟩) : oSeq s mo ρ = z := by
  rw [p_oSeq]
  have h := h _ (fun _ z => z)
  unfold WFl at h
  cases hs : s ρ with
  | bad => rw [hs] at h; exact h.elim
  | nx ρ' => rw [hs] at h; exact h
  | ct ρ' => rw [hs] at h; exact h.elim
  | bk ρ' => rw [hs] at h; exact h.elim
  | rt t => rw [hs] at h; exact h
  | ex ρ' x => rw [hs] at h; exact h
def OkO (Q : Ow → Prop) (r : R Ow) : Prop := ∃ o, r = .ok o ∧ Q o
theorem wo_seqQ {Q : Ow → Prop} (h : ∀ K : Env → Prop, (∀ ρ', OkO Q (mo ρ') → K ρ') → WFl (s ρ) ⟨K, fun _ => False, fun _ => False, fun t => Q (Ow.pl (toFr t)), fun _ _ => False⟩) : OkO Q (oSeq s mo ρ) := by
  rw [p_oSeq]
  have h := h _ (fun _ z => z)
  unfold WFl at h
  cases hs : s ρ with
  | bad => rw [hs] at h; exact h.elim
  | nx ρ' => rw [hs] at h; exact h
  | ct ρ' => rw [hs] at h; exact h.elim
  | bk ρ' => rw [hs] at h; exact h.elim
  | rt t => rw [hs] at h; exact ⟨_, rfl, h⟩
  | ex ρ' x => rw [hs] at h; exact h.elim
@[simp] theorem p_sClrP : sClrP i ρ = match slG ρ i with
  | .pr _ d => .nx (ρ.set i (.pr [] d))
  | _ => .bad := (rfl)
@[simp] theorem p_cScal (c : MT) : cScal i c ρ = noX (c (fzz i ρ)) := (rfl)
theorem p_plF (f : List D → R Ow) (ds : List D) : plF f ds = (f ds).bind fun o => .ok (plD o) := (rfl)
@[simp] theorem p_plD0 (t : T) : plD (.pl t) = t := (rfl)
@[simp] theorem p_plD1 (ls : List (List D)) : plD (.o2 ls) = .fr (ls.map D.lst) := (rfl)
@[simp] theorem p_plD2 (l : List D) (d : D) : plD (.pr l d) = .st (.tup [.lst l, d]) := (rfl)
end
end RF

set_option Elab.async false
set_option linter.all false
set_option maxRecDepth 100000
set_option autoImplicit false
/-! polynomials as lists of numbers -/
namespace RF
def hor (x : Int) : List Int → Int
  | [] => 0
  | a :: l => a + x * hor x l
theorem hor_append (x : Int) (m : List Int) : ∀ l : List Int, hor x (l ++ m) = hor x l + x ^ l.length * hor x m
  | [] => by simp [hor]
  | b :: l => by
    rw [List.cons_append, hor, hor, hor_append x m l, List.length_cons]
    grind
theorem hor_snoc (x a : Int) (l : List Int) : hor x (l ++ [a]) = hor x l + x ^ l.length * a := by
  rw [hor_append]; simp [hor]
theorem hor_rep (x : Int) : ∀ n : Nat, hor x (List.replicate n 0) = 0
  | 0 => rfl
  | n + 1 => by rw [List.replicate_succ, hor, hor_rep x n]; simp
theorem hor_set (x : Int) (v : Int) : ∀ (l : List Int) (k : Nat), k < l.length → hor x (l.set k (gi l k + v)) = hor x l + v * x ^ k
  | [], k, h => by simp at h
  | a :: l, 0, _ => by simp [hor, gi]; grind
  | a :: l, k + 1, h => by
    have := hor_set x v l k (by simpa using h)
    unfold gi at *
    simp only [List.set_cons_succ, List.getD_cons_succ, hor]
    rw [this, Int.pow_succ]
    grind
theorem hor_sm {x : Int} {X A : Nat} (hx : Sm X x) : ∀ as : List Int, (∀ a ∈ as, Sm A a) → Sm (A + as.length * (X + 1)) (hor x as)
  | [], _ => Sm.zero _
  | a :: l, h => by
    have h1 := (hor_sm hx l fun b hb => h b (List.mem_cons_of_mem _ hb)).mul hx
    have h2 := h a (List.mem_cons_self ..)
    rw [hor, Int.add_comm, Int.mul_comm x]
    exact ((h1.mono (l := A + l.length * (X + 1) + X) (by omega)).add (h2.mono (by omega))).mono (by rw [List.length_cons, Nat.add_mul l.length 1]; omega)
theorem pow_sm {x : Int} {X : Nat} (hx : Sm X x) : ∀ n : Nat, Sm (n * X + 1) (x ^ n)
  | 0 => by unfold Sm; simp
  | n + 1 => by
    rw [Int.pow_succ]
    exact ((pow_sm hx n).mul hx).mono (by rw [Nat.add_mul]; omega)
/-- nought everywhere from some number on: all numbers are 0 -/
theorem hor_zero (N : Int) : ∀ l : List Int, (∀ x, N ≤ x → hor x l = 0) → ∀ a ∈ l, a = 0
  | [], _, a, ha => by simp at ha
  | b :: l, h, a, ha => by
    have hb : b = 0 := by
      have h1 := h (max N (b.natAbs + 1)) (by omega)
      rw [hor] at h1
      by_cases h0 : hor (max N (b.natAbs + 1)) l = 0
      · rw [h0] at h1; omega
      · exfalso
        have h2 : (b.natAbs : Int) = (max N (b.natAbs + 1)).natAbs * (hor (max N (b.natAbs + 1)) l).natAbs := by
          have : b = -(max N (b.natAbs + 1) * hor (max N (b.natAbs + 1)) l) := by omega
          have h3 := congrArg Int.natAbs this
          rw [Int.natAbs_neg, Int.natAbs_mul] at h3
          exact_mod_cast h3
        have h4 : 1 ≤ (hor (max N (b.natAbs + 1)) l).natAbs := by omega
        have h5 : (max N (b.natAbs + 1)).natAbs * 1 ≤ (max N (b.natAbs + 1)).natAbs * (hor (max N (b.natAbs + 1)) l).natAbs := Nat.mul_le_mul_left _ h4
        have h6 : (b.natAbs + 1 : Int) ≤ max N (b.natAbs + 1) := Int.le_max_right _ _
        omega
    rcases List.mem_cons.mp ha with rfl | ha
    · exact hb
    · refine hor_zero (max N 1) l (fun x hx => ?_) a ha
      have h1 := h x (by omega)
      rw [hor, hb, Int.zero_add] at h1
      rcases Int.mul_eq_zero.mp h1 with h2 | h2
      · omega
      · exact h2
def psub : List Int → List Int → List Int
  | [], b => b.map fun x => -x
  | a, [] => a
  | x :: a, y :: b => (x - y) :: psub a b
theorem hor_neg (x : Int) : ∀ l : List Int, hor x (l.map fun y => -y) = - hor x l
  | [] => by simp [hor]
  | a :: l => by rw [List.map_cons, hor, hor, hor_neg x l]; grind
theorem hor_psub (x : Int) : ∀ a b : List Int, hor x (psub a b) = hor x a - hor x b
  | [], b => by unfold psub; rw [hor_neg]; simp [hor]
  | a :: l, [] => by unfold psub; simp [hor]
  | a :: l, b :: r => by unfold psub; rw [hor, hor, hor, hor_psub x l r]; grind
/-- alike at all numbers (from some one on), as long: alike -/
theorem hor_ext_len (N : Int) : ∀ a b : List Int, a.length = b.length → (∀ x, N ≤ x → hor x a = hor x b) → a = b := by
  intro a b hl h
  have hz := hor_zero N (psub a b) fun x hx => by rw [hor_psub, h x hx]; omega
  clear h
  induction a generalizing b with
  | nil => cases b with
    | nil => rfl
    | cons => simp at hl
  | cons x a ih => cases b with
    | nil => simp at hl
    | cons y b =>
      unfold psub at hz
      have h1 := hz (x - y) (List.mem_cons_self ..)
      rw [ih b (by simpa using hl) fun c hc => hz c (List.mem_cons_of_mem _ hc)]
      congr 1
      omega
/-- no nought at the end -/
def Tr (l : List Int) : Prop := ∀ h : l ≠ [], l.getLast h ≠ 0
theorem tr_nil : Tr [] := fun h => absurd rfl h
theorem hor_ext (N : Int) {a b : List Int} (ha : Tr a) (hb : Tr b) (h : ∀ x, N ≤ x → hor x a = hor x b) : a = b := by
  have key : ∀ (a b : List Int), Tr b → (∀ x, N ≤ x → hor x a = hor x b) → a.length < b.length → False := by
    intro a b hb h hl
    have h1 := hor_ext_len N (a ++ List.replicate (b.length - a.length) 0) b (by simp; omega) fun x hx => by rw [hor_append, hor_rep, h x hx]; simp
    have hne : b ≠ [] := fun e => by rw [e] at hl; simp at hl
    refine hb hne ?_
    have h2 : b.getLast hne = (a ++ List.replicate (b.length - a.length) 0).getLast (by rw [h1]; exact hne) := by congr 1; exact h1.symm
    rw [h2, List.getLast_append_of_ne_nil _ (by simp; omega)]
    exact List.getLast_replicate ..
  by_cases h1 : a.length < b.length
  · exact (key a b hb h h1).elim
  · by_cases h2 : b.length < a.length
    · exact (key b a ha (fun x hx => (h x hx).symm) h2).elim
    · exact hor_ext_len N a b (by omega) h
/-- without noughts at the end -/
def tr : List Int → List Int
  | [] => []
  | a :: l => if tr l = [] then (if a = 0 then [] else [a]) else a :: tr l
theorem tr_tr : ∀ l : List Int, Tr (tr l)
  | [] => tr_nil
  | a :: l => by
    intro h
    unfold tr at h ⊢
    split
    · rename_i e
      rw [if_pos e] at h
      split
      · rename_i e2
        rw [if_pos e2] at h
        exact absurd rfl h
      · rename_i e2
        simpa using e2
    · rename_i e
      have := tr_tr l e
      rw [List.getLast_cons e]
      exact this
theorem hor_tr (x : Int) : ∀ l : List Int, hor x (tr l) = hor x l
  | [] => rfl
  | a :: l => by
    have ih := hor_tr x l
    unfold tr
    split
    · rename_i e
      rw [e] at ih
      have : hor x l = 0 := ih.symm
      split
      · rename_i e2
        simp [hor, this, e2]
      · simp [hor, this]
    · rw [hor, hor, ih]
theorem tr_of {l : List Int} (h : Tr l) : tr l = l := hor_ext 0 (tr_tr l) h fun x _ => hor_tr x l
theorem tr_eq {a b : List Int} (h : ∀ x, hor x a = hor x b) : tr a = tr b := hor_ext 0 (tr_tr a) (tr_tr b) fun x _ => by rw [hor_tr, hor_tr, h]
theorem tr_mem {l : List Int} : ∀ a ∈ tr l, a ∈ l := by
  induction l with
  | nil => intro a h; exact h
  | cons b l ih =>
    intro a h
    unfold tr at h
    split at h
    · split at h
      · simp at h
      · exact List.mem_cons.mpr (.inl (List.mem_singleton.mp h))
    · rcases List.mem_cons.mp h with rfl | h
      · exact List.mem_cons_self ..
      · exact List.mem_cons_of_mem _ (ih a h)
theorem tr_length (l : List Int) : (tr l).length ≤ l.length := by
  induction l with
  | nil => exact Nat.le_refl _
  | cons b l ih =>
    unfold tr
    split
    · split <;> simp
    · simpa using ih
theorem tr_snoc0 (l : List Int) : tr (l ++ [0]) = tr l := tr_eq fun x => by rw [hor_snoc]; simp
theorem tr_snoc {l : List Int} {a : Int} (h : a ≠ 0) : tr (l ++ [a]) = l ++ [a] := tr_of fun _ => by rw [List.getLast_append_of_ne_nil _ (List.cons_ne_nil _ _)]; simpa using h
/-! sums, products -/
def padd : List Int → List Int → List Int
  | [], b => b
  | a, [] => a
  | x :: a, y :: b => (x + y) :: padd a b
theorem hor_padd (x : Int) : ∀ a b : List Int, hor x (padd a b) = hor x a + hor x b
  | [], b => by unfold padd; simp [hor]
  | a :: l, [] => by unfold padd; simp [hor]
  | a :: l, b :: r => by unfold padd; rw [hor, hor, hor, hor_padd x l r]; grind
theorem padd_length : ∀ a b : List Int, (padd a b).length = max a.length b.length
  | [], b => by unfold padd; simp
  | a :: l, [] => by unfold padd; simp
  | a :: l, b :: r => by unfold padd; rw [List.length_cons, padd_length l r]; simp
theorem padd_sm {K : Nat} : ∀ a b : List Int, (∀ x ∈ a, Sm K x) → (∀ x ∈ b, Sm K x) → ∀ x ∈ padd a b, Sm (K + 1) x
  | [], b, _, hb, x, hx => by unfold padd at hx; exact (hb x hx).mono (Nat.le_succ _)
  | a :: l, [], ha, _, x, hx => by unfold padd at hx; exact (ha x hx).mono (Nat.le_succ _)
  | a :: l, b :: r, ha, hb, x, hx => by
    unfold padd at hx
    rcases List.mem_cons.mp hx with rfl | hx
    · exact (ha _ (List.mem_cons_self ..)).add (hb _ (List.mem_cons_self ..))
    · exact padd_sm l r (fun y hy => ha y (List.mem_cons_of_mem _ hy)) (fun y hy => hb y (List.mem_cons_of_mem _ hy)) x hx
def pmul : List Int → List Int → List Int
  | [], _ => []
  | a :: l, b => padd (b.map fun y => a * y) (0 :: pmul l b)
theorem hor_smul (x c : Int) : ∀ l : List Int, hor x (l.map fun y => c * y) = c * hor x l
  | [] => by simp [hor]
  | a :: l => by rw [List.map_cons, hor, hor, hor_smul x c l]; grind
theorem hor_pmul (x : Int) (b : List Int) : ∀ a : List Int, hor x (pmul a b) = hor x a * hor x b
  | [] => by simp [pmul, hor]
  | a :: l => by unfold pmul; rw [hor_padd, hor_smul, hor, hor_pmul x b l, hor]; grind
theorem pmul_length (b : List Int) : ∀ a : List Int, (pmul a b).length ≤ a.length + b.length
  | [] => by simp [pmul]
  | a :: l => by
    have := pmul_length b l
    unfold pmul
    rw [padd_length, List.length_map, List.length_cons, List.length_cons]
    omega
theorem pmul_sm {A B : Nat} (b : List Int) (hb : ∀ x ∈ b, Sm B x) : ∀ a : List Int, (∀ x ∈ a, Sm A x) → ∀ x ∈ pmul a b, Sm (A + B + a.length) x
  | [], _, x, hx => by simp [pmul] at hx
  | a :: l, ha, x, hx => by
    unfold pmul at hx
    refine padd_sm (K := A + B + l.length) _ _ (fun y hy => ?_) (fun y hy => ?_) x hx
    · obtain ⟨c, hc, rfl⟩ := List.mem_map.mp hy
      exact ((ha a (List.mem_cons_self ..)).mul (hb c hc)).mono (by omega)
    · rcases List.mem_cons.mp hy with rfl | hy
      · exact Sm.zero _
      · exact pmul_sm b hb l (fun z hz => ha z (List.mem_cons_of_mem _ hz)) y hy
/-- what plus and times tell -/
def pplus (a b : List Int) : List Int := tr (padd a b)
def ptimes (a b : List Int) : List Int := tr (pmul a b)
def pput : List Int → List Int → List Int
  | [], _ => []
  | a :: l, b => pplus (ptimes (pput l b) b) [a]
@[simp] theorem hor_pplus (x : Int) (a b : List Int) : hor x (pplus a b) = hor x a + hor x b := by unfold pplus; rw [hor_tr, hor_padd]
@[simp] theorem hor_ptimes (x : Int) (a b : List Int) : hor x (ptimes a b) = hor x a * hor x b := by unfold ptimes; rw [hor_tr, hor_pmul]
theorem hor_pput (x : Int) (b : List Int) : ∀ a : List Int, hor x (pput a b) = hor (hor x b) a
  | [] => rfl
  | a :: l => by unfold pput; rw [hor_pplus, hor_ptimes, hor_pput x b l, hor]; simp [hor]; grind
theorem pplus_length (a b : List Int) : (pplus a b).length ≤ max a.length b.length := by
  have := tr_length (padd a b)
  rw [padd_length] at this
  exact this
theorem ptimes_length (a b : List Int) : (ptimes a b).length ≤ a.length + b.length := Nat.le_trans (tr_length _) (pmul_length b a)
theorem pplus_sm {K : Nat} {a b : List Int} (ha : ∀ x ∈ a, Sm K x) (hb : ∀ x ∈ b, Sm K x) : ∀ x ∈ pplus a b, Sm (K + 1) x := fun x hx => padd_sm a b ha hb x (tr_mem x hx)
theorem ptimes_sm {A B : Nat} {a b : List Int} (ha : ∀ x ∈ a, Sm A x) (hb : ∀ x ∈ b, Sm B x) : ∀ x ∈ ptimes a b, Sm (A + B + a.length) x := fun x hx => pmul_sm b hb a ha x (tr_mem x hx)
theorem pput_length (b : List Int) : ∀ a : List Int, (pput a b).length ≤ a.length * b.length + 1
  | [] => by simp [pput]
  | a :: l => by
    have := pput_length b l
    unfold pput
    have h1 := pplus_length (ptimes (pput l b) b) [a]
    have h2 := ptimes_length (pput l b) b
    rw [List.length_cons, Nat.add_mul]
    simp at h1
    omega
theorem pplus_tr (a b : List Int) : Tr (pplus a b) := tr_tr _
theorem ptimes_tr (a b : List Int) : Tr (ptimes a b) := tr_tr _
theorem pput_tr (a b : List Int) : Tr (pput a b) := by
  cases a with
  | nil => exact tr_nil
  | cons a l => exact tr_tr _
theorem gi_get {a : List Int} {i : Nat} (h : i < a.length) : gi a i = a[i] := by unfold gi; rw [List.getD_eq_getElem?_getD, List.getElem?_eq_getElem h]; rfl
theorem take_succ_gi {a : List Int} {i : Nat} (h : i < a.length) : a.take (i + 1) = a.take i ++ [gi a i] := by
  rw [List.take_add_one, List.getElem?_eq_getElem h, Option.toList_some, gi_get h]
theorem hor_take (x : Int) {a : List Int} {i : Nat} (h : i < a.length) : hor x (a.take (i + 1)) = hor x (a.take i) + x ^ i * gi a i := by
  rw [take_succ_gi h, hor_snoc, List.length_take, Nat.min_eq_left (by omega)]
theorem one_sm (k : Nat) : Sm (1 + k) 1 := (show Sm 1 1 by unfold Sm; decide).mono (by omega)
end RF

set_option Elab.async false
set_option linter.all false
set_option maxRecDepth 100000
set_option autoImplicit false
/-! the program's defs: at -/
namespace RF
open PySem PySem.Spec L2 RF.M
theorem d_at {as : List Int} {x : Int} (A X : Nat) (ha : ∀ a ∈ as, Sm A a) (hx : Sm X x) (hk : A + (as.length + 1) * (X + 1) < 900000) : d_P_at [il as, .int x] = .ok (.st (.int (hor x as))) := by
  unfold d_P_at runD
  refine run_of ?_
  simp [b_P_at]
  refine wp_ints (fun l ρ => ∃ j, ρ = [.val (il as), .val (.int x), .val (.int (hor x l.reverse)), j] ∧ Sm (A + l.length * (X + 1)) (hor x l.reverse)) ⟨_, rfl, Sm.zero _⟩ ?_ ?_
  · rintro J d a rest _ e ⟨j, rfl, h⟩ hJ
    have hl := congrArg List.length e
    simp at hl
    have : d.length * (X + 1) ≤ (as.length) * (X + 1) := Nat.mul_le_mul_right _ (by omega)
    simp [p_mul (h.ok hx (by rw [Nat.add_mul] at hk; omega))]
    refine hJ _ ⟨_, by simp [hor]; rw [Int.add_comm, Int.mul_comm]; exact ⟨rfl, rfl⟩, ?_⟩
    simp [hor]
    have h1 := h.mul hx
    have : a ∈ as := by
      have : a ∈ as.reverse := by rw [e]; simp
      simpa using this
    have h2 := (ha a this)
    rw [Int.add_comm, Int.mul_comm x]
    refine ((h1.mono (l := A + d.length * (X + 1) + X) (by omega)).add (h2.mono (by omega))).mono (by rw [Nat.add_mul]; omega)
  · rintro _ ⟨j, rfl, h⟩
    simp
end RF

set_option Elab.async false
set_option linter.all false
set_option maxRecDepth 100000
set_option autoImplicit false
/-! the program's defs: trimmed, plus, times -/
namespace RF
open PySem PySem.Spec L2 RF.M
theorem tr_le1 {l : List Int} (h : l ≠ []) (h2 : l.getLast h ≠ 0) : tr l = l := tr_of fun _ => h2
theorem d_trimmed (l : List Int) (hl : l.length ≤ 900000) : d_P_trimmed [il l] = .ok (.fr (nl (tr l))) := by
  unfold d_P_trimmed runD
  refine run_of ?_
  simp [b_P_trimmed]
  refine wp_while (fun k ρ => ∃ l', ρ = [.val (il l), .own (nl l')] ∧ k = l'.length ∧ tr l' = tr l) (fun ρ => ρ = [.val (il l), .own (nl (tr l))]) ?_ ?_ _ l.length _ (by omega) ⟨l, rfl, rfl, rfl⟩
  · rintro J k _ ⟨l', rfl, rfl, ht⟩ hJ
    cases hc : l'.reverse with
    | nil =>
      have : l' = [] := by simpa using hc
      subst this
      refine ⟨false, by simp, fun _ => ?_, fun h => by cases h⟩
      rw [← ht]; rfl
    | cons a r =>
      have e : l' = r.reverse ++ [a] := by
        have := congrArg List.reverse hc
        simpa using this
      subst e
      refine ⟨decide (a = 0), by simp, fun h => ?_, fun h => ?_⟩
      · have h : a ≠ 0 := by simpa using h
        rw [← ht, tr_snoc h]
      · have h : a = 0 := by simpa using h
        subst h
        simp
        refine hJ r.length _ (by simp) ⟨r.reverse, rfl, by simp, ?_⟩
        rw [← ht, tr_snoc0]
  · rintro _ rfl
    simp
theorem d_plus (a b : List Int) (ha : a.length ≤ 50000) (hb : b.length ≤ 50000) : d_P_plus [il a, il b] = .ok (.fr (nl (pplus a b))) := by
  unfold d_P_plus runD
  refine run_of ?_
  simp (disch := omega) [b_P_plus, p_dRep]
  refine wp_enumI (fun d ρ => ∃ j1 j2 f, ρ = [.val (il a), .val (il b), .own (nl f), j1, j2] ∧ f.length = max a.length b.length ∧ ∀ x, hor x f = hor x d) ⟨_, _, _, rfl, by simp; omega, fun x => hor_rep x _⟩ ?_ ?_
  · rintro J d v rest _ e ⟨j1, j2, f, rfl, hf, hx⟩ hJ
    have hl := congrArg List.length e
    simp at hl
    simp (disch := omega) [ints_isIx, ints_aug]
    refine hJ _ ⟨_, _, _, rfl, by simp [hf], fun x => ?_⟩
    rw [hor_set x v f _ (by omega), hx, hor_snoc]
    grind
  · rintro _ ⟨j1, j2, f, rfl, hf, hx⟩
    simp
    refine wp_enumI (fun d ρ => ∃ j1 j2 f, ρ = [.val (il a), .val (il b), .own (nl f), j1, j2] ∧ f.length = max a.length b.length ∧ ∀ x, hor x f = hor x a + hor x d) ⟨_, _, _, rfl, hf, fun x => by rw [hx]; simp [hor]⟩ ?_ ?_
    · rintro J d v rest _ e ⟨j1, j2, f, rfl, hf, hx⟩ hJ
      have hl := congrArg List.length e
      simp at hl
      simp (disch := omega) [ints_isIx, ints_aug]
      refine hJ _ ⟨_, _, _, rfl, by simp [hf], fun x => ?_⟩
      rw [hor_set x v f _ (by omega), hx, hor_snoc]
      grind
    · rintro _ ⟨j1, j2, f, rfl, hf, hx⟩
      have : f = padd a b := hor_ext_len 0 _ _ (by rw [hf, padd_length]) fun x _ => by rw [hx, hor_padd]
      subst this
      simp [d_trimmed (padd a b) (by omega), pplus]
theorem d_times (a b : List Int) (ha : a.length ≤ 50000) (hb : b.length ≤ 50000) (hm : ∀ x ∈ a, ∀ y ∈ b, MulOk x y) : d_P_times [il a, il b] = .ok (.fr (nl (ptimes a b))) := by
  unfold d_P_times runD
  refine run_of ?_
  simp (disch := omega) [b_P_times, p_dRep]
  refine wp_enumI (fun d ρ => ∃ j1 j2 j3 j4 f, ρ = [.val (il a), .val (il b), .own (nl f), j1, j2, j3, j4] ∧ f.length = a.length + b.length ∧ ∀ x, hor x f = hor x d * hor x b) ⟨_, _, _, _, _, rfl, by simp; omega, fun x => by rw [hor_rep]; simp [hor]⟩ ?_ ?_
  · rintro J d v rest _ e ⟨j1, j2, j3, j4, f, rfl, hf, hx⟩ hJ
    have hl := congrArg List.length e
    simp at hl
    have hv : v ∈ a := by rw [e]; simp
    simp
    refine wp_enumI (fun d2 ρ => ∃ j3 j4 f, ρ = [.val (il a), .val (il b), .own (nl f), .val (.int d.length), .val (.int v), j3, j4] ∧ f.length = a.length + b.length ∧ ∀ x, hor x f = hor x d * hor x b + v * x ^ d.length * hor x d2) ⟨_, _, _, rfl, hf, fun x => by rw [hx]; simp [hor]⟩ ?_ ?_
    · rintro J2 d2 u rest2 _ e2 ⟨j3, j4, f, rfl, hf, hx⟩ hJ2
      have hl2 := congrArg List.length e2
      simp at hl2
      have hu : u ∈ b := by rw [e2]; simp
      simp (disch := omega) [ints_isIx, ints_aug, p_mul (hm v hv u hu)]
      refine hJ2 _ ⟨_, _, _, rfl, by simp [hf], fun x => ?_⟩
      have e3 : ((d.length : Int) + (d2.length : Int)).toNat = d.length + d2.length := by omega
      rw [e3, hor_set x (v * u) f _ (by omega), hx, hor_snoc, Int.pow_add]
      grind
    · rintro _ ⟨j3, j4, f, rfl, hf, hx⟩
      simp
      refine hJ _ ⟨_, _, _, _, f, rfl, hf, fun x => ?_⟩
      rw [hx, hor_snoc]
      grind
  · rintro _ ⟨j1, j2, j3, j4, f, rfl, hf, hx⟩
    have : tr f = ptimes a b := by
      unfold ptimes
      exact tr_eq fun x => by rw [hx, hor_pmul]
    simp [d_trimmed f (by omega), this]
end RF

set_option Elab.async false
set_option linter.all false
set_option maxRecDepth 100000
set_option autoImplicit false
/-! sums of falling products -/
namespace RF
def fh (x : Int) : Nat → List Int → Int
  | _, [] => 0
  | k, a :: l => a + (x - k) * fh x (k + 1) l
/-- the numbers of the suffixes -/
def syn (k : Int) : List Int → List Int
  | [] => []
  | a :: l => hor k (a :: l) :: syn k l
@[simp] theorem syn_length (k : Int) : ∀ l : List Int, (syn k l).length = l.length
  | [] => rfl
  | a :: l => by simp [syn, syn_length k l]
theorem hor_syn (x k a : Int) : ∀ l : List Int, hor x (a :: l) = hor k (a :: l) + (x - k) * hor x (syn k l)
  | [] => by simp [hor, syn]
  | b :: l => by
    have h := hor_syn x k b l
    have e1 : hor x (a :: b :: l) = a + x * hor x (b :: l) := rfl
    have e2 : hor k (a :: b :: l) = a + k * hor k (b :: l) := rfl
    have e3 : hor x (syn k (b :: l)) = hor k (b :: l) + x * hor x (syn k l) := rfl
    rw [e1, e2, e3, h]
    generalize hor k (b :: l) = p
    generalize hor x (syn k l) = q
    grind
def fal : Nat → Nat → List Int → List Int
  | 0, _, _ => []
  | n + 1, k, p => hor k p :: fal n (k + 1) (syn k p.tail)
@[simp] theorem fal_length : ∀ (n k : Nat) (p : List Int), (fal n k p).length = n
  | 0, _, _ => rfl
  | n + 1, k, p => by rw [fal, List.length_cons, fal_length n]
theorem fh_fal (x : Int) : ∀ (n k : Nat) (p : List Int), p.length = n → fh x k (fal n k p) = hor x p
  | 0, k, p, h => by
    have : p = [] := List.eq_nil_of_length_eq_zero h
    rw [this]; rfl
  | n + 1, k, [], h => by simp at h
  | n + 1, k, a :: l, h => by
    have hl : l.length = n := by simpa using h
    rw [fal, fh, List.tail_cons, fh_fal x n (k + 1) (syn k l) (by rw [syn_length, hl]), ← hor_syn]
/-- what falls tells -/
def pfalls (a : List Int) : List Int := fal (tr a).length 0 (tr a)
theorem fh_pfalls (x : Int) (a : List Int) : fh x 0 (pfalls a) = hor x a := by
  unfold pfalls
  rw [fh_fal x _ _ _ rfl, hor_tr]
theorem pfalls_length (a : List Int) : (pfalls a).length = (tr a).length := fal_length _ _ _
/-- the last one is the polynomial's last one -/
theorem tr_iff (l : List Int) : Tr l ↔ l.getLast? ≠ some 0 := by
  constructor
  · intro h e
    have hne : l ≠ [] := by intro z; rw [z] at e; simp at e
    rw [List.getLast?_eq_some_getLast hne] at e
    exact h hne (Option.some.inj e)
  · intro h hne e
    exact h (by rw [List.getLast?_eq_some_getLast hne, e])
theorem last_cons (a : Int) {l : List Int} (h : l ≠ []) : (a :: l).getLast? = l.getLast? := by
  cases l with
  | nil => exact absurd rfl h
  | cons b l => simp
theorem syn_last (k : Int) : ∀ (l : List Int), (syn k l).getLast? = l.getLast?
  | [] => rfl
  | [a] => by simp [syn, hor]
  | a :: b :: l => by
    have := syn_last k (b :: l)
    rw [syn, last_cons _ (by simp [syn]), this, last_cons a (List.cons_ne_nil b l)]
theorem fal_last : ∀ (n k : Nat) (p : List Int) (hn : p.length = n), (fal n k p).getLast? = p.getLast?
  | 0, k, p, h => by rw [List.eq_nil_of_length_eq_zero h]; rfl
  | n + 1, k, [], h => by simp at h
  | n + 1, k, a :: l, h => by
    have hl : l.length = n := by simpa using h
    have h2 := fal_last n (k + 1) (syn k l) (by rw [syn_length, hl])
    cases n with
    | zero =>
      have : l = [] := List.eq_nil_of_length_eq_zero hl
      subst this
      simp [fal, hor]
    | succ n =>
      rw [fal, List.tail_cons, last_cons _ (by simp [fal]), h2, syn_last, last_cons _ (by intro e; rw [e] at hl; simp at hl)]
theorem pfalls_tr (a : List Int) : Tr (pfalls a) := by
  rw [tr_iff]
  unfold pfalls
  rw [fal_last _ _ _ rfl, ← tr_iff]
  exact tr_tr a
/-- fh as a polynomial -/
def unf : Nat → List Int → List Int
  | _, [] => []
  | k, a :: l => pplus (ptimes (unf (k + 1) l) [-(k : Int), 1]) [a]
theorem hor_unf (x : Int) : ∀ (k : Nat) (l : List Int), hor x (unf k l) = fh x k l
  | _, [] => rfl
  | k, a :: l => by
    rw [unf, hor_pplus, hor_ptimes, hor_unf x (k + 1) l, fh]
    simp [hor]
    grind
theorem unf_tr (k : Nat) (l : List Int) : Tr (unf k l) := by
  cases l with
  | nil => exact tr_nil
  | cons => exact pplus_tr _ _
theorem unf_length : ∀ (l : List Int) (k : Nat), (unf k l).length ≤ 2 * l.length
  | [], _ => Nat.le_refl _
  | a :: l, k => by
    have h := unf_length l (k + 1)
    have h1 := pplus_length (ptimes (unf (k + 1) l) [-(k : Int), 1]) [a]
    have h2 := ptimes_length (unf (k + 1) l) [-(k : Int), 1]
    rw [unf, List.length_cons]
    simp at h1 h2
    omega
theorem k_sm {k : Nat} (h : k < 1000) : Sm 10 (-(k : Int)) := by unfold Sm; omega
theorem unf_sm {A : Nat} : ∀ (l : List Int) (k : Nat), k + l.length < 1000 → (∀ a ∈ l, Sm A a) → ∀ a ∈ unf k l, Sm (A + l.length * (12 + 2 * l.length)) a
  | [], _, _, _, a, h => by simp [unf] at h
  | b :: l, k, hk, hA, a, h => by
    have hk' : k + (l.length + 1) < 1000 := by simpa using hk
    have h0 := unf_sm l (k + 1) (by omega) (fun c hc => hA c (List.mem_cons_of_mem _ hc))
    have h1 := ptimes_sm (A := A + l.length * (12 + 2 * l.length)) (B := 10) (a := unf (k + 1) l) (b := [-(k : Int), 1]) h0 (fun c hc => by
      rcases List.mem_cons.mp hc with rfl | hc
      · exact k_sm (by omega)
      · rw [List.mem_singleton.mp hc]; unfold Sm; decide)
    have hl := unf_length l (k + 1)
    have h2 := pplus_sm (K := A + l.length * (12 + 2 * l.length) + 10 + 2 * l.length) (a := ptimes (unf (k + 1) l) [-(k : Int), 1]) (b := [b]) (fun c hc => (h1 c hc).mono (by omega)) (fun c hc => by
      rw [List.mem_singleton.mp hc]; exact (hA b (List.mem_cons_self ..)).mono (by omega))
    rw [unf] at h
    refine (h2 a h).mono ?_
    rw [List.length_cons, Nat.add_mul]
    have : l.length * (12 + 2 * l.length) ≤ l.length * (12 + 2 * (l.length + 1)) := Nat.mul_le_mul_left _ (by omega)
    omega
theorem fh_append (x : Int) (c : Int) : ∀ (l : List Int) (k : Nat), fh x k (l ++ [c]) = fh x k l + c * fh x k (List.replicate l.length 0 ++ [1])
  | [], k => by simp [fh]
  | a :: l, k => by
    rw [List.cons_append, fh, fh_append x c l (k + 1), fh, List.length_cons, List.replicate_succ, List.cons_append, fh]
    grind
/-- the product of n factors from x - k on -/
def fp (x : Int) : Nat → Nat → Int
  | _, 0 => 1
  | k, n + 1 => (x - k) * fp x (k + 1) n
theorem fp_succ (x : Int) : ∀ (n k : Nat), fp x k (n + 1) = fp x k n * (x - (k + n : Nat))
  | 0, k => by simp [fp]
  | n + 1, k => by
    rw [fp, fp_succ x n (k + 1), fp]
    have : ((k + 1 + n : Nat) : Int) = ((k + (n + 1) : Nat) : Int) := by omega
    rw [this]
    grind
theorem fh_snoc (x : Int) (c : Int) : ∀ (l : List Int) (k : Nat), fh x k (l ++ [c]) = fh x k l + c * fp x k l.length
  | [], k => by simp [fh, fp]
  | a :: l, k => by
    rw [List.cons_append, fh, fh_snoc x c l (k + 1), fh, List.length_cons, fp]
    grind
theorem fh_tr (x : Int) : ∀ (l : List Int) (k : Nat), fh x k (tr l) = fh x k l
  | [], _ => rfl
  | a :: l, k => by
    have ih := fh_tr x l (k + 1)
    unfold tr
    split
    · rename_i e
      rw [e] at ih
      have : fh x (k + 1) l = 0 := ih.symm
      split
      · rename_i e2
        simp [fh, this, e2]
      · simp [fh, this]
    · rw [fh, fh, ih]
/-- alike at all numbers: alike -/
theorem fh_zero (N : Int) : ∀ (l : List Int) (k : Nat), (∀ x, N ≤ x → fh x k l = 0) → ∀ a ∈ l, a = 0
  | [], _, _, a, ha => by simp at ha
  | b :: l, k, h, a, ha => by
    have hb : b = 0 := by
      have h1 := h (max N (k + (b.natAbs + 1))) (by omega)
      rw [fh] at h1
      by_cases h0 : fh (max N (k + (b.natAbs + 1))) (k + 1) l = 0
      · rw [h0] at h1; omega
      · exfalso
        have h2 : (b.natAbs : Int) = (max N (k + (b.natAbs + 1)) - k).natAbs * (fh (max N (k + (b.natAbs + 1))) (k + 1) l).natAbs := by
          have : b = -((max N (k + (b.natAbs + 1)) - k) * fh (max N (k + (b.natAbs + 1))) (k + 1) l) := by omega
          have h3 := congrArg Int.natAbs this
          rw [Int.natAbs_neg, Int.natAbs_mul] at h3
          exact_mod_cast h3
        have h4 : 1 ≤ (fh (max N (k + (b.natAbs + 1))) (k + 1) l).natAbs := by omega
        have h5 : (max N (k + (b.natAbs + 1)) - k).natAbs * 1 ≤ (max N (k + (b.natAbs + 1)) - k).natAbs * (fh (max N (k + (b.natAbs + 1))) (k + 1) l).natAbs := Nat.mul_le_mul_left _ h4
        have h6 : (k + (b.natAbs + 1) : Int) ≤ max N (k + (b.natAbs + 1)) := Int.le_max_right _ _
        omega
    rcases List.mem_cons.mp ha with rfl | ha
    · exact hb
    · refine fh_zero (max N (k + 1)) l (k + 1) (fun x hx => ?_) a ha
      have h1 := h x (by omega)
      rw [fh, hb, Int.zero_add] at h1
      rcases Int.mul_eq_zero.mp h1 with h2 | h2
      · omega
      · exact h2
theorem fh_neg (x : Int) : ∀ (l : List Int) (k : Nat), fh x k (l.map fun y => -y) = - fh x k l
  | [], _ => by simp [fh]
  | a :: l, k => by rw [List.map_cons, fh, fh, fh_neg x l (k + 1)]; grind
theorem fh_psub (x : Int) : ∀ (a b : List Int) (k : Nat), fh x k (psub a b) = fh x k a - fh x k b
  | [], b, k => by unfold psub; rw [fh_neg]; simp [fh]
  | a :: l, [], k => by unfold psub; simp [fh]
  | a :: l, b :: r, k => by unfold psub; rw [fh, fh, fh, fh_psub x l r (k + 1)]; grind
theorem psub_zero : ∀ (a b : List Int), a.length = b.length → (∀ c ∈ psub a b, c = 0) → a = b
  | [], [], _, _ => rfl
  | [], _ :: _, h, _ => by simp at h
  | _ :: _, [], h, _ => by simp at h
  | x :: a, y :: b, h, hz => by
    unfold psub at hz
    have h1 := hz (x - y) (List.mem_cons_self ..)
    rw [psub_zero a b (by simpa using h) fun c hc => hz c (List.mem_cons_of_mem _ hc)]
    congr 1
    omega
theorem fh_rep (x : Int) (m : List Int) (n : Nat) : ∀ (l : List Int) (k : Nat), fh x k (l ++ List.replicate n 0) = fh x k l := by
  intro l
  induction n generalizing l with
  | zero => intro k; simp
  | succ n ih =>
    intro k
    rw [List.replicate_succ, show l ++ (0 : Int) :: List.replicate n 0 = (l ++ [0]) ++ List.replicate n 0 by simp, ih, fh_snoc]
    simp
theorem fh_ext {a b : List Int} {k : Nat} (ha : Tr a) (hb : Tr b) (h : ∀ x, fh x k a = fh x k b) : a = b := by
  have key : ∀ (a b : List Int), Tr b → (∀ x, fh x k a = fh x k b) → a.length < b.length → False := by
    intro a b hb h hl
    have h1 : a ++ List.replicate (b.length - a.length) 0 = b := psub_zero _ _ (by simp; omega) (fh_zero 0 _ k fun x _ => by rw [fh_psub, fh_rep x a, h]; omega)
    have hne : b ≠ [] := fun e => by rw [e] at hl; simp at hl
    refine hb hne ?_
    have h2 : b.getLast hne = (a ++ List.replicate (b.length - a.length) 0).getLast (by rw [h1]; exact hne) := by congr 1; exact h1.symm
    rw [h2, List.getLast_append_of_ne_nil _ (by simp; omega)]
    exact List.getLast_replicate ..
  by_cases h1 : a.length < b.length
  · exact (key a b hb h h1).elim
  · by_cases h2 : b.length < a.length
    · exact (key b a ha (fun x => (h x).symm) h2).elim
    · exact psub_zero _ _ (by omega) (fh_zero 0 _ k fun x _ => by rw [fh_psub, h]; omega)
theorem pfalls_unf (l : List Int) : pfalls (unf 0 l) = tr l := fh_ext (k := 0) (pfalls_tr _) (tr_tr l) fun x => by rw [fh_pfalls, hor_unf, fh_tr]
theorem syn_sm {A : Nat} {k : Int} {X : Nat} (hk : Sm X k) : ∀ l : List Int, (∀ a ∈ l, Sm A a) → ∀ a ∈ syn k l, Sm (A + l.length * (X + 1)) a
  | [], _, a, h => by simp [syn] at h
  | b :: l, hA, a, h => by
    rw [syn] at h
    rcases List.mem_cons.mp h with rfl | h
    · exact hor_sm hk (b :: l) hA
    · exact (syn_sm hk l (fun c hc => hA c (List.mem_cons_of_mem _ hc)) a h).mono (by rw [List.length_cons, Nat.add_mul]; omega)
theorem fh_sm {A X : Nat} {x : Int} (hx : Sm X x) : ∀ (l : List Int) (k : Nat), k + l.length < 1000 → (∀ a ∈ l, Sm A a) → Sm (A + l.length * (X + 12)) (fh x k l)
  | [], _, _, _ => Sm.zero _
  | b :: l, k, hk, hA => by
    have hk' : k + (l.length + 1) < 1000 := by simpa using hk
    have h1 := fh_sm hx l (k + 1) (by omega) fun c hc => hA c (List.mem_cons_of_mem _ hc)
    have h2 : Sm (X + 11) (x - k) := by
      rw [Int.sub_eq_add_neg]
      exact ((hx.mono (l := X + 10) (by omega)).add ((k_sm (by omega)).mono (by omega))).mono (by omega)
    have h3 := hA b (List.mem_cons_self ..)
    rw [fh]
    rw [List.length_cons, Nat.add_mul]
    exact ((h3.mono (l := A + l.length * (X + 12) + (X + 11)) (by omega)).add ((h2.mul h1).mono (by omega))).mono (by omega)
theorem nat_sm {k : Nat} (h : k < 1000) : Sm 10 (k : Int) := by unfold Sm; omega
theorem fal_sm : ∀ (n k : Nat) (A : Nat) (p : List Int), p.length = n → k + n ≤ 1000 → (∀ a ∈ p, Sm A a) → ∀ x ∈ fal n k p, Sm (A + n * (n * 11)) x
  | 0, _, _, _, _, _, _, x, h => by simp [fal] at h
  | n + 1, k, A, [], h, _, _, x, _ => by simp at h
  | n + 1, k, A, a :: l, hl, hk, hA, x, h => by
    have hl' : l.length = n := by simpa using hl
    rw [fal] at h
    have hb : (n + 1) * 11 + n * (n * 11) ≤ (n + 1) * ((n + 1) * 11) := by
      rw [Nat.add_mul n 1 ((n + 1) * 11), Nat.add_mul n 1 11, Nat.mul_add n (n * 11) (1 * 11)]
      omega
    rcases List.mem_cons.mp h with rfl | h
    · refine (hor_sm (nat_sm (show k < 1000 by omega)) (a :: l) hA).mono ?_
      rw [hl]
      omega
    · rw [List.tail_cons] at h
      have h1 := fal_sm n (k + 1) (A + l.length * (10 + 1)) (syn k l) (by rw [syn_length, hl']) (by omega) (fun y hy => syn_sm (nat_sm (by omega)) l (fun c hc => hA c (List.mem_cons_of_mem _ hc)) y hy) x h
      refine h1.mono ?_
      rw [hl', Nat.add_assoc]
      omega
theorem pfalls_sm {A : Nat} {a : List Int} (hl : a.length ≤ 1000) (hA : ∀ x ∈ a, Sm A x) : ∀ x ∈ pfalls a, Sm (A + a.length * (a.length * 11)) x := by
  intro x hx
  have h := tr_length a
  refine (fal_sm _ 0 A (tr a) rfl (by omega) (fun y hy => hA y (tr_mem y hy)) x hx).mono ?_
  have : (tr a).length * ((tr a).length * 11) ≤ a.length * (a.length * 11) := Nat.mul_le_mul h (Nat.mul_le_mul_right _ h)
  omega
end RF

set_option Elab.async false
set_option linter.all false
set_option maxRecDepth 100000
set_option autoImplicit false
/-! the program's defs: falls, unfolded, at_falls -/
namespace RF
open PySem PySem.Spec L2 RF.M
def apop (ρ : Env) (i j : Nat) (l l' : List D) : Fl := match l' with
  | [] => .bad
  | d :: r => if l.length < 100000 ∧ i ≠ j then .nx ((ρ.set j (.own r)).set i (.own (l ++ [d]))) else .bad
@[simp] theorem p_apop {ρ : Env} {i j : Nat} : sAppPop i j ρ = slOwn (slG ρ i) fun l => slOwn (slG ρ j) fun l' => apop ρ i j l l' := (rfl)
theorem apop_nl {ρ : Env} {i j : Nat} {l : List D} {a : Int} {r : List Int} (h : l.length < 100000) (hj : i ≠ j) : apop ρ i j l (nl (a :: r)) = .nx ((ρ.set j (.own (nl r))).set i (.own (l ++ [D.int a]))) := by
  unfold nl
  exact if_pos ⟨h, hj⟩
theorem d_falls {A : Nat} (a : List Int) (hl : a.length ≤ 1000) (ha : ∀ x ∈ a, Sm A x) (hA : A + a.length * a.length * 11 + a.length * 11 + 100 < 900000) : d_P_falls [il a] = .ok (.fr (nl (pfalls a))) := by
  unfold d_P_falls runD
  refine run_of ?_
  have hlt := tr_length a
  simp [b_P_falls, d_trimmed a (by omega)]
  refine wp_while (fun n ρ => ∃ r f j3 j4 j5, ρ = [.val (il a), .val (il r), .own (nl f), j3, j4, j5] ∧ n = r.length ∧ f.length + r.length = (tr a).length ∧ f ++ fal r.length f.length r = pfalls a ∧ ∀ x ∈ r, Sm (A + f.length * (a.length * 11)) x) (fun ρ => ∃ j1 j3 j4 j5, ρ = [.val (il a), j1, .own (nl (pfalls a)), j3, j4, j5]) ?_ ?_ _ (tr a).length _ (by omega) ⟨tr a, [], _, _, _, rfl, rfl, by simp, rfl, fun x hx => (ha x (tr_mem x hx)).mono (by omega)⟩
  · rintro J n _ ⟨r, f, j3, j4, j5, rfl, rfl, hlen, hfal, hsm⟩ hJ
    refine ⟨decide (0 < r.length), by simp, fun h => ?_, fun h => ?_⟩
    · have : r = [] := by
        have := of_decide_eq_false h
        exact List.eq_nil_of_length_eq_zero (by omega)
      subst this
      have : f = pfalls a := by simpa [fal] using hfal
      exact ⟨_, _, _, _, by rw [this]⟩
    · have hpos := of_decide_eq_true h
      have hfl : f.length < 1000 := by omega
      have hk : Sm 10 (f.length : Int) := by unfold Sm; omega
      have hbnd : A + f.length * (a.length * 11) + (a.length + 1) * 11 + 20 < 1000000 := by
        have h1 : f.length * (a.length * 11) ≤ a.length * (a.length * 11) := Nat.mul_le_mul_right _ (by omega)
        have h2 : a.length * (a.length * 11) = a.length * a.length * 11 := by rw [Nat.mul_assoc]
        omega
      have hsy := syn_sm hk r hsm
      simp
      refine wp_ints (fun d ρ => ∃ j5, ρ = [.val (il a), .val (il r), .own (nl f), .val (.int (hor f.length d.reverse)), .own (nl (syn f.length d.reverse)), j5]) ⟨j5, by simp [hor, syn]⟩ ?_ ?_
      · rintro J2 d v rest _ e ⟨j5, rfl⟩ hJ2
        have hdl := congrArg List.length e
        simp at hdl
        have hsub : ∀ x ∈ d.reverse, x ∈ r := fun x hx => by
          have : x ∈ r.reverse := by rw [e]; simp at hx; simp [hx]
          simpa using this
        have h1 : Sm (A + f.length * (a.length * 11) + a.length * 11) (hor f.length d.reverse) := (hor_sm hk d.reverse fun x hx => hsm x (hsub x hx)).mono (by
          have : d.reverse.length * (10 + 1) ≤ a.length * 11 := Nat.mul_le_mul (by rw [List.length_reverse]; omega) (by omega)
          omega)
        have h2 : MulOk (hor f.length d.reverse) (f.length : Int) := h1.ok hk (by omega)
        have hdl2 : d.length < 100000 := by omega
        simp [p_mul h2, hdl2]
        refine hJ2 _ ⟨.val (.int v), ?_⟩
        rw [List.reverse_append]
        show _ = [Sl.val (il a), Sl.val (il r), Sl.own (nl f), Sl.val (D.int (hor f.length (v :: d.reverse))), Sl.own (nl (syn f.length (v :: d.reverse))), Sl.val (.int v)]
        rw [syn, hor]
        have : hor f.length d.reverse * f.length + v = v + f.length * hor f.length d.reverse := by grind
        rw [this]
      · rintro _ ⟨j5, rfl⟩
        rw [List.reverse_reverse]
        cases hr : r with
        | nil => rw [hr] at hpos; simp at hpos
        | cons b t =>
          subst hr
          have hfl' : f.length < 100000 := by omega
          rw [syn]
          simp [apop_nl, hfl']
          refine hJ t.length _ (by simp) ⟨syn f.length t, f ++ [hor f.length (b :: t)], _, _, _, rfl, by simp, by simp at hlen ⊢; omega, ?_, ?_⟩
          · rw [← hfal]
            simp [fal]
          · intro x hx
            refine (hsy x (by rw [syn]; exact List.mem_cons_of_mem _ hx)).mono ?_
            have : (b :: t).length * (10 + 1) ≤ a.length * 11 := Nat.mul_le_mul (by omega) (by omega)
            rw [List.length_append, List.length_singleton, Nat.add_mul]
            omega
  · rintro _ ⟨j1, j3, j4, j5, rfl⟩
    simp
def enL (ls : List (List D)) : Option T := match ls with
  | [l] => if l.length ≤ 100000 then some (T.fr (enumD 0 l)) else none
  | _ => none
@[simp] theorem p_lEnum {ma : MA} {ρ : Env} : lEnumerate ma ρ = (ma ρ).bind fun ts => lift ((stLs ts).bind enL) := (rfl)
@[simp] theorem enL_one (l : List D) : enL [l] = if l.length ≤ 100000 then some (T.fr (enumD 0 l)) else none := (rfl)
theorem d_unfolded {A : Nat} (a : List Int) (hl : a.length ≤ 500) (ha : ∀ x ∈ a, Sm A x) (hA : A + a.length * (12 + 2 * a.length) < 900000) : d_P_unfolded [il a] = .ok (.fr (nl (unf 0 a))) := by
  unfold d_P_unfolded runD
  refine run_of ?_
  have hl' : a.length ≤ 100000 := by omega
  simp [b_P_unfolded, hl']
  refine wp_enumRev (fun r ρ => ∃ j2 j3, ρ = [.val (il a), .own (nl (unf (a.length - r.length) r)), j2, j3]) ⟨_, _, rfl⟩ ?_ ?_
  · rintro J d v r _ e ⟨j2, j3, rfl⟩ hJ
    have hdl := congrArg List.length e
    simp at hdl
    have e1 : a.length - r.length = d.length + 1 := by omega
    have hu := unf_length r (d.length + 1)
    have hs := unf_sm r (d.length + 1) (by omega) (fun x hx => ha x (by rw [e]; simp [hx]))
    have hb : r.length * (12 + 2 * r.length) ≤ a.length * (12 + 2 * a.length) := Nat.mul_le_mul (by omega) (by omega)
    have hm : ∀ x ∈ unf (d.length + 1) r, ∀ y ∈ [-(d.length : Int), 1], MulOk x y := fun x hx y hy => by
      refine (hs x hx).ok (l := 11) ?_ (by omega)
      rcases List.mem_cons.mp hy with rfl | hy
      · exact (k_sm (by omega)).mono (by omega)
      · rw [List.mem_singleton.mp hy]; unfold Sm; decide
    have hpl := ptimes_length (unf (d.length + 1) r) [-(d.length : Int), 1]
    simp at hpl
    rw [e1]
    simp (disch := (try simp only [List.length_cons, List.length_nil]); omega) [d_times _ _ (show (unf (d.length + 1) r).length ≤ 50000 by omega) (show [-(d.length : Int), 1].length ≤ 50000 by simp) hm, d_plus _ [v] (show (ptimes (unf (d.length + 1) r) [-(d.length : Int), 1]).length ≤ 50000 by omega) (by simp)]
    refine hJ _ ⟨.val (.int d.length), .val (.int v), ?_⟩
    have e2 : a.length - (v :: r).length = d.length := by rw [List.length_cons]; omega
    rw [e2, unf]
  · rintro _ ⟨j2, j3, rfl⟩
    simp
theorem d_at_falls {A X : Nat} (a : List Int) (x : Int) (hl : a.length ≤ 500) (ha : ∀ y ∈ a, Sm A y) (hx : Sm X x) (hA : A + a.length * (X + 12) + X + 20 < 900000) : d_P_at_falls [il a, .int x] = .ok (.st (.int (fh x 0 a))) := by
  unfold d_P_at_falls runD
  refine run_of ?_
  have hl' : a.length ≤ 100000 := by omega
  simp [b_P_at_falls, hl']
  refine wp_enumRev (fun r ρ => ∃ j2 j3, ρ = [.val (il a), .val (.int x), .val (.int (fh x (a.length - r.length) r)), j2, j3]) ⟨_, _, rfl⟩ ?_ ?_
  · rintro J d v r _ e ⟨j2, j3, rfl⟩ hJ
    have hdl := congrArg List.length e
    simp at hdl
    have e1 : a.length - r.length = d.length + 1 := by omega
    have hs := fh_sm hx r (d.length + 1) (by omega) (fun y hy => ha y (by rw [e]; simp [hy]))
    have hb : r.length * (X + 12) ≤ a.length * (X + 12) := Nat.mul_le_mul_right _ (by omega)
    have h2 : Sm (X + 11) (x - d.length) := by
      rw [Int.sub_eq_add_neg]
      exact ((hx.mono (l := X + 10) (by omega)).add ((k_sm (by omega)).mono (by omega))).mono (by omega)
    have hm : MulOk (fh x (d.length + 1) r) (x - d.length) := hs.ok h2 (by omega)
    rw [e1]
    simp [p_mul hm]
    refine hJ _ ⟨.val (.int d.length), .val (.int v), ?_⟩
    have e2 : a.length - (v :: r).length = d.length := by rw [List.length_cons]; omega
    rw [e2, fh]
    have : fh x (d.length + 1) r * (x - d.length) + v = v + (x - d.length) * fh x (d.length + 1) r := by grind
    rw [this]
  · rintro _ ⟨j2, j3, rfl⟩
    simp
end RF

set_option Elab.async false
set_option linter.all false
set_option maxRecDepth 100000
set_option autoImplicit false
/-! falling products and factorials -/
namespace RF
def fac : Nat → Int
  | 0 => 1
  | n + 1 => (n + 1 : Nat) * fac n
theorem fac_pos : ∀ n, 0 < fac n
  | 0 => by decide
  | n + 1 => Int.mul_pos (by omega) (fac_pos n)
theorem fp_shift (x : Int) : ∀ (n k : Nat), fp (x + 1) (k + 1) n = fp x k n
  | 0, _ => rfl
  | n + 1, k => by
    rw [fp, fp, fp_shift x n (k + 1)]
    have : x + 1 - ((k + 1 : Nat) : Int) = x - k := by omega
    rw [this]
/-- the difference of a falling product -/
theorem fp_diff (x : Int) (n : Nat) : fp (x + 1) 0 (n + 1) = fp x 0 (n + 1) + (n + 1 : Nat) * fp x 0 n := by
  rw [fp_succ x n 0]
  show (x + 1 - ((0 : Nat) : Int)) * fp (x + 1) 1 n = _
  rw [fp_shift x n 0, Nat.zero_add]
  have : ((n + 1 : Nat) : Int) = (n : Int) + 1 := by omega
  rw [this]
  generalize fp x 0 n = p
  grind
theorem fac_dvd : ∀ (n : Nat) (x : Int), fac n ∣ fp x 0 n
  | 0, x => Int.one_dvd _
  | n + 1, x => by
    have step : ∀ y, (n + 1 : Nat) * fac n ∣ ((n + 1 : Nat) : Int) * fp y 0 n := fun y => Int.mul_dvd_mul_left _ (fac_dvd n y)
    have up : ∀ k : Nat, fac (n + 1) ∣ fp (k : Nat) 0 (n + 1) := by
      intro k
      induction k with
      | zero =>
        have : fp ((0 : Nat) : Int) 0 (n + 1) = 0 := by rw [fp]; simp
        rw [this]
        exact Int.dvd_zero _
      | succ k ih =>
        have e : ((k + 1 : Nat) : Int) = (k : Int) + 1 := by omega
        rw [e, fp_diff]
        exact Int.dvd_add ih (step k)
    have down : ∀ k : Nat, fac (n + 1) ∣ fp (-(k : Int)) 0 (n + 1) := by
      intro k
      induction k with
      | zero => exact up 0
      | succ k ih =>
        have h := fp_diff (-((k + 1 : Nat) : Int)) n
        have e : -((k + 1 : Nat) : Int) + 1 = -(k : Int) := by omega
        rw [e] at h
        have : fp (-((k + 1 : Nat) : Int)) 0 (n + 1) = fp (-(k : Int)) 0 (n + 1) - ((n + 1 : Nat) : Int) * fp (-((k + 1 : Nat) : Int)) 0 n := by omega
        rw [this]
        exact Int.dvd_sub ih (step _)
    rcases Int.le_total 0 x with h | h
    · have := up x.toNat
      rwa [Int.toNat_of_nonneg h] at this
    · have := down (-x).toNat
      rwa [Int.toNat_of_nonneg (by omega), Int.neg_neg] at this
end RF

set_option Elab.async false
set_option linter.all false
set_option maxRecDepth 100000
set_option autoImplicit false
/-! the program's defs: shared, tops_of -/
namespace RF
open PySem PySem.Spec L2 RF.M
def parK (ρ : Env) (i j : Nat) (o : Option (List D)) : Fl := match o with
  | some [d, e] => .nx ((ρ.set i (.val d)).set j (.val e))
  | _ => .bad
@[simp] theorem p_sPar {ρ : Env} {i j : Nat} {ma : MA} : sPar i j ma ρ = toS ρ (ma ρ) fun ts => parK ρ i j (stD ts) := (rfl)
@[simp] theorem parK_two {ρ : Env} {i j : Nat} {d e : D} : parK ρ i j (some [d, e]) = .nx ((ρ.set i (.val d)).set j (.val e)) := (rfl)
theorem d_shared (a b : Nat) (ha : a ≤ 900000) : d_P_shared [.int a, .int b] = .ok (.st (.int (Nat.gcd a b : Nat))) := by
  unfold d_P_shared runD
  refine run_of ?_
  simp [b_P_shared]
  refine wp_while (fun k ρ => ∃ c o : Nat, ρ = [.val (.int c), .val (.int (o : Nat))] ∧ Nat.gcd c o = Nat.gcd a b ∧ ((o ≤ a ∧ k = o) ∨ (c = a ∧ k = a + 1))) (fun ρ => ∃ j, ρ = [.val (.int (Nat.gcd a b : Nat)), j]) ?_ ?_ _ (a + 1) _ (by omega) ⟨a, b, rfl, rfl, .inr ⟨rfl, rfl⟩⟩
  · rintro J k _ ⟨c, o, rfl, h, hk0⟩ hJ
    refine ⟨decide (0 < o), by simp, fun hk => ?_, fun hk => ?_⟩
    · have : o = 0 := by simpa using hk
      subst this
      rw [Nat.gcd_zero_right] at h
      exact ⟨_, by rw [h]⟩
    · have hk := of_decide_eq_true hk
      simp (disch := omega) [p_mod]
      have hlt := Nat.mod_lt c hk
      have hle := Nat.mod_le c o
      refine hJ (c % o) _ (by omega) ⟨o, c % o, ?_, ?_, .inl ⟨by omega, rfl⟩⟩
      · rw [Int.natCast_emod]
      · rw [← h, Nat.gcd_comm c o, Nat.gcd_comm o (c % o)]
        exact (Nat.gcd_rec o c).symm
  · rintro _ ⟨j, rfl⟩
    simp
def facN : Nat → Nat
  | 0 => 1
  | n + 1 => (n + 1) * facN n
theorem fac_nat : ∀ n, fac n = (facN n : Nat)
  | 0 => rfl
  | n + 1 => by rw [fac, fac_nat n, facN]; simp
theorem facN_pos (n : Nat) : 0 < facN n := by
  have := fac_pos n
  rw [fac_nat] at this
  omega
/-- the top of place k by m -/
def top (m k : Nat) : Nat := m / Nat.gcd m (facN k)
theorem dvd_facN (k : Nat) (h : 0 < k) : ∀ n : Nat, k ≤ n → k ∣ facN n := by
  intro n
  induction n with
  | zero => intro hk; omega
  | succ n ih =>
    intro hk
    rw [facN]
    rcases Nat.lt_or_ge k (n + 1) with h1 | h1
    · exact Nat.dvd_trans (ih (by omega)) (Nat.dvd_mul_left _ _)
    · have : k = n + 1 := by omega
      rw [this]
      exact Nat.dvd_mul_right _ _
theorem top_end {m n : Nat} (hm : 0 < m) (hn : m ≤ n) : top m n = 1 := by
  unfold top
  rw [Nat.gcd_eq_left (dvd_facN m hm n hn), Nat.div_self hm]
theorem top_dvd (m k : Nat) : m ∣ top m k * facN k := by
  unfold top
  have h1 := Nat.gcd_dvd_left m (facN k)
  have h2 := Nat.gcd_dvd_right m (facN k)
  obtain ⟨c, hc⟩ := h2
  refine ⟨c, ?_⟩
  have e : m / Nat.gcd m (facN k) * Nat.gcd m (facN k) = m := Nat.div_mul_cancel h1
  calc m / Nat.gcd m (facN k) * facN k = m / Nat.gcd m (facN k) * (Nat.gcd m (facN k) * c) := by rw [← hc]
    _ = m * c := by rw [← Nat.mul_assoc, e]
theorem top_pos {m k : Nat} (hm : 0 < m) : 0 < top m k := Nat.div_pos (Nat.le_of_dvd hm (Nat.gcd_dvd_left _ _)) (Nat.gcd_pos_of_pos_left _ hm)
/-- the tops by m, n of them -/
def topsL (m n : Nat) : List Int := (List.range n).map fun k => (top m k : Int)
structure Tops (m n : Nat) : Prop where
  big : ∀ k < n, 1 < top m k
  fin : top m n = 1
  le : n ≤ m
theorem d_tops_of {m : Nat} (hm : 0 < m) (h60 : m ≤ 60) : ∃ n, d_P_tops_of [.int m] = .ok (.fr (nl (topsL m n))) ∧ Tops m n := by
  have key : ∃ t, d_P_tops_of [.int m] = .ok t ∧ ∃ n, t = .fr (nl (topsL m n)) ∧ Tops m n := by
    unfold d_P_tops_of runD
    refine run_ex ?_
    simp [b_P_tops_of]
    refine wp_while (fun j ρ => ∃ k : Nat, ρ = [.val (.int m), .own (nl (topsL m k)), .val (.int (facN k : Nat)), .val (.int (top m k : Nat))] ∧ j = m - k ∧ k ≤ m ∧ ∀ i < k, 1 < top m i) (fun ρ => ∃ k j2 j3, ρ = [.val (.int m), .own (nl (topsL m k)), j2, j3] ∧ Tops m k) ?_ ?_ _ m _ (by omega) ⟨0, by simp [topsL, facN, top], rfl, by omega, fun i h => by omega⟩
    · rintro J j _ ⟨k, rfl, rfl, hk, hb⟩ hJ
      refine ⟨decide (1 < (top m k : Int)), by simp, fun h => ?_, fun h => ?_⟩
      · have h := of_decide_eq_false h
        have hp := top_pos (k := k) hm
        exact ⟨k, _, _, rfl, hb, by omega, hk⟩
      · have h := of_decide_eq_true h
        have hlt : k < m := by
          rcases Nat.lt_or_ge k m with z | z
          · exact z
          · have := top_end hm z; omega
        have hl : (topsL m k ++ [(top m k : Int)]) = topsL m (k + 1) := by unfold topsL; rw [List.range_succ, List.map_append]; rfl
        have hll : (topsL m k).length = k := by unfold topsL; rw [List.length_map, List.length_range]
        have hll2 : ((topsL m (k + 1)).length : Int) = (k : Int) + 1 := by unfold topsL; rw [List.length_map, List.length_range]; omega
        have hkl : k < 100000 := by omega
        have m1 : MulOk (facN k : Int) ((k : Int) + 1) := Sm.okR (by unfold Sm; omega)
        have e1 : (facN k : Int) * ((k : Int) + 1) = ((facN (k + 1) : Nat) : Int) := by rw [facN]; simp; rw [Int.mul_comm]
        have hg := d_shared m (facN (k + 1)) (by omega)
        have hgp : 0 < Nat.gcd m (facN (k + 1)) := Nat.gcd_pos_of_pos_left _ hm
        have hgl : Nat.gcd m (facN (k + 1)) ≤ m := Nat.le_of_dvd hm (Nat.gcd_dvd_left _ _)
        simp (disch := omega) [hll, hll2, hkl, p_mul m1, e1, hg, p_div, hl]
        refine hJ (m - (k + 1)) _ (by omega) ⟨k + 1, ?_, rfl, hlt, fun i hi => ?_⟩
        · unfold top
          rw [Int.natCast_ediv]
        · rcases Nat.lt_or_ge i k with z | z
          · exact hb i z
          · have : i = k := by omega
            rw [this]; omega
    · rintro _ ⟨k, j2, j3, rfl, ht⟩
      simp
      exact ⟨k, rfl, ht⟩
  obtain ⟨_, e, n, rfl, h⟩ := key
  exact ⟨n, e, h⟩
end RF

set_option Elab.async false
set_option linter.all false
set_option maxRecDepth 100000
set_option autoImplicit false
namespace RF
open PySem PySem.Spec L2 RF.M
def num (c : Int) : Int := if c % 4 = 0 then c / 4 % 10 ^ 60 % 5 - 2 else if c % 4 = 1 then 0 - c / 4 % 10 ^ 60 else c / 4 % 10 ^ 60
theorem d_number (c : Int) : d_L_number [.int c] = .ok (.st (.int (num c))) := by
  unfold d_L_number runD
  refine run_of ?_
  simp (disch := omega) [b_L_number, p_mod, p_div, p_pow, num]
  grind
theorem num_sm (c : Int) : Sm 200 (num c) := by
  unfold num Sm
  have h : c / 4 % 10 ^ 60 < 10 ^ 60 := Int.emod_lt_of_pos _ (by decide)
  have h0 : 0 ≤ c / 4 % 10 ^ 60 := Int.emod_nonneg _ (by decide)
  split
  · omega
  · split <;> omega
theorem d_whole (x : Int) : d_L_whole [.int x] = .ok (.st (.bl true)) := by
  unfold d_L_whole runD
  refine run_of ?_
  simp [b_L_whole, isiD]
theorem d_at1 (l : List Int) (k : Int) (h : 0 ≤ k) : d_L_at [il l, .int k] = .ok (.st (.int (gi l k.toNat))) := by
  by_cases hk : k < l.length
  · unfold d_L_at runD
    refine run_of ?_
    simp [b_L_at, hk, ints_at h hk]
  · unfold d_L_at runD
    refine run_of ?_
    simp [b_L_at, hk, gi_none (show l.length ≤ k.toNat by omega)]
def polyL (l : List Int) (s : Int) : List Int := if s % 3 = 1 ∧ (l.length : Int) < 11 then l.map num ++ List.replicate (1 + s / 3 % 2).toNat 0 else l.map num
theorem polyL_len (l : List Int) (s : Int) : (polyL l s).length ≤ max l.length 12 := by
  unfold polyL
  split
  · simp; omega
  · simp; omega
theorem polyL_sm (l : List Int) (s : Int) : ∀ a ∈ polyL l s, Sm 200 a := by
  unfold polyL
  intro a ha
  split at ha
  · rcases List.mem_append.mp ha with ha | ha
    · obtain ⟨b, _, rfl⟩ := List.mem_map.mp ha
      exact num_sm b
    · rw [List.eq_of_mem_replicate ha]; exact Sm.zero _
  · obtain ⟨b, _, rfl⟩ := List.mem_map.mp ha
    exact num_sm b
theorem d_poly (l : List Int) (s : Int) (hl : l.length ≤ 100) : d_L_poly [il l, .int s] = .ok (.st (il (polyL l s))) := by
  have hc : compD (gN 3) cYes (eCall 1 d_L_number (aC (eV 3) aN)) [.val (il l), .val (.int s), .no, .no] (nl l) = .ok (nl (l.map num)) := by
    refine comp_ints _ _ fun a ha => ?_
    simp [d_number]
  have hl' : l.length ≤ 100000 := by omega
  unfold polyL
  unfold d_L_poly runD
  refine run_of ?_
  by_cases h : s % 3 = 1 ∧ (l.length : Int) < 11
  · simp (disch := (try simp only [List.length_map, List.length_replicate]); omega) [b_L_poly, hc, p_mod, p_div, p_addI, p_dRep, h, hl']
  · rw [if_neg h]
    simp (disch := (try simp only [List.length_map, List.length_replicate]); omega) [b_L_poly, hc, p_mod, p_div, p_addI, p_dRep, hl']
    omega
end RF

set_option Elab.async false
set_option linter.all false
set_option maxRecDepth 100000
set_option autoImplicit false
/-! the laws' own sums, products -/
namespace RF
open PySem PySem.Spec L2 RF.M
theorem d_same (a b : List Int) (ha : a.length ≤ 100000) : d_L_same [il a, il b] = .ok (.st (.bl (decide (a = b)))) := by
  have hc : compD (gN 2) cYes (eCall 1 d_L_whole (aC (eV 2) aN)) [.val (il a), .val (il b), .no] (nl a) = .ok ((a.map fun _ => true).map D.bl) := by
    unfold nl
    rw [List.map_map]
    refine comp_map _ _ _ fun x hx => ?_
    simp [d_whole]
  unfold d_L_same runD
  refine run_of ?_
  by_cases h : (a.length : Int) = b.length
  · simp [b_L_same, isiD, hc, h, ha, -List.map_map]
  · have h2 : a ≠ b := fun e => h (by rw [e])
    simp [b_L_same, isiD, h, h2]
theorem d_Ltrimmed (l : List Int) (hl : l.length ≤ 900000) : d_L_trimmed [il l] = .ok (.fr (nl (tr l))) := d_trimmed l hl
theorem d_Ltimes (a b : List Int) (ha : a.length ≤ 50000) (hb : b.length ≤ 50000) (hm : ∀ x ∈ a, ∀ y ∈ b, MulOk x y) : d_L_times [il a, il b] = .ok (.fr (nl (ptimes a b))) := by
  unfold d_L_times runD
  refine run_of ?_
  simp (disch := omega) [b_L_times, p_dRep, p_rng1]
  refine wp_rng (fun i ρ => ∃ j3 j4 f, ρ = [.val (il a), .val (il b), .own (nl f), j3, j4] ∧ f.length = a.length + b.length ∧ ∀ x, hor x f = hor x (a.take i) * hor x b) ⟨_, _, _, rfl, by simp; omega, fun x => by rw [hor_rep]; simp [hor]⟩ ?_ ?_
  · rintro J i _ hi ⟨j3, j4, f, rfl, hf, hx⟩ hJ
    simp (disch := omega) [p_rng1]
    refine wp_rng (fun k ρ => ∃ j4 f, ρ = [.val (il a), .val (il b), .own (nl f), .val (.int i), j4] ∧ f.length = a.length + b.length ∧ ∀ x, hor x f = hor x (a.take i) * hor x b + gi a i * x ^ i * hor x (b.take k)) ⟨_, _, rfl, hf, fun x => by rw [hx]; simp [hor]⟩ ?_ ?_
    · rintro J2 k _ hk ⟨j4, f, rfl, hf, hx⟩ hJ2
      have hv := gi_mem hi
      have hu := gi_mem hk
      simp (disch := omega) [ints_at, ints_set, p_mul (hm _ hv _ hu)]
      refine hJ2 _ ⟨_, _, rfl, by simp [hf], fun x => ?_⟩
      have e3 : ((i : Int) + (k : Int)).toNat = i + k := by omega
      rw [e3, hor_set x (gi a i * gi b k) f _ (by omega), hx, hor_take x hk, Int.pow_add]
      grind
    · rintro _ ⟨j4, f, rfl, hf, hx⟩
      refine hJ _ ⟨_, _, f, rfl, hf, fun x => ?_⟩
      rw [hx, hor_take x hi, List.take_length]
      grind
  · rintro _ ⟨j3, j4, f, rfl, hf, hx⟩
    have : tr f = ptimes a b := by
      unfold ptimes
      exact tr_eq fun x => by rw [hx, hor_pmul, List.take_length]
    simp [d_Ltrimmed f (by omega), this]
theorem hor_zipAdd (x : Int) : ∀ a b : List Int, a.length = b.length → hor x ((a.zip b).map fun p => p.1 + p.2) = hor x a + hor x b
  | [], [], _ => by simp [hor]
  | [], _ :: _, h => by simp at h
  | _ :: _, [], h => by simp at h
  | a :: l, b :: r, h => by
    rw [List.zip_cons_cons, List.map_cons, hor, hor_zipAdd x l r (by simpa using h), hor, hor]
    grind
theorem comp_zip {g : MG} {c : MT} {me : ME} {ρ : Env} (h : Int × Int → Int) (a b : List Int) (H : ∀ p ∈ a.zip b, gP (g (.tup [.int p.1, .int p.2]) ρ) fun ρ1 => c ρ1 = .ok true ∧ (me ρ1 = .ok (.st (.int (h p))))) : compD g c me ρ (zipD (nl a) (nl b)) = .ok (nl ((a.zip b).map h)) := by
  unfold nl
  rw [zipD_map, List.map_map]
  exact comp_map _ _ _ H
theorem d_Lplus (a b : List Int) (ha : a.length ≤ 50000) (hb : b.length ≤ 50000) : d_L_plus [il a, il b] = .ok (.fr (nl (pplus a b))) := by
  have hc : ∀ u v : List Int, compD (gT 2 (gsC (gN 5) (gsC (gN 6) gsN))) cYes (e2 dAdd (eV 5) (eV 6)) [.val (il a), .val (il b), .val (.int (max a.length b.length)), .val (il u), .val (il v), .no, .no] (zipD (nl u) (nl v)) = .ok (nl ((u.zip v).map fun p => p.1 + p.2)) := by
    intro u v
    refine comp_zip _ _ _ fun p hp => ?_
    simp
  unfold d_L_plus runD
  refine run_of ?_
  have hz : ∀ u v : List Int, (zipD (nl u) (nl v)).length = min u.length v.length := fun u v => by rw [zipD_length, ints_length, ints_length]
  simp (disch := (try simp only [List.length_map, List.length_replicate]); omega) [b_L_plus, p_dRep, p_addI]
  rw [hc]
  have hk : (max (a.length : Int) b.length).toNat = max a.length b.length := by omega
  rw [hk]
  have he : tr (((a ++ List.replicate (max a.length b.length - a.length) 0).zip (b ++ List.replicate (max a.length b.length - b.length) 0)).map fun p : Int × Int => p.1 + p.2) = pplus a b := by
    unfold pplus
    refine tr_eq fun x => ?_
    rw [hor_zipAdd _ _ _ (by simp; omega), hor_append, hor_append, hor_rep, hor_rep, hor_padd]
    grind
  have hl : ((a ++ List.replicate (max a.length b.length - a.length) 0).zip (b ++ List.replicate (max a.length b.length - b.length) 0)).length ≤ 100000 := by
    rw [List.length_zip]; simp; omega
  have hl2 : min (a ++ List.replicate (max a.length b.length - a.length) (0 : Int)).length (b ++ List.replicate (max a.length b.length - b.length) (0 : Int)).length ≤ 100000 := by simp; omega
  rw [hz, R.bind_ok, if_pos hl2, R.bind_ok, R.bind_ok]
  simp only [p_setfr, p_call1]
  rw [d_Ltrimmed _ (by rw [List.length_map]; omega), he]
  simp
end RF

set_option Elab.async false
set_option linter.all false
set_option maxRecDepth 100000
set_option autoImplicit false
/-! Rests, value, form_of -/
namespace RF
open PySem PySem.Spec L2 RF.M
/-- a Rests object -/
def rests (m n : Nat) : D := .obj .rests ["many", "tops"] [.int m, il (topsL m n)]
theorem rests_fold {m n : Nat} : D.obj .rests [Str.ofString "many", Str.ofString "tops"] [.int m, il (topsL m n)] = rests m n := (rfl)
def insK (C : Cl) (s : Sl) (r : Fl) : Fl := insC C s r
@[simp] theorem p_sFldC {C : Cl} {i : Nat} {f : Str} {me : ME} {ρ : Env} : sFldC C i f me ρ = insC C (slG ρ i) (toS ρ (me ρ) fun t => nxO ((stT t.set).bind fun d => (slIns (slG ρ i) f d).map fun s => ρ.set i s)) := (rfl)
@[simp] theorem p_insC {C : Cl} {a : Addr} {ks : List Str} {l : List D} {r : Fl} : insC C (.ins a C ks l) r = r := if_pos rfl
@[simp] theorem p_slIns0 {C : Cl} {a : Addr} {f : Str} {d : D} : slIns (.ins a C [] []) f d = some (.ins a C [f] [d]) := by
  unfold slIns
  simp
theorem p_slIns1 {C : Cl} {a : Addr} {f g : Str} {d e : D} (h : f ≠ g) : slIns (.ins a C [g] [e]) f d = some (.ins a C [g, f] [e, d]) := by
  unfold slIns
  simp [h]
@[simp] theorem p_sRaise {c : Cl} {ρ : Env} : sRaise c ρ = .ex ρ ⟨c, [], []⟩ := (rfl)
def fldO (C : Cl) (f : Str) (d : D) : Option T := fldD C f d
@[simp] theorem fld_many {m n : Nat} : fldD .rests "many" (rests m n) = some (.st (.int m)) := (rfl)
@[simp] theorem fld_tops {m n : Nat} : fldD .rests "tops" (rests m n) = some (.st (il (topsL m n))) := (rfl)
/-- what a run of __init__ leaves -/
def outI (C : Cl) (x : Addr) (r : Fl) : R (List Str × List D) := match r with
  | .nx ρ => (match ρ.getD 0 .no with
    | .ins a C' ks l => if a = x ∧ C' = C then .ok (ks, l) else .bad
    | _ => .bad)
  | .ex _ xc => .ex xc
  | _ => .bad
theorem runI_eq {C : Cl} {nn : Nat} {m : MS} {x : Addr} {ds : List D} : runI C nn m x ds = outI C x (m (.ins x C [] [] :: (ds.map Sl.val ++ List.replicate (nn - (ds.length + 1)) Sl.no))) := (rfl)
theorem init_ok {m : Nat} (hm : 0 < m) (h60 : m ≤ 60) : ∃ n, newR (fun x => runI .rests 2 b_P___init__ x [.int m]) = .ok (["many", "tops"], [.int m, il (topsL m n)]) ∧ Tops m n := by
  obtain ⟨n, h1, h2⟩ := d_tops_of hm h60
  refine ⟨n, newR_of fun x => ?_, h2⟩
  have g1 : ¬ (m : Int) < 1 := by omega
  have g2 : ¬ (60 : Int) < (m : Int) := by omega
  have hne : (Str.ofString "tops") ≠ (Str.ofString "many") := by decide
  rw [runI_eq]
  have key : b_P___init__ (.ins x .rests [] [] :: ([D.int m].map Sl.val ++ List.replicate (2 - ([D.int m].length + 1)) Sl.no)) = .nx [.ins x .rests ["many", "tops"] [.int m, il (topsL m n)], .val (.int m)] := by
    simp [b_P___init__, g1, g2, h1, p_slIns1 hne]
  rw [key]
  unfold outI
  simp
theorem init_bad {m : Int} (hm : m < 1 ∨ 60 < m) : newR (fun x => runI .rests 2 b_P___init__ x [.int m]) = .ex ⟨.badRest, [], []⟩ := by
  refine newR_of fun x => ?_
  rw [runI_eq]
  have key : b_P___init__ (.ins x .rests [] [] :: ([D.int m].map Sl.val ++ List.replicate (2 - ([D.int m].length + 1)) Sl.no)) = .ex [.ins x .rests [] [], .val (.int m)] ⟨.badRest, [], []⟩ := by
    by_cases h : m < 1
    · simp [b_P___init__, h]
    · have h2 : 60 < m := by omega
      simp [b_P___init__, h, h2]
  rw [key]
  rfl
@[simp] theorem p_eNew {C : Cl} {n : Nat} {g : Addr → List D → R (List Str × List D)} {ma : MA} {ρ : Env} : eNew C n g ma ρ = (ma ρ).bind fun ts => if ts.length = n ∧ ts.all isSt = true then (newR fun x => g x (ts.map T.d)).bind fun r => if r.1.length = r.2.length then .ok (.st (.obj C r.1 r.2)) else .bad else .bad := (rfl)

@[simp] theorem topsL_length (m n : Nat) : (topsL m n).length = n := by unfold topsL; rw [List.length_map, List.length_range]
theorem topsL_get {m n k : Nat} (h : k < n) : (topsL m n)[k]? = some (top m k : Int) := by
  unfold topsL
  rw [List.getElem?_map, List.getElem?_range h]
  rfl
theorem topsL_mem {m n : Nat} {t : Int} (h : t ∈ topsL m n) : ∃ k < n, t = top m k := by
  unfold topsL at h
  obtain ⟨k, hk, rfl⟩ := List.mem_map.mp h
  exact ⟨k, List.mem_range.mp hk, rfl⟩
theorem gi_some {l : List Int} {k : Nat} {a : Int} (h : l[k]? = some a) : gi l k = a := by
  unfold gi
  rw [List.getD_eq_getElem?_getD, h]
  rfl
/-- the form of a list of falling numbers -/
def formL (m n : Nat) (f : List Int) : List Int := (List.range n).map fun k => gi f k % top m k
@[simp] theorem formL_length (m n : Nat) (f : List Int) : (formL m n f).length = n := by unfold formL; rw [List.length_map, List.length_range]
theorem zip_form (m n : Nat) (f : List Int) : ((f ++ List.replicate (n - f.length) 0).zip (topsL m n)).map (fun p : Int × Int => p.1 % p.2) = formL m n f := by
  refine List.ext_getElem? fun k => ?_
  rw [List.getElem?_map]
  by_cases hk : k < n
  · have h1 : (f ++ List.replicate (n - f.length) (0 : Int))[k]? = some (gi f k) := by
      by_cases h : k < f.length
      · rw [List.getElem?_append_left h, List.getElem?_eq_getElem h, gi_get h]
      · rw [List.getElem?_append_right (by omega), List.getElem?_replicate, if_pos (by omega), gi_none (by omega)]
    have h2 : ((f ++ List.replicate (n - f.length) (0 : Int)).zip (topsL m n))[k]? = some (gi f k, (top m k : Int)) := List.getElem?_zip_eq_some.mpr ⟨h1, topsL_get hk⟩
    rw [h2]
    unfold formL
    rw [List.getElem?_map, List.getElem?_range hk]
    rfl
  · have h3 : ((f ++ List.replicate (n - f.length) (0 : Int)).zip (topsL m n))[k]? = none := List.getElem?_eq_none (by rw [List.length_zip, topsL_length]; omega)
    rw [h3]
    exact (List.getElem?_eq_none (by rw [formL_length]; omega)).symm
theorem d_form_of {A m n : Nat} (hm : 0 < m) (hn : n ≤ 60) (a : List Int) (hl : a.length ≤ 1000) (ha : ∀ x ∈ a, Sm A x) (hA : A + a.length * a.length * 11 + a.length * 11 + 100 < 900000) : d_P_form_of1 [rests m n, il a] = .ok (.fr (nl (formL m n (pfalls a)))) := by
  have hfl := pfalls_length a
  have htl := tr_length a
  generalize hf : pfalls a = f at *
  have hcut : cutL (topsL m n) (some (f.length : Int)) none = (topsL m n).drop f.length := by
    unfold cutL
    rw [HT.sIx_nat, HT.sIx_none, topsL_length]
    rcases Nat.lt_or_ge f.length n with h | h
    · rw [Nat.min_eq_left (by omega), List.take_of_length_le (by rw [List.length_drop, topsL_length]; omega)]
    · rw [Nat.min_eq_right (by omega), List.drop_of_length_le (by rw [topsL_length]; omega), List.drop_of_length_le (by rw [topsL_length]; omega)]
      simp
  have hc1 : ∀ l : List Int, compD (gN 3) cYes (eC (.int 0)) [.val (rests m n), .val (il a), .val (il f), .no, .no] (nl l) = .ok (nl (List.replicate l.length 0)) := by
    intro l
    have := comp_ints (g := gN 3) (c := cYes) (me := eC (.int 0)) (ρ := [.val (rests m n), .val (il a), .val (il f), .no, .no]) (fun _ => 0) l fun y hy => by simp
    rw [this, List.map_const']
  have hc2 : ∀ l : List Int, compD (gT 2 (gsC (gN 4) (gsC (gN 3) gsN))) cYes (e2 dMod (eV 4) (eV 3)) [.val (rests m n), .val (il a), .val (il l), .no, .no] (zipD (nl l) (nl (topsL m n))) = .ok (nl ((l.zip (topsL m n)).map fun p => p.1 % p.2)) := by
    intro l
    refine comp_zip _ _ _ fun p hp => ?_
    obtain ⟨k, _, hk⟩ := topsL_mem (List.of_mem_zip hp).2
    have : (0 : Int) < p.2 := by rw [hk]; have := top_pos (k := k) hm; omega
    simp [p_mod this]
  have hz : ∀ u v : List Int, (zipD (nl u) (nl v)).length = min u.length v.length := fun u v => by rw [zipD_length, ints_length, ints_length]
  have hlen : ((topsL m n).drop f.length).length = n - f.length := by rw [List.length_drop, topsL_length]
  have hl2 : n - f.length ≤ 100000 := by omega
  have hl3 : min (f.length + (n - f.length)) n ≤ 100000 := by omega
  have hn2 : n ≤ 100000 := by omega
  have hzf := zip_form m n f
  unfold d_P_form_of1 runD
  refine run_of ?_
  simp (disch := (try simp only [List.length_map, List.length_replicate, hlen]); omega) [b_P_form_of1, d_falls a hl ha hA, hf, hcut, hc1, hlen, hl2, p_addI, hc2, hz, hzf, topsL_length, hl3, hn2]

theorem wp_zip {g : MG} {s : MS} {P : Post} {ρ : Env} {a b : List Int} (I : List (Int × Int) → Env → Prop) (h0 : I [] ρ)
    (st : ∀ (J : Env → Prop) d p rest ρ, a.zip b = d ++ p :: rest → I d ρ → (∀ ρ2, I (d ++ [p]) ρ2 → J ρ2) → gP (g (.tup [.int p.1, .int p.2]) ρ) fun ρ1 => WFl (s ρ1) ⟨J, J, P.nx, P.rt, P.ex⟩) (h1 : ∀ ρ, I (a.zip b) ρ → P.nx ρ) : WFl (forD g s (zipD (nl a) (nl b)) ρ) P := by
  unfold nl
  rw [zipD_map]
  exact wp_for _ I h0 st h1
/-- a form by m -/
structure IsForm (m n : Nat) (f : List Int) : Prop where
  len : f.length = n
  low : ∀ k < n, 0 ≤ gi f k ∧ gi f k < top m k
theorem formL_form {m n : Nat} (hm : 0 < m) (f : List Int) : IsForm m n (formL m n f) := by
  refine ⟨formL_length m n f, fun k hk => ?_⟩
  have h : (formL m n f)[k]? = some (gi f k % top m k) := by
    unfold formL
    rw [List.getElem?_map, List.getElem?_range hk]
    rfl
  rw [gi_some h]
  have := top_pos (k := k) hm
  exact ⟨Int.emod_nonneg _ (by omega), Int.emod_lt_of_pos _ (by omega)⟩
theorem form_zip {m n : Nat} {f : List Int} (h : IsForm m n f) {p : Int × Int} (hp : p ∈ f.zip (topsL m n)) : 0 ≤ p.1 ∧ p.1 < p.2 := by
  obtain ⟨i, hi⟩ := List.mem_iff_getElem?.mp hp
  obtain ⟨h1, h2⟩ := List.getElem?_zip_eq_some.mp hi
  have hl : i < n := by
    rcases Nat.lt_or_ge i n with z | z
    · exact z
    · rw [List.getElem?_eq_none (by rw [topsL_length]; exact z)] at h2
      cases h2
  rw [topsL_get hl] at h2
  have h3 := Option.some.inj h2
  have := h.low i hl
  rw [gi_some h1, h3] at this
  exact this
theorem d_look {m n : Nat} {f : List Int} (h : IsForm m n f) : d_P_look_at_form [rests m n, il f] = .ok (.st .non) := by
  have hl := h.len
  unfold d_P_look_at_form runD
  refine run_of ?_
  simp [b_P_look_at_form, hl]
  refine wp_zip (fun _ ρ => ∃ j1 j2, ρ = [.val (rests m n), .val (il f), j1, j2]) ⟨_, _, rfl⟩ ?_ ?_
  · rintro J d p rest _ e ⟨j1, j2, rfl⟩ hJ
    obtain ⟨z1, z2⟩ := form_zip h (p := p) (by rw [e]; simp)
    have g1 : ¬ p.1 < 0 := by omega
    have g2 : ¬ p.2 ≤ p.1 := by omega
    simp [g1, g2]
    exact hJ _ ⟨_, _, rfl⟩
  · rintro _ ⟨j1, j2, rfl⟩
    simp
theorem form_sm {m n : Nat} {f : List Int} (hm : 0 < m) (h60 : m ≤ 60) (h : IsForm m n f) : ∀ x ∈ f, Sm 6 x := by
  intro x hx
  obtain ⟨i, hi⟩ := List.mem_iff_getElem?.mp hx
  have hl : i < n := by
    rcases Nat.lt_or_ge i n with z | z
    · exact z
    · rw [List.getElem?_eq_none (by rw [h.len]; exact z)] at hi
      cases hi
  have h1 := h.low i hl
  rw [gi_some hi] at h1
  have h2 : top m i ≤ m := Nat.div_le_self _ _
  unfold Sm
  omega
theorem d_value {m n : Nat} {f : List Int} (hm : 0 < m) (h60 : m ≤ 60) (hn : n ≤ 60) (h : IsForm m n f) (x : Int) : d_P_value [rests m n, il f, .int x] = .ok (.st (.int (fh (x % m) 0 f % m))) := by
  have hmi : (0 : Int) < m := by omega
  have hxs : Sm 6 (x % m) := Sm.mod hmi (by unfold Sm; omega)
  have hl := h.len
  have hb : f.length * (6 + 12) ≤ 60 * 18 := Nat.mul_le_mul_right _ (by omega)
  have h1 := d_at_falls f (x % m) (by omega) (form_sm hm h60 h) hxs (by omega)
  have h2 : d_P_rest_at1 [rests m n, il f, .int x] = .ok (.st (.int (fh (x % m) 0 f % m))) := by
    unfold d_P_rest_at1 runD
    refine run_of ?_
    simp [b_P_rest_at1, p_mod hmi, h1]
  unfold d_P_value runD
  refine run_of ?_
  simp [b_P_value, d_look h, h2]
end RF

set_option Elab.async false
set_option linter.all false
set_option maxRecDepth 100000
set_option autoImplicit false
/-! forms leave the rests of their polynomials -/
namespace RF
def sF (x : Int) (l : List Int) : Nat → Int
  | 0 => 0
  | n + 1 => sF x l n + gi l n * fp x 0 n
theorem sF_take (x : Int) (l : List Int) : ∀ n, n ≤ l.length → fh x 0 (l.take n) = sF x l n
  | 0, _ => by simp [fh, sF]
  | n + 1, h => by
    rw [take_succ_gi (by omega : n < l.length), fh_snoc, List.length_take, Nat.min_eq_left (by omega), sF_take x l n (by omega), sF]
theorem sF_more (x : Int) (l : List Int) : ∀ n, l.length ≤ n → sF x l n = sF x l l.length := by
  intro n h
  induction n with
  | zero => rw [show l.length = 0 by omega]
  | succ n ih =>
    rcases Nat.lt_or_ge n l.length with z | z
    · rw [show l.length = n + 1 by omega]
    · rw [sF, ih z, gi_none z]; simp
theorem fh_sF (x : Int) (l : List Int) {n : Nat} (h : l.length ≤ n) : fh x 0 l = sF x l n := by
  rw [sF_more x l n h, ← sF_take x l _ (Nat.le_refl _), List.take_length]
theorem facN_dvd : ∀ (n d : Nat), facN n ∣ facN (n + d)
  | n, 0 => Nat.dvd_refl _
  | n, d + 1 => Nat.dvd_trans (facN_dvd n d) (by rw [show n + (d + 1) = (n + d) + 1 by omega, facN]; exact Nat.dvd_mul_left _ _)
theorem top_fp (m k : Nat) (x : Int) : (m : Int) ∣ (top m k : Int) * fp x 0 k := by
  have h1 : (m : Int) ∣ (top m k : Int) * (facN k : Int) := by
    have := Int.natCast_dvd_natCast.mpr (top_dvd m k)
    rwa [Int.natCast_mul] at this
  have h2 := fac_dvd k x
  rw [fac_nat] at h2
  exact Int.dvd_trans h1 (Int.mul_dvd_mul_left _ h2)
theorem fin_fp {m n : Nat} (h : Tops m n) {k : Nat} (hk : n ≤ k) (x : Int) : (m : Int) ∣ fp x 0 k := by
  have h1 : m ∣ facN n := by
    have := top_dvd m n
    rwa [h.fin, Nat.one_mul] at this
  have h2 : m ∣ facN k := by
    have := facN_dvd n (k - n)
    rw [show n + (k - n) = k by omega] at this
    exact Nat.dvd_trans h1 this
  have h3 := fac_dvd k x
  rw [fac_nat] at h3
  exact Int.dvd_trans (Int.natCast_dvd_natCast.mpr h2) h3
theorem gi_form {m n k : Nat} (f : List Int) (h : k < n) : gi (formL m n f) k = gi f k % top m k := by
  refine gi_some ?_
  unfold formL
  rw [List.getElem?_map, List.getElem?_range h]
  rfl
theorem sF_form {m n : Nat} (h : Tops m n) (f : List Int) (x : Int) : ∀ N, (m : Int) ∣ sF x f N - sF x (formL m n f) N
  | 0 => by simp [sF]
  | N + 1 => by
    have ih := sF_form h f x N
    rw [sF, sF]
    have e : sF x f N + gi f N * fp x 0 N - (sF x (formL m n f) N + gi (formL m n f) N * fp x 0 N) = (sF x f N - sF x (formL m n f) N) + (gi f N - gi (formL m n f) N) * fp x 0 N := by grind
    rw [e]
    refine Int.dvd_add ih ?_
    rcases Nat.lt_or_ge N n with z | z
    · rw [gi_form f z]
      have e2 : gi f N - gi f N % (top m N : Int) = (top m N : Int) * (gi f N / (top m N : Int)) := by
        have := Int.emod_add_mul_ediv (gi f N) (top m N)
        omega
      rw [e2]
      have e3 : (top m N : Int) * (gi f N / (top m N : Int)) * fp x 0 N = (gi f N / (top m N : Int)) * ((top m N : Int) * fp x 0 N) := by grind
      rw [e3]
      exact Int.dvd_trans (top_fp m N x) (Int.dvd_mul_left _ _)
    · exact Int.dvd_trans (fin_fp h z x) (Int.dvd_mul_left _ _)
theorem form_rest {m n : Nat} (h : Tops m n) (f : List Int) (x : Int) : fh x 0 (formL m n f) % m = fh x 0 f % m := by
  rw [fh_sF x f (n := max f.length n) (by omega), fh_sF x (formL m n f) (n := max f.length n) (by rw [formL_length]; omega)]
  exact (Int.emod_emod_of_dvd _ (Int.dvd_refl _) ▸ (Int.emod_eq_emod_iff_emod_sub_eq_zero.mpr (Int.emod_eq_zero_of_dvd (sF_form h f x (max f.length n)))).symm)

theorem hor_cong {m x y : Int} (h : m ∣ x - y) : ∀ l : List Int, m ∣ hor x l - hor y l
  | [] => by simp [hor]
  | a :: l => by
    have ih := hor_cong h l
    rw [hor, hor]
    have e : a + x * hor x l - (a + y * hor y l) = x * (hor x l - hor y l) + (x - y) * hor y l := by grind
    rw [e]
    exact Int.dvd_add (Int.dvd_trans ih (Int.dvd_mul_left _ _)) (Int.dvd_trans h (Int.dvd_mul_right _ _))
theorem emod_of_dvd {m a b : Int} (h : m ∣ a - b) : a % m = b % m := Int.emod_eq_emod_iff_emod_sub_eq_zero.mpr (Int.emod_eq_zero_of_dvd h)
theorem mod_dvd (m x : Int) : m ∣ x % m - x := by
  have := Int.emod_add_mul_ediv x m
  refine ⟨-(x / m), ?_⟩
  have e : m * -(x / m) = -(m * (x / m)) := by grind
  rw [e]
  omega
theorem hor_mod (m x : Int) (l : List Int) : hor (x % m) l % m = hor x l % m := emod_of_dvd (hor_cong (mod_dvd m x) l)
theorem fh_mod (m x : Int) (l : List Int) : fh (x % m) 0 l % m = fh x 0 l % m := by
  rw [← hor_unf, ← hor_unf, hor_mod]
/-- the rest that value tells of a polynomial's form -/
theorem value_form {m n : Nat} (h : Tops m n) (a : List Int) (x : Int) : fh (x % m) 0 (formL m n (pfalls a)) % m = hor x a % m := by
  rw [fh_mod, form_rest h, fh_pfalls]
theorem top_step {m : Nat} (hm : 0 < m) (k : Nat) : top m (k + 1) = top m k / Nat.gcd (top m k) (k + 1) := by
  unfold top
  rw [facN]
  have hg : 0 < Nat.gcd m (facN k) := Nat.gcd_pos_of_pos_left _ hm
  obtain ⟨t, ht⟩ := Nat.gcd_dvd_left m (facN k)
  obtain ⟨c, hc⟩ := Nat.gcd_dvd_right m (facN k)
  have e1 : m / Nat.gcd m (facN k) = t := Nat.div_eq_of_eq_mul_right hg ht
  have hco : Nat.gcd t c = 1 := by
    have h1 : Nat.gcd m (facN k) * 1 = Nat.gcd m (facN k) * Nat.gcd t c := by
      rw [← Nat.gcd_mul_left, ← ht, ← hc, Nat.mul_one]
    exact (Nat.eq_of_mul_eq_mul_left hg h1).symm
  rw [e1]
  have e3 : Nat.gcd m ((k + 1) * facN k) = Nat.gcd m (facN k) * Nat.gcd t (k + 1) := by
    generalize Nat.gcd m (facN k) = g at *
    rw [hc, ht, Nat.mul_left_comm, Nat.gcd_mul_left]
    congr 1
    exact Nat.Coprime.gcd_mul_right_cancel_right (k + 1) (show Nat.Coprime c t from by unfold Nat.Coprime; rw [Nat.gcd_comm]; exact hco)
  rw [e3]
  generalize Nat.gcd m (facN k) = g at *
  rw [ht, Nat.mul_div_mul_left _ _ hg]
end RF

set_option Elab.async false
set_option linter.all false
set_option maxRecDepth 100000
set_option autoImplicit false
/-! differences of tables -/
namespace RF
/-- the k-th differences -/
def dl : Nat → (Nat → Int) → Nat → Int
  | 0, t => t
  | k + 1, t => fun i => dl k t (i + 1) - dl k t i
theorem dl_cong {m : Int} {t u : Nat → Int} : ∀ (k j : Nat), (∀ i, i ≤ j + k → m ∣ t i - u i) → m ∣ dl k t j - dl k u j
  | 0, j, h => h j (by omega)
  | k + 1, j, h => by
    have h1 := dl_cong k (j + 1) (fun i hi => h i (by omega))
    have h2 := dl_cong k j (fun i hi => h i (by omega))
    show m ∣ dl k t (j + 1) - dl k t j - (dl k u (j + 1) - dl k u j)
    have e : dl k t (j + 1) - dl k t j - (dl k u (j + 1) - dl k u j) = (dl k t (j + 1) - dl k u (j + 1)) - (dl k t j - dl k u j) := by omega
    rw [e]
    exact Int.dvd_sub h1 h2
theorem dl_sub (t u : Nat → Int) : ∀ (k j : Nat), dl k (fun i => t i - u i) j = dl k t j - dl k u j
  | 0, j => rfl
  | k + 1, j => by
    show dl k (fun i => t i - u i) (j + 1) - dl k (fun i => t i - u i) j = dl k t (j + 1) - dl k t j - (dl k u (j + 1) - dl k u j)
    rw [dl_sub t u k (j + 1), dl_sub t u k j]
    omega
/-- what all differences at 0 tell -/
theorem dl_back {m : Int} {u : Nat → Int} : ∀ (i k : Nat), (∀ j, j ≤ i → m ∣ dl (k + j) u 0) → m ∣ dl k u i
  | 0, k, h => by have := h 0 (Nat.le_refl _); simpa using this
  | i + 1, k, h => by
    have h1 := dl_back i k (fun j hj => h j (by omega))
    have h2 := dl_back i (k + 1) (fun j hj => by have := h (j + 1) (by omega); rwa [show k + 1 + j = k + (j + 1) by omega])
    have e : dl k u (i + 1) = dl (k + 1) u i + dl k u i := by
      show dl k u (i + 1) = dl k u (i + 1) - dl k u i + dl k u i
      omega
    rw [e]
    exact Int.dvd_add h2 h1
theorem dl_sm {A : Nat} {t : Nat → Int} : ∀ (k j : Nat), (∀ i, i ≤ j + k → Sm A (t i)) → Sm (A + k) (dl k t j)
  | 0, j, h => h j (by omega)
  | k + 1, j, h => by
    have h1 := dl_sm k (j + 1) (fun i hi => h i (by omega))
    have h2 := dl_sm k j (fun i hi => h i (by omega))
    exact h1.sub h2
/-- the difference of a sum of falling products -/
def wtd : Nat → List Int → List Int
  | _, [] => []
  | j, a :: l => (j : Nat) * a :: wtd (j + 1) l
theorem fh_shift (x : Int) : ∀ (l : List Int) (k : Nat), fh (x + 1) (k + 1) l = fh x k l
  | [], _ => rfl
  | a :: l, k => by
    rw [fh, fh, fh_shift x l (k + 1)]
    have : x + 1 - ((k + 1 : Nat) : Int) = x - k := by omega
    rw [this]
theorem fh_diff0 (x : Int) : ∀ (l : List Int) (j : Nat), (x + 1) * fh x j l - (x - j) * fh x (j + 1) l = fh x j (wtd (j + 1) l)
  | [], j => by simp [fh, wtd]
  | a :: l, j => by
    have ih := fh_diff0 x l (j + 1)
    rw [wtd, fh, fh, fh]
    rw [← ih]
    have e : ((j + 1 : Nat) : Int) = (j : Int) + 1 := by omega
    rw [e]
    generalize fh x (j + 1) l = p
    generalize fh x (j + 1 + 1) l = q
    grind
theorem fh_diff (x : Int) (l : List Int) : fh (x + 1) 0 l - fh x 0 l = fh x 0 (wtd 1 l.tail) := by
  cases l with
  | nil => simp [fh, wtd]
  | cons a l =>
    have h := fh_diff0 x l 0
    rw [List.tail_cons, ← h, fh, fh]
    have e : fh (x + 1) (0 + 1) l = fh x 0 l := fh_shift x l 0
    rw [e]
    have e0 : ((0 : Nat) : Int) = 0 := rfl
    rw [e0, Int.sub_zero, Int.sub_zero]
    omega
theorem gi_wtd : ∀ (l : List Int) (j i : Nat), gi (wtd j l) i = ((j + i : Nat) : Int) * gi l i
  | [], j, i => by rw [wtd, gi_none (by simp)]; simp
  | a :: l, j, 0 => by rw [wtd]; rfl
  | a :: l, j, i + 1 => by
    have ih := gi_wtd l (j + 1) i
    have e1 : gi (wtd j (a :: l)) (i + 1) = gi (wtd (j + 1) l) i := by rw [wtd]; unfold gi; simp
    have e2 : gi (a :: l) (i + 1) = gi l i := by unfold gi; simp
    rw [e1, e2, ih, show j + 1 + i = j + (i + 1) by omega]
theorem gi_tl (l : List Int) (i : Nat) : gi l.tail i = gi l (i + 1) := by
  cases l with
  | nil => rw [List.tail_nil, gi_none (by simp), gi_none (by simp)]
  | cons a l => unfold gi; simp
def dv : Nat → List Int → List Int
  | 0, l => l
  | k + 1, l => wtd 1 (dv k l).tail
theorem dl_fh (f : List Int) : ∀ (k i : Nat), dl k (fun i => fh (i : Nat) 0 f) i = fh (i : Nat) 0 (dv k f)
  | 0, i => rfl
  | k + 1, i => by
    show dl k (fun i => fh (i : Nat) 0 f) (i + 1) - dl k (fun i => fh (i : Nat) 0 f) i = _
    rw [dl_fh f k, dl_fh f k, dv, ← fh_diff]
    rfl
/-- j + 1 times j + 2 .., k factors -/
def upf : Nat → Nat → Nat
  | _, 0 => 1
  | j, k + 1 => (j + 1) * upf (j + 1) k
theorem upf_fac : ∀ (k j : Nat), upf j k * facN j = facN (j + k)
  | 0, j => by simp [upf]
  | k + 1, j => by
    have ih := upf_fac k (j + 1)
    rw [upf, show j + (k + 1) = j + 1 + k by omega, ← ih, facN, Nat.mul_comm (j + 1), Nat.mul_assoc]
theorem gi_dv (f : List Int) : ∀ (k j : Nat), gi (dv k f) j = (upf j k : Nat) * gi f (j + k)
  | 0, j => by simp [dv, upf]
  | k + 1, j => by
    rw [dv, gi_wtd, gi_tl, gi_dv f k (j + 1), upf, show j + 1 + k = j + (k + 1) by omega, Int.natCast_mul, Int.mul_assoc, show 1 + j = j + 1 by omega]
theorem fh_0 (l : List Int) : fh 0 0 l = gi l 0 := by
  cases l with
  | nil => rw [gi_none (by simp)]; rfl
  | cons a l => rw [fh]; simp [gi]
theorem dl_fh0 (f : List Int) (k : Nat) : dl k (fun i => fh (i : Nat) 0 f) 0 = (facN k : Nat) * gi f k := by
  rw [dl_fh]
  show fh 0 0 (dv k f) = _
  have := upf_fac k 0
  rw [show facN 0 = 1 from rfl, Nat.mul_one, Nat.zero_add] at this
  rw [fh_0, gi_dv, this, Nat.zero_add]
/-- how often the k-th falling product makes v, by m -/
def shareO (m k : Nat) (v : Int) : Option Nat := (List.range (top m k)).find? fun c => decide ((c : Int) * (facN k : Nat) % m = v % m)
theorem share_some {m k : Nat} {v : Int} {c : Nat} (h : shareO m k v = some c) : c < top m k ∧ (m : Int) ∣ (c : Int) * (facN k : Nat) - v := by
  have h1 := List.mem_of_find?_eq_some h
  have h2 := List.find?_some h
  have h2 := of_decide_eq_true h2
  exact ⟨List.mem_range.mp h1, Int.dvd_of_emod_eq_zero (Int.emod_eq_emod_iff_emod_sub_eq_zero.mp h2)⟩
theorem share_none {m k : Nat} {v : Int} (h : shareO m k v = none) (c : Nat) (hc : c < top m k) : (c : Int) * (facN k : Nat) % m ≠ v % m := by
  have h1 := List.find?_eq_none.mp h c (List.mem_range.mpr hc)
  simpa using h1
/-- only noughts of the top leave nothing -/
theorem top_only {m k : Nat} (hm : 0 < m) {a : Int} (h : (m : Int) ∣ a * (facN k : Nat)) : (top m k : Int) ∣ a := by
  have hg : 0 < Nat.gcd m (facN k) := Nat.gcd_pos_of_pos_left _ hm
  have h1 : m ∣ a.natAbs * facN k := by
    have := Int.natAbs_dvd_natAbs.mpr h
    rw [Int.natAbs_mul] at this
    simpa using this
  have h2 : top m k ∣ a.natAbs := by
    unfold top
    obtain ⟨t, ht⟩ := Nat.gcd_dvd_left m (facN k)
    obtain ⟨c, hc⟩ := Nat.gcd_dvd_right m (facN k)
    have e1 : m / Nat.gcd m (facN k) = t := Nat.div_eq_of_eq_mul_right hg ht
    have hco : Nat.gcd t c = 1 := by
      have h1 : Nat.gcd m (facN k) * 1 = Nat.gcd m (facN k) * Nat.gcd t c := by
        rw [← Nat.gcd_mul_left, ← ht, ← hc, Nat.mul_one]
      exact (Nat.eq_of_mul_eq_mul_left hg h1).symm
    rw [e1]
    have h3 : Nat.gcd m (facN k) * t ∣ Nat.gcd m (facN k) * (a.natAbs * c) := by
      rw [← ht]
      have : Nat.gcd m (facN k) * (a.natAbs * c) = a.natAbs * facN k := by
        rw [Nat.mul_left_comm, ← hc]
      rw [this]
      exact h1
    have h4 := Nat.dvd_of_mul_dvd_mul_left hg h3
    exact Nat.Coprime.dvd_of_dvd_mul_right (show Nat.Coprime t c from hco) h4
  exact Int.ofNat_dvd_left.mpr h2
theorem share_form {m k : Nat} (hm : 0 < m) {v g : Int} (h : (m : Int) ∣ v - (facN k : Nat) * g) : shareO m k v = some (g % top m k).toNat := by
  have hp := top_pos (k := k) hm
  have h0 : 0 ≤ g % (top m k : Int) := Int.emod_nonneg _ (by omega)
  have h1 : g % (top m k : Int) < top m k := Int.emod_lt_of_pos _ (by omega)
  have hc : (((g % (top m k : Int)).toNat : Nat) : Int) = g % top m k := Int.toNat_of_nonneg h0
  have hd : (m : Int) ∣ (((g % (top m k : Int)).toNat : Nat) : Int) * (facN k : Nat) - v := by
    rw [hc]
    have e2 : g % (top m k : Int) = g - (top m k : Int) * (g / (top m k : Int)) := by
      have := Int.emod_add_mul_ediv g (top m k)
      omega
    have h3 : (m : Int) ∣ (top m k : Int) * (facN k : Nat) := by
      have := Int.natCast_dvd_natCast.mpr (top_dvd m k)
      rwa [Int.natCast_mul] at this
    rw [e2]
    have e3 : (g - (top m k : Int) * (g / (top m k : Int))) * (facN k : Nat) - v = -(v - (facN k : Nat) * g) - (g / (top m k : Int)) * ((top m k : Int) * (facN k : Nat)) := by grind
    rw [e3]
    exact Int.dvd_sub (Int.dvd_neg.mpr h) (Int.dvd_trans h3 (Int.dvd_mul_left _ _))
  cases hs : shareO m k v with
  | none =>
    have := share_none hs _ (show (g % (top m k : Int)).toNat < top m k by omega)
    exact absurd (emod_of_dvd hd) this
  | some c =>
    obtain ⟨h4, h5⟩ := share_some hs
    have h6 : (m : Int) ∣ ((c : Int) - ((g % (top m k : Int)).toNat : Nat)) * (facN k : Nat) := by
      have e : ((c : Int) - ((g % (top m k : Int)).toNat : Nat)) * (facN k : Nat) = ((c : Int) * (facN k : Nat) - v) - ((((g % (top m k : Int)).toNat : Nat) : Int) * (facN k : Nat) - v) := by grind
      rw [e]
      exact Int.dvd_sub h5 hd
    have h7 := top_only hm h6
    congr 1
    obtain ⟨q, hq⟩ := h7
    have h8 : q = 0 := by
      rcases Int.lt_trichotomy q 0 with z | z | z
      · have : (top m k : Int) * q ≤ (top m k : Int) * (-1) := Int.mul_le_mul_of_nonneg_left (by omega) (by omega)
        omega
      · exact z
      · have : (top m k : Int) * 1 ≤ (top m k : Int) * q := Int.mul_le_mul_of_nonneg_left (by omega) (by omega)
        omega
    rw [h8, Int.mul_zero] at hq
    omega
/-- the shares of a table -/
def shareL (m : Nat) (t : Nat → Int) (k : Nat) : List Int := (List.range k).map fun j => (((shareO m j (dl j t 0)).getD 0 : Nat) : Int)
@[simp] theorem shareL_length (m : Nat) (t : Nat → Int) (k : Nat) : (shareL m t k).length = k := by unfold shareL; rw [List.length_map, List.length_range]
theorem shareL_succ (m : Nat) (t : Nat → Int) (k : Nat) : shareL m t (k + 1) = shareL m t k ++ [(((shareO m k (dl k t 0)).getD 0 : Nat) : Int)] := by
  unfold shareL
  rw [List.range_succ, List.map_append]
  rfl
/-- a table of rests of a sum of falling products -/
structure Tab (m : Nat) (t : Nat → Int) (f : List Int) : Prop where
  dv : ∀ i < m, (m : Int) ∣ t i - fh (i : Nat) 0 f
theorem tab_share {m : Nat} {t : Nat → Int} {f : List Int} (hm : 0 < m) (h : Tab m t f) {k : Nat} (hk : k < m) : shareO m k (dl k t 0) = some (gi f k % top m k).toNat := by
  refine share_form hm ?_
  have h1 := dl_cong (m := m) (t := t) (u := fun i => fh (i : Nat) 0 f) k 0 (fun i hi => h.dv i (by omega))
  rw [dl_fh0] at h1
  exact h1
theorem tab_form {m n : Nat} {t : Nat → Int} {f : List Int} (hm : 0 < m) (h : Tab m t f) (hn : n ≤ m) : shareL m t n = formL m n f := by
  unfold shareL formL
  refine List.map_congr_left fun k hk => ?_
  have hk := List.mem_range.mp hk
  rw [tab_share hm h (by omega)]
  have hp := top_pos (k := k) hm
  exact Int.toNat_of_nonneg (Int.emod_nonneg _ (by omega))
/-- where all shares are there, they make the table -/
theorem shares_tab {m : Nat} {t : Nat → Int} (hs : ∀ k < m, shareO m k (dl k t 0) ≠ none) : Tab m t (shareL m t m) := by
  refine ⟨fun i hi => ?_⟩
  have h1 : (m : Int) ∣ dl 0 (fun i => t i - fh (i : Nat) 0 (shareL m t m)) i := by
    refine dl_back i 0 fun j hj => ?_
    rw [Nat.zero_add, dl_sub, dl_fh0]
    have hj2 : j < m := by omega
    cases h2 : shareO m j (dl j t 0) with
    | none => exact absurd h2 (hs j hj2)
    | some c =>
      have h3 := (share_some h2).2
      have h4 : gi (shareL m t m) j = (c : Int) := by
        refine gi_some ?_
        unfold shareL
        rw [List.getElem?_map, List.getElem?_range hj2]
        show some (((shareO m j (dl j t 0)).getD 0 : Nat) : Int) = _
        rw [h2]
        rfl
      rw [h4]
      have e : dl j t 0 - (facN j : Nat) * (c : Int) = -((c : Int) * (facN j : Nat) - dl j t 0) := by grind
      rw [e]
      exact Int.dvd_neg.mpr h3
  exact h1
end RF

set_option Elab.async false
set_option linter.all false
set_option maxRecDepth 100000
set_option autoImplicit false
/-! the laws' own numbers m, tops, rests -/
namespace RF
open PySem PySem.Spec L2 RF.M
theorem d_many (c : Int) : d_L_many [.int c] = .ok (.st (.int (numOf (d_L_many [.int c])))) ∧ 1 ≤ numOf (d_L_many [.int c]) ∧ numOf (d_L_many [.int c]) ≤ 60 := by
  refine num_of (Q := fun v => 1 ≤ v ∧ v ≤ 60) ?_
  unfold d_L_many runD
  refine run_ex ?_
  have hl : ([D.int 4, .int 8, .int 9, .int 12, .int 16, .int 27, .int 30, .int 36, .int 60, .int 6, .int 2, .int 49] : List D) = nl [4, 8, 9, 12, 16, 27, 30, 36, 60, 6, 2, 49] := by unfold nl; rfl
  have h0 : 0 ≤ c / 3 % 12 := Int.emod_nonneg _ (by decide)
  have h1 : c / 3 % 12 < 12 := Int.emod_lt_of_pos _ (by decide)
  have h2 : c / 3 % 12 < ([4, 8, 9, 12, 16, 27, 30, 36, 60, 6, 2, 49] : List Int).length := h1
  have h3 := ints_at h0 h2
  have h4 := gi_mem (l := [4, 8, 9, 12, 16, 27, 30, 36, 60, 6, 2, 49]) (k := (c / 3 % 12).toNat) (by simp; omega)
  simp (disch := omega) [b_L_many, p_mod, p_div, hl, h3]
  refine ⟨fun _ => by omega, fun _ => ⟨fun _ => ?_, fun _ => by omega⟩⟩
  generalize gi [4, 8, 9, 12, 16, 27, 30, 36, 60, 6, 2, 49] (c / 3 % 12).toNat = v at *
  simp at h4
  omega
theorem d_rest {A : Nat} (a : List Int) (x m : Int) {X : Nat} (hm : 0 < m) (h60 : m ≤ 60) (hx : Sm X x) (hX : X < 800000) : d_L_rest [il a, .int x, .int m] = .ok (.st (.int (hor x a % m))) := by
  unfold d_L_rest runD
  refine run_of ?_
  simp [b_L_rest]
  refine wp_ints (fun d ρ => ∃ j v, ρ = [.val (il a), .val (.int x), .val (.int m), .val (.int v), j] ∧ v % m = hor x d.reverse % m ∧ (d = [] → v = 0) ∧ (d ≠ [] → v = hor x d.reverse % m) ∧ 0 ≤ v ∧ v < m) ⟨_, 0, rfl, rfl, fun _ => rfl, fun h => absurd rfl h, Int.le_refl 0, hm⟩ ?_ ?_
  · rintro J d v rest _ e ⟨j, w, rfl, hw, hw0, hw1, hw2, hw3⟩ hJ
    have m1 : MulOk w x := (show Sm 6 w by unfold Sm; omega).ok hx (by omega)
    simp [p_mul m1, p_mod hm]
    have e1 : (w * x + v) % m = hor x (v :: d.reverse) % m := by
      rw [hor]
      refine emod_of_dvd ?_
      have h1 : m ∣ w - hor x d.reverse := by
        have := Int.emod_eq_emod_iff_emod_sub_eq_zero.mp hw
        exact Int.dvd_of_emod_eq_zero this
      have e2 : w * x + v - (v + x * hor x d.reverse) = x * (w - hor x d.reverse) := by grind
      rw [e2]
      exact Int.dvd_trans h1 (Int.dvd_mul_left _ _)
    have e3 : (d ++ [v]).reverse = v :: d.reverse := by simp
    refine hJ _ ⟨_, _, rfl, by rw [e3, ← e1, Int.emod_emod_of_dvd _ (Int.dvd_refl m)], fun h => by simp at h, fun _ => by rw [e3, e1], Int.emod_nonneg _ (by omega), Int.emod_lt_of_pos _ hm⟩
  · rintro _ ⟨j, v, rfl, hw, hw0, hw1, hw2, hw3⟩
    rw [List.reverse_reverse] at hw
    have : v = hor x a % m := by rw [← hw, Int.emod_eq_of_lt hw2 hw3]
    simp [this]
theorem d_falling_rest {m n : Nat} {f : List Int} (hm : 0 < m) (h60 : m ≤ 60) (hn : n ≤ 60) (h : IsForm m n f) (x : Int) {X : Nat} (hx : Sm X x) (hX : X < 800000) : d_L_falling_rest [il f, .int x, .int m] = .ok (.st (.int (fh x 0 f % m))) := by
  have hmi : (0 : Int) < m := by omega
  have hl := h.len
  unfold d_L_falling_rest runD
  refine run_of ?_
  simp [b_L_falling_rest]
  refine wp_enumI (fun d ρ => ∃ j1 j2 v w, ρ = [.val (il f), .val (.int x), .val (.int m), .val (.int v), .val (.int w), j1, j2] ∧ v % m = fh x 0 d % m ∧ 0 ≤ v ∧ v < m ∧ (m : Int) ∣ w - fp x 0 d.length ∧ 0 ≤ w ∧ w ≤ m) ⟨_, _, 0, 1, rfl, rfl, Int.le_refl 0, hmi, by simp [fp], by omega, by omega⟩ ?_ ?_
  · rintro J d a rest _ e ⟨j1, j2, v, w, rfl, hv, hv0, hv1, hw, hw0, hw1⟩ hJ
    have hdl := congrArg List.length e
    simp at hdl
    have ha : Sm 6 a := form_sm hm h60 h a (by rw [e]; simp)
    have hws : Sm 6 w := by unfold Sm; omega
    have m1 : MulOk a w := ha.ok hws (by decide)
    have hxd : Sm (X + 12) (x - d.length) := by
      rw [Int.sub_eq_add_neg]
      exact ((hx.mono (l := X + 10) (by omega)).add ((k_sm (by omega)).mono (by omega))).mono (by omega)
    have m2 : MulOk w (x - d.length) := hws.ok hxd (by omega)
    simp [p_mul m1, p_mul m2, p_mod hmi]
    refine hJ _ ⟨_, _, _, _, rfl, ?_, Int.emod_nonneg _ (by omega), Int.emod_lt_of_pos _ hmi, ?_, Int.emod_nonneg _ (by omega), by have := Int.emod_lt_of_pos (w * (x - d.length)) hmi; omega⟩
    · rw [Int.emod_emod_of_dvd _ (Int.dvd_refl _), fh_snoc]
      refine emod_of_dvd ?_
      have h1 : (m : Int) ∣ v - fh x 0 d := Int.dvd_of_emod_eq_zero (Int.emod_eq_emod_iff_emod_sub_eq_zero.mp hv)
      have e2 : v + a * w - (fh x 0 d + a * fp x 0 d.length) = (v - fh x 0 d) + a * (w - fp x 0 d.length) := by grind
      rw [e2]
      exact Int.dvd_add h1 (Int.dvd_trans hw (Int.dvd_mul_left _ _))
    · rw [List.length_append, List.length_singleton, fp_succ, Nat.zero_add]
      have e3 : w * (x - d.length) % m - fp x 0 d.length * (x - d.length) = (w * (x - d.length) % m - w * (x - d.length)) + (x - d.length) * (w - fp x 0 d.length) := by grind
      rw [e3]
      exact Int.dvd_add (mod_dvd _ _) (Int.dvd_trans hw (Int.dvd_mul_left _ _))
  · rintro _ ⟨j1, j2, v, w, rfl, hv, hv0, hv1, hw, hw0, hw1⟩
    have : v = fh x 0 f % m := by rw [← hv, Int.emod_eq_of_lt hv0 hv1]
    simp [this]
theorem d_is_form {m n : Nat} {f : List Int} (h : IsForm m n f) : d_L_is_form [il f, il (topsL m n)] = .ok (.st (.bl true)) := by
  have hl := h.len
  unfold d_L_is_form runD
  refine run_of ?_
  simp [b_L_is_form, isiD, hl]
  refine wp_zip (fun _ ρ => ∃ j1 j2, ρ = [.val (il f), .val (il (topsL m n)), j1, j2]) ⟨_, _, rfl⟩ ?_ ?_
  · rintro J d p rest _ e ⟨j1, j2, rfl⟩ hJ
    obtain ⟨z1, z2⟩ := form_zip h (p := p) (by rw [e]; simp)
    have g1 : ¬ p.1 < 0 := by omega
    have g2 : ¬ p.2 ≤ p.1 := by omega
    simp [g1, g2, isiD]
    exact hJ _ ⟨_, _, rfl⟩
  · rintro _ ⟨j1, j2, rfl⟩
    simp
theorem d_poly1 {ns : List Int} {spot many : Int} (hl : ns.length ≤ 63) (h0 : 0 ≤ spot) (h1 : spot ≤ 100) (h2 : 0 ≤ many) (h3 : many ≤ 12) : ∃ a : List Int, d_L_poly1 [il ns, .int spot, .int many] = .ok (.fr (nl a)) ∧ a.length ≤ 12 ∧ (∀ x ∈ a, Sm 200 x) ∧ (a.length : Int) ≤ many := by
  have key : ∃ t, d_L_poly1 [il ns, .int spot, .int many] = .ok t ∧ ∃ a : List Int, t = .fr (nl a) ∧ a.length ≤ 12 ∧ (∀ x ∈ a, Sm 200 x) ∧ (a.length : Int) ≤ many := by
    unfold d_L_poly1 runD
    refine run_ex ?_
    simp (disch := omega) [b_L_poly1, p_rng2]
    refine wp_rng (fun i ρ => ∃ a j4 j5, ρ = [.val (il ns), .val (.int spot), .val (.int many), .own (nl a), j4, j5] ∧ a.length ≤ i ∧ ∀ x ∈ a, Sm 200 x) ⟨[], _, _, by simp; exact ⟨rfl, rfl⟩, by simp, by simp⟩ ?_ ?_
    · rintro J i _ hi ⟨a, j4, j5, rfl, ha, hs⟩ hJ
      have hi2 : spot + (i : Int) < ns.length := by omega
      have m1 : MulOk 2 100000000000000000000000000000000000000000000000000000000000 := Sm.okL (by unfold Sm; decide)
      have hal : a.length < 100000 := by omega
      generalize hg : gi ns (spot + (i : Int)).toNat = c
      simp (disch := omega) [ints_at, hg, p_mod, p_div, p_pow, p_mul m1, m_nx, m_cons, m_val, m_int, hal]
      refine hJ _ ⟨_, _, _, rfl, by simp; omega, fun x hx => ?_⟩
      rcases List.mem_append.mp hx with hx | hx
      · exact hs x hx
      · rw [List.mem_singleton.mp hx]
        unfold Sm
        split <;> omega
    · rintro _ ⟨a, j4, j5, rfl, ha, hs⟩
      simp
      exact ⟨a, rfl, by omega, hs, by omega⟩
  obtain ⟨_, e, a, rfl, h⟩ := key
  exact ⟨a, e, h⟩
theorem d_Ltops {m n : Nat} (hm : 0 < m) (h60 : m ≤ 60) (ht : Tops m n) : d_L_tops [.int m] = .ok (.fr (nl (topsL m n))) := by
  unfold d_L_tops runD
  refine run_of ?_
  simp [b_L_tops]
  refine wp_while (fun j ρ => ∃ (k : Nat) (j4 j5 : Sl), ρ = [.val (.int m), .own (nl (topsL m k)), .val (.int (top m k : Nat)), .val (.int (k : Nat)), j4, j5] ∧ j = m - k ∧ k ≤ n) (fun ρ => ∃ j2 j3 j4 j5, ρ = [.val (.int m), .own (nl (topsL m n)), j2, j3, j4, j5]) ?_ ?_ _ m _ (by omega) ⟨0, _, _, by simp [topsL, facN, top]; exact ⟨rfl, rfl⟩, rfl, by omega⟩
  · rintro J j _ ⟨k, j4, j5, rfl, rfl, hk⟩ hJ
    refine ⟨decide (1 < (top m k : Int)), by simp, fun h => ?_, fun h => ?_⟩
    · have h := of_decide_eq_false h
      have : k = n := by
        rcases Nat.lt_or_ge k n with z | z
        · have := ht.big k z; omega
        · omega
      subst this
      exact ⟨_, _, _, _, rfl⟩
    · have h := of_decide_eq_true h
      have hlt : k < n := by
        rcases Nat.lt_or_ge k n with z | z
        · exact z
        · have : k = n := by omega
          rw [this, ht.fin] at h; omega
      have hle := ht.le
      have hl : (topsL m k ++ [(top m k : Int)]) = topsL m (k + 1) := by unfold topsL; rw [List.range_succ, List.map_append]; rfl
      have hkl : k < 100000 := by omega
      have htm : top m k ≤ m := Nat.div_le_self _ _
      simp [hkl, hl]
      refine wp_while (fun i ρ => ∃ c : Nat, ρ = [.val (.int m), .own (nl (topsL m (k + 1))), .val (.int (top m k : Nat)), .val (.int ((k : Int) + 1)), .val (.int c), .val (.int (i : Nat))] ∧ Nat.gcd c i = Nat.gcd (top m k) (k + 1)) (fun ρ => ∃ j, ρ = [.val (.int m), .own (nl (topsL m (k + 1))), .val (.int (top m k : Nat)), .val (.int ((k : Int) + 1)), .val (.int (Nat.gcd (top m k) (k + 1) : Nat)), j]) ?_ ?_ _ (k + 1) _ (by omega) ⟨top m k, by simp, rfl⟩
      · rintro J2 i _ ⟨c, rfl, hc⟩ hJ2
        refine ⟨decide (0 < i), by simp, fun hi => ?_, fun hi => ?_⟩
        · have : i = 0 := by simpa using hi
          subst this
          rw [Nat.gcd_zero_right] at hc
          exact ⟨_, by rw [hc]⟩
        · have hi := of_decide_eq_true hi
          simp (disch := omega) [p_mod]
          refine hJ2 (c % i) _ (Nat.mod_lt _ hi) ⟨i, by rw [Int.natCast_emod], ?_⟩
          rw [← hc, Nat.gcd_comm c i, Nat.gcd_comm i (c % i)]
          exact (Nat.gcd_rec i c).symm
      · rintro _ ⟨j, rfl⟩
        have hgp : 0 < Nat.gcd (top m k) (k + 1) := Nat.gcd_pos_of_pos_right _ (by omega)
        have hgl : Nat.gcd (top m k) (k + 1) ≤ k + 1 := Nat.gcd_le_right _ (by omega)
        simp (disch := omega) [p_div]
        have e9 : ((top m k : Nat) : Int) / ((Nat.gcd (top m k) (k + 1) : Nat) : Int) = ((top m (k + 1) : Nat) : Int) := by rw [top_step hm k, Int.natCast_ediv]
        rw [e9]
        exact hJ (m - (k + 1)) _ (by omega) ⟨k + 1, _, _, rfl, rfl, hlt⟩
  · rintro _ ⟨j2, j3, j4, j5, rfl⟩
    simp
end RF

set_option Elab.async false
set_option linter.all false
set_option maxRecDepth 100000
set_option autoImplicit false
/-! the program's defs: put_in -/
namespace RF
open PySem PySem.Spec L2 RF.M
theorem pput_sm {A B : Nat} {b : List Int} (hb : ∀ y ∈ b, Sm B y) : ∀ a : List Int, (∀ x ∈ a, Sm A x) → ∀ x ∈ pput a b, Sm (A + a.length * (B + a.length * b.length + 3)) x
  | [], _, x, h => by simp [pput] at h
  | c :: l, hA, x, h => by
    have h0 := pput_sm hb l fun y hy => hA y (List.mem_cons_of_mem _ hy)
    have hl := pput_length b l
    have h1 := ptimes_sm h0 hb
    have h2 := pplus_sm (K := A + l.length * (B + l.length * b.length + 3) + B + (l.length * b.length + 1)) (a := ptimes (pput l b) b) (b := [c]) (fun y hy => (h1 y hy).mono (by omega)) (fun y hy => by
      rw [List.mem_singleton.mp hy]; exact (hA c (List.mem_cons_self ..)).mono (by omega))
    rw [pput] at h
    refine (h2 x h).mono ?_
    rw [List.length_cons, Nat.add_mul l.length 1]
    have e1 : l.length * (B + l.length * b.length + 3) ≤ l.length * (B + (l.length * b.length + 1 * b.length) + 3) := Nat.mul_le_mul_left _ (by omega)
    rw [Nat.add_mul l.length 1 b.length]
    omega
theorem d_put_in {A B : Nat} (a b : List Int) (hl : a.length * b.length ≤ 10000) (hla : a.length ≤ 40000) (hlb : b.length ≤ 30000) (hA : ∀ x ∈ a, Sm A x) (hB : ∀ y ∈ b, Sm B y) (hk : A + a.length * (B + a.length * b.length + 3) + B < 900000) : d_P_put_in [il a, il b] = .ok (.fr (nl (pput a b))) := by
  unfold d_P_put_in runD
  refine run_of ?_
  simp [b_P_put_in]
  refine wp_ints (fun d ρ => ∃ j3, ρ = [.val (il a), .val (il b), .own (nl (pput d.reverse b)), j3]) ⟨_, rfl⟩ ?_ ?_
  · rintro J d v rest _ e ⟨j3, rfl⟩ hJ
    have hdl := congrArg List.length e
    simp at hdl
    have hsub : ∀ x ∈ d.reverse, x ∈ a := fun x hx => by
      have : x ∈ a.reverse := by rw [e]; simp at hx; simp [hx]
      simpa using this
    have hp := pput_length b d.reverse
    have hs := pput_sm hB d.reverse fun x hx => hA x (hsub x hx)
    rw [List.length_reverse] at hp hs
    have e1 : d.length * b.length ≤ a.length * b.length := Nat.mul_le_mul_right _ (by omega)
    have e2 : d.length * (B + d.length * b.length + 3) ≤ a.length * (B + a.length * b.length + 3) := Nat.mul_le_mul (by omega) (by omega)
    have hm : ∀ x ∈ pput d.reverse b, ∀ y ∈ b, MulOk x y := fun x hx y hy => (hs x hx).ok (hB y hy) (by omega)
    have hq := ptimes_length (pput d.reverse b) b
    simp (disch := omega) [d_times (pput d.reverse b) b (by omega) (by omega) hm, d_plus (ptimes (pput d.reverse b) b) [v] (by omega) (by simp)]
    refine hJ _ ⟨.val (.int v), ?_⟩
    rw [List.reverse_append]
    rfl
  · rintro _ ⟨j3, rfl⟩
    simp
end RF

set_option Elab.async false
set_option linter.all false
set_option maxRecDepth 100000
set_option autoImplicit false
/-! the laws' polynomials of two unknowns -/
namespace RF
open PySem PySem.Spec L2 RF.M
def cellV (ns : List Int) (k : Nat) : Int := if k < ns.length then gi ns k % 2147483647 else 0
theorem d_cell (ns : List Int) {k : Int} (h : 0 ≤ k) : d_L_cell [il ns, .int k] = .ok (.st (.int (cellV ns k.toNat))) := by
  unfold d_L_cell runD
  refine run_of ?_
  unfold cellV
  by_cases hk : k < ns.length
  · have : k.toNat < ns.length := by omega
    simp (disch := omega) [b_L_cell, hk, ints_at, p_mod, this]
  · have : ¬ k.toNat < ns.length := by omega
    simp (disch := omega) [b_L_cell, hk, this]
theorem cellV_nn (ns : List Int) (k : Nat) : 0 ≤ cellV ns k := by
  unfold cellV
  split
  · exact Int.emod_nonneg _ (by decide)
  · omega
def thingV (c k many : Int) : Int := numOf (d_L_thing [.int c, .int k, .int many])
theorem d_thing {c k many : Int} (hk : 0 ≤ k) (hk2 : k ≤ 10000) (hm : 0 < many) : d_L_thing [.int c, .int k, .int many] = .ok (.st (.int (thingV c k many))) ∧ 0 ≤ thingV c k many ∧ thingV c k many < many := by
  refine num_of (Q := fun v => 0 ≤ v ∧ v < many) ?_
  unfold d_L_thing runD
  refine run_ex ?_
  have hm1 : ∀ x : Int, MulOk x 48271 := fun x => Sm.okR (by unfold Sm; decide)
  have hm2 : MulOk 69621 k := Sm.okL (by unfold Sm; decide)
  have hm3 : MulOk (69621 * k) k := Sm.okR (by unfold Sm; omega)
  have hm4 : MulOk 7 k := Sm.okL (by unfold Sm; decide)
  have hs : ∀ x m : Int, 0 < m → m ≤ 2147483647 → Sm 50 (x % m) := fun x m h0 h1 => Sm.mod h0 (by unfold Sm; omega)
  have hm5 : ∀ x y : Int, MulOk (x % 2147483629) y := fun x y => Sm.okL ((hs x _ (by decide) (by decide)).mono (by decide))
  have hm6 : ∀ x y : Int, MulOk (x % 2147483587) y := fun x y => Sm.okL ((hs x _ (by decide) (by decide)).mono (by decide))
  simp (disch := omega) [b_L_thing, p_div, p_mod, p_rng1, p_mul (hm1 _), p_mul hm2, p_mul hm3, p_mul hm4, p_mul (hm5 _ _), p_mul (hm6 _ _)]
  constructor
  · intro h
    refine wp_rng (fun _ ρ => ∃ w j, ρ = [.val (.int c), .val (.int k), .val (.int many), .val (.int w), j, .no]) ⟨_, _, rfl⟩ ?_ ?_
    · rintro J i _ hi ⟨w, j, rfl⟩ hJ
      simp (disch := omega) [p_div]
      exact hJ _ ⟨_, _, rfl⟩
    · rintro _ ⟨w, j, rfl⟩
      simp (disch := omega) [p_mod]
      exact ⟨Int.emod_nonneg _ (by omega), Int.emod_lt_of_pos _ hm⟩
  · intro h
    exact ⟨Int.emod_nonneg _ (by omega), Int.emod_lt_of_pos _ hm⟩
def entryV (ns : List Int) (k most : Int) : Int := numOf (d_L_entry [il ns, .int k, .int most])
theorem d_entry {ns : List Int} {k most : Int} (hl : ns.length ≤ 64) (hk : 0 ≤ k) (hk2 : k ≤ 10000) (hm : 0 < most) (hm2 : most ≤ 2 ^ 199) : d_L_entry [il ns, .int k, .int most] = .ok (.st (.int (entryV ns k most))) ∧ -most < entryV ns k most ∧ entryV ns k most < most := by
  refine num_of (Q := fun v => -most < v ∧ v < most) ?_
  unfold d_L_entry runD
  refine run_ex ?_
  by_cases h0 : ns.length = 0
  · simp [b_L_entry, h0]
    omega
  · have hlp : (0 : Int) < ns.length := by omega
    have hkl : k % ns.length < ns.length := Int.emod_lt_of_pos _ hlp
    have hkn : 0 ≤ k % ns.length := Int.emod_nonneg _ (by omega)
    have hz : ns ≠ [] := fun e => h0 (by rw [e]; rfl)
    have hdn : 0 ≤ k / ns.length := Int.ediv_nonneg hk (by omega)
    have m1 : MulOk 2 most := Sm.okL (by unfold Sm; decide)
    have m2 : MulOk k k := Sm.okL (by unfold Sm; omega)
    have m3 : ∀ x, MulOk x (1 + k * k) := fun x => Sm.okR (by
      have : k * k ≤ 10000 * 10000 := Int.mul_le_mul hk2 hk2 hk (by decide)
      have : 0 ≤ k * k := Int.mul_nonneg hk hk
      unfold Sm; omega)
    have hmix : ∀ x, 0 ≤ x % most ∧ x % most < most := fun x => ⟨Int.emod_nonneg _ (by omega), Int.emod_lt_of_pos _ hm⟩
    simp (disch := omega) [b_L_entry, hz, ints_at, p_mod, p_div, p_rng1, p_mul m1, p_mul m2, p_mul (m3 _), m_nx, m_cons, m_val, m_int]
    constructor
    · intro h
      generalize hv : gi ns (k % ns.length).toNat = v0
      refine wp_rng (fun _ ρ => ∃ w j, ρ = [.val (il ns), .val (.int k), .val (.int most), .val (.int v0), .val (.int w), j, .no]) ⟨_, _, rfl⟩ ?_ ?_
      · rintro J i _ hi ⟨w, j, rfl⟩ hJ
        simp (disch := omega) [p_div, p_mul m1]
        exact hJ _ ⟨_, _, rfl⟩
      · rintro _ ⟨w, j, rfl⟩
        have h1 := Int.emod_nonneg w (show 2 * most - 1 ≠ 0 by omega)
        have h2 := Int.emod_lt_of_pos w (show 0 < 2 * most - 1 by omega)
        simp (disch := omega) [p_mod, p_mul m1]
        omega
    · intro h
      obtain ⟨h1, h2⟩ := hmix (gi ns (k % ns.length).toNat / 2 * (1 + k * k))
      generalize gi ns (k % ns.length).toNat / 2 * (1 + k * k) % most = y at *
      have h3 : 0 ≤ (if (gi ns (k % ns.length).toNat / 2 + k) % 7 = 2 then 0 else if (gi ns (k % ns.length).toNat / 2 + k) % 3 = 1 then y % 7 else y) ∧ (if (gi ns (k % ns.length).toNat / 2 + k) % 7 = 2 then 0 else if (gi ns (k % ns.length).toNat / 2 + k) % 3 = 1 then y % 7 else y) < most := by
        split
        · omega
        · split <;> omega
      generalize (if (gi ns (k % ns.length).toNat / 2 + k) % 7 = 2 then 0 else if (gi ns (k % ns.length).toNat / 2 + k) % 3 = 1 then y % 7 else y) = z at *
      omega
/-- rows of small numbers -/
structure Rws (n m K : Nat) (a : List (List Int)) : Prop where
  len : a.length ≤ n
  row : ∀ r ∈ a, r.length ≤ m
  sm : ∀ r ∈ a, ∀ x ∈ r, Sm K x
theorem rows2_ok {ns : List Int} {deep wide far : Int} (hl : ns.length ≤ 64) (hl0 : 0 < ns.length) (hd : 0 ≤ deep) (hd2 : deep ≤ 6) (hw : 0 ≤ wide) (hw2 : wide ≤ 6) (hf : 0 ≤ far) (hf2 : far ≤ 100) :
    ∃ a : List (List Int), d_L_rows2 [il ns, .int deep, .int wide, .int far] = .ok (.fr (nll a)) ∧ Rws 6 6 200 a := by
  have key : ∃ t, d_L_rows2 [il ns, .int deep, .int wide, .int far] = .ok t ∧ ∃ a : List (List Int), t = .fr (nll a) ∧ Rws 6 6 200 a := by
    unfold d_L_rows2 runD
    refine run_ex ?_
    simp (disch := omega) [b_L_rows2, p_rng1]
    refine wp_rng (fun i ρ => ∃ a j5 j6 j7, ρ = [.val (il ns), .val (.int deep), .val (.int wide), .val (.int far), .own (nll a), j5, j6, j7] ∧ Rws i 6 200 a) ⟨[], _, _, _, by simp; exact ⟨rfl, rfl, rfl⟩, by simp, by simp, by simp⟩ ?_ ?_
    · rintro J i _ hi ⟨a, j5, j6, j7, rfl, ha⟩ hJ
      have hal := ha.len
      obtain ⟨e1, t1, t2⟩ := d_thing (c := gi ns 0) (k := far + i) (many := wide + 1) (by omega) (by omega) (by omega)
      generalize thingV (gi ns 0) (far + i) (wide + 1) = tv at *
      simp (disch := omega) [ints_at, e1, p_rng1]
      refine wp_rng (fun k ρ => ∃ r j7, ρ = [.val (il ns), .val (.int deep), .val (.int wide), .val (.int far), .own (nll a), .val (.int i), .own (nl r), j7] ∧ r.length ≤ k ∧ ∀ x ∈ r, Sm 200 x) ⟨[], _, rfl, by simp, by simp⟩ ?_ ?_
      · rintro J2 k _ hk ⟨r, j7, rfl, hr, hs⟩ hJ2
        have m1 : MulOk (i : Int) wide := Sm.okL (by unfold Sm; omega)
        have hb : 0 ≤ (i : Int) * wide ∧ (i : Int) * wide ≤ 6 * 6 := ⟨Int.mul_nonneg (by omega) hw, Int.mul_le_mul (by omega) hw2 hw (by decide)⟩
        obtain ⟨e2, q1, q2⟩ := d_entry (ns := ns) (k := (i : Int) * wide + k) (most := 100000000000000000000000000000000000000000000000000000000000) hl (by omega) (by omega) (by decide) (by decide)
        generalize entryV ns ((i : Int) * wide + k) 100000000000000000000000000000000000000000000000000000000000 = ev at *
        have hrl : r.length < 100000 := by omega
        simp (disch := omega) [p_mul m1, p_pow, e2, hrl]
        refine hJ2 _ ⟨_, _, rfl, by simp; omega, fun x hx => ?_⟩
        rcases List.mem_append.mp hx with hx | hx
        · exact hs x hx
        · rw [List.mem_singleton.mp hx]; unfold Sm; omega
      · rintro _ ⟨r, j7, rfl, hr, hs⟩
        have hal2 : a.length < 100000 := by omega
        simp [hal2]
        refine hJ _ ⟨_, _, _, _, rfl, by simp; omega, fun q hq => ?_, fun q hq => ?_⟩
        · rcases List.mem_append.mp hq with hq | hq
          · exact ha.row q hq
          · rw [List.mem_singleton.mp hq]; omega
        · rcases List.mem_append.mp hq with hq | hq
          · exact ha.sm q hq
          · rw [List.mem_singleton.mp hq]; exact hs
    · rintro _ ⟨a, j5, j6, j7, rfl, ha⟩
      simp
      exact ⟨a, rfl, by have := ha.len; omega, ha.row, ha.sm⟩
  obtain ⟨_, e, a, rfl, h⟩ := key
  exact ⟨a, e, h⟩
/-- a polynomial of two unknowns at x, y -/
def two (x y : Int) (a : List (List Int)) : Int := hor x (a.map (hor y))
theorem comp_rows {g : MG} {c : MT} {me : ME} {ρ : Env} (h : List Int → Int) (l : List (List Int)) (H : ∀ a ∈ l, gP (g (.lst (nl a)) ρ) fun ρ1 => c ρ1 = .ok true ∧ (me ρ1 = .ok (.st (.int (h a))))) : compD g c me ρ (nll l) = .ok (nl (l.map h)) := by
  unfold nll nl
  unfold nl at H
  rw [List.map_map]
  exact comp_map _ _ l H
theorem comp_gen {α : Type} {g : MG} {c : MT} {me : ME} {ρ : Env} (f : α → D) (h : α → D) : ∀ (l : List α), (∀ a ∈ l, gP (g (f a) ρ) fun ρ1 => c ρ1 = .ok true ∧ ∃ t, me ρ1 = .ok t ∧ stT t.set = some (h a)) → compD g c me ρ (l.map f) = .ok (l.map h)
  | [], _ => rfl
  | a :: l, H => by
    have h1 := H a (List.mem_cons_self ..)
    rw [List.map_cons]
    unfold compD
    cases e : g (f a) ρ with
    | none => rw [e] at h1; exact h1.elim
    | some ρ1 =>
      rw [e] at h1
      obtain ⟨h2, t, h3, h4⟩ := h1
      simp only [h2, h3, noX, R.bind_ok, if_true, h4, lift_some]
      rw [comp_gen f h l fun b hb => H b (List.mem_cons_of_mem _ hb)]
      rfl
theorem comp_rowsR {g : MG} {c : MT} {me : ME} {ρ : Env} (h : List Int → List Int) (l : List (List Int)) (H : ∀ a ∈ l, gP (g (.lst (nl a)) ρ) fun ρ1 => c ρ1 = .ok true ∧ ∃ t, me ρ1 = .ok t ∧ stT t.set = some (.lst (nl (h a)))) : compD g c me ρ (nll l) = .ok (nll (l.map h)) := by
  unfold nll
  rw [List.map_map]
  exact comp_gen _ _ l H
theorem d_at_two {n m K : Nat} {a : List (List Int)} {x y : Int} (h : Rws n m K a) (hx : Sm 200 x) (hy : Sm 200 y) (hn : n ≤ 1000) (hb : K + (m + 1) * 201 + (n + 1) * 201 < 900000) : d_P_at_two [ill a, .int x, .int y] = .ok (.st (.int (two x y a))) := by
  have hr : ∀ r ∈ a, r.length * 201 ≤ m * 201 := fun r hr => Nat.mul_le_mul_right _ (h.row r hr)
  have hc : compD (gN 3) cYes (eCall 2 d_P_at (aC (eV 3) (aC (eV 2) aN))) [.val (ill a), .val (.int x), .val (.int y), .no] (nll a) = .ok (nl (a.map (hor y))) := by
    refine comp_rows _ _ fun r hr' => ?_
    have := d_at (as := r) (x := y) K 200 (h.sm r hr') hy (by have := hr r hr'; omega)
    simp [this]
  have hal : a.length ≤ 100000 := by have := h.len; omega
  have hs : ∀ v ∈ a.map (hor y), Sm (K + m * 201) v := by
    intro v hv
    obtain ⟨r, hr', rfl⟩ := List.mem_map.mp hv
    exact (hor_sm hy r (h.sm r hr')).mono (by have := hr r hr'; omega)
  have hd := d_at (as := a.map (hor y)) (x := x) (K + m * 201) 200 hs hx (by
    rw [List.length_map]
    have : (a.length + 1) * (200 + 1) ≤ (n + 1) * 201 := Nat.mul_le_mul_right _ (by have := h.len; omega)
    omega)
  unfold d_P_at_two runD
  refine run_of ?_
  simp [b_P_at_two, hc, hal, hd, two]
theorem two_snoc (x y : Int) (r : List Int) (d : List (List Int)) : two x y (d ++ [r]) = two x y d + x ^ d.length * hor y r := by
  unfold two
  rw [List.map_append, List.map_cons, List.map_nil, hor_snoc, List.length_map]
theorem d_due5 {n m K : Nat} {a : List (List Int)} {x y : Int} (h : Rws n m K a) (hx : Sm 200 x) (hy : Sm 200 y) (hb : K + n * 200 + m * 200 < 900000) : d_L_due5 [ill a, .int x, .int y] = .ok (.st (.int (two x y a))) := by
  unfold d_L_due5 runD
  refine run_of ?_
  simp [b_L_due5]
  refine wp_rows (fun d ρ => ∃ j5 j6 j7, ρ = [.val (ill a), .val (.int x), .val (.int y), .val (.int (two x y d)), .val (.int (x ^ d.length)), j5, j6, j7]) ⟨_, _, _, by simp [two, hor]; exact ⟨rfl, rfl, rfl⟩⟩ ?_ ?_
  · rintro J d r rest _ e ⟨j5, j6, j7, rfl⟩ hJ
    have hr : r ∈ a := by rw [e]; simp
    have hdl := congrArg List.length e
    simp at hdl
    have hal := h.len
    have hrl := h.row r hr
    have hxp : Sm (n * 200 + 1) (x ^ d.length) := (pow_sm hx d.length).mono (by have : d.length * 200 ≤ n * 200 := Nat.mul_le_mul_right _ (by omega); omega)
    simp
    refine wp_ints (fun q ρ => ∃ j7, ρ = [.val (ill a), .val (.int x), .val (.int y), .val (.int (two x y d + x ^ d.length * hor y q)), .val (.int (x ^ d.length)), .val (il r), .val (.int (x ^ d.length * y ^ q.length)), j7]) ⟨_, by simp [hor]; rfl⟩ ?_ ?_
    · rintro J2 q v rest2 _ e2 ⟨j7, rfl⟩ hJ2
      have hv : v ∈ r := by rw [e2]; simp
      have hql := congrArg List.length e2
      simp at hql
      have hyp : Sm (m * 200 + 1) (y ^ q.length) := (pow_sm hy q.length).mono (by have : q.length * 200 ≤ m * 200 := Nat.mul_le_mul_right _ (by omega); omega)
      have hxy := hxp.mul hyp
      have m1 := (h.sm r hr v hv).ok hxy (by omega)
      have m2 := hxy.ok hy (by omega)
      simp [p_mul m1, p_mul m2]
      refine hJ2 _ ⟨.val (.int v), ?_⟩
      rw [hor_snoc, List.length_append, List.length_singleton, Int.pow_succ]
      have e3 : two x y d + x ^ d.length * hor y q + v * (x ^ d.length * y ^ q.length) = two x y d + x ^ d.length * (hor y q + y ^ q.length * v) := by grind
      have e4 : x ^ d.length * y ^ q.length * y = x ^ d.length * (y ^ q.length * y) := by grind
      rw [e3, e4]
    · rintro _ ⟨j7, rfl⟩
      have m3 := hxp.ok hx (by omega)
      simp [p_mul m3]
      rw [two_snoc, List.length_append, List.length_singleton, Int.pow_succ] at hJ
      exact hJ _ ⟨_, _, _, rfl⟩
  · rintro _ ⟨j5, j6, j7, rfl⟩
    simp
end RF

set_option Elab.async false
set_option linter.all false
set_option maxRecDepth 100000
set_option autoImplicit false
/-! tables, told_by, added, multiplied, put -/
namespace RF
open PySem PySem.Spec L2 RF.M
/-- the numbers of a function below n -/
def tb (n : Nat) (t : Nat → Int) : List Int := (List.range n).map t
@[simp] theorem tb_length (n : Nat) (t : Nat → Int) : (tb n t).length = n := by unfold tb; rw [List.length_map, List.length_range]
theorem tb_get {n k : Nat} (t : Nat → Int) (h : k < n) : (tb n t)[k]? = some (t k) := by
  unfold tb
  rw [List.getElem?_map, List.getElem?_range h]
  rfl
theorem gi_tb {n k : Nat} (t : Nat → Int) (h : k < n) : gi (tb n t) k = t k := gi_some (tb_get t h)
theorem tb_mem {n : Nat} {t : Nat → Int} {x : Int} (h : x ∈ tb n t) : ∃ k < n, x = t k := by
  unfold tb at h
  obtain ⟨k, hk, rfl⟩ := List.mem_map.mp h
  exact ⟨k, List.mem_range.mp hk, rfl⟩
theorem tb_congr {n : Nat} {t u : Nat → Int} (h : ∀ k < n, t k = u k) : tb n t = tb n u := List.map_congr_left fun k hk => h k (List.mem_range.mp hk)
theorem tb_ext {n : Nat} {l : List Int} (hl : l.length = n) : l = tb n (gi l) := by
  refine List.ext_getElem? fun k => ?_
  rcases Nat.lt_or_ge k n with h | h
  · rw [tb_get _ h, List.getElem?_eq_getElem (by omega), gi_get (by omega)]
  · rw [List.getElem?_eq_none (by omega), List.getElem?_eq_none (by rw [tb_length]; exact h)]
theorem tb_inj {n : Nat} {t u : Nat → Int} (h : tb n t = tb n u) : ∀ k < n, t k = u k := fun k hk => by
  rw [← gi_tb t hk, ← gi_tb u hk, h]
/-- the rests of a form -/
@[irreducible] def rt (m : Nat) (f : List Int) (i : Nat) : Int := fh (i : Nat) 0 f % m
theorem rt_eq (m : Nat) (f : List Int) (i : Nat) : rt m f i = fh (i : Nat) 0 f % m := by unfold rt; rfl
theorem rt_low {m : Nat} (hm : 0 < m) (f : List Int) (i : Nat) : 0 ≤ rt m f i ∧ rt m f i < m := by
  unfold rt
  exact ⟨Int.emod_nonneg _ (by omega), Int.emod_lt_of_pos _ (by omega)⟩
theorem d_rest_at {m n : Nat} {f : List Int} (hm : 0 < m) (h60 : m ≤ 60) (hn : n ≤ 60) (h : IsForm m n f) (x : Int) : d_P_rest_at1 [rests m n, il f, .int x] = .ok (.st (.int (fh x 0 f % m))) := by
  have hmi : (0 : Int) < m := by omega
  have hxs : Sm 6 (x % m) := Sm.mod hmi (by unfold Sm; omega)
  have hl := h.len
  have hb : f.length * (6 + 12) ≤ 60 * 18 := Nat.mul_le_mul_right _ (by omega)
  have h1 := d_at_falls f (x % m) (by omega) (form_sm hm h60 h) hxs (by omega)
  have h3 := fh_mod m x f
  unfold d_P_rest_at1 runD
  refine run_of ?_
  simp [b_P_rest_at1, p_mod hmi, h1, h3]
theorem d_value2 {m n : Nat} {f : List Int} (hm : 0 < m) (h60 : m ≤ 60) (hn : n ≤ 60) (h : IsForm m n f) (x : Int) : d_P_value [rests m n, il f, .int x] = .ok (.st (.int (fh x 0 f % m))) := by
  rw [d_value hm h60 hn h, fh_mod]
theorem d_table {m n : Nat} {f : List Int} (hm : 0 < m) (h60 : m ≤ 60) (hn : n ≤ 60) (h : IsForm m n f) : d_P_table [rests m n, il f] = .ok (.fr (nl (tb m (rt m f)))) := by
  unfold d_P_table runD
  refine run_of ?_
  simp (disch := omega) [b_P_table, d_look h, p_rng1]
  rw [comp_rng m 0 (rt m f) ?hc]
  case hc =>
    intro i hi
    simp [d_rest_at hm h60 hn h, rt_eq]
  have hl : (rngD 0 m).length ≤ 100000 := by rw [rngD_length]; omega
  simp [hl]
  rfl
theorem d_look_table {m n : Nat} (r : List Int) (hr : r.length = m) (hl : ∀ x ∈ r, 0 ≤ x ∧ x < m) : d_P_look_at_table [rests m n, il r] = .ok (.st .non) := by
  unfold d_P_look_at_table runD
  refine run_of ?_
  simp [b_P_look_at_table, hr]
  refine wv_ints [2] (fun _ xs => ∃ a, xs = [a]) ⟨_, rfl⟩ ?_ ?_
  · rintro J d x rest _ e ⟨_, rfl⟩ hJ
    have h1 := hl x (by rw [e]; simp)
    have g1 : ¬ x < 0 := by omega
    have g2 : ¬ (m : Int) ≤ x := by omega
    simp [g1, g2]
    exact hJ _ ⟨_, rfl⟩
  · rintro _ ⟨_, rfl⟩
    simp
def onD : Option Nat → D
  | some c => .int c
  | none => .non
@[simp] theorem onD_some (c : Nat) : onD (some c) = .int c := (rfl)
@[simp] theorem onD_none : onD none = .non := (rfl)
theorem share_at {m k i : Nat} {v : Int} (hi : i < top m k) (h : (i : Int) * (facN k : Nat) % m = v % m) (hn : ∀ j < i, ¬ (j : Int) * (facN k : Nat) % m = v % m) : shareO m k v = some i := by
  unfold shareO
  rw [List.find?_range_eq_some]
  exact ⟨decide_eq_true h, List.mem_range.mpr hi, fun j hj => by simpa using hn j hj⟩
theorem d_share_of {m n k : Nat} (hm : 0 < m) (h60 : m ≤ 60) (v : Int) : d_P_share_of1 [rests m n, .int (facN k : Nat), .int v] = .ok (.st (onD (shareO m k v))) := by
  have hg := d_shared m (facN k) (by omega)
  have hgp : 0 < Nat.gcd m (facN k) := Nat.gcd_pos_of_pos_left _ hm
  have hgl : Nat.gcd m (facN k) ≤ m := Nat.le_of_dvd hm (Nat.gcd_dvd_left _ _)
  have htl : top m k ≤ m := Nat.div_le_self _ _
  have e1 : ((m : Int) / ((Nat.gcd m (facN k) : Nat) : Int)) = ((top m k : Nat) : Int) := by unfold top; rw [Int.natCast_ediv]
  unfold d_P_share_of1 runD
  refine run_of ?_
  simp (disch := omega) [b_P_share_of1, hg, p_div, e1, p_rng1]
  refine wv_rng [4] (fun i xs => (∃ a, xs = [a]) ∧ ∀ j < i, ¬ (j : Int) * (facN k : Nat) % m = v % m) ⟨⟨_, rfl⟩, fun j hj => by omega⟩ ?_ ?_
  · rintro J i _ hi ⟨⟨_, rfl⟩, hn⟩ hJ
    have m1 : MulOk (i : Int) (facN k : Nat) := Sm.okL (by unfold Sm; omega)
    simp (disch := omega) [p_mul m1, p_mod]
    refine ⟨fun h => ?_, fun h => ?_⟩
    · rw [share_at hi h hn]; rfl
    · refine hJ [_] ⟨⟨_, rfl⟩, fun j hj => ?_⟩
      rcases Nat.lt_or_ge j i with z | z
      · exact hn j z
      · have : j = i := by omega
        rw [this]; exact h
  · rintro _ ⟨⟨_, rfl⟩, hn⟩
    simp
    cases hs : shareO m k v with
    | none => rfl
    | some c =>
      obtain ⟨h1, h2⟩ := share_some hs
      exact absurd (emod_of_dvd h2) (hn c h1)
/-- the first place at which there is no share -/
def badO (m : Nat) (t : Nat → Int) : Option Nat := (List.range m).find? fun k => (shareO m k (dl k t 0)).isNone
theorem bad_none {m : Nat} {t : Nat → Int} (h : badO m t = none) {k : Nat} (hk : k < m) : shareO m k (dl k t 0) ≠ none := by
  have := List.find?_eq_none.mp h k (List.mem_range.mpr hk)
  intro z
  rw [z] at this
  simp at this
theorem bad_some {m k : Nat} {t : Nat → Int} (h : badO m t = some k) : k < m ∧ shareO m k (dl k t 0) = none ∧ ∀ j < k, shareO m j (dl j t 0) ≠ none := by
  unfold badO at h
  rw [List.find?_range_eq_some] at h
  obtain ⟨h1, h2, h3⟩ := h
  refine ⟨List.mem_range.mp h2, by simpa using h1, fun j hj z => ?_⟩
  have := h3 j hj
  rw [z] at this
  simp at this
theorem bad_at {m k : Nat} {t : Nat → Int} (hk : k < m) (h : shareO m k (dl k t 0) = none) (hn : ∀ j < k, shareO m j (dl j t 0) ≠ none) : badO m t = some k := by
  unfold badO
  rw [List.find?_range_eq_some]
  refine ⟨by rw [h]; rfl, List.mem_range.mpr hk, fun j hj => ?_⟩
  cases hs : shareO m j (dl j t 0) with
  | none => exact absurd hs (hn j hj)
  | some c => rfl
theorem bad_no {m : Nat} {t : Nat → Int} (hn : ∀ j < m, shareO m j (dl j t 0) ≠ none) : badO m t = none := by
  cases h : badO m t with
  | none => rfl
  | some k =>
    obtain ⟨h1, h2, _⟩ := bad_some h
    exact absurd h2 (hn k h1)
def offD (m : Nat) (t : Nat → Int) : Option Nat → List D
  | none => nl (shareL m t m)
  | some k => nl (shareL m t k) ++ [.non]
theorem atI_lastD (l : List D) (d : D) : atI (l ++ [d]) (-1) = some d := by
  unfold L2.atI
  rw [ixN_neg (by omega) (by simp; omega), Option.bind_some]
  have : (-1 + ((l ++ [d]).length : Int)).toNat = l.length := by simp; omega
  rw [this]
  simp
theorem tb_diff (t : Nat → Int) (n k : Nat) : ((tb (n + 1) (dl k t)).zip (tb (n + 1) (dl k t)).tail).map (fun p : Int × Int => p.2 - p.1) = tb n (dl (k + 1) t) := by
  refine List.ext_getElem? fun i => ?_
  rw [List.getElem?_map]
  rcases Nat.lt_or_ge i n with h | h
  · have h2 : ((tb (n + 1) (dl k t)).zip (tb (n + 1) (dl k t)).tail)[i]? = some (dl k t i, dl k t (i + 1)) := List.getElem?_zip_eq_some.mpr ⟨tb_get _ (by omega), by rw [List.getElem?_tail]; exact tb_get _ (by omega)⟩
    rw [h2, tb_get _ h]
    rfl
  · have h3 : ((tb (n + 1) (dl k t)).zip (tb (n + 1) (dl k t)).tail)[i]? = none := List.getElem?_eq_none (by rw [List.length_zip, List.length_tail, tb_length]; omega)
    rw [h3]
    exact (List.getElem?_eq_none (by rw [tb_length]; exact h)).symm
theorem cutL_from {α : Type} (l : List α) (k : Nat) : cutL l (some (k : Int)) none = l.drop k := by
  unfold cutL
  rw [HT.sIx_nat, HT.sIx_none]
  rcases Nat.lt_or_ge k l.length with h | h
  · rw [Nat.min_eq_left (by omega), List.take_of_length_le (by rw [List.length_drop]; omega)]
  · rw [Nat.min_eq_right (by omega), List.drop_of_length_le (by omega), List.drop_of_length_le (by omega)]
    simp
theorem cutL_to {α : Type} (l : List α) (k : Nat) : cutL l none (some (k : Int)) = l.take k := by
  unfold cutL
  rw [HT.sIx_nat, HT.sIx_none]
  simp only [List.drop_zero, Nat.sub_zero]
  rcases Nat.lt_or_ge k l.length with h | h
  · rw [Nat.min_eq_left (by omega)]
  · rw [Nat.min_eq_right (by omega), List.take_of_length_le (by omega), List.take_of_length_le (by omega)]
theorem d_read_off {m n : Nat} (hm : 0 < m) (h60 : m ≤ 60) (t : Nat → Int) : d_P_read_off1 [rests m n, il (tb m t)] = .ok (.fr (offD m t (badO m t))) := by
  unfold d_P_read_off1 runD
  refine run_of ?_
  simp [b_P_read_off1]
  refine wv_while [2, 3, 4] (fun j xs => ∃ (k : Nat), xs = [.val (il (tb (m - k) (dl k t))), .val (.int (facN k : Nat)), .own (nl (shareL m t k))] ∧ k ≤ m ∧ j = m - k ∧ ∀ i < k, shareO m i (dl i t 0) ≠ none) (fun xs => ∃ a b, xs = [a, b, .own (nl (shareL m t m))] ∧ badO m t = none) m (by omega) ⟨0, by simp [facN, shareL, dl], by omega, rfl, fun i hi => by omega⟩ ?_ ?_
  · rintro J j _ ⟨k, rfl, hk, rfl, hg⟩ hJ
    refine ⟨!decide (tb (m - k) (dl k t) = []), by simp, fun h => ?_, fun h => ?_⟩
    · have h1 : tb (m - k) (dl k t) = [] := by simpa using h
      have h2 := congrArg List.length h1
      rw [tb_length] at h2
      simp at h2
      have : k = m := by omega
      subst this
      exact ⟨_, _, rfl, bad_no hg⟩
    · have h1 : ¬ tb (m - k) (dl k t) = [] := by simpa using h
      have hlt : k < m := by
        rcases Nat.lt_or_ge k m with z | z
        · exact z
        · exfalso
          apply h1
          rw [show m - k = 0 by omega]
          rfl
      have h0 : gi (tb (m - k) (dl k t)) 0 = dl k t 0 := gi_tb _ (by omega)
      have hkl : k < 100000 := by omega
      simp (disch := (try simp only [tb_length]); omega) [ints_at, h0, d_share_of hm h60, hkl, atI_lastD]
      cases hs : shareO m k (dl k t 0) with
      | none =>
        simp [isNon]
        rw [bad_at hlt hs hg]
        rfl
      | some c =>
        have e0 : shareL m t k ++ [(c : Int)] = shareL m t (k + 1) := by rw [shareL_succ, hs]; rfl
        have m1 : MulOk (facN k : Nat) ((k : Int) + 1) := Sm.okR (by unfold Sm; omega)
        have e1 : (facN k : Int) * ((k : Int) + 1) = ((facN (k + 1) : Nat) : Int) := by rw [facN]; simp; rw [Int.mul_comm]
        have hcut := cutL_from (tb (m - k) (dl k t)) 1
        have e3 : ((1 : Nat) : Int) = 1 := rfl
        rw [e3, List.drop_one] at hcut
        simp [isNon, p_mul m1, e1, e0, hcut]
        rw [comp_zip (fun p => p.2 - p.1) _ _ ?hc]
        case hc =>
          intro p hp
          simp
        have e2 : m - k = (m - (k + 1)) + 1 := by omega
        rw [e2, tb_diff]
        have hz : (zipD (nl (tb (m - (k + 1) + 1) (dl k t))) (nl (tb (m - (k + 1) + 1) (dl k t)).tail)).length ≤ 100000 := by
          rw [zipD_length, ints_length, ints_length, tb_length, List.length_tail, tb_length]
          omega
        simp [hz]
        refine hJ (m - (k + 1)) [_, _, _] (by omega) ⟨k + 1, rfl, hlt, rfl, fun i hi => ?_⟩
        rcases Nat.lt_or_ge i k with z | z
        · exact hg i z
        · have : i = k := by omega
          rw [this, hs]
          simp
  · rintro _ ⟨a, b, rfl, hb⟩
    simp [hb]
    rfl
theorem shareL_take (m : Nat) (t : Nat → Int) {n k : Nat} (h : n ≤ k) : (shareL m t k).take n = shareL m t n := by
  unfold shareL
  rw [← List.map_take, List.take_range, Nat.min_eq_left h]
def toldT (m n : Nat) (t : Nat → Int) : Option Nat → T
  | none => .fr (nl (shareL m t n))
  | some _ => .st .non
theorem d_told {m n : Nat} (hm : 0 < m) (h60 : m ≤ 60) (hn : n ≤ m) (t : Nat → Int) (ht : ∀ i < m, 0 ≤ t i ∧ t i < m) : d_P_told_by [rests m n, il (tb m t)] = .ok (toldT m n t (badO m t)) := by
  have hl := d_look_table (m := m) (n := n) (tb m t) (tb_length m t) fun x hx => by
    obtain ⟨k, hk, rfl⟩ := tb_mem hx
    exact ht k hk
  have ho := d_read_off (n := n) hm h60 t
  unfold d_P_told_by runD
  refine run_of ?_
  cases hb : badO m t with
  | some k =>
    rw [hb] at ho
    have ho' : d_P_read_off1 [rests m n, il (tb m t)] = R.ok (T.fr (nl (shareL m t k) ++ [D.non])) := ho
    simp [b_P_told_by, hl, ho', atI_lastD, isNon]
    rfl
  | none =>
    rw [hb] at ho
    have ho' : d_P_read_off1 [rests m n, il (tb m t)] = R.ok (T.fr (nl (shareL m t m))) := ho
    have e1 : shareL m t m = shareL m t (m - 1) ++ [gi (shareL m t m) (m - 1)] := by
      have h1 := take_succ_gi (a := shareL m t m) (i := m - 1) (by rw [shareL_length]; omega)
      rw [show m - 1 + 1 = m by omega, List.take_of_length_le (by rw [shareL_length]; omega), shareL_take m t (by omega)] at h1
      exact h1
    have e2 : atI (nl (shareL m t m)) (-1) = some (.int (gi (shareL m t m) (m - 1))) := by
      rw [e1, ints_last, ← e1]
    have e3 : cutL (shareL m t m) none (some (n : Int)) = shareL m t n := by rw [cutL_to, shareL_take m t hn]
    simp [b_P_told_by, hl, ho', e2, isNon, e3]
    rfl
/-- the table of a sum of falling products is told by its form -/
theorem d_told_tab {m n : Nat} (hm : 0 < m) (h60 : m ≤ 60) (hn : n ≤ m) {t : Nat → Int} {f : List Int} (ht : ∀ i < m, 0 ≤ t i ∧ t i < m) (h : Tab m t f) : d_P_told_by [rests m n, il (tb m t)] = .ok (.fr (nl (formL m n f))) := by
  rw [d_told hm h60 hn t ht, bad_no fun j hj => by rw [tab_share hm h hj]; simp]
  show R.ok (T.fr (nl (shareL m t n))) = _
  rw [tab_form hm h hn]
theorem tab_rt (m : Nat) (f : List Int) : Tab m (rt m f) f := ⟨fun i _ => by rw [rt_eq]; exact mod_dvd _ _⟩
theorem form_ext {m n : Nat} (hm : 0 < m) (hn : n ≤ m) {f g : List Int} (h : ∀ i < m, rt m f i = rt m g i) : formL m n f = formL m n g := by
  have h1 : Tab m (rt m f) g := ⟨fun i hi => by rw [h i hi, rt_eq]; exact mod_dvd _ _⟩
  rw [← tab_form hm (tab_rt m f) hn, tab_form hm h1 hn]
theorem form_self {m n : Nat} {f : List Int} (h : IsForm m n f) : formL m n f = f := by
  refine List.ext_getElem? fun k => ?_
  rcases Nat.lt_or_ge k n with hk | hk
  · unfold formL
    obtain ⟨h1, h2⟩ := h.low k hk
    have hl := h.len
    rw [List.getElem?_map, List.getElem?_range hk]
    show some (gi f k % top m k) = _
    rw [Int.emod_eq_of_lt h1 h2, gi_get (by omega), List.getElem?_eq_getElem (by omega)]
  · rw [List.getElem?_eq_none (by rw [formL_length]; exact hk), List.getElem?_eq_none (by rw [h.len]; exact hk)]
/-- forms with like rests are alike -/
theorem form_eq {m n : Nat} (hm : 0 < m) (hn : n ≤ m) {f g : List Int} (hf : IsForm m n f) (hg : IsForm m n g) (h : ∀ i < m, rt m f i = rt m g i) : f = g := by
  rw [← form_self hf, ← form_self hg, form_ext hm hn h]
theorem rt_form {m n : Nat} (h : Tops m n) (f : List Int) (i : Nat) : rt m (formL m n f) i = rt m f i := by rw [rt_eq, rt_eq, form_rest h f]
theorem gi_padd : ∀ (a b : List Int) (k : Nat), gi (padd a b) k = gi a k + gi b k
  | [], b, k => by
    have : padd [] b = b := by cases b <;> rfl
    rw [this, gi_none (l := []) (by simp)]; omega
  | a :: l, [], k => by
    have : padd (a :: l) [] = a :: l := rfl
    rw [this, gi_none (l := []) (by simp)]; omega
  | a :: l, b :: l', 0 => rfl
  | a :: l, b :: l', k + 1 => by
    have := gi_padd l l' k
    unfold gi at *
    simpa [padd] using this
theorem fh_padd (x : Int) : ∀ (a b : List Int) (k : Nat), fh x k (padd a b) = fh x k a + fh x k b
  | [], b, k => by
    have : padd [] b = b := by cases b <;> rfl
    rw [this, fh]; omega
  | a :: l, [], k => by
    have : padd (a :: l) [] = a :: l := rfl
    rw [this]; simp [fh]
  | a :: l, b :: l', k => by
    have := fh_padd x l l' (k + 1)
    rw [show padd (a :: l) (b :: l') = (a + b) :: padd l l' from rfl, fh, fh, fh, this]
    grind
def pm (f g : List Int) : List Int := pfalls (pmul (unf 0 f) (unf 0 g))
def pq (f g : List Int) : List Int := pfalls (pput (unf 0 f) (unf 0 g))
theorem fh_pm (x : Int) (f g : List Int) : fh x 0 (pm f g) = fh x 0 f * fh x 0 g := by unfold pm; rw [fh_pfalls, hor_pmul, hor_unf, hor_unf]
theorem fh_pq (x : Int) (f g : List Int) : fh x 0 (pq f g) = fh (fh x 0 g) 0 f := by unfold pq; rw [fh_pfalls, hor_pput, hor_unf, hor_unf]
theorem rt_padd (m : Nat) (f g : List Int) (i : Nat) : rt m (padd f g) i = (rt m f i + rt m g i) % m := by unfold rt; rw [fh_padd, Int.add_emod]
theorem rt_pm (m : Nat) (f g : List Int) (i : Nat) : rt m (pm f g) i = rt m f i * rt m g i % m := by unfold rt; rw [fh_pm, Int.mul_emod]
theorem rt_pq {m : Nat} (hm : 0 < m) (f g : List Int) (i : Nat) : rt m (pq f g) i = rt m f (rt m g i).toNat := by
  have := (rt_low hm g i).1
  rw [rt_eq] at this
  rw [rt_eq, rt_eq, rt_eq]
  rw [Int.toNat_of_nonneg this, fh_pq, fh_mod]
theorem d_added {m n : Nat} {f g : List Int} (hm : 0 < m) (h60 : m ≤ 60) (hn : n ≤ 60) (hf : IsForm m n f) (hg : IsForm m n g) : d_P_added [rests m n, il f, il g] = .ok (.fr (nl (formL m n (padd f g)))) := by
  have lf := hf.len
  have lg := hg.len
  unfold d_P_added runD
  refine run_of ?_
  simp [b_P_added, d_look hf, d_look hg]
  refine wv_enumI [3, 4, 5] (fun d xs => ∃ a b, xs = [.own (nl (formL m d.length (padd f g))), a, b]) ⟨_, _, by simp [formL]; exact ⟨rfl, rfl⟩⟩ ?_ ?_
  · rintro J d x rest _ e ⟨_, _, rfl⟩ hJ
    have hd := congrArg List.length e
    simp at hd
    have hx : x = top m d.length := by
      have h1 : (topsL m n)[d.length]? = some x := by rw [e]; simp
      rw [topsL_get (by omega)] at h1
      exact (Option.some.inj h1).symm
    have hp := top_pos (k := d.length) hm
    have hdl : d.length < 100000 := by omega
    subst hx
    simp (disch := omega) [ints_at, p_mod, hdl]
    have e2 : formL m (d ++ [(top m d.length : Int)]).length (padd f g) = formL m d.length (padd f g) ++ [(gi f d.length + gi g d.length) % (top m d.length : Int)] := by
      rw [List.length_append, List.length_singleton]
      unfold formL
      rw [List.range_succ, List.map_append, ← gi_padd]
      rfl
    rw [← e2]
    exact hJ [_, _, _] ⟨_, _, rfl⟩
  · rintro _ ⟨_, _, rfl⟩
    simp
theorem d_multiplied {m n : Nat} {f g : List Int} (hm : 0 < m) (h60 : m ≤ 60) (hnm : n ≤ m) (hf : IsForm m n f) (hg : IsForm m n g) : d_P_multiplied [rests m n, il f, il g] = .ok (.fr (nl (formL m n (pm f g)))) := by
  have hn : n ≤ 60 := by omega
  have key : ((tb m (rt m f)).zip (tb m (rt m g))).map (fun p => p.1 * p.2 % (m : Int)) = tb m (rt m (pm f g)) := by
    refine List.ext_getElem? fun i => ?_
    rw [List.getElem?_map]
    rcases Nat.lt_or_ge i m with h | h
    · have h2 : ((tb m (rt m f)).zip (tb m (rt m g)))[i]? = some (rt m f i, rt m g i) := List.getElem?_zip_eq_some.mpr ⟨tb_get _ h, tb_get _ h⟩
      rw [h2, tb_get _ h, rt_pm]
      rfl
    · rw [List.getElem?_eq_none (by rw [List.length_zip, tb_length, tb_length]; omega), List.getElem?_eq_none (by rw [tb_length]; exact h)]
      rfl
  have hz : (zipD (nl (tb m (rt m f))) (nl (tb m (rt m g)))).length ≤ 100000 := by rw [zipD_length, ints_length, ints_length, tb_length, tb_length]; omega
  unfold d_P_multiplied runD
  refine run_of ?_
  simp [b_P_multiplied, d_table hm h60 hn hf, d_table hm h60 hn hg]
  rw [comp_zip (fun p => p.1 * p.2 % (m : Int)) _ _ ?hc]
  case hc =>
    intro p hp
    obtain ⟨i, hi, h1⟩ := tb_mem (List.of_mem_zip hp).1
    have h2 := rt_low hm f i
    rw [← h1] at h2
    have m1 : MulOk p.1 p.2 := Sm.okL (by unfold Sm; omega)
    simp (disch := omega) [p_mul m1, p_mod]
  rw [key]
  simp [hz, d_told_tab hm h60 hnm (fun i _ => rt_low hm _ i) (tab_rt m (pm f g))]
theorem d_put {m n : Nat} {f g : List Int} (hm : 0 < m) (h60 : m ≤ 60) (hnm : n ≤ m) (hf : IsForm m n f) (hg : IsForm m n g) : d_P_put [rests m n, il f, il g] = .ok (.fr (nl (formL m n (pq f g)))) := by
  have hn : n ≤ 60 := by omega
  have key : (tb m (rt m g)).map (fun x => rt m f x.toNat) = tb m (rt m (pq f g)) := by
    unfold tb
    rw [List.map_map]
    exact List.map_congr_left fun i _ => (rt_pq hm f g i).symm
  have hz : (tb m (rt m g)).length ≤ 100000 := by rw [tb_length]; omega
  unfold d_P_put runD
  refine run_of ?_
  simp [b_P_put, d_table hm h60 hn hf, d_table hm h60 hn hg]
  rw [comp_ints (fun x => rt m f x.toNat) _ ?hc]
  case hc =>
    intro x hx
    obtain ⟨i, hi, rfl⟩ := tb_mem hx
    have h2 := rt_low hm g i
    have h3 : gi (tb m (rt m f)) (rt m g i).toNat = rt m f (rt m g i).toNat := gi_tb _ (by omega)
    simp (disch := (try simp only [tb_length]); omega) [ints_at, h3]
  rw [key]
  have hz2 : m ≤ 100000 := by omega
  simp [hz, hz2, d_told_tab hm h60 hnm (fun i _ => rt_low hm _ i) (tab_rt m (pq f g))]
theorem d_Lform {ns : List Int} {m n : Nat} {spot : Int} (hm : 0 < m) (h60 : m ≤ 60) (hn : n ≤ 60) (hs : 0 ≤ spot) : ∃ f, d_L_form [il ns, .int spot, il (topsL m n)] = .ok (.fr (nl f)) ∧ IsForm m n f := by
  have key : ∃ t, d_L_form [il ns, .int spot, il (topsL m n)] = .ok t ∧ ∃ f, t = .fr (nl f) ∧ IsForm m n f := by
    unfold d_L_form runD
    refine run_ex ?_
    simp [b_L_form]
    refine wv_enumI [3, 4, 5, 6] (fun d xs => ∃ f v a b, xs = [.own (nl f), .val (.int v), a, b] ∧ 0 ≤ v ∧ v < 2147483647 ∧ f.length = d.length ∧ ∀ k < d.length, 0 ≤ gi f k ∧ gi f k < top m k) ⟨[], 5, _, _, by simp; exact ⟨rfl, rfl⟩, by omega, by omega, rfl, fun k hk => by simp at hk⟩ ?_ ?_
    · rintro J d x rest _ e ⟨f, v, _, _, rfl, hv0, hv1, hl, hf⟩ hJ
      have hd := congrArg List.length e
      simp at hd
      have hx : x = top m d.length := by
        have h1 : (topsL m n)[d.length]? = some x := by rw [e]; simp
        rw [topsL_get (by omega)] at h1
        exact (Option.some.inj h1).symm
      have hp := top_pos (k := d.length) hm
      have hfl : f.length < 100000 := by omega
      have m1 : MulOk v v := Sm.okL (by unfold Sm; omega)
      have m2 : MulOk 48271 v := Sm.okL (by unfold Sm; omega)
      subst hx
      simp (disch := omega) [p_mul m1, p_mul m2, d_cell, p_mod, hfl]
      generalize hw : (v * v + 48271 * v + (d.length : Int) + 11 + cellV ns (spot + (d.length : Int)).toNat) % 2147483647 = w
      refine hJ [_, _, _, _] ⟨_, w, _, _, rfl, by omega, by omega, by rw [List.length_append, List.length_append, hl]; rfl, fun k hk => ?_⟩
      simp at hk
      rcases Nat.lt_or_ge k d.length with z | z
      · have : gi (f ++ [w % (top m d.length : Int)]) k = gi f k := by
          unfold gi
          rw [List.getD_eq_getElem?_getD, List.getD_eq_getElem?_getD, List.getElem?_append_left (by omega)]
        rw [this]
        exact hf k z
      · have hk2 : k = d.length := by omega
        have : gi (f ++ [w % (top m d.length : Int)]) k = w % (top m d.length : Int) := by
          refine gi_some ?_
          rw [hk2, ← hl, List.getElem?_append_right (Nat.le_refl _)]
          simp
        rw [this, hk2]
        exact ⟨Int.emod_nonneg _ (by omega), Int.emod_lt_of_pos _ (by omega)⟩
    · rintro _ ⟨f, v, _, _, rfl, _, _, hl, hf⟩
      simp
      rw [topsL_length] at hl hf
      exact ⟨f, rfl, hl, hf⟩
  obtain ⟨_, e, f, rfl, h⟩ := key
  exact ⟨f, e, h⟩
end RF

set_option Elab.async false
set_option linter.all false
set_option maxRecDepth 100000
set_option autoImplicit false
/-! how the laws over forms begin -/
namespace RF
open PySem PySem.Spec L2 RF.M
structure Start (c : Int) (m n : Nat) : Prop where
  many : d_L_many [.int c] = .ok (.st (.int (m : Nat)))
  pos : 0 < m
  le : m ≤ 60
  init : newR (fun x => runI .rests 2 b_P___init__ x [.int m]) = .ok (["many", "tops"], [.int m, il (topsL m n)])
  ht : Tops m n
  nm : n ≤ m
  n60 : n ≤ 60
  tops : d_L_tops [.int m] = .ok (.fr (nl (topsL m n)))
theorem start (c : Int) : ∃ m n, Start c m n := by
  obtain ⟨hmany, hm1, hm2⟩ := d_many c
  generalize numOf (d_L_many [.int c]) = M at *
  obtain ⟨m, rfl⟩ : ∃ m : Nat, M = m := ⟨M.toNat, by omega⟩
  obtain ⟨n, hinit, ht⟩ := init_ok (m := m) (by omega) (by omega)
  have := ht.le
  exact ⟨m, n, hmany, by omega, by omega, hinit, ht, this, by omega, d_Ltops (by omega) (by omega) ht⟩
@[simp] theorem at2_0 (a b : List Int) : atI (nll [a, b]) 0 = some (il a) := by unfold nll; rfl
@[simp] theorem at2_1 (a b : List Int) : atI (nll [a, b]) 1 = some (il b) := by unfold nll; rfl
@[simp] theorem at3_0 (a b c : List Int) : atI (nll [a, b, c]) 0 = some (il a) := by unfold nll; rfl
@[simp] theorem at3_1 (a b c : List Int) : atI (nll [a, b, c]) 1 = some (il b) := by unfold nll; rfl
@[simp] theorem at3_2 (a b c : List Int) : atI (nll [a, b, c]) 2 = some (il c) := by unfold nll; rfl
theorem d_Lrests {m n : Nat} {f : List Int} (hm : 0 < m) (h60 : m ≤ 60) (hn : n ≤ 60) (h : IsForm m n f) : d_L_rests [il f, .int m] = .ok (.fr (nl (tb m (rt m f)))) := by
  unfold d_L_rests runD
  refine run_of ?_
  simp (disch := omega) [b_L_rests, p_rng1]
  rw [comp_rng m 0 (rt m f) ?hc]
  case hc =>
    intro i hi
    have hx : Sm 200 (i : Int) := by unfold Sm; omega
    simp [d_falling_rest hm h60 hn h (i : Int) hx (by decide), rt_eq]
  have hl : (rngD 0 m).length ≤ 100000 := by rw [rngD_length]; omega
  simp [hl]
  rfl
theorem zip_tb {m : Nat} (t u : Nat → Int) (q : Int → Int → Int) : ((tb m t).zip (tb m u)).map (fun p => q p.1 p.2) = tb m fun i => q (t i) (u i) := by
  refine List.ext_getElem? fun i => ?_
  rw [List.getElem?_map]
  rcases Nat.lt_or_ge i m with h | h
  · have h2 : ((tb m t).zip (tb m u))[i]? = some (t i, u i) := List.getElem?_zip_eq_some.mpr ⟨tb_get _ h, tb_get _ h⟩
    rw [h2, tb_get _ h]
    rfl
  · rw [List.getElem?_eq_none (by rw [List.length_zip, tb_length, tb_length]; omega), List.getElem?_eq_none (by rw [tb_length]; exact h)]
    rfl
theorem zipD_le {a b : List Int} {n : Nat} (h : a.length = n) (hn : n ≤ 100000) : (zipD (nl a) (nl b)).length ≤ 100000 := by rw [zipD_length, ints_length, ints_length]; omega
theorem d_form_ofL {A L m n : Nat} (hm : 0 < m) (hn : n ≤ 60) (a : List Int) (hl : a.length ≤ L) (hL : L ≤ 250) (ha : ∀ x ∈ a, Sm A x) (hA : A < 100000) : d_P_form_of1 [rests m n, il a] = .ok (.fr (nl (formL m n (pfalls a)))) := by
  have : a.length * a.length ≤ 250 * 250 := Nat.mul_le_mul (by omega) (by omega)
  exact d_form_of hm hn a (by omega) ha (by omega)
theorem sm_div {K : Nat} {x : Int} (h : Sm K x) {k : Int} (hk : 0 < k) : Sm (K + 1) (x / k) := by
  unfold Sm at *
  have h1 : (x / k).natAbs ≤ x.natAbs + 1 := by
    rcases Int.le_total 0 x with z | z
    · have := Int.ediv_le_self k z
      have := Int.ediv_nonneg z (show 0 ≤ k by omega)
      omega
    · have h2 : x ≤ x / k := by
        have h3 : x * k ≤ x := by
          have : x * k ≤ x * 1 := Int.mul_le_mul_of_nonpos_left z (by omega)
          omega
        exact (Int.le_ediv_iff_mul_le hk).mpr h3
      have h4 : x / k ≤ 0 := by
        have := Int.ediv_le_ediv hk z
        simpa using this
      omega
  have h2 : 1 ≤ 2 ^ K := Nat.one_le_two_pow
  rw [Nat.pow_succ]
  omega
theorem map_sm {K : Nat} {a : List Int} (h : ∀ x ∈ a, Sm K x) {k : Int} (hk : 0 < k) : ∀ x ∈ a.map (fun y => y / k), Sm (K + 1) x := by
  intro x hx
  obtain ⟨y, hy, rfl⟩ := List.mem_map.mp hx
  exact sm_div (h y hy) hk
theorem rt_poly {m n : Nat} (h : Tops m n) (a : List Int) (i : Nat) : rt m (formL m n (pfalls a)) i = hor (i : Nat) a % m := by rw [rt_form h, rt_eq, fh_pfalls]
end RF

set_option Elab.async false
set_option linter.all false
set_option maxRecDepth 100000
set_option autoImplicit false
/-! lone, noughts -/
namespace RF
open PySem PySem.Spec L2 RF.M
theorem find_at {m i : Nat} {p : Nat → Bool} (hi : i < m) (h : p i = true) (hn : ∀ j < i, p j = false) : (List.range m).find? p = some i := by
  rw [List.find?_range_eq_some]
  exact ⟨h, List.mem_range.mpr hi, fun j hj => by rw [hn j hj]; rfl⟩
theorem find_of {m i : Nat} {p : Nat → Bool} (h : (List.range m).find? p = some i) : i < m ∧ p i = true ∧ ∀ j < i, p j = false := by
  rw [List.find?_range_eq_some] at h
  obtain ⟨h1, h2, h3⟩ := h
  exact ⟨List.mem_range.mp h2, h1, fun j hj => by have := h3 j hj; cases hp : p j <;> simp [hp] at this ⊢⟩
theorem find_no {m : Nat} {p : Nat → Bool} (h : ∀ j < m, p j = false) : (List.range m).find? p = none := by
  rw [List.find?_eq_none]
  intro j hj
  rw [h j (List.mem_range.mp hj)]
  decide
theorem find_none {m : Nat} {p : Nat → Bool} (h : (List.range m).find? p = none) {j : Nat} (hj : j < m) : p j = false := by
  have := List.find?_eq_none.mp h j (List.mem_range.mpr hj)
  cases hp : p j with
  | false => rfl
  | true => exact absurd hp this
/-- the least place whose number has a divisor in common with m -/
def loneO (m : Nat) (t : Nat → Int) : Option Nat := (List.range m).find? fun x => decide (1 < Nat.gcd m (t x).toNat)
theorem tb_split {n : Nat} {t : Nat → Int} {d rest : List Int} {a : Int} (h : tb n t = d ++ a :: rest) : d.length < n ∧ a = t d.length := by
  have hl := congrArg List.length h
  simp at hl
  have h1 : d.length < n := by omega
  have h2 : (tb n t)[d.length]? = some a := by rw [h]; simp
  rw [tb_get _ h1] at h2
  exact ⟨h1, (Option.some.inj h2).symm⟩
theorem d_lone {m n : Nat} {f : List Int} (hm : 0 < m) (h60 : m ≤ 60) (hn : n ≤ 60) (h : IsForm m n f) : d_P_lone [rests m n, il f] = .ok (.st (onD (loneO m (rt m f)))) := by
  have ht := d_table hm h60 hn h
  unfold d_P_lone runD
  refine run_of ?_
  simp [b_P_lone, ht]
  refine wv_enumI [2, 3] (fun d xs => (∃ a b, xs = [a, b]) ∧ ∀ j < d.length, decide (1 < Nat.gcd m (rt m f j).toNat) = false) ⟨⟨_, _, rfl⟩, fun j hj => by simp at hj⟩ ?_ ?_
  · rintro J d a rest _ e ⟨⟨_, _, rfl⟩, hq⟩ hJ
    obtain ⟨hd, rfl⟩ := tb_split e
    obtain ⟨r, hr⟩ : ∃ r : Nat, rt m f d.length = r := ⟨(rt m f d.length).toNat, by have := (rt_low hm f d.length).1; omega⟩
    have hg := d_shared m r (by omega)
    simp [hr, hg]
    refine ⟨fun z => ?_, fun z => ?_⟩
    · have : loneO m (rt m f) = some d.length := find_at hd (by rw [hr, Int.toNat_natCast]; exact decide_eq_true (by omega)) hq
      rw [this]
      rfl
    · refine hJ [_, _] ⟨⟨_, _, rfl⟩, fun j hj => ?_⟩
      rw [List.length_append, List.length_singleton] at hj
      rcases Nat.lt_or_ge j d.length with hlt | hge
      · exact hq j hlt
      · have : j = d.length := by omega
        rw [this, hr, Int.toNat_natCast]
        exact decide_eq_false (by omega)
  · rintro _ ⟨⟨_, _, rfl⟩, hq⟩
    rw [tb_length] at hq
    have : loneO m (rt m f) = none := find_no hq
    simp [this]
section
variable {α : Type} {g : MG} {c : MT} {me : ME} {ρ : Env}
theorem comp_filt (f : α → D) (p : α → Bool) (h : α → D) : ∀ (l : List α), (∀ a ∈ l, gP (g (f a) ρ) fun ρ1 => c ρ1 = .ok (p a) ∧ (p a = true → me ρ1 = .ok (.st (h a)))) → compD g c me ρ (l.map f) = .ok ((l.filter p).map h)
  | [], _ => rfl
  | a :: l, H => by
    have h1 := H a (List.mem_cons_self ..)
    have ih := comp_filt f p h l fun b hb => H b (List.mem_cons_of_mem _ hb)
    rw [List.map_cons]
    unfold compD
    cases e : g (f a) ρ with
    | none => rw [e] at h1; exact h1.elim
    | some ρ1 =>
      rw [e] at h1
      obtain ⟨h2, h3⟩ := h1
      cases hp : p a with
      | true =>
        rw [hp] at h2 h3
        rw [List.filter_cons_of_pos hp]
        simp only [h2, h3 rfl, noX, R.bind_ok, if_true, p_setst, p_stT, lift_some, ih]
        rfl
      | false =>
        rw [hp] at h2
        rw [List.filter_cons_of_neg (by rw [hp]; decide)]
        simp only [h2, noX, R.bind_ok, ih]
        rfl
/-- the places below m that are asked for -/
def plc (m : Nat) (p : Nat → Bool) : List Int := ((List.range m).filter p).map fun i : Nat => (i : Int)
theorem comp_rngF (n : Nat) (p : Nat → Bool) (H : ∀ i, i < n → gP (g (.int (i : Nat)) ρ) fun ρ1 => c ρ1 = .ok (p i) ∧ (p i = true → me ρ1 = .ok (.st (.int (i : Nat))))) : compD g c me ρ (rngD 0 n) = .ok (nl (plc n p)) := by
  unfold nl rngD plc
  rw [List.map_map]
  refine comp_filt _ p (D.int ∘ fun i : Nat => (i : Int)) _ fun i hi => ?_
  have := H i (List.mem_range.mp hi)
  rw [Int.zero_add]
  exact this
theorem enum_tb (n : Nat) (t : Nat → Int) : enumD 0 (nl (tb n t)) = (List.range n).map fun i : Nat => D.tup [.int (i : Nat), .int (t i)] := by
  unfold nl
  rw [enumD_map]
  refine List.ext_getElem? fun i => ?_
  rw [List.getElem?_map, List.getElem?_map, List.getElem?_zipIdx]
  rcases Nat.lt_or_ge i n with h | h
  · rw [tb_get _ h, List.getElem?_range h]
    simp
  · rw [List.getElem?_eq_none (by rw [tb_length]; exact h), List.getElem?_eq_none (by rw [List.length_range]; exact h)]
    rfl
theorem comp_enumF (n : Nat) (t : Nat → Int) (p : Nat → Bool) (H : ∀ i, i < n → gP (g (.tup [.int (i : Nat), .int (t i)]) ρ) fun ρ1 => c ρ1 = .ok (p i) ∧ (p i = true → me ρ1 = .ok (.st (.int (i : Nat))))) : compD g c me ρ (enumD 0 (nl (tb n t))) = .ok (nl (plc n p)) := by
  rw [enum_tb]
  unfold nl plc
  rw [List.map_map]
  exact comp_filt _ p (D.int ∘ fun i : Nat => (i : Int)) _ fun i hi => H i (List.mem_range.mp hi)
end
theorem plc_length (m : Nat) (p : Nat → Bool) : (plc m p).length ≤ m := by
  unfold plc
  rw [List.length_map]
  exact Nat.le_trans (List.length_filter_le _ _) (by rw [List.length_range]; exact Nat.le_refl _)
theorem d_noughts {m n : Nat} {f : List Int} (hm : 0 < m) (h60 : m ≤ 60) (hn : n ≤ 60) (h : IsForm m n f) : d_P_noughts [rests m n, il f] = .ok (.fr (nl (plc m fun i => decide (rt m f i = 0)))) := by
  have ht := d_table hm h60 hn h
  unfold d_P_noughts runD
  refine run_of ?_
  simp [b_P_noughts, ht]
  rw [comp_enumF m (rt m f) (fun i => decide (rt m f i = 0)) ?hc]
  case hc =>
    intro i hi
    simp
  have hl : (enumD 0 (nl (tb m (rt m f)))).length ≤ 100000 := by rw [enum_tb, List.length_map, List.length_range]; omega
  simp [hl]
end RF

set_option Elab.async false
set_option linter.all false
set_option maxRecDepth 100000
set_option autoImplicit false
/-! bad forms; partner -/
namespace RF
open PySem PySem.Spec L2 RF.M
@[simp] theorem p_sRaiseI {C : Cl} {fs : List Str} {ma : MA} {ρ : Env} : sRaiseI C fs ma ρ = toS ρ (ma ρ) fun ts => if ts.length = fs.length ∧ ts.all isSt = true ∧ ts.length ≤ 1000 then .ex ρ ⟨C, fs.reverse, (ts.map T.d).reverse⟩ else .bad := (rfl)
theorem isForm_zip {m n : Nat} {f : List Int} (hl : f.length = n) (h : ∀ p ∈ f.zip (topsL m n), 0 ≤ p.1 ∧ p.1 < p.2) : IsForm m n f := by
  refine ⟨hl, fun k hk => ?_⟩
  have h1 : f[k]? = some (gi f k) := by rw [List.getElem?_eq_getElem (by omega), gi_get (by omega)]
  exact h (gi f k, (top m k : Int)) (List.mem_of_getElem? (List.getElem?_zip_eq_some.mpr ⟨h1, topsL_get hk⟩))
theorem d_look_bad {m n : Nat} {f : List Int} (h : ¬ IsForm m n f) : d_P_look_at_form [rests m n, il f] = .ex ⟨.badForm, [], []⟩ := by
  unfold d_P_look_at_form runD
  refine run_of ?_
  by_cases hl : f.length = n
  · simp [b_P_look_at_form, hl]
    refine wv_zip [2, 3] (fun d xs => (∃ a b, xs = [a, b]) ∧ ∀ p ∈ d, 0 ≤ p.1 ∧ p.1 < p.2) ⟨⟨_, _, rfl⟩, fun p hp => by simp at hp⟩ ?_ ?_
    · rintro J d p rest _ e ⟨⟨_, _, rfl⟩, hd⟩ hJ
      by_cases g1 : p.1 < 0
      · simp [g1]
      · by_cases g2 : p.2 ≤ p.1
        · simp [g1, g2]
        · simp [g1, g2]
          refine hJ [_, _] ⟨⟨_, _, rfl⟩, fun q hq => ?_⟩
          rcases List.mem_append.mp hq with hq | hq
          · exact hd q hq
          · rw [List.mem_singleton.mp hq]; omega
    · rintro _ ⟨⟨_, _, rfl⟩, hd⟩
      exact absurd (isForm_zip hl hd) h
  · have hl' : ¬ (f.length : Int) = n := by omega
    simp [b_P_look_at_form, hl, hl']
theorem d_table_bad {m n : Nat} {f : List Int} (h : ¬ IsForm m n f) : d_P_table [rests m n, il f] = .ex ⟨.badForm, [], []⟩ := by
  unfold d_P_table runD
  refine run_of ?_
  simp [b_P_table, d_look_bad h]
theorem d_lone_bad {m n : Nat} {f : List Int} (h : ¬ IsForm m n f) : d_P_lone [rests m n, il f] = .ex ⟨.badForm, [], []⟩ := by
  unfold d_P_lone runD
  refine run_of ?_
  simp [b_P_lone, d_table_bad h]
theorem d_noughts_bad {m n : Nat} {f : List Int} (h : ¬ IsForm m n f) : d_P_noughts [rests m n, il f] = .ex ⟨.badForm, [], []⟩ := by
  unfold d_P_noughts runD
  refine run_of ?_
  simp [b_P_noughts, d_table_bad h]
theorem d_partner_bad {m n : Nat} {f : List Int} (h : ¬ IsForm m n f) : d_P_partner [rests m n, il f] = .ex ⟨.badForm, [], []⟩ := by
  unfold d_P_partner runD
  refine run_of ?_
  simp [b_P_partner, d_lone_bad h]
/-- the first number whose product leaves 1 -/
def invN (m : Nat) (r : Int) : Nat := ((List.range m).find? fun c : Nat => decide (r * (c : Int) % m = 1 % (m : Int))).getD 0
theorem invN_lt {m : Nat} (hm : 0 < m) (r : Int) : invN m r < m := by
  unfold invN
  cases h : (List.range m).find? fun c : Nat => decide (r * (c : Int) % m = 1 % (m : Int)) with
  | none => exact hm
  | some c => exact List.mem_range.mp (List.mem_of_find?_eq_some h)
theorem d_turned_over {m n : Nat} (hm : 0 < m) (h60 : m ≤ 60) (r : Int) : d_P_turned_over1 [rests m n, .int r] = .ok (.st (.int (invN m r : Nat))) := by
  unfold d_P_turned_over1 runD
  refine run_of ?_
  simp (disch := omega) [b_P_turned_over1, p_rng1]
  refine wv_rng [2] (fun i xs => (∃ a, xs = [a]) ∧ ∀ j < i, ¬ r * (j : Int) % m = 1 % (m : Int)) ⟨⟨_, rfl⟩, fun j hj => by omega⟩ ?_ ?_
  · rintro J i _ hi ⟨⟨_, rfl⟩, hn⟩ hJ
    have m1 : MulOk r (i : Int) := Sm.okR (by unfold Sm; omega)
    simp (disch := omega) [p_mul m1, p_mod]
    refine ⟨fun h => ?_, fun h => ?_⟩
    · have : (List.range m).find? (fun c : Nat => decide (r * (c : Int) % m = 1 % (m : Int))) = some i := by
        rw [List.find?_range_eq_some]
        exact ⟨decide_eq_true h, List.mem_range.mpr hi, fun j hj => by simpa using hn j hj⟩
      unfold invN
      rw [this]
      rfl
    · refine hJ [_] ⟨⟨_, rfl⟩, fun j hj => ?_⟩
      rcases Nat.lt_or_ge j i with z | z
      · exact hn j z
      · have : j = i := by omega
        rw [this]; exact h
  · rintro _ ⟨⟨_, rfl⟩, hn⟩
    have : (List.range m).find? (fun c : Nat => decide (r * (c : Int) % m = 1 % (m : Int))) = none := by
      rw [List.find?_eq_none]
      intro j hj
      simpa using hn j (List.mem_range.mp hj)
    unfold invN
    rw [this]
    simp
/-- the table of the inverses -/
def invT (m : Nat) (f : List Int) (i : Nat) : Int := (invN m (rt m f i) : Nat)
def partT (m n : Nat) (f : List Int) : R T := match loneO m (rt m f) with
  | some p => .ex ⟨.lone, ["place"], [.int (p : Nat)]⟩
  | none => .ok (toldT m n (invT m f) (badO m (invT m f)))
theorem toldT_fr (m n : Nat) (t : Nat → Int) (o : Option Nat) : toFr (toldT m n t o) = toldT m n t o := by cases o <;> rfl
theorem d_partner {m n : Nat} {f : List Int} (hm : 0 < m) (h60 : m ≤ 60) (hnm : n ≤ m) (h : IsForm m n f) : d_P_partner [rests m n, il f] = partT m n f := by
  have hn : n ≤ 60 := by omega
  have hml : m ≤ 100000 := by omega
  have h1 := d_lone hm h60 hn h
  have h2 := d_table hm h60 hn h
  have hi : ∀ i, 0 ≤ invT m f i ∧ invT m f i < m := fun i => by
    have := invN_lt hm (rt m f i)
    unfold invT
    omega
  have h3 := d_told (n := n) hm h60 hnm (invT m f) fun i _ => hi i
  unfold d_P_partner runD
  refine run_of ?_
  cases hl : loneO m (rt m f) with
  | some p =>
    rw [hl] at h1
    simp [b_P_partner, h1, isNon, partT, hl]
  | none =>
    rw [hl] at h1
    simp [b_P_partner, h1, h2, isNon, partT, hl]
    rw [comp_ints (fun x => (invN m x : Nat)) _ ?hc]
    case hc =>
      intro x hx
      simp [d_turned_over hm h60]
    have e : (tb m (rt m f)).map (fun x => ((invN m x : Nat) : Int)) = tb m (invT m f) := by
      unfold tb
      rw [List.map_map]
      rfl
    rw [e]
    simp [hml, h3, toldT_fr]
end RF

set_option Elab.async false
set_option linter.all false
set_option maxRecDepth 100000
set_option autoImplicit false
/-! what the laws call a refusal -/
namespace RF
open PySem PySem.Spec L2 RF.M
/-- a law's name of a refusal, in a list -/
def nmx : Cl → Str
  | .badRest => "rest"
  | .badForm => "form"
  | .badTable => "table"
  | .noForm => "noform"
  | .tooGreat => "great"
  | .noText => "text"
  | .meets => "meets"
  | .lone => "lone"
  | _ => "none"
theorem d_called0 : d_L_called [.non] = .ok (.fr []) := by
  unfold d_L_called runD
  refine run_of ?_
  simp [b_L_called]
theorem d_called : ∀ C ∈ exA, ∀ (ks : List Str) (l : List D), d_L_called [.exc C ks l] = .ok (.st (.lst [.str (nmx C)])) := by
  refine allA ?_ ?_ ?_ ?_ ?_ ?_ ?_ ?_ <;> (intro ks l; unfold d_L_called runD; refine run_of ?_; simp [b_L_called, Cl.sub, p_addL, zipD, compD, nmx, noX])
theorem nmx_ok : ∀ C ∈ exA, PyData.strOk (nmx C) = true := by
  refine allA ?_ ?_ ?_ ?_ ?_ ?_ ?_ ?_ <;> decide +kernel
/-- the law's names, told by class -/
def lb (C : Cl) : D := .lst [.str (nmx C)]
theorem lb_rest : D.lst [.str "rest"] = lb .badRest := rfl
theorem lb_form : D.lst [.str "form"] = lb .badForm := rfl
theorem lb_table : D.lst [.str "table"] = lb .badTable := rfl
theorem lb_noform : D.lst [.str "noform"] = lb .noForm := rfl
theorem lb_great : D.lst [.str "great"] = lb .tooGreat := rfl
theorem lb_text : D.lst [.str "text"] = lb .noText := rfl
theorem lb_meets : D.lst [.str "meets"] = lb .meets := rfl
theorem lb_lone : D.lst [.str "lone"] = lb .lone := rfl
theorem eq_lb {C : Cl} (h : C ∈ exA) : dEq (lb C) (lb C) = some (.st (.bl true)) := by
  unfold lb
  rw [p_eqS1 (nmx_ok C h) (nmx_ok C h), decide_eq_true rfl]
theorem ne_lb {C : Cl} (h : C ∈ exA) : dNe (lb C) (lb C) = some (.st (.bl false)) := by
  unfold lb
  rw [p_neS1 (nmx_ok C h) (nmx_ok C h), decide_eq_true rfl]
  rfl
@[simp] theorem ne_rest : dNe (.lst [.str (nmx .badRest)]) (.lst [.str (Str.ofString "rest")]) = some (.st (.bl false)) := ne_lb (C := .badRest) (by decide)
@[simp] theorem ne_form : dNe (.lst [.str (nmx .badForm)]) (.lst [.str (Str.ofString "form")]) = some (.st (.bl false)) := ne_lb (C := .badForm) (by decide)
@[simp] theorem ne_table : dNe (.lst [.str (nmx .badTable)]) (.lst [.str (Str.ofString "table")]) = some (.st (.bl false)) := ne_lb (C := .badTable) (by decide)
@[simp] theorem ne_noform : dNe (.lst [.str (nmx .noForm)]) (.lst [.str (Str.ofString "noform")]) = some (.st (.bl false)) := ne_lb (C := .noForm) (by decide)
@[simp] theorem ne_great : dNe (.lst [.str (nmx .tooGreat)]) (.lst [.str (Str.ofString "great")]) = some (.st (.bl false)) := ne_lb (C := .tooGreat) (by decide)
@[simp] theorem ne_text : dNe (.lst [.str (nmx .noText)]) (.lst [.str (Str.ofString "text")]) = some (.st (.bl false)) := ne_lb (C := .noText) (by decide)
@[simp] theorem ne_meets : dNe (.lst [.str (nmx .meets)]) (.lst [.str (Str.ofString "meets")]) = some (.st (.bl false)) := ne_lb (C := .meets) (by decide)
@[simp] theorem ne_lone : dNe (.lst [.str (nmx .lone)]) (.lst [.str (Str.ofString "lone")]) = some (.st (.bl false)) := ne_lb (C := .lone) (by decide)
@[simp] theorem eq_rest : dEq (.lst [.str (nmx .badRest)]) (.lst [.str (Str.ofString "rest")]) = some (.st (.bl true)) := eq_lb (C := .badRest) (by decide)
@[simp] theorem eq_form : dEq (.lst [.str (nmx .badForm)]) (.lst [.str (Str.ofString "form")]) = some (.st (.bl true)) := eq_lb (C := .badForm) (by decide)
end RF

set_option Elab.async false
set_option linter.all false
set_option maxRecDepth 100000
set_option autoImplicit false
namespace RF
open PySem PySem.Spec L2 RF.M
/-! ### numbers of forms -/
theorem cellV_le (ns : List Int) (k : Nat) : cellV ns k ≤ 2147483647 := by
  unfold cellV
  split
  · have := Int.emod_lt_of_pos (gi ns k) (show (0 : Int) < 2147483647 by decide)
    omega
  · omega
@[simp] theorem p_lZip {ma : MA} {ρ : Env} : lZip ma ρ = (ma ρ).bind fun ts => lift ((stLs ts).bind fun ls => match ls with
  | [l, l'] => if l.length ≤ 100000 then some (T.fr (zipD l l')) else none
  | _ => none) := (rfl)
def prodI : List Int → Int
  | [] => 1
  | t :: ts => t * prodI ts
theorem prodI_snoc (d : List Int) (a : Int) : prodI (d ++ [a]) = prodI d * a := by
  induction d with
  | nil => simp [prodI]
  | cons b d ih => rw [List.cons_append, prodI, prodI, ih, Int.mul_assoc]
theorem prodI_pos : ∀ ts : List Int, (∀ t ∈ ts, 0 < t) → 0 < prodI ts
  | [], _ => by decide
  | t :: ts, h => Int.mul_pos (h t (List.mem_cons_self ..)) (prodI_pos ts fun u hu => h u (List.mem_cons_of_mem _ hu))
/-- the rests, from the first top on -/
def dg : List Int → Int → List Int
  | [], _ => []
  | t :: ts, v => v % t :: dg ts (v / t)
def sh : List Int → Int → Int
  | [], v => v
  | t :: ts, v => sh ts (v / t)
theorem dg_snoc : ∀ (d : List Int) (a v : Int), dg (d ++ [a]) v = dg d v ++ [sh d v % a]
  | [], a, v => rfl
  | b :: d, a, v => by rw [List.cons_append, dg, dg, sh, dg_snoc d a]; rfl
theorem sh_snoc : ∀ (d : List Int) (a v : Int), sh (d ++ [a]) v = sh d v / a
  | [], a, v => rfl
  | b :: d, a, v => by rw [List.cons_append, sh, sh, sh_snoc d a]
@[simp] theorem dg_length : ∀ (d : List Int) (v : Int), (dg d v).length = d.length
  | [], _ => rfl
  | b :: d, v => by rw [dg, List.length_cons, List.length_cons, dg_length d]
theorem dg_get : ∀ (ts : List Int) (v : Int) (k : Nat) (t : Int), ts[k]? = some t → ∃ w, (dg ts v)[k]? = some (w % t)
  | [], _, k, t, h => by simp at h
  | b :: ts, v, 0, t, h => by
    simp at h
    subst h
    exact ⟨v, rfl⟩
  | b :: ts, v, k + 1, t, h => by
    rw [List.getElem?_cons_succ] at h
    obtain ⟨w, hw⟩ := dg_get ts (v / b) k t h
    exact ⟨w, by rw [dg, List.getElem?_cons_succ]; exact hw⟩
theorem dg_0 : ∀ ts : List Int, dg ts 0 = ts.map fun _ => 0
  | [] => rfl
  | t :: ts => by rw [dg, List.map_cons, Int.zero_emod, Int.zero_ediv, dg_0 ts]
def hz : List (Int × Int) → Int
  | [] => 0
  | p :: r => hz r * p.2 + p.1
theorem hz_dg : ∀ (ts : List Int) (v : Int), (∀ t ∈ ts, 0 < t) → 0 ≤ v → v < prodI ts → hz ((dg ts v).zip ts) = v
  | [], v, _, h0, h1 => by
    unfold prodI at h1
    show (0 : Int) = v
    omega
  | t :: ts, v, h, h0, h1 => by
    have ht := h t (List.mem_cons_self ..)
    rw [prodI] at h1
    have h2 : v / t < prodI ts := Int.ediv_lt_of_lt_mul ht (by rw [Int.mul_comm]; exact h1)
    have ih := hz_dg ts (v / t) (fun u hu => h u (List.mem_cons_of_mem _ hu)) (Int.ediv_nonneg h0 (by omega)) h2
    rw [dg, List.zip_cons_cons, hz, ih]
    show v / t * t + v % t = v
    have := Int.emod_add_mul_ediv v t
    rw [Int.mul_comm] at this
    omega
theorem dg_form {m n : Nat} (hm : 0 < m) (v : Int) : IsForm m n (dg (topsL m n) v) := by
  refine ⟨by rw [dg_length, topsL_length], fun k hk => ?_⟩
  obtain ⟨w, hw⟩ := dg_get (topsL m n) v k _ (topsL_get hk)
  have hp := top_pos (k := k) hm
  rw [gi_some hw]
  exact ⟨Int.emod_nonneg _ (by omega), Int.emod_lt_of_pos _ (by omega)⟩
@[simp] theorem p_sAsg {g : MG} {m : ME} {ρ : Env} : sAsg g m ρ = toS ρ (m ρ) fun t => match t.set with
  | .st d => nxO (g d ρ)
  | _ => .bad := by
  unfold sAsg
  congr 1
theorem p_divmod {a b : Int} (h : 0 < b) (h' : b < 1073741824) : bDivmod [.int a, .int b] = some (.st (.tup [.int (a / b), .int (a % b)])) := if_pos ⟨h, h'⟩
theorem tops_in {m n : Nat} (hm : 0 < m) (h60 : m ≤ 60) {t : Int} (h : t ∈ topsL m n) : 0 < t ∧ t ≤ 60 := by
  obtain ⟨k, _, rfl⟩ := topsL_mem h
  have h1 := top_pos (k := k) hm
  have h2 : top m k ≤ m := Nat.div_le_self _ _
  omega
theorem d_many_forms {m n : Nat} (hm : 0 < m) (h60 : m ≤ 60) : d_P_many_forms1 [rests m n] = .ok (.st (.int (prodI (topsL m n)))) := by
  unfold d_P_many_forms1 runD
  refine run_of ?_
  simp [b_P_many_forms1]
  refine wv_ints [1, 2] (fun d xs => ∃ a, xs = [.val (.int (prodI d)), a]) ⟨_, rfl⟩ ?_ ?_
  · rintro J d a rest _ e ⟨_, rfl⟩ hJ
    obtain ⟨t0, t1⟩ := tops_in hm h60 (t := a) (n := n) (by rw [e]; simp)
    have m1 : MulOk (prodI d) a := Sm.okR (by unfold Sm; omega)
    simp [p_mul m1]
    exact hJ [_, _] ⟨_, by rw [prodI_snoc]⟩
  · rintro _ ⟨_, rfl⟩
    simp
theorem d_form_at {m n : Nat} (hm : 0 < m) (h60 : m ≤ 60) (hn : n ≤ 60) {v : Int} (h0 : 0 ≤ v) (h1 : v < prodI (topsL m n)) : d_P_form_at [rests m n, .int v] = .ok (.fr (nl (dg (topsL m n) v))) := by
  unfold d_P_form_at runD
  refine run_of ?_
  have g1 : ¬ v < 0 := by omega
  have g2 : ¬ prodI (topsL m n) ≤ v := by omega
  simp [b_P_form_at, d_many_forms hm h60, g1, g2]
  refine wv_ints [1, 2, 3, 4] (fun d xs => ∃ a b, xs = [.val (.int (sh d v)), .own (nl (dg d v)), a, b]) ⟨_, _, rfl⟩ ?_ ?_
  · rintro J d a rest _ e ⟨_, _, rfl⟩ hJ
    obtain ⟨t0, t1⟩ := tops_in hm h60 (t := a) (n := n) (by rw [e]; simp)
    have hl : d.length < 100000 := by
      have := congrArg List.length e
      rw [topsL_length, List.length_append] at this
      omega
    simp (disch := omega) [p_divmod, hl]
    exact hJ [_, _, _, _] ⟨_, _, by rw [sh_snoc, dg_snoc]⟩
  · rintro _ ⟨_, _, rfl⟩
    simp
theorem d_form_no {m n : Nat} (hm : 0 < m) (h60 : m ≤ 60) {v : Int} (h : v < 0 ∨ prodI (topsL m n) ≤ v) : d_P_form_at [rests m n, .int v] = .ex ⟨.noForm, [], []⟩ := by
  unfold d_P_form_at runD
  refine run_of ?_
  by_cases g1 : v < 0
  · simp [b_P_form_at, d_many_forms hm h60, g1]
  · have g2 : prodI (topsL m n) ≤ v := by omega
    simp [b_P_form_at, d_many_forms hm h60, g1, g2]
theorem d_number_of {m n : Nat} (hm : 0 < m) (h60 : m ≤ 60) (hn : n ≤ 60) {f : List Int} (F : IsForm m n f) : d_P_number_of [rests m n, il f] = .ok (.st (.int (hz (f.zip (topsL m n))))) := by
  unfold d_P_number_of runD
  refine run_of ?_
  have hfl : f.length ≤ 100000 := by rw [F.len]; omega
  simp [b_P_number_of, d_look F, hfl]
  unfold nl
  rw [zipD_map, ← List.map_reverse]
  refine wv_for [2, 3, 4] _ (fun d xs => ∃ a b, xs = [.val (.int (hz d.reverse)), a, b]) ⟨_, _, rfl⟩ ?_ ?_
  · rintro J d p rest _ e ⟨_, _, rfl⟩ hJ
    have hp : p ∈ f.zip (topsL m n) := by
      rw [← List.mem_reverse, e]
      simp
    obtain ⟨t0, t1⟩ := tops_in hm h60 (t := p.2) (n := n) (List.of_mem_zip hp).2
    have m1 : MulOk (hz d.reverse) p.2 := Sm.okR (by unfold Sm; omega)
    simp [p_mul m1]
    have er : hz (d ++ [p]).reverse = hz d.reverse * p.2 + p.1 := by rw [List.reverse_append]; rfl
    rw [← er]
    exact hJ [_, _, _] ⟨_, _, rfl⟩
  · rintro _ ⟨_, _, rfl⟩
    simp
end RF

set_option Elab.async false
set_option linter.all false
set_option maxRecDepth 100000
set_option autoImplicit false
/-! texts are read -/
namespace RF
open PySem PySem.Spec L2 RF.M
abbrev sS (l : List Nat) : Str := ⟨l.toArray⟩
def dig (c : Nat) : Bool := decide (48 ≤ c) && decide (c ≤ 57)
theorem p_inDig (c : Nat) : dInC true (.str ⟨#[c]⟩) (.str "0123456789") = some (.st (.bl (!dig c))) := by
  have e : (("0123456789" : Str).cps.toList) = [48, 49, 50, 51, 52, 53, 54, 55, 56, 57] := by rfl
  show some (T.st (.bl (!decide (c ∈ (("0123456789" : Str).cps.toList))))) = _
  rw [e]
  congr 4
  unfold dig
  simp only [List.mem_cons, List.not_mem_nil, or_false]
  rw [← Bool.decide_and]
  congr 1
  exact propext (by omega)
/-- the number that figures write -/
def cnt (w : List Nat) (most : Nat) : Option Nat := if 1 ≤ w.length ∧ w.length ≤ most ∧ w.head? ≠ some 48 ∧ w.all dig = true then some (NumText.digitsVal w) else none
theorem p_intS {w : List Nat} (h : w.all dig = true) (h1 : 1 ≤ w.length) (h2 : w.length ≤ 640) : bIntS [.str (sS w)] = some (.st (.int (NumText.digitsVal w : Nat))) := by
  have e := SX.int_S h (by intro z; rw [z] at h1; simp at h1) (by omega)
  show ((PySem.intText? (sS w)).bind fun n => if (sS w).length ≤ 640 then some (T.st (.int n)) else none) = _
  rw [e, Option.bind_some, if_pos (by rw [SX.S_len]; exact h2)]
/-- plain signs, not too many -/
structure Pl (l : List Nat) : Prop where
  asc : ∀ c ∈ l, c < 128
  len : l.length ≤ 5000
theorem Pl.ok {l : List Nat} (h : Pl l) : PyData.strOk (sS l) = true := by
  show (sS l).cps.all (· < 0x110000) = true
  rw [← Array.all_toList, List.all_eq_true]
  intro c hc
  have := h.asc c hc
  exact decide_eq_true (by omega)
theorem Pl.sub {l a : List Nat} (h : Pl l) (hs : ∀ c ∈ a, c ∈ l) (hl : a.length ≤ l.length) : Pl a := ⟨fun c hc => h.asc c (hs c hc), Nat.le_trans hl h.len⟩
theorem Pl.drop {l : List Nat} (h : Pl l) (k : Nat) : Pl (l.drop k) := h.sub (fun _ hc => List.mem_of_mem_drop hc) (by rw [List.length_drop]; omega)
theorem Pl.take {l : List Nat} (h : Pl l) (k : Nat) : Pl (l.take k) := h.sub (fun _ hc => List.mem_of_mem_take hc) (by rw [List.length_take]; omega)
theorem sS_inj {a b : List Nat} : sS a = sS b ↔ a = b := ⟨SX.S_inj, fun h => by rw [h]⟩
theorem sh_str {x : Str} (h : PyData.strOk x = true) : shD (.str x) = true := (dp_str h).sh (by decide)
theorem p_eqT {a b : List Nat} (ha : Pl a) (hb : Pl b) : dEq (.str (sS a)) (.str (sS b)) = some (.st (.bl (decide (a = b)))) := by
  unfold dEq
  rw [if_pos ⟨sh_str ha.ok, sh_str hb.ok⟩, eqD_str, decide_eq_decide.mpr sS_inj]
theorem p_neT {a b : List Nat} (ha : Pl a) (hb : Pl b) : dNe (.str (sS a)) (.str (sS b)) = some (.st (.bl (!decide (a = b)))) := by
  unfold dNe
  rw [if_pos ⟨sh_str ha.ok, sh_str hb.ok⟩, eqD_str, decide_eq_decide.mpr sS_inj]
theorem p_lenS {a : List Nat} (ha : Pl a) : bLen [.str (sS a)] = some (.st (.int a.length)) := by
  have := ha.len
  show (if (sS a).length ≤ 100000 then some (T.st (.int (sS a).length)) else none) = _
  rw [SX.S_len, if_pos (by omega)]
theorem p_ixS {a : List Nat} (ha : Pl a) (i : Int) : dIx (.str (sS a)) (.int i) = (atI a i).map fun c => T.st (.str (sS [c])) := by
  have := ha.len
  show (if (sS a).length ≤ 100000 then (atI a i).map fun c => T.st (.str (strOf c)) else none) = _
  rw [SX.S_len, if_pos (by omega)]
  rfl
theorem pl_nil : Pl [] := ⟨fun _ h => (by cases h), by simp⟩
theorem pl_one {c : Nat} (h : c < 128) : Pl [c] := ⟨fun x hx => by rw [List.mem_singleton.mp hx]; exact h, by simp⟩
/-- a text of the program's own -/
theorem lit_S (x : String) (l : List Nat) (h : (Str.ofString x).cps.toList = l) : Str.ofString x = sS l := by
  rw [← h]
theorem l_0 : Str.ofString "0" = sS [48] := lit_S _ _ rfl
theorem l_e : Str.ofString "" = sS [] := lit_S _ _ rfl
theorem l_x : Str.ofString "x" = sS [120] := lit_S _ _ rfl
theorem l_hat : Str.ofString "^" = sS [94] := lit_S _ _ rfl
theorem l_pl : Str.ofString "+" = sS [43] := lit_S _ _ rfl
theorem l_mi : Str.ofString "-" = sS [45] := lit_S _ _ rfl
theorem l_bl : Str.ofString " " = sS [32] := lit_S _ _ rfl
theorem sgs_S (w : List Nat) : sgs (sS w) = w.map fun c => D.str ⟨#[c]⟩ := rfl
theorem cnt_pos : ∀ (w : List Nat) (m : Nat) (n : Nat), cnt w m = some n → 1 ≤ n := by
  intro w m n h
  unfold cnt at h
  split at h
  · rename_i hc
    cases h
    obtain ⟨h1, _, h3, h4⟩ := hc
    cases w with
    | nil => simp at h1
    | cons c w =>
      have hc0 : c ≠ 48 := fun z => h3 (by rw [z]; rfl)
      have hd : dig c = true := (List.all_eq_true.mp h4) c List.mem_cons_self
      unfold dig at hd
      rw [Bool.and_eq_true, decide_eq_true_eq, decide_eq_true_eq] at hd
      have key : ∀ (l : List Nat) (a : Nat), 1 ≤ a → 1 ≤ l.foldl (fun acc c => acc * 10 + (c - 48)) a := by
        intro l
        induction l with
        | nil => intro a h; exact h
        | cons x l ih =>
          intro a h
          have : 1 ≤ a * 10 + (x - 48) := by omega
          exact ih _ this
      show 1 ≤ w.foldl (fun acc c => acc * 10 + (c - 48)) (0 * 10 + (c - 48))
      have : 1 ≤ 0 * 10 + (c - 48) := by omega
      exact key w _ this
  · cases h
def noTx : Xc := ⟨.noText, [], []⟩
def cntR (o : Option Nat) : R T := match o with
  | some n => .ok (.st (.int (n : Nat)))
  | none => .ex noTx
theorem d_figures {w : List Nat} (hw : Pl w) (m : Nat) (hm : m ≤ 600) : d_P_figures_of [.str (sS w), .int (m : Nat)] = cntR (cnt w m) := by
  unfold d_P_figures_of runD
  refine run_of ?_
  unfold b_P_figures_of
  by_cases h1 : w.length < 1
  · have e : cnt w m = none := if_neg fun z => by have := z.1; omega
    have h1' : w = [] := List.length_eq_zero_iff.mp (by omega)
    subst h1'
    simp [p_lenS hw, e, cntR, noTx]
  by_cases h2 : m < w.length
  · have e : cnt w m = none := if_neg fun z => by have := z.2.1; omega
    have h1' : ¬ (w.length : Int) < 1 := by omega
    have h2' : (m : Int) < w.length := by omega
    simp [p_lenS hw, e, cntR, noTx, h1', h2']
  obtain ⟨c, w', rfl⟩ : ∃ c w', w = c :: w' := by
    cases w with
    | nil => simp at h1
    | cons c w' => exact ⟨c, w', rfl⟩
  have hc : c < 128 := hw.asc c List.mem_cons_self
  have hat : atI (c :: w') 0 = some c := by
    unfold L2.atI
    rw [ixN_pos (by decide) (by simp)]
    rfl
  have h1' : ¬ ((c :: w').length : Int) < 1 := by simp; omega
  have h2' : ¬ (m : Int) < ((c :: w').length : Int) := by omega
  have heq : dEq (.str (sS [c])) (.str (Str.ofString "0")) = some (.st (.bl (decide (c = 48)))) := by
    rw [l_0, p_eqT (pl_one hc) (pl_one (by decide))]
    congr 3
    exact decide_eq_decide.mpr (by simp)
  have hlen := p_lenS hw
  have hix := p_ixS hw 0
  rw [hat] at hix
  by_cases h3 : c = 48
  · subst h3
    have e : cnt (48 :: w') m = none := if_neg fun z => z.2.2.1 rfl
    simp [hlen, hix, heq, h1', h2', e, cntR, noTx]
  · have hnil : ((c :: w').length : Int) = (w'.length : Int) + 1 := by simp
    generalize hW : c :: w' = W at *
    refine wq_seq fun K hK => ?_
    simp [hlen, hix, heq, h1', h2', h3]
    refine hK _ ?_
    clear hK K
    refine wq_seq fun K hK => ?_
    have hit : iTx (eV 0) [.val (.str (sS W)), .val (.int (m : Nat)), .no] = .ok (W.map fun c => D.str ⟨#[c]⟩) := rfl
    rw [p_sfor, hit, toS_ok]
    refine wv_for [2] _ (fun d xs => (∃ a, xs = [a]) ∧ ∀ x ∈ d, dig x = true) ⟨⟨_, rfl⟩, fun x hx => by cases hx⟩ ?_ ?_
    · rintro J d x rest _ e ⟨⟨_, rfl⟩, hd⟩ hJ
      by_cases hx : dig x = true
      · simp [p_inDig, hx]
        refine hJ [_] ⟨⟨_, rfl⟩, fun y hy => ?_⟩
        rcases List.mem_append.mp hy with z | z
        · exact hd y z
        · rw [List.mem_singleton.mp z]; exact hx
      · have hx' : dig x = false := by simpa using hx
        have en : cnt W m = none := if_neg fun z => by
          have := List.all_eq_true.mp z.2.2.2 x (by rw [e]; simp)
          exact hx this
        simp [p_inDig, hx', en, cntR, noTx]
    · rintro _ ⟨⟨_, rfl⟩, hd⟩
      refine hK _ ?_
      clear hK K
      have hall : W.all dig = true := List.all_eq_true.mpr hd
      have hl1 : 1 ≤ W.length := by rw [← hW]; simp
      have es : cnt W m = some (NumText.digitsVal W) := if_pos ⟨hl1, by omega, by rw [← hW]; simp [h3], hall⟩
      have hi := p_intS hall hl1 (by omega)
      rw [es]
      simp [hi, cntR]
def cntV (o : Option Nat) : Int := match o with
  | some n => (n : Nat)
  | none => -1
def cntI (o : Option Nat) : R T := .ok (.st (.int (cntV o)))
theorem d_count {w : List Nat} (hw : Pl w) (m : Nat) (hm : m ≤ 600) : d_L_count [.str (sS w), .int (m : Nat)] = cntI (cnt w m) := by
  unfold d_L_count runD
  refine run_of ?_
  unfold b_L_count
  by_cases h1 : w.length < 1
  · have e : cnt w m = none := if_neg fun z => by have := z.1; omega
    have h1' : w = [] := List.length_eq_zero_iff.mp (by omega)
    subst h1'
    simp [p_lenS hw, e, cntI, cntV]
  by_cases h2 : m < w.length
  · have e : cnt w m = none := if_neg fun z => by have := z.2.1; omega
    have h1' : ¬ (w.length : Int) < 1 := by omega
    have h2' : (m : Int) < w.length := by omega
    simp [p_lenS hw, e, cntI, cntV, h1', h2']
  obtain ⟨c, w', rfl⟩ : ∃ c w', w = c :: w' := by
    cases w with
    | nil => simp at h1
    | cons c w' => exact ⟨c, w', rfl⟩
  have hc : c < 128 := hw.asc c List.mem_cons_self
  have hat : atI (c :: w') 0 = some c := by
    unfold L2.atI
    rw [ixN_pos (by decide) (by simp)]
    rfl
  have h1' : ¬ ((c :: w').length : Int) < 1 := by simp; omega
  have h2' : ¬ (m : Int) < ((c :: w').length : Int) := by omega
  have heq : dEq (.str (sS [c])) (.str (Str.ofString "0")) = some (.st (.bl (decide (c = 48)))) := by
    rw [l_0, p_eqT (pl_one hc) (pl_one (by decide))]
    congr 3
    exact decide_eq_decide.mpr (by simp)
  have hlen := p_lenS hw
  have hix := p_ixS hw 0
  rw [hat] at hix
  by_cases h3 : c = 48
  · subst h3
    have e : cnt (48 :: w') m = none := if_neg fun z => z.2.2.1 rfl
    simp [hlen, hix, heq, h1', h2', e, cntI, cntV]
  · have hnil : ((c :: w').length : Int) = (w'.length : Int) + 1 := by simp
    generalize hW : c :: w' = W at *
    refine wq_seq fun K hK => ?_
    simp [hlen, hix, heq, h1', h2', h3]
    refine hK _ ?_
    clear hK K
    refine wq_seq fun K hK => ?_
    have hit : iTx (eV 0) [.val (.str (sS W)), .val (.int (m : Nat)), .no] = .ok (W.map fun c => D.str ⟨#[c]⟩) := rfl
    rw [p_sfor, hit, toS_ok]
    refine wv_for [2] _ (fun d xs => (∃ a, xs = [a]) ∧ ∀ x ∈ d, dig x = true) ⟨⟨_, rfl⟩, fun x hx => by cases hx⟩ ?_ ?_
    · rintro J d x rest _ e ⟨⟨_, rfl⟩, hd⟩ hJ
      by_cases hx : dig x = true
      · simp [p_inDig, hx]
        refine hJ [_] ⟨⟨_, rfl⟩, fun y hy => ?_⟩
        rcases List.mem_append.mp hy with z | z
        · exact hd y z
        · rw [List.mem_singleton.mp z]; exact hx
      · have hx' : dig x = false := by simpa using hx
        have en : cnt W m = none := if_neg fun z => by
          have := List.all_eq_true.mp z.2.2.2 x (by rw [e]; simp)
          exact hx this
        simp [p_inDig, hx', en, cntI, cntV]
    · rintro _ ⟨⟨_, rfl⟩, hd⟩
      refine hK _ ?_
      clear hK K
      have hall : W.all dig = true := List.all_eq_true.mpr hd
      have hl1 : 1 ≤ W.length := by rw [← hW]; simp
      have es : cnt W m = some (NumText.digitsVal W) := if_pos ⟨hl1, by omega, by rw [← hW]; simp [h3], hall⟩
      have hi := p_intS hall hl1 (by omega)
      rw [es]
      simp [hi, cntI, cntV]
/-- the power that stands behind x -/
def pwr : List Nat → Option Nat
  | [] => some 1
  | c :: r => if c = 94 then (cnt r 2).bind fun n => if 2 ≤ n ∧ n < 12 then some n else none else none
theorem cutS_S (l : List Nat) (lo hi : Option Int) : cutS (sS l) lo hi = sS (cutL l lo hi) := by
  unfold cutS cutL
  rw [SX.S_len]
theorem p_slS {l : List Nat} (h : Pl l) (lo hi : Option Int) : dSl (.str (sS l)) lo hi = some (.st (.str (sS (cutL l lo hi)))) := by
  have := h.len
  show (if (sS l).length ≤ 100000 then some (T.st (.str (cutS (sS l) lo hi))) else none) = _
  rw [SX.S_len, if_pos (by omega), cutS_S]
theorem atI_0 (c : Nat) (r : List Nat) : atI (c :: r) 0 = some c := by
  unfold L2.atI
  rw [ixN_pos (by decide) (by simp)]
  rfl
theorem d_power {w : List Nat} (hw : Pl w) : d_P_power_of [.str (sS w)] = cntR (pwr w) := by
  unfold d_P_power_of runD
  refine run_of ?_
  unfold b_P_power_of
  cases w with
  | nil =>
    have h0 : dEq (.str (sS [])) (.str (Str.ofString "")) = some (.st (.bl true)) := by rw [l_e, p_eqT pl_nil pl_nil]; rfl
    refine wq_seq fun K hK => ?_
    simp [h0]
    rfl
  | cons c r =>
    have hc : c < 128 := hw.asc c List.mem_cons_self
    have h0 : dEq (.str (sS (c :: r))) (.str (Str.ofString "")) = some (.st (.bl false)) := by rw [l_e, p_eqT hw pl_nil]; rfl
    have hix := p_ixS hw 0
    rw [atI_0] at hix
    have h1 : dNe (.str (sS [c])) (.str (Str.ofString "^")) = some (.st (.bl (!decide (c = 94)))) := by
      rw [l_hat, p_neT (pl_one hc) (pl_one (by decide))]
      congr 4
      exact decide_eq_decide.mpr (by simp)
    have hsl := p_slS hw (some 1) none
    have hcl : cutL (c :: r) (some 1) none = r := cutL_from (c :: r) 1
    rw [hcl] at hsl
    have hf := d_figures (w := r) (by exact hw.drop 1) 2 (by decide)
    have hf : d_P_figures_of [.str (sS r), .int 2] = cntR (cnt r 2) := hf
    generalize sS (c :: r) = W at *
    refine wq_seq fun K hK => ?_
    simp [h0]
    refine hK _ ?_
    clear hK K
    by_cases h94 : c = 94
    · subst h94
      refine wq_seq fun K hK => ?_
      simp [hix, h1]
      refine hK _ ?_
      clear hK K
      have e : pwr (94 :: r) = (cnt r 2).bind fun n => if 2 ≤ n ∧ n < 12 then some n else none := by simp [pwr]
      rw [e]
      cases hcn : cnt r 2 with
      | none =>
        rw [hcn] at hf
        refine wq_seq fun K hK => ?_
        simp [hsl, hf, cntR]
      | some n =>
        rw [hcn] at hf
        refine wq_seq fun K hK => ?_
        simp [hsl, hf, cntR]
        refine hK _ ?_
        clear hK K
        by_cases hn : 2 ≤ n ∧ n < 12
        · have g1 : ¬ (n : Int) < 2 := by omega
          have g2 : ¬ (12 : Int) ≤ n := by omega
          simp [g1, g2, hn]
          rfl
        · by_cases g1 : (n : Int) < 2
          · have : ¬ (2 ≤ n ∧ n < 12) := hn
            simp [g1, this, noTx]
            rfl
          · have g2 : (12 : Int) ≤ n := by omega
            simp [g1, g2, hn, noTx]
            rfl
    · have e : pwr (c :: r) = none := by simp [pwr, h94]
      refine wq_seq fun K hK => ?_
      simp [hix, h1, h94, e, cntR, noTx]
/-- a word, cut at its first x -/
def cutx : List Nat → List Nat × Option (List Nat)
  | [] => ([], none)
  | c :: r => if c = 120 then ([], some r) else (c :: (cutx r).1, (cutx r).2)
theorem cutx_none : ∀ {w a : List Nat}, cutx w = (a, none) → w = a ∧ 120 ∉ a
  | [], a, h => by cases h; exact ⟨rfl, by simp⟩
  | c :: r, a, h => by
    unfold cutx at h
    split at h
    · cases h
    · rename_i hc
      obtain ⟨e1, e2⟩ := Prod.mk.inj h
      obtain ⟨h1, h2⟩ := cutx_none (w := r) (a := (cutx r).1) (by rw [← e2])
      subst e1
      refine ⟨by rw [← h1], fun z => ?_⟩
      rcases List.mem_cons.mp z with z | z
      · exact hc z.symm
      · exact h2 z
theorem cutx_some : ∀ {w a b : List Nat}, cutx w = (a, some b) → w = a ++ 120 :: b ∧ 120 ∉ a
  | [], a, b, h => by cases h
  | c :: r, a, b, h => by
    unfold cutx at h
    split at h
    · rename_i hc
      cases h
      exact ⟨by rw [hc]; rfl, by simp⟩
    · rename_i hc
      obtain ⟨e1, e2⟩ := Prod.mk.inj h
      obtain ⟨h1, h2⟩ := cutx_some (w := r) (a := (cutx r).1) (b := b) (by rw [← e2])
      subst e1
      refine ⟨by rw [List.cons_append, ← h1], fun z => ?_⟩
      rcases List.mem_cons.mp z with z | z
      · exact hc z.symm
      · exact h2 z
def trm (w : List Nat) : Option (Nat × Nat) := match cutx w with
  | (a, none) => (cnt a 60).map fun n => (n, 0)
  | (a, some b) => (if a = [] then some 1 else cnt a 60).bind fun n => (pwr b).map fun p => (n, p)
def trmR (o : Option (Nat × Nat)) : R T := match o with
  | some p => .ok (.st (.tup [.int (p.1 : Nat), .int (p.2 : Nat)]))
  | none => .ex noTx
theorem part_some {a b : List Nat} (h : 120 ∉ a) : Txt.partition (sS (a ++ 120 :: b)) (sS [120]) = (sS a, sS [120], sS b) := by
  have e := TL.partition_app (y := sS [120]) (s := 120) (S := []) rfl (a := sS a) (b := sS b) h
  rw [SX.S_cat, SX.S_cat] at e
  simpa using e
theorem part_none {a : List Nat} (h : 120 ∉ a) : Txt.partition (sS a) (sS [120]) = (sS a, sS [], sS []) := TL.partition_none (y := sS [120]) (s := 120) (S := []) rfl (a := sS a) h
theorem p_part {a : List Nat} (ha : Pl a) : mPart (sS a) (.str (Str.ofString "x")) = some (.st (.tup [.str (Txt.partition (sS a) (sS [120])).1, .str (Txt.partition (sS a) (sS [120])).2.1, .str (Txt.partition (sS a) (sS [120])).2.2])) := by
  have := ha.len
  rw [l_x]
  exact if_pos ⟨rfl, by rw [SX.S_len]; omega⟩
theorem p_eM1 {f : Str → D → Option T} {m n : ME} {ρ : Env} : eM1 f m n ρ = (m ρ).bind fun t => (lift (strD t.d)).bind fun a => (n ρ).bind fun u => lift (f a u.d) := (rfl)
theorem d_term {w : List Nat} (hw : Pl w) : d_P_term_of [.str (sS w)] = trmR (trm w) := by
  unfold d_P_term_of runD
  refine run_of ?_
  unfold b_P_term_of
  have hp := p_part hw
  rcases hx : cutx w with ⟨a, o⟩
  cases o with
  | none =>
    obtain ⟨e1, e2⟩ := cutx_none hx
    subst e1
    have et : trm w = (cnt w 60).map fun n => (n, 0) := by unfold trm; rw [hx]
    rw [part_none e2] at hp
    have hf := d_figures hw 60 (by decide)
    have hf : d_P_figures_of [.str (sS w), .int 60] = cntR (cnt w 60) := hf
    have h0 : dEq (.str (sS [])) (.str (Str.ofString "")) = some (.st (.bl true)) := by rw [l_e, p_eqT pl_nil pl_nil]; rfl
    rw [et]
    generalize sS w = W at *
    generalize sS [] = E0 at *
    refine wq_seq fun K hK => ?_
    simp [p_eM1, strD, hp]
    refine hK _ ?_
    clear hK K
    cases hcn : cnt w 60 with
    | none =>
      rw [hcn] at hf
      refine wq_seq fun K hK => ?_
      simp [h0, hf, cntR, trmR, noTx]
    | some n =>
      rw [hcn] at hf
      refine wq_seq fun K hK => ?_
      simp [h0, hf, cntR, trmR]
  | some b =>
    obtain ⟨e1, e2⟩ := cutx_some hx
    have ha : Pl a := hw.sub (fun c hc => by rw [e1]; exact List.mem_append_left _ hc) (by rw [e1, List.length_append]; omega)
    have hb : Pl b := hw.sub (fun c hc => by rw [e1]; exact List.mem_append_right _ (List.mem_cons_of_mem _ hc)) (by rw [e1, List.length_append, List.length_cons]; omega)
    have et : trm w = (if a = [] then some 1 else cnt a 60).bind fun n => (pwr b).map fun p => (n, p) := by unfold trm; rw [hx]
    rw [e1, part_some e2, ← e1] at hp
    have hf : d_P_figures_of [.str (sS a), .int 60] = cntR (cnt a 60) := d_figures ha 60 (by decide)
    have hpw := d_power hb
    have h0 : dEq (.str (sS [120])) (.str (Str.ofString "")) = some (.st (.bl false)) := by rw [l_e, p_eqT (pl_one (by decide)) pl_nil]; rfl
    have h1 : dNe (.str (sS a)) (.str (Str.ofString "")) = some (.st (.bl (!decide (a = [])))) := by rw [l_e, p_neT ha pl_nil]
    rw [et]
    generalize sS w = W at *
    generalize sS [120] = E0 at *
    generalize sS a = A at *
    generalize sS b = B at *
    refine wq_seq fun K hK => ?_
    simp [p_eM1, strD, hp]
    refine hK _ ?_
    clear hK K
    iterate 2
      refine wq_seq fun K hK => ?_
      simp [h0]
      refine hK _ ?_
      clear hK K
    have fin : ∀ n : Nat, WFl (sRet (eTup (aC (eV 4) (aC (eCall 1 d_P_power_of (aC (eV 3) aN)) aN))) [.val (.str W), .val (.str A), .val (.str E0), .val (.str B), .val (.int (n : Nat))]) (PR (trmR ((pwr b).map fun p => (n, p)))) := by
      intro n
      cases hpb : pwr b with
      | none =>
        rw [hpb] at hpw
        simp [hpw, cntR, trmR, noTx]
      | some p =>
        rw [hpb] at hpw
        simp [hpw, cntR, trmR]
    refine wq_seq fun K hK => ?_
    by_cases hae : a = []
    · simp [h1, hae]
      refine hK _ ?_
      rw [if_pos hae, Option.bind_some]
      exact fin 1
    · cases hcn : cnt a 60 with
      | none =>
        rw [hcn] at hf
        simp [h1, hae, hf, cntR, hcn, trmR, noTx]
      | some n =>
        rw [hcn] at hf
        simp [h1, hae, hf, cntR]
        refine hK _ ?_
        simp only [hcn]
        rw [if_neg hae, Option.bind_some]
        exact fin n
theorem occ_part {x y a b c : Str} (h : Txt.partition x y = (a, b, c)) (hb : b ≠ Str.empty) : ∃ i r, Builtin.Str.occurrences x y 0 x.length 1 = i :: r ∧ a = Builtin.Str.strSub x 0 i := by
  unfold Txt.partition at h
  cases ho : Builtin.Str.occurrences x y 0 x.length 1 with
  | nil =>
    rw [ho] at h
    cases h
    exact absurd rfl hb
  | cons i r =>
    rw [ho] at h
    cases h
    exact ⟨i, r, rfl, rfl⟩
theorem find_some {a b : List Nat} (h : 120 ∉ a) : Txt.find (sS (a ++ 120 :: b)) (sS [120]) = a.length := by
  obtain ⟨i, r, ho, hi⟩ := occ_part (part_some (b := b) h) (by intro z; have := congrArg (fun x : Str => x.cps.size) z; simp [Str.empty] at this)
  have hl := congrArg Str.length hi
  have hl : a.length = (Builtin.Str.strSub (sS (a ++ 120 :: b)) 0 i).length := by rw [← hi, SX.S_len]
  have h2 : (Builtin.Str.strSub (sS (a ++ 120 :: b)) 0 i).length = min i (a.length + (b.length + 1)) := by
    show ((sS (a ++ 120 :: b)).cps.extract 0 i).size = _
    rw [Array.size_extract]
    simp
  rw [h2] at hl
  show (match Builtin.Str.occurrences (sS (a ++ 120 :: b)) (sS [120]) 0 (sS (a ++ 120 :: b)).length 1 with | i :: _ => (i : Int) | [] => -1) = _
  rw [ho]
  show (i : Int) = a.length
  omega
theorem find_none' {a : List Nat} (h : 120 ∉ a) : Txt.find (sS a) (sS [120]) = -1 := by
  have ho := SX.in_one a 120
  rw [decide_eq_false h] at ho
  show (match Builtin.Str.occurrences (sS a) (sS [120]) 0 (sS a).length 1 with | i :: _ => (i : Int) | [] => -1) = _
  cases hq : Builtin.Str.occurrences (sS a) (sS [120]) 0 (sS a).length 1 with
  | nil => rfl
  | cons i r =>
    rw [show (SX.S a) = sS a from rfl, show SX.S [120] = sS [120] from rfl, hq] at ho
    cases ho
theorem p_find (a : List Nat) : mFind (sS a) (.str (Str.ofString "x")) = some (.st (.int (Txt.find (sS a) (sS [120])))) := by
  rw [l_x]
  rfl
theorem cntV_lt {w : List Nat} {m : Nat} (h : cnt w m = none) : cntV (cnt w m) = -1 := by rw [h]; rfl
theorem d_term1 {w : List Nat} (hw : Pl w) : ∃ A P : Int, d_L_term1 [.str (sS w)] = .ok (.st (.tup [.int A, .int P])) ∧ ((∃ n p : Nat, trm w = some (n, p) ∧ A = n ∧ P = p) ∨ (trm w = none ∧ A < 1)) := by
  have key : ∃ T0, d_L_term1 [.str (sS w)] = .ok T0 ∧ ∃ A P : Int, T0 = .st (.tup [.int A, .int P]) ∧ ((∃ n p : Nat, trm w = some (n, p) ∧ A = n ∧ P = p) ∨ (trm w = none ∧ A < 1)) := by
    unfold d_L_term1 runD
    refine run_ex ?_
    unfold b_L_term1
    have hp := p_find w
    rcases hx : cutx w with ⟨a, o⟩
    cases o with
    | none =>
      obtain ⟨e1, e2⟩ := cutx_none hx
      subst e1
      have et : trm w = (cnt w 60).map fun n => (n, 0) := by unfold trm; rw [hx]
      rw [find_none' e2] at hp
      have hf : d_L_count [.str (sS w), .int 60] = cntI (cnt w 60) := d_count hw 60 (by decide)
      generalize sS w = W at *
      refine wq_seq fun K hK => ?_
      simp [p_eM1, strD, hp]
      refine hK _ ?_
      clear hK K
      refine wq_seq fun K hK => ?_
      simp [hf, cntI]
      refine ⟨_, _, ⟨rfl, rfl⟩, ?_⟩
      rw [et]
      cases hcn : cnt w 60 with
      | none => exact .inr ⟨rfl, by show (-1 : Int) < 1; decide⟩
      | some n => exact .inl ⟨n, 0, rfl, rfl, rfl⟩
    | some b =>
      obtain ⟨e1, e2⟩ := cutx_some hx
      have ha : Pl a := hw.sub (fun c hc => by rw [e1]; exact List.mem_append_left _ hc) (by rw [e1, List.length_append]; omega)
      have hb : Pl b := hw.sub (fun c hc => by rw [e1]; exact List.mem_append_right _ (List.mem_cons_of_mem _ hc)) (by rw [e1, List.length_append, List.length_cons]; omega)
      have et : trm w = (if a = [] then some 1 else cnt a 60).bind fun n => (pwr b).map fun p => (n, p) := by unfold trm; rw [hx]
      rw [e1, find_some e2, ← e1] at hp
      have hs1 := p_slS hw none (some (a.length : Int))
      have hs2 := p_slS hw (some ((a.length : Int) + 1)) none
      have c1 : cutL w none (some (a.length : Int)) = a := by rw [cutL_to, e1]; simp
      have c2 : cutL w (some ((a.length : Int) + 1)) none = b := by
        have := cutL_from w (a.length + 1)
        rw [show (((a.length + 1 : Nat)) : Int) = (a.length : Int) + 1 by omega] at this
        rw [this, e1]
        simp
      rw [c1] at hs1
      rw [c2] at hs2
      have hf : d_L_count [.str (sS a), .int 60] = cntI (cnt a 60) := d_count ha 60 (by decide)
      have hbe : dEq (.str (sS b)) (.str (Str.ofString "")) = some (.st (.bl (decide (b = [])))) := by rw [l_e, p_eqT hb pl_nil]
      obtain ⟨N, hN, hN2⟩ : ∃ N : Int, (∀ K : Env → Prop, True) ∧ N = (if a = [] then 1 else cntV (cnt a 60)) := ⟨_, fun _ => trivial, rfl⟩
      have hNo : (∃ n : Nat, (if a = [] then some 1 else cnt a 60) = some n ∧ N = n) ∨ ((if a = [] then some 1 else cnt a 60) = none ∧ N < 1) := by
        by_cases hae : a = []
        · rw [if_pos hae] at hN2 ⊢
          exact .inl ⟨1, rfl, hN2⟩
        · rw [if_neg hae] at hN2 ⊢
          cases hcn : cnt a 60 with
          | none => rw [hcn] at hN2; exact .inr ⟨rfl, by rw [hN2]; show (-1 : Int) < 1; decide⟩
          | some n => rw [hcn] at hN2; exact .inl ⟨n, rfl, hN2⟩
      have hal : (a.length : Int) > 0 ↔ ¬ a = [] := by
        cases a with
        | nil => simp
        | cons x a => simp
      refine wq_seq fun K hK => ?_
      simp [p_eM1, strD, hp]
      refine hK _ ?_
      clear hK K
      have hn0 : ¬ (a.length : Int) < 0 := by omega
      iterate 2
        refine wq_seq fun K hK => ?_
        simp [hn0]
        refine hK _ ?_
        clear hK K
      refine wq_seq fun K hK => ?_
      have go : K [.val (.str (sS w)), .val (.int a.length), .val (.int N), .no, .no] := by
        refine hK _ ?_
        clear hK K
        have mk : ∀ (p : Option Nat) (P : Int), pwr b = p → (∀ q, p = some q → P = q) → p ≠ none → ((∃ n q : Nat, trm w = some (n, q) ∧ N = n ∧ P = q) ∨ (trm w = none ∧ N < 1)) := by
          intro p P hp1 hp2 hp3
          cases p with
          | none => exact absurd rfl hp3
          | some q =>
            have hP := hp2 q rfl
            rw [et, hp1]
            rcases hNo with ⟨n, hn1, hn2⟩ | ⟨hn1, hn2⟩
            · rw [hn1]; exact .inl ⟨n, q, rfl, hn2, hP⟩
            · rw [hn1]; exact .inr ⟨rfl, hn2⟩
        have mkn : pwr b = none → trm w = none := fun h => by
          rw [et, h]
          cases (if a = [] then some 1 else cnt a 60) <;> rfl
        cases b with
        | nil =>
          have hbe : dEq (.str (sS [])) (.str (Str.ofString "")) = some (.st (.bl true)) := hbe
          generalize sS w = W at *
          generalize sS [] = B at *
          refine wq_seq fun K hK => ?_
          simp [hs2]
          refine hK _ ?_
          clear hK K
          refine wq_seq fun K hK => ?_
          simp [hbe]
          exact ⟨N, 1, ⟨rfl, rfl⟩, mk (some 1) 1 rfl (fun q hq => by cases hq; rfl) (by simp)⟩
        | cons c r =>
          have hbe : dEq (.str (sS (c :: r))) (.str (Str.ofString "")) = some (.st (.bl false)) := hbe
          have hc : c < 128 := hb.asc c List.mem_cons_self
          have hix : dIx (.str (sS (c :: r))) (.int 0) = some (.st (.str (sS [c]))) := by rw [p_ixS hb 0, atI_0]; rfl
          have h1 : dNe (.str (sS [c])) (.str (Str.ofString "^")) = some (.st (.bl (!decide (c = 94)))) := by
            rw [l_hat, p_neT (pl_one hc) (pl_one (by decide))]
            congr 4
            exact decide_eq_decide.mpr (by simp)
          have hsl := p_slS hb (some 1) none
          have hcl : cutL (c :: r) (some 1) none = r := cutL_from (c :: r) 1
          rw [hcl] at hsl
          have hf2 : d_L_count [.str (sS r), .int 2] = cntI (cnt r 2) := d_count (w := r) (by exact hb.drop 1) 2 (by decide)
          have ep : pwr (c :: r) = if c = 94 then (cnt r 2).bind fun n => if 2 ≤ n ∧ n < 12 then some n else none else none := rfl
          generalize sS w = W at *
          generalize sS (c :: r) = B at *
          generalize sS [c] = C1 at *
          generalize sS r = R1 at *
          refine wq_seq fun K hK => ?_
          simp [hs2]
          refine hK _ ?_
          clear hK K
          refine wq_seq fun K hK => ?_
          simp [hbe]
          refine hK _ ?_
          clear hK K
          refine wq_seq fun K hK => ?_
          simp [hsl, hf2, cntI]
          refine hK _ ?_
          clear hK K
          refine wq_seq fun K hK => ?_
          by_cases h94 : c = 94
          · rw [if_pos h94] at ep
            cases hcn : cnt r 2 with
            | none =>
              rw [hcn] at ep
              have : cntV none < 2 := by show (-1 : Int) < 2; decide
              simp [hix, h1, h94, this]
              exact ⟨-1, 0, ⟨rfl, rfl⟩, .inr ⟨mkn ep, by decide⟩⟩
            | some n =>
              rw [hcn, Option.bind_some] at ep
              have hv : cntV (some n) = n := rfl
              by_cases hn : 2 ≤ n ∧ n < 12
              · rw [if_pos hn] at ep
                have g1 : ¬ (n : Int) < 2 := by omega
                have g2 : ¬ (11 : Int) < n := by omega
                simp [hix, h1, h94, hv, g1, g2]
                refine hK _ ?_
                clear hK K
                simp [hv]
                exact ⟨N, n, ⟨rfl, rfl⟩, mk (some n) n ep (fun q hq => by cases hq; rfl) (by simp)⟩
              · rw [if_neg hn] at ep
                have g : (n : Int) < 2 ∨ (11 : Int) < n := by omega
                rcases g with g | g
                · simp [hix, h1, h94, hv, g]
                  exact ⟨-1, 0, ⟨rfl, rfl⟩, .inr ⟨mkn ep, by decide⟩⟩
                · have g1 : ¬ (n : Int) < 2 := by omega
                  simp [hix, h1, h94, hv, g, g1]
                  exact ⟨-1, 0, ⟨rfl, rfl⟩, .inr ⟨mkn ep, by decide⟩⟩
          · rw [if_neg h94] at ep
            simp [hix, h1, h94]
            exact ⟨-1, 0, ⟨rfl, rfl⟩, .inr ⟨mkn ep, by decide⟩⟩
      by_cases hae : a = []
      · have : ¬ 0 < a.length := by rw [hae]; simp
        rw [if_pos hae] at hN2
        subst hN2
        simp [this]
        exact go
      · have : 0 < a.length := List.length_pos_iff.mpr hae
        rw [if_neg hae] at hN2
        subst hN2
        simp [this, hs1, hf, cntI]
        exact go
  obtain ⟨_, e, A, P, rfl, h⟩ := key
  exact ⟨A, P, e, h⟩
end RF

set_option Elab.async false
set_option linter.all false
set_option maxRecDepth 100000
set_option autoImplicit false
/-! a text's words -/
namespace RF
open PySem PySem.Spec L2 RF.M
/-- the words of a text -/
def wds (L : List Nat) : List (List Nat) := TL.spl [32] 0 [] L
theorem split_wds (L : List Nat) : Txt.split (sS L) (sS [32]) = (wds L).map sS := SX.split_S (by simp) (by decide)
theorem join_wds (L : List Nat) : TL.joinL [32] (wds L) = L := by
  have h1 := StrLaws.join_split (sS L) (sS [32])
  rw [split_wds] at h1
  have h2 := SX.join_S [32] (wds L)
  rw [TL.join_eq] at h2
  have h3 : SX.S (TL.joinL [32] (wds L)) = SX.S L := h2.symm.trans h1
  exact SX.S_inj h3
theorem wds_ne (L : List Nat) : wds L ≠ [] := by
  intro h
  have h1 := join_wds L
  rw [h] at h1
  have h2 : L = [] := h1.symm
  subst h2
  have : wds [] = [[]] := rfl
  rw [this] at h
  cases h
theorem joinL_in {s : List Nat} : ∀ {ps : List (List Nat)} {p : List Nat}, p ∈ ps → (∀ c ∈ p, c ∈ TL.joinL s ps) ∧ p.length ≤ (TL.joinL s ps).length
  | [q], p, h => by
    rw [List.mem_singleton.mp h]
    exact ⟨fun c hc => hc, Nat.le_refl _⟩
  | q :: r :: ps, p, h => by
    have e : TL.joinL s (q :: r :: ps) = q ++ (s ++ TL.joinL s (r :: ps)) := rfl
    rw [e]
    rcases List.mem_cons.mp h with z | z
    · rw [z]
      exact ⟨fun c hc => List.mem_append_left _ hc, by rw [List.length_append]; omega⟩
    · obtain ⟨h1, h2⟩ := joinL_in (s := s) z
      exact ⟨fun c hc => List.mem_append_right _ (List.mem_append_right _ (h1 c hc)), by rw [List.length_append, List.length_append]; omega⟩
theorem wds_pl {L : List Nat} (h : Pl L) : ∀ w ∈ wds L, Pl w := fun w hw => by
  have h1 := joinL_in (s := [32]) hw
  rw [join_wds] at h1
  exact h.sub h1.1 h1.2
theorem joinL_len {s : List Nat} (hs : 1 ≤ s.length) : ∀ (ps : List (List Nat)), ps.length ≤ (TL.joinL s ps).length + 1
  | [] => by simp
  | [q] => by simp
  | q :: r :: ps => by
    have e : TL.joinL s (q :: r :: ps) = q ++ (s ++ TL.joinL s (r :: ps)) := rfl
    have := joinL_len hs (r :: ps)
    rw [e, List.length_append, List.length_append, List.length_cons]
    omega
theorem wds_len {L : List Nat} (h : Pl L) : (wds L).length ≤ 5001 := by
  have := joinL_len (s := [32]) (by decide) (wds L)
  rw [join_wds] at this
  have := h.len
  omega
theorem p_split {L : List Nat} (h : Pl L) : mSplit (sS L) (.str (Str.ofString " ")) = some (.fr ((wds L).map fun w => D.str (sS w))) := by
  have hl := h.len
  rw [l_bl]
  have e : mSplit (sS L) (.str (sS [32])) = some (.fr ((Txt.split (sS L) (sS [32])).map D.str)) := if_pos ⟨rfl, by rw [SX.S_len]; omega⟩
  rw [e, split_wds, List.map_map]
  rfl
/-- a turn's sign and word -/
def turn (ws : List (List Nat)) (j : Nat) : Option (Bool × List Nat) := match j with
  | 0 => some (if (ws.getD 0 []).head? = some 45 then (true, (ws.getD 0 []).drop 1) else (false, ws.getD 0 []))
  | j + 1 => if ws.getD (2 * j + 1) [] = [43] then some (false, ws.getD (2 * j + 2) []) else if ws.getD (2 * j + 1) [] = [45] then some (true, ws.getD (2 * j + 2) []) else none
/-- what is found behind so many turns -/
def runT (ws : List (List Nat)) : Nat → Option (List Int × Nat)
  | 0 => some (List.replicate 12 0, 12)
  | j + 1 => (runT ws j).bind fun s => (turn ws j).bind fun q => (trm q.2).bind fun t => if s.2 ≤ t.2 then none else some (s.1.set t.2 (if q.1 then -(t.1 : Int) else t.1), t.2)
theorem runT_none {ws : List (List Nat)} {j k : Nat} (h : runT ws j = none) (hk : j ≤ k) : runT ws k = none := by
  induction k with
  | zero => have : j = 0 := by omega
            rw [this] at h; exact h
  | succ k ih =>
    rcases Nat.lt_or_ge j (k + 1) with z | z
    · have := ih (by omega)
      show (runT ws k).bind _ = none
      rw [this]; rfl
    · have : j = k + 1 := by omega
      rw [this] at h; exact h
theorem runT_ok {ws : List (List Nat)} : ∀ {j : Nat} {s : List Int × Nat}, runT ws j = some s → s.1.length = 12 ∧ s.2 ≤ 12
  | 0, s, h => by cases h; exact ⟨by simp, Nat.le_refl _⟩
  | j + 1, s, h => by
    have h : ((runT ws j).bind fun s => (turn ws j).bind fun q => (trm q.2).bind fun t => if s.2 ≤ t.2 then none else some (s.1.set t.2 (if q.1 then -(t.1 : Int) else t.1), t.2)) = some s := h
    cases h1 : runT ws j with
    | none => rw [h1] at h; cases h
    | some s1 =>
      rw [h1, Option.bind_some] at h
      obtain ⟨g1, g2⟩ := runT_ok h1
      cases h2 : turn ws j with
      | none => rw [h2] at h; cases h
      | some q =>
        rw [h2, Option.bind_some] at h
        cases h3 : trm q.2 with
        | none => rw [h3] at h; cases h
        | some t =>
          rw [h3, Option.bind_some] at h
          split at h
          · cases h
          · cases h
            exact ⟨by simpa using g1, by simp; omega⟩
theorem rgS (n : Nat) (h : n ≤ 100000) : rng3 [.int 0, .int (n : Nat), .int 2] = some ((List.range ((n + 1) / 2)).map fun t : Nat => D.int (0 + (t : Nat) * 2)) := by
  have hs : (Builtin.Range.rangeSize 0 (n : Nat) 2) = (((n + 1) / 2 : Nat) : Int) := by
    unfold Builtin.Range.rangeSize
    rw [if_pos (by decide)]
    by_cases h0 : (0 : Int) < (n : Nat)
    · rw [if_pos h0]
      omega
    · rw [if_neg h0]
      omega
  have hc : rgC 0 (n : Nat) 2 = true := by
    have fl : ∀ x : Int, -10 ≤ x → x ≤ 200000 → Builtin.Range.rangeFitsLong x = true := fun x h1 h2 => by
      unfold Builtin.Range.rangeFitsLong
      rw [Bool.and_eq_true, decide_eq_true_eq, decide_eq_true_eq]
      have p1 : (-(2 ^ 63) : Int) = -9223372036854775808 := by decide
      have p2 : ((2 ^ 63) : Int) = 9223372036854775808 := by decide
      omega
    have h1 : Builtin.Range.small 0 (n : Nat) 2 = true := by
      unfold Builtin.Range.small
      rw [hs, fl 0 (by omega) (by omega), fl (n : Nat) (by omega) (by omega), fl 2 (by omega) (by omega), fl (((n + 1) / 2 : Nat) : Int) (by omega) (by omega)]
      rw [if_pos (by decide), fl ((n : Nat) + (2 - 1)) (by omega) (by omega)]
      cases (((n + 1) / 2 : Nat) : Int) == 0 <;> rfl
    unfold rgC
    rw [hs, h1, Int.toNat_natCast]
    simp
  show (if rgC 0 (n : Nat) 2 = true then some (rngC 0 2 (Builtin.Range.rangeSize 0 (n : Nat) 2).toNat) else none) = _
  rw [if_pos hc, hs, Int.toNat_natCast]
  rfl
/-- what a text tells -/
def rdO (L : List Nat) : Option (List Int) := if L = [48] then some [] else if (wds L).length % 2 = 0 then none else (runT (wds L) (((wds L).length + 1) / 2)).map fun s => tr s.1
def rdR (o : Option (List Int)) : R T := match o with
  | some l => .ok (.fr (nl l))
  | none => .ex noTx
def wD (ws : List (List Nat)) : List D := ws.map fun w => D.str (sS w)
theorem wD_at {ws : List (List Nat)} {k : Nat} (h : k < ws.length) : atI (wD ws) (k : Int) = some (.str (sS (ws.getD k []))) := by
  unfold L2.atI wD
  rw [List.length_map, ixN_pos (by omega) (by omega), Option.bind_some, Int.toNat_natCast, List.getElem?_map, List.getElem?_eq_getElem h, List.getD_eq_getElem?_getD, List.getElem?_eq_getElem h]
  rfl
theorem getD_in {ws : List (List Nat)} {k : Nat} (h : k < ws.length) : ws.getD k [] ∈ ws := by
  rw [List.getD_eq_getElem?_getD, List.getElem?_eq_getElem h]
  exact List.getElem_mem _
def sgR (o : Option (Bool × List Nat)) : R T := match o with
  | some q => .ok (.st (.tup [.bl q.1, .str (sS q.2)]))
  | none => .ex noTx
theorem p_start {a : List Nat} : mStart (sS a) (.str (Str.ofString "-")) = some (.st (.bl (decide (a.head? = some 45)))) := by
  rw [l_mi]
  show some (T.st (.bl (Txt.startswith (sS a) (sS [45])))) = _
  congr 3
  unfold Txt.startswith
  rw [StrLaws.subAt_eq]
  cases a with
  | nil => rfl
  | cons c r =>
    simp [Str.length]
    by_cases h : c = 45 <;> simp [h]
theorem d_signed (ws : List (List Nat)) (hp : ∀ w ∈ ws, Pl w) (j : Nat) (hj : 2 * j < ws.length) : d_P_signed [.lst (wD ws), .int (0 + (j : Nat) * 2 : Int)] = sgR (turn ws j) := by
  unfold d_P_signed runD
  refine run_of ?_
  unfold b_P_signed
  cases j with
  | zero =>
    have hw := hp _ (getD_in (ws := ws) (k := 0) (by omega))
    have hi : dIx (.lst (wD ws)) (.int 0) = some (.st (.str (sS (ws.getD 0 [])))) := by
      show (atI (wD ws) 0).map T.st = _
      have := wD_at (ws := ws) (k := 0) (by omega)
      rw [show ((0 : Nat) : Int) = 0 from rfl] at this
      rw [this]
      rfl
    have hst := p_start (a := ws.getD 0 [])
    have hsl := p_slS hw (some 1) none
    have hcl : cutL (ws.getD 0 []) (some 1) none = (ws.getD 0 []).drop 1 := cutL_from _ 1
    rw [hcl] at hsl
    have et : turn ws 0 = some (if (ws.getD 0 []).head? = some 45 then (true, (ws.getD 0 []).drop 1) else (false, ws.getD 0 [])) := rfl
    rw [et]
    generalize ws.getD 0 [] = w0 at *
    generalize wD ws = WD at *
    by_cases h45 : w0.head? = some 45
    · rw [decide_eq_true h45] at hst
      rw [if_pos h45]
      show WFl _ (PR (R.ok (T.st (D.tup [.bl true, .str (sS (w0.drop 1))]))))
      generalize sS (w0.drop 1) = X1 at *
      generalize sS w0 = X0 at *
      refine wq_seq fun K hK => ?_
      simp [p_eM1, strD, hi, hst, hsl, sgR]
    · rw [decide_eq_false h45] at hst
      rw [if_neg h45]
      show WFl _ (PR (R.ok (T.st (D.tup [.bl false, .str (sS w0)]))))
      generalize sS w0 = X0 at *
      refine wq_seq fun K hK => ?_
      simp [p_eM1, strD, hi, hst, sgR]
  | succ j =>
    have hw1 := hp _ (getD_in (ws := ws) (k := 2 * j + 1) (by omega))
    have ek1 : (0 : Int) + ((j + 1 : Nat) : Int) * 2 - 1 = ((2 * j + 1 : Nat) : Int) := by omega
    have ek2 : (0 : Int) + ((j + 1 : Nat) : Int) * 2 = ((2 * j + 2 : Nat) : Int) := by omega
    have hi1 : dIx (.lst (wD ws)) (.int (((2 * j + 2 : Nat) : Int) - 1)) = some (.st (.str (sS (ws.getD (2 * j + 1) [])))) := by
      show (atI (wD ws) _).map T.st = _
      have := wD_at (ws := ws) (k := 2 * j + 1) (by omega)
      rw [show ((2 * j + 2 : Nat) : Int) - 1 = ((2 * j + 1 : Nat) : Int) by omega, this]
      rfl
    have hi2 : dIx (.lst (wD ws)) (.int ((2 * j + 2 : Nat) : Int)) = some (.st (.str (sS (ws.getD (2 * j + 2) [])))) := by
      show (atI (wD ws) _).map T.st = _
      rw [wD_at (ws := ws) (k := 2 * j + 2) (by omega)]
      rfl
    have et : turn ws (j + 1) = if ws.getD (2 * j + 1) [] = [43] then some (false, ws.getD (2 * j + 2) []) else if ws.getD (2 * j + 1) [] = [45] then some (true, ws.getD (2 * j + 2) []) else none := rfl
    have hk0 : ¬ ((2 * j + 2 : Nat) : Int) = 0 := by omega
    rw [et, ek2]
    generalize ws.getD (2 * j + 2) [] = w2 at *
    generalize ws.getD (2 * j + 1) [] = w1 at *
    have hin : dInS true (.str (sS w1)) (.tup [.str (Str.ofString "+"), .str (Str.ofString "-")]) = some (.st (.bl (!decide (w1 = [43] ∨ w1 = [45])))) := by
      rw [l_pl, l_mi]
      show some (T.st (.bl (!decide (sS w1 ∈ [sS [43], sS [45]])))) = _
      congr 4
      refine decide_eq_decide.mpr ?_
      simp only [List.mem_cons, List.not_mem_nil, or_false, sS_inj]
    have heq : dEq (.str (sS w1)) (.str (Str.ofString "-")) = some (.st (.bl (decide (w1 = [45])))) := by rw [l_mi, p_eqT hw1 (pl_one (by decide))]
    generalize wD ws = WD at *
    generalize sS w1 = X1 at *
    generalize ((2 * j + 2 : Nat) : Int) = kk at *
    refine wq_seq fun K hK => ?_
    simp [hk0]
    refine hK _ ?_
    clear hK K
    refine wq_seq fun K hK => ?_
    by_cases h1 : w1 = [43]
    · have h2 : ¬ w1 = [45] := by rw [h1]; decide
      simp [hi1, hin, h1]
      refine hK _ ?_
      clear hK K
      simp [hi1, hi2, heq, h1, sgR]
    · by_cases h2 : w1 = [45]
      · simp [hi1, hin, h2]
        refine hK _ ?_
        clear hK K
        simp [hi1, hi2, heq, h2, sgR]
      · simp [hi1, hin, h1, h2, sgR, noTx]
theorem turn_pl {ws : List (List Nat)} (hp : ∀ w ∈ ws, Pl w) {j : Nat} (hj : 2 * j < ws.length) {q : Bool × List Nat} (h : turn ws j = some q) : Pl q.2 := by
  cases j with
  | zero =>
    have hw := hp _ (getD_in (ws := ws) (k := 0) (by omega))
    have h : some (if (ws.getD 0 []).head? = some 45 then (true, (ws.getD 0 []).drop 1) else (false, ws.getD 0 [])) = some q := h
    split at h
    · cases h; exact hw.drop 1
    · cases h; exact hw
  | succ j =>
    have hw := hp _ (getD_in (ws := ws) (k := 2 * j + 2) (by omega))
    have h : (if ws.getD (2 * j + 1) [] = [43] then some (false, ws.getD (2 * j + 2) []) else if ws.getD (2 * j + 1) [] = [45] then some (true, ws.getD (2 * j + 2) []) else none) = some q := h
    split at h
    · cases h; exact hw
    · split at h
      · cases h; exact hw
      · cases h
theorem d_read {L : List Nat} (hL : Pl L) : d_P_read [.str (sS L)] = rdR (rdO L) := by
  have hsp := p_split hL
  have hws := wds_pl hL
  have hwl := wds_len hL
  have hwn := wds_ne L
  have h0 : dEq (.str (sS L)) (.str (Str.ofString "0")) = some (.st (.bl (decide (L = [48])))) := by rw [l_0, p_eqT hL (pl_one (by decide))]
  unfold d_P_read runD
  refine run_of ?_
  unfold b_P_read
  unfold rdO
  by_cases h48 : L = [48]
  · rw [if_pos h48]
    rw [decide_eq_true h48] at h0
    generalize sS L = XL at *
    refine wq_seq fun K hK => ?_
    simp [h0, rdR]
  rw [if_neg h48]
  rw [decide_eq_false h48] at h0
  generalize hW : wds L = ws at *
  have hwD : (ws.map fun w => D.str (sS w)) = wD ws := rfl
  rw [hwD] at hsp
  have hwDl : (wD ws).length = ws.length := by unfold wD; rw [List.length_map]
  have hsg := d_signed ws hws
  have hrg := rgS ws.length (by omega)
  generalize sS L = XL at *
  generalize hWD : wD ws = WD at *
  refine wq_seq fun K hK => ?_
  simp [h0]
  refine hK _ ?_
  clear hK K
  refine wq_seq fun K hK => ?_
  simp [p_eM1, strD, hsp]
  refine hK _ ?_
  clear hK K
  by_cases hev : ws.length % 2 = 0
  · have hev' : (ws.length : Int) % 2 = 0 := by omega
    rw [if_pos hev]
    refine wq_seq fun K hK => ?_
    simp (disch := omega) [hwDl, p_mod, hev', rdR, noTx]
  have hev' : ¬ (ws.length : Int) % 2 = 0 := by omega
  rw [if_neg hev]
  refine wq_seq fun K hK => ?_
  simp (disch := omega) [hwDl, p_mod, hev']
  refine hK _ ?_
  clear hK K
  have hz : ([D.int 0] : List D) = nl [0] := by unfold nl; rfl
  refine wq_seq fun K hK => ?_
  simp (disch := omega) [p_dRep]
  refine hK _ ?_
  clear hK K
  refine wq_seq fun K hK => ?_
  simp
  refine hK _ ?_
  clear hK K
  have hJ : ∀ j, j < (ws.length + 1) / 2 → 2 * j < ws.length := fun j h => by omega
  generalize (ws.length + 1) / 2 = J at *
  refine wq_seq fun K hK => ?_
  simp [hwDl, hrg]
  refine wv_for [2, 3, 4, 5, 6, 7, 8] _ (fun d xs => ∃ (f : List Int) (l : Nat) (a b c e g : Sl), xs = [.own (nl f), .val (.int (l : Nat)), a, b, c, e, g] ∧ runT ws d.length = some (f, l)) ⟨[0, 0, 0, 0, 0, 0, 0, 0, 0, 0, 0, 0], 12, _, _, _, _, _, rfl, rfl⟩ ?_ ?_
  · rintro JJ d j rest _ e ⟨f, l, _, _, _, _, _, rfl, hrun⟩ hJJ
    have hj1 : (List.range J)[d.length]? = some j := by rw [e]; simp
    have hjJ : d.length < J := by
      have := (List.getElem?_eq_some_iff.mp hj1).1
      simpa using this
    have hj2 : j = d.length := by
      rw [List.getElem?_range hjJ] at hj1
      exact (Option.some.inj hj1).symm
    subst hj2
    have hjw := hJ _ hjJ
    have hs := hsg d.length hjw
    obtain ⟨hf12, hl12⟩ := runT_ok hrun
    have hf12 : f.length = 12 := hf12
    have hl12 : l ≤ 12 := hl12
    have hnext : runT ws (d.length + 1) = (turn ws d.length).bind fun q => (trm q.2).bind fun t => if l ≤ t.2 then none else some (f.set t.2 (if q.1 then -(t.1 : Int) else t.1), t.2) := by
      show (runT ws d.length).bind _ = _
      rw [hrun]
      rfl
    have bad : runT ws (d.length + 1) = none → runT ws J = none := fun h => runT_none h (by omega)
    generalize hkk : (0 : Int) + (d.length : Int) * 2 = kk at *
    have hkk2 : (d.length : Int) * 2 = kk := by omega
    simp only [p_gN, gP_some]
    cases ht : turn ws d.length with
    | none =>
      rw [ht] at hs hnext
      have en := bad hnext
      refine wq_seq fun K2 hK2 => ?_
      simp [hkk2, hs, sgR, en, rdR, noTx]
    | some q =>
      have hq := turn_pl hws hjw ht
      have htm := d_term hq
      rw [ht] at hs hnext
      rw [Option.bind_some] at hnext
      obtain ⟨away, w⟩ := q
      have htm : d_P_term_of [.str (sS w)] = trmR (trm w) := htm
      have hs : d_P_signed [.lst WD, .int kk] = .ok (.st (.tup [.bl away, .str (sS w)])) := hs
      generalize sS w = X1 at *
      refine wq_seq fun K2 hK2 => ?_
      simp [hkk2, hs]
      refine hK2 _ ?_
      clear hK2 K2
      cases htr : trm w with
      | none =>
        rw [htr] at htm
        have hnext : runT ws (d.length + 1) = none := by rw [hnext]; show (trm w).bind _ = none; rw [htr]; rfl
        have en := bad hnext
        refine wq_seq fun K2 hK2 => ?_
        simp [htm, trmR, en, rdR, noTx]
      | some t =>
        obtain ⟨n, p⟩ := t
        rw [htr] at htm
        have htm : d_P_term_of [.str X1] = .ok (.st (.tup [.int (n : Nat), .int (p : Nat)])) := htm
        have hnext : runT ws (d.length + 1) = if l ≤ p then none else some (f.set p (if away then -(n : Int) else n), p) := by rw [hnext]; show (trm w).bind _ = _; rw [htr]; rfl
        refine wq_seq fun K2 hK2 => ?_
        simp [htm]
        refine hK2 _ ?_
        clear hK2 K2
        refine wq_seq fun K2 hK2 => ?_
        by_cases hlp : l ≤ p
        · rw [if_pos hlp] at hnext
          have en := bad hnext
          have hlp' : (l : Int) ≤ p := by omega
          simp [hlp, hlp', en, rdR, noTx]
        · rw [if_neg hlp] at hnext
          have hlp' : ¬ (l : Int) ≤ p := by omega
          simp [hlp, hlp']
          refine hK2 _ ?_
          clear hK2 K2
          have hset := fun a => ints_set (l := f) (k := (p : Int)) (a := a) (by omega) (by omega)
          refine wq_seq fun K2 hK2 => ?_
          cases away with
          | true =>
            simp [hset]
            refine hK2 _ ?_
            clear hK2 K2
            simp
            exact hJJ [_, _, _, _, _, _, _] ⟨_, p, _, _, _, _, _, rfl, by rw [List.length_append, List.length_singleton, hnext]; rfl⟩
          | false =>
            simp [hset]
            refine hK2 _ ?_
            clear hK2 K2
            simp
            exact hJJ [_, _, _, _, _, _, _] ⟨_, p, _, _, _, _, _, rfl, by rw [List.length_append, List.length_singleton, hnext]; rfl⟩
  · rintro _ ⟨f, l, _, _, _, _, _, rfl, hrun⟩
    rw [List.length_range] at hrun
    refine hK _ ?_
    clear hK K
    have htm := d_trimmed f (by have h12 : f.length = 12 := (runT_ok hrun).1; omega)
    simp [htm, hrun, rdR]
end RF

set_option Elab.async false
set_option linter.all false
set_option maxRecDepth 100000
set_option autoImplicit false
/-! the law's reader tells what the program's reader tells -/
namespace RF
open PySem PySem.Spec L2 RF.M
def rdN (o : Option (List Int)) : R T := match o with
  | some l => .ok (.fr (nl l))
  | none => .ok (.st .non)
theorem trm_pos {w : List Nat} {n p : Nat} (h : trm w = some (n, p)) : 1 ≤ n := by
  unfold trm at h
  split at h
  · rename_i a _
    cases hc : cnt a 60 with
    | none => rw [hc] at h; cases h
    | some k =>
      rw [hc] at h
      cases h
      exact cnt_pos _ _ _ hc
  · rename_i a b _
    cases hc : (if a = [] then some 1 else cnt a 60) with
    | none => rw [hc] at h; cases h
    | some k =>
      rw [hc, Option.bind_some] at h
      cases hp : pwr b with
      | none => rw [hp] at h; cases h
      | some q =>
        rw [hp] at h
        cases h
        split at hc
        · cases hc; exact Nat.le_refl _
        · exact cnt_pos _ _ _ hc
/-- the words, a sign ahead of the first -/
def wds2 (ws : List (List Nat)) : List (List Nat) := if (ws.getD 0 []).head? = some 45 then [45] :: (ws.getD 0 []).drop 1 :: ws.drop 1 else [43] :: ws
theorem wds2_turn {ws : List (List Nat)} (hne : ws ≠ []) (j : Nat) : turn ws j = if (wds2 ws).getD (2 * j) [] = [43] then some (false, (wds2 ws).getD (2 * j + 1) []) else if (wds2 ws).getD (2 * j) [] = [45] then some (true, (wds2 ws).getD (2 * j + 1) []) else none := by
  obtain ⟨w0, r, rfl⟩ := List.exists_cons_of_ne_nil hne
  have e0 : (w0 :: r).getD 0 [] = w0 := rfl
  unfold wds2
  rw [e0]
  cases j with
  | zero =>
    have et : turn (w0 :: r) 0 = some (if w0.head? = some 45 then (true, w0.drop 1) else (false, w0)) := rfl
    rw [et]
    by_cases h : w0.head? = some 45
    · rw [if_pos h, if_pos h]
      rfl
    · rw [if_neg h, if_neg h]
      rfl
  | succ j =>
    have et : turn (w0 :: r) (j + 1) = if (w0 :: r).getD (2 * j + 1) [] = [43] then some (false, (w0 :: r).getD (2 * j + 2) []) else if (w0 :: r).getD (2 * j + 1) [] = [45] then some (true, (w0 :: r).getD (2 * j + 2) []) else none := rfl
    rw [et]
    by_cases h : w0.head? = some 45
    · rw [if_pos h]
      rfl
    · rw [if_neg h]
      rfl
theorem wds2_len {ws : List (List Nat)} (hne : ws ≠ []) : (wds2 ws).length = ws.length + 1 := by
  obtain ⟨w0, r, rfl⟩ := List.exists_cons_of_ne_nil hne
  unfold wds2
  split <;> simp
theorem wds2_pl {ws : List (List Nat)} (hne : ws ≠ []) (hp : ∀ w ∈ ws, Pl w) : ∀ w ∈ wds2 ws, Pl w := fun w hw => by
  obtain ⟨w0, r, rfl⟩ := List.exists_cons_of_ne_nil hne
  unfold wds2 at hw
  split at hw
  · rcases List.mem_cons.mp hw with z | z
    · rw [z]; exact pl_one (by decide)
    · rcases List.mem_cons.mp z with z | z
      · rw [z]; exact (hp w0 List.mem_cons_self).drop 1
      · exact hp w (List.mem_cons_of_mem _ z)
  · rcases List.mem_cons.mp hw with z | z
    · rw [z]; exact pl_one (by decide)
    · exact hp w z
theorem p_inSg (w1 : List Nat) : dInS true (.str (sS w1)) (.tup [.str (Str.ofString "+"), .str (Str.ofString "-")]) = some (.st (.bl (!decide (w1 = [43] ∨ w1 = [45])))) := by
  rw [l_pl, l_mi]
  show some (T.st (.bl (!decide (sS w1 ∈ [sS [43], sS [45]])))) = _
  rw [decide_eq_decide.mpr (show sS w1 ∈ [sS [43], sS [45]] ↔ w1 = [43] ∨ w1 = [45] by simp only [List.mem_cons, List.not_mem_nil, or_false, sS_inj])]
theorem d_Lread {L : List Nat} (hL : Pl L) : d_L_read [.str (sS L)] = rdN (rdO L) := by
  have hsp := p_split hL
  have hws := wds_pl hL
  have hwl := wds_len hL
  have hwn := wds_ne L
  have h0 : dEq (.str (sS L)) (.str (Str.ofString "0")) = some (.st (.bl (decide (L = [48])))) := by rw [l_0, p_eqT hL (pl_one (by decide))]
  unfold d_L_read runD
  refine run_of ?_
  unfold b_L_read
  unfold rdO
  by_cases h48 : L = [48]
  · rw [if_pos h48]
    rw [decide_eq_true h48] at h0
    generalize sS L = XL at *
    refine wq_seq fun K hK => ?_
    simp [h0, rdN]
  rw [if_neg h48]
  rw [decide_eq_false h48] at h0
  generalize hW : wds L = ws at *
  have hwD : (ws.map fun w => D.str (sS w)) = wD ws := rfl
  rw [hwD] at hsp
  have hw0 := hws _ (getD_in (ws := ws) (k := 0) (List.length_pos_iff.mpr hwn))
  have hi : dIx (.lst (wD ws)) (.int 0) = some (.st (.str (sS (ws.getD 0 [])))) := by
    show (atI (wD ws) 0).map T.st = _
    have := wD_at (ws := ws) (k := 0) (List.length_pos_iff.mpr hwn)
    rw [show ((0 : Nat) : Int) = 0 from rfl] at this
    rw [this]
    rfl
  have hs1 := p_slS hw0 none (some 1)
  have c1 : cutL (ws.getD 0 []) none (some 1) = (ws.getD 0 []).take 1 := cutL_to _ 1
  rw [c1] at hs1
  have hs2 := p_slS hw0 (some 1) none
  have c2 : cutL (ws.getD 0 []) (some 1) none = (ws.getD 0 []).drop 1 := cutL_from _ 1
  rw [c2] at hs2
  have hh : dEq (.str (sS ((ws.getD 0 []).take 1))) (.str (Str.ofString "-")) = some (.st (.bl (decide ((ws.getD 0 []).head? = some 45)))) := by
    rw [l_mi, p_eqT (hw0.take 1) (pl_one (by decide))]
    congr 3
    refine decide_eq_decide.mpr ?_
    cases ws.getD 0 [] with
    | nil => simp
    | cons c r => simp
  have hs3 : dSl (.lst (wD ws)) (some 1) none = some (.fr (wD (ws.drop 1))) := by
    show some (T.fr (cutD (wD ws) (some 1) none)) = _
    unfold wD
    rw [cutD_map]
    rw [show cutL ws (some 1) none = ws.drop 1 from cutL_from ws 1]
  have hl1 : (wD ws).length ≤ 6000 := by unfold wD; rw [List.length_map]; omega
  have hl2 : (wD (ws.drop 1)).length ≤ 6000 := by unfold wD; rw [List.length_map, List.length_drop]; omega
  have hW2 : wD (wds2 ws) = if (ws.getD 0 []).head? = some 45 then [.str (sS [45]), .str (sS ((ws.getD 0 []).drop 1))] ++ wD (ws.drop 1) else [.str (sS [43])] ++ wD ws := by
    unfold wds2 wD
    split <;> rfl
  have ha1 : (ws.getD 0 []).head? = some 45 → dAdd (.lst [.str (Str.ofString "-"), .str (sS ((ws.getD 0 []).drop 1))]) (.lst (wD (ws.drop 1))) = some (.fr (wD (wds2 ws))) := fun h => by
    rw [hW2, if_pos h, l_mi]
    exact p_addL (by show 2 + (wD (ws.drop 1)).length ≤ 100000; omega)
  have ha2 : ¬ (ws.getD 0 []).head? = some 45 → dAdd (.lst [.str (Str.ofString "+")]) (.lst (wD ws)) = some (.fr (wD (wds2 ws))) := fun h => by
    rw [hW2, if_neg h, l_pl]
    exact p_addL (by show 1 + (wD ws).length ≤ 100000; omega)
  have ht := wds2_turn hwn
  have hl3 := wds2_len hwn
  have hp2 := wds2_pl hwn hws
  have hat : ∀ k : Nat, k < (wds2 ws).length → dIx (.lst (wD (wds2 ws))) (.int (k : Int)) = some (.st (.str (sS ((wds2 ws).getD k [])))) := fun k hk => by
    show (atI (wD (wds2 ws)) (k : Int)).map T.st = _
    rw [wD_at hk]
    rfl
  have hwDl : (wD (wds2 ws)).length = ws.length + 1 := by unfold wD; rw [List.length_map, hl3]
  have hrg := rgS (ws.length + 1) (by omega)
  clear hW2
  generalize hV : wds2 ws = V at *
  generalize wD V = VD at *
  generalize wD (ws.drop 1) = WD1 at *
  generalize hWD : wD ws = WD at *
  generalize sS L = XL at *
  generalize (ws.getD 0 []) = w0 at *
  generalize sS (w0.drop 1) = X1 at *
  generalize sS (w0.take 1) = X2 at *
  generalize sS w0 = X0 at *
  refine wq_seq fun K hK => ?_
  simp [h0]
  refine hK _ ?_
  clear hK K
  refine wq_seq fun K hK => ?_
  simp [p_eM1, strD, hsp]
  refine hK _ ?_
  clear hK K
  refine wq_seq fun K hK => ?_
  have go : K [.val (.str XL), .val (.lst VD), .no, .no, .no, .no, .no] := by
    refine hK _ ?_
    clear hK K
    by_cases hev : ws.length % 2 = 0
    · have hev' : ((ws.length : Int) + 1) % 2 = 1 := by omega
      rw [if_pos hev]
      refine wq_seq fun K hK => ?_
      simp (disch := omega) [hwDl, p_mod, hev', rdN]
    have hev' : ¬ ((ws.length : Int) + 1) % 2 = 1 := by omega
    rw [if_neg hev]
    refine wq_seq fun K hK => ?_
    simp (disch := omega) [hwDl, p_mod, hev']
    refine hK _ ?_
    clear hK K
    refine wq_seq fun K hK => ?_
    simp (disch := omega) [p_dRep]
    refine hK _ ?_
    clear hK K
    refine wq_seq fun K hK => ?_
    simp
    refine hK _ ?_
    clear hK K
    have eJ : (ws.length + 1 + 1) / 2 = (ws.length + 1) / 2 := by omega
    rw [eJ] at hrg
    have hJ : ∀ j, j < (ws.length + 1) / 2 → 2 * j + 1 < V.length := fun j h => by omega
    generalize (ws.length + 1) / 2 = J at *
    have hrg : rng3 [.int 0, .int ((ws.length : Int) + 1), .int 2] = some ((List.range J).map fun t : Nat => D.int (0 + (t : Nat) * 2)) := hrg
    refine wq_seq fun K hK => ?_
    simp [hwDl, hrg]
    refine wv_for [2, 3, 4, 5, 6] _ (fun d xs => ∃ (f : List Int) (l : Nat) (a b c : Sl), xs = [.own (nl f), .val (.int (l : Nat)), a, b, c] ∧ runT ws d.length = some (f, l)) ⟨[0, 0, 0, 0, 0, 0, 0, 0, 0, 0, 0, 0], 12, _, _, _, rfl, rfl⟩ ?_ ?_
    · rintro JJ d j rest _ e ⟨f, l, _, _, _, rfl, hrun⟩ hJJ
      have hj1 : (List.range J)[d.length]? = some j := by rw [e]; simp
      have hjJ : d.length < J := by
        have := (List.getElem?_eq_some_iff.mp hj1).1
        simpa using this
      have hj2 : j = d.length := by
        rw [List.getElem?_range hjJ] at hj1
        exact (Option.some.inj hj1).symm
      subst hj2
      have hjw := hJ _ hjJ
      obtain ⟨hf12, hl12⟩ := runT_ok hrun
      have hf12 : f.length = 12 := hf12
      have hl12 : l ≤ 12 := hl12
      have htj := ht d.length
      have hnext : runT ws (d.length + 1) = (turn ws d.length).bind fun q => (trm q.2).bind fun t => if l ≤ t.2 then none else some (f.set t.2 (if q.1 then -(t.1 : Int) else t.1), t.2) := by
        show (runT ws d.length).bind _ = _
        rw [hrun]
        rfl
      have bad : runT ws (d.length + 1) = none → runT ws J = none := fun h => runT_none h (by omega)
      have hk1 := hat (2 * d.length) (by omega)
      have hk2 := hat (2 * d.length + 1) hjw
      have hP1 := hp2 _ (getD_in (ws := V) (k := 2 * d.length) (by omega))
      have hP2 := hp2 _ (getD_in (ws := V) (k := 2 * d.length + 1) hjw)
      generalize V.getD (2 * d.length) [] = sg at *
      generalize V.getD (2 * d.length + 1) [] = w at *
      have ek1 : ((2 * d.length : Nat) : Int) = (d.length : Int) * 2 := by omega
      have ek2 : ((2 * d.length + 1 : Nat) : Int) = (d.length : Int) * 2 + 1 := by omega
      rw [ek1] at hk1
      rw [ek2] at hk2
      obtain ⟨A, P, hT, hAP⟩ := d_term1 hP2
      have hin := p_inSg sg
      have heq : dEq (.str (sS sg)) (.str (Str.ofString "-")) = some (.st (.bl (decide (sg = [45])))) := by rw [l_mi, p_eqT hP1 (pl_one (by decide))]
      generalize sS w = XW at *
      generalize sS sg = XS at *
      generalize (d.length : Int) * 2 = kk at *
      have en0 : turn ws d.length = none ∨ trm w = none ∨ (∃ n p, trm w = some (n, p) ∧ l ≤ p) → runT ws J = none := by
        intro h
        refine bad ?_
        rw [hnext]
        rcases h with h | h | ⟨n, p, h, hlp⟩
        · rw [h]; rfl
        · rw [htj]
          split
          · show (trm w).bind _ = _; rw [h]; rfl
          · split
            · show (trm w).bind _ = _; rw [h]; rfl
            · rfl
        · rw [htj]
          split
          · show (trm w).bind _ = _; rw [h]; exact if_pos hlp
          · split
            · show (trm w).bind _ = _; rw [h]; exact if_pos hlp
            · rfl
      simp only [p_gN, gP_some]
      refine wq_seq fun K2 hK2 => ?_
      simp [hk2, hT]
      refine hK2 _ ?_
      clear hK2 K2
      refine wq_seq fun K2 hK2 => ?_
      by_cases hsg : sg = [43] ∨ sg = [45]
      · rw [decide_eq_true hsg] at hin
        rcases hAP with ⟨n, p, htr, rfl, rfl⟩ | ⟨htr, hA⟩
        · have hn1 := trm_pos htr
          have g1 : ¬ (n : Int) < 1 := by omega
          by_cases hlp : l ≤ p
          · have en := en0 (.inr (.inr ⟨n, p, htr, hlp⟩))
            have hlp' : (l : Int) ≤ p := by omega
            simp [hk1, hin, g1, hlp, hlp', en, rdN]
          · have hlp' : ¬ (l : Int) ≤ p := by omega
            simp [hk1, hin, g1, hlp, hlp']
            refine hK2 _ ?_
            clear hK2 K2
            have hset := fun a => ints_set (l := f) (k := (p : Int)) (a := a) (by omega) (by omega)
            have hi0 : atI (nl [(n : Int), -(n : Int)]) 0 = some (.int (n : Nat)) := by unfold nl; rfl
            have hi1 : atI (nl [(n : Int), -(n : Int)]) 1 = some (.int (-(n : Nat))) := by unfold nl; rfl
            refine wq_seq fun K2 hK2 => ?_
            rcases hsg with hsg | hsg
            · have h45 : ¬ sg = [45] := by rw [hsg]; decide
              rw [decide_eq_false h45] at heq
              rw [if_pos hsg] at htj
              have hnext : runT ws (d.length + 1) = some (f.set p (n : Int), p) := by
                rw [hnext, htj]
                show (trm w).bind _ = _
                rw [htr]
                exact if_neg hlp
              simp [hk1, heq, hi0, hset]
              refine hK2 _ ?_
              clear hK2 K2
              simp
              exact hJJ [_, _, _, _, _] ⟨_, p, _, _, _, rfl, by rw [List.length_append, List.length_singleton, hnext]⟩
            · have h43 : ¬ sg = [43] := by rw [hsg]; decide
              rw [decide_eq_true hsg] at heq
              rw [if_neg h43, if_pos hsg] at htj
              have hnext : runT ws (d.length + 1) = some (f.set p (-(n : Int)), p) := by
                rw [hnext, htj]
                show (trm w).bind _ = _
                rw [htr]
                exact if_neg hlp
              simp [hk1, heq, hi1, hset]
              refine hK2 _ ?_
              clear hK2 K2
              simp
              exact hJJ [_, _, _, _, _] ⟨_, p, _, _, _, rfl, by rw [List.length_append, List.length_singleton, hnext]⟩
        · have en := en0 (.inr (.inl htr))
          simp [hk1, hin, hA, en, rdN]
      · rw [decide_eq_false hsg] at hin
        have en := en0 (.inl (by rw [htj, if_neg (fun z => hsg (.inl z)), if_neg (fun z => hsg (.inr z))]))
        simp [hk1, hin, en, rdN]
    · rintro _ ⟨f, l, _, _, _, rfl, hrun⟩
      rw [List.length_range] at hrun
      refine hK _ ?_
      clear hK K
      have htm := d_Ltrimmed f (by have h12 : f.length = 12 := (runT_ok hrun).1; omega)
      simp [htm, hrun, rdN]
  by_cases h45 : w0.head? = some 45
  · have hh' := hh
    rw [decide_eq_true h45] at hh'
    have ha := ha1 h45
    simp [hi, hs1, hh', hs2, hs3, ha]
    exact go
  · have hh' := hh
    rw [decide_eq_false h45] at hh'
    have ha := ha2 h45
    simp [hi, hs1, hh', ha]
    exact go
end RF

set_option Elab.async false
set_option linter.all false
set_option maxRecDepth 100000
set_option autoImplicit false
/-! texts of bounded length: shown, bent -/
namespace RF
open PySem PySem.Spec L2 RF.M
structure Tb (k : Nat) (l : List Nat) : Prop where
  asc : ∀ c ∈ l, c < 128
  len : l.length ≤ k
theorem Tb.pl {k : Nat} {l : List Nat} (h : Tb k l) (hk : k ≤ 5000) : Pl l := ⟨h.asc, Nat.le_trans h.len hk⟩
theorem Tb.app {k m n : Nat} {a b : List Nat} (ha : Tb k a) (hb : Tb m b) (h : k + m ≤ n) : Tb n (a ++ b) := ⟨fun c hc => (List.mem_append.mp hc).elim (ha.asc c) (hb.asc c), by rw [List.length_append]; have := ha.len; have := hb.len; omega⟩
theorem Tb.mono {k m : Nat} {a : List Nat} (ha : Tb k a) (h : k ≤ m) : Tb m a := ⟨ha.asc, Nat.le_trans ha.len h⟩
theorem tb_nil (k : Nat) : Tb k [] := ⟨fun c hc => (by cases hc), by simp⟩
theorem tb_by {k : Nat} {l : List Nat} (h : l.all (fun c => decide (c < 128)) = true) (hl : l.length ≤ k) : Tb k l := ⟨fun c hc => of_decide_eq_true (List.all_eq_true.mp h c hc), hl⟩
theorem p_addT {a b : List Nat} (h : a.length + b.length ≤ 100000) : dAdd (.str (sS a)) (.str (sS b)) = some (.st (.str (sS (a ++ b)))) := by
  rw [p_addS (by rw [SX.S_len, SX.S_len]; exact h), SX.S_cat]
theorem p_strN {n : Nat} (h : n < 10 ^ 61) : bStr [.int (n : Nat)] = some (.st (.str (sS (TL.numL n)))) := by
  have hl : ((n : Nat) : Int).natAbs.log2 < 1920 := by
    rw [Int.natAbs_natCast]
    by_cases h0 : n = 0
    · rw [h0]; decide
    · rw [Nat.log2_lt h0]
      exact Nat.lt_of_lt_of_le h (by decide)
  show (if ((n : Nat) : Int).natAbs.log2 < 1920 then some (T.st (.str (toString ((n : Nat) : Int)))) else none) = _
  rw [if_pos hl]
  exact congrArg (fun x => some (T.st (.str x))) (SX.num_S n)
theorem numL_tb {n k : Nat} (hk : 0 < k) (h : n < 10 ^ k) : Tb k (TL.numL n) := ⟨fun c hc => by
  rcases Nat.lt_or_ge c 128 with z | z
  · exact z
  · exact absurd hc (TL.numL_free (.inr (by omega))), TL.numL_len hk h⟩
theorem l_sp : Str.ofString " + " = sS [32, 43, 32] := lit_S _ _ rfl
theorem l_sm : Str.ofString " - " = sS [32, 45, 32] := lit_S _ _ rfl
theorem l_xh : Str.ofString "x^" = sS [120, 94] := lit_S _ _ rfl
theorem d_Lshown {l : List Int} (hl : l.length ≤ 12) (hx : ∀ x ∈ l, x.natAbs < 10 ^ 61) : ∃ L, d_L_shown [il l] = .ok (.st (.str (sS L))) ∧ Tb 1300 L := by
  have key : ∃ T0, d_L_shown [il l] = .ok T0 ∧ ∃ L, T0 = .st (.str (sS L)) ∧ Tb 1300 L := by
    unfold d_L_shown runD
    refine run_ex ?_
    unfold b_L_shown
    refine wq_seq fun K hK => ?_
    simp
    refine hK _ ?_
    clear hK K
    refine wq_seq fun K hK => ?_
    simp (disch := omega) [p_rng1]
    refine wv_rng [1, 2, 3, 4, 5, 6, 7] (fun i xs => ∃ (L : List Nat) (a b c e f g : Sl), xs = [.val (.str (sS L)), a, b, c, e, f, g] ∧ Tb (100 * i) L) ⟨[], _, _, _, _, _, _, by rw [← l_e]; rfl, tb_nil _⟩ ?_ ?_
    · rintro J i _ hi ⟨L, a1, a2, a3, a4, a5, a6, rfl, hT⟩ hJ
      have hil : i < l.length := by simpa using hi
      have hat := ints_at (l := l) (k := (l.length : Int) - 1 - i) (by omega) (by omega)
      have hgm := hx (gi l ((l.length : Int) - 1 - i).toNat) (gi_mem (by omega))
      generalize gi l ((l.length : Int) - 1 - i).toNat = z at *
      obtain ⟨pw0, hpw⟩ : ∃ pw0 : Nat, (l.length : Int) - 1 - i = pw0 := ⟨((l.length : Int) - 1 - i).toNat, by omega⟩
      rw [hpw] at hat
      have hpw12 : pw0 < 12 := by omega
      have hTl := hT.len
      have hTp : Pl L := hT.pl (by omega)
      have heq : dEq (.str (sS L)) (.str (Str.ofString "")) = some (.st (.bl (decide (L = [])))) := by rw [l_e, p_eqT hTp pl_nil]
      simp only [p_gN, gP_some]
      iterate 2
        refine wq_seq fun K hK => ?_
        simp [hpw, hat]
        refine hK _ ?_
        clear hK K
      refine wq_seq fun K hK => ?_
      by_cases hz : z = 0
      · simp [hz]
        exact hJ [_, _, _, _, _, _, _] ⟨L, _, _, _, _, _, _, rfl, hT.mono (by omega)⟩
      simp [hz]
      refine hK _ ?_
      clear hK K
      refine wq_seq fun K hK => ?_
      have t1 : atI [D.str (Str.ofString " + "), D.str (Str.ofString " - ")] 0 = some (.str (sS [32, 43, 32])) := by rw [← l_sp]; rfl
      have t2 : atI [D.str (Str.ofString " + "), D.str (Str.ofString " - ")] 1 = some (.str (sS [32, 45, 32])) := by rw [← l_sm]; rfl
      have t3 : atI [D.str (Str.ofString ""), D.str (Str.ofString "-")] 0 = some (.str (sS [])) := by rw [← l_e]; rfl
      have t4 : atI [D.str (Str.ofString ""), D.str (Str.ofString "-")] 1 = some (.str (sS [45])) := by rw [← l_mi]; rfl
      have go : ∀ S, Tb 3 S → K [.val (il l), .val (.str (sS L)), .val (.int (i : Nat)), .val (.int (pw0 : Nat)), .val (.int z), .val (.str (sS S)), a5, a6] := by
        intro S hS
        refine hK _ ?_
        clear hK K
        refine wq_seq fun K hK => ?_
        have go2 : ∀ S, Tb 3 S → K [.val (il l), .val (.str (sS L)), .val (.int (i : Nat)), .val (.int (pw0 : Nat)), .val (.int z), .val (.str (sS S)), a5, a6] := by
          intro S hS
          refine hK _ ?_
          clear hK K
          refine wq_seq fun K hK => ?_
          have ee : K [.val (il l), .val (.str (sS L)), .val (.int (i : Nat)), .val (.int (pw0 : Nat)), .val (.int z), .val (.str (sS S)), .val (.str (Str.ofString "")), a6] := by
            refine hK _ ?_
            clear hK K
            refine wq_seq fun K hK => ?_
            have go3 : ∀ Wd, Tb 61 Wd → K [.val (il l), .val (.str (sS L)), .val (.int (i : Nat)), .val (.int (pw0 : Nat)), .val (.int z), .val (.str (sS S)), .val (.str (sS Wd)), a6] := by
              intro Wd hW
              refine hK _ ?_
              clear hK K
              refine wq_seq fun K hK => ?_
              have go4 : ∀ Tl, Tb 5 Tl → K [.val (il l), .val (.str (sS L)), .val (.int (i : Nat)), .val (.int (pw0 : Nat)), .val (.int z), .val (.str (sS S)), .val (.str (sS Wd)), .val (.str (sS Tl))] := by
                intro Tl hTl2
                refine hK _ ?_
                clear hK K
                have l1 := hS.len
                have l2 := hW.len
                have l3 := hTl2.len
                have d1 := p_addT (a := L) (b := S) (by omega)
                have d2 := p_addT (a := L ++ S) (b := Wd) (by rw [List.length_append]; omega)
                have d3 := p_addT (a := L ++ S ++ Wd) (b := Tl) (by rw [List.length_append, List.length_append]; omega)
                have hTn : Tb (100 * (i + 1)) (L ++ S ++ Wd ++ Tl) := ((hT.app hS (Nat.le_refl _)).app hW (Nat.le_refl _)).app hTl2 (by omega)
                have fin : ∀ X, X = sS (L ++ S ++ Wd ++ Tl) → J [.val (il l), .val (.str X), .val (.int (i : Nat)), .val (.int (pw0 : Nat)), .val (.int z), .val (.str (sS S)), .val (.str (sS Wd)), .val (.str (sS Tl))] := fun X hX => by
                  subst hX
                  exact hJ [_, _, _, _, _, _, _] ⟨_, _, _, _, _, _, _, rfl, hTn⟩
                generalize sS (L ++ S ++ Wd ++ Tl) = Y4 at *
                generalize sS (L ++ S ++ Wd) = Y3 at *
                generalize sS (L ++ S) = Y2 at *
                generalize sS Tl = Z1 at *
                generalize sS Wd = Z2 at *
                generalize sS S = Z3 at *
                generalize sS L = Z4 at *
                simp [d1, d2, d3]
                exact fin _ rfl
              have hst := p_strN (n := pw0) (by omega)
              have hnt := numL_tb (n := pw0) (k := 2) (by decide) (by omega)
              have hnl := hnt.len
              have d5 : dAdd (.str (Str.ofString "x^")) (.str (sS (TL.numL pw0))) = some (.st (.str (sS ([120, 94] ++ TL.numL pw0)))) := by rw [l_xh]; exact p_addT (by simp; omega)
              have hXT : Tb 5 ([120, 94] ++ TL.numL pw0) := (tb_by (k := 2) (by decide) (by decide)).app hnt (by omega)
              have u1 : ∀ X, atI [D.str (Str.ofString ""), D.str (Str.ofString "x"), D.str X] 0 = some (.str (sS [])) := fun X => by rw [← l_e]; rfl
              have u2 : ∀ X, atI [D.str (Str.ofString ""), D.str (Str.ofString "x"), D.str X] 1 = some (.str (sS [120])) := fun X => by rw [← l_x]; rfl
              have u3 : ∀ X, atI [D.str (Str.ofString ""), D.str (Str.ofString "x"), D.str X] 2 = some (.str X) := fun X => rfl
              have hg1 := go4 [] (tb_nil _)
              have hg2 := go4 [120] (tb_by (by decide) (by decide))
              have hg3 := go4 _ hXT
              clear go4 hK
              generalize sS ([120, 94] ++ TL.numL pw0) = Y1 at *
              generalize sS (TL.numL pw0) = Y2 at *
              have hm3 : min (pw0 : Int) 2 = 0 ∨ min (pw0 : Int) 2 = 1 ∨ min (pw0 : Int) 2 = 2 := by omega
              rcases hm3 with hm | hm | hm
              · simp [hst, d5, hm, u1]
                exact hg1
              · simp [hst, d5, hm, u2]
                exact hg2
              · simp [hst, d5, hm, u3]
                exact hg3
            have hsz := p_strN (n := z.natAbs) hgm
            have hg1 := go3 _ (numL_tb (k := 61) (by decide) hgm)
            have hg2 := go3 [] (tb_nil _)
            rw [← l_e] at hg2
            clear go3 hK
            generalize sS (TL.numL z.natAbs) = Y1 at *
            by_cases h1 : 1 < z.natAbs
            · have h1' : (1 : Int) < (z.natAbs : Int) := by omega
              simp [h1, h1', hsz]
              exact hg1
            · have h1' : ¬ (1 : Int) < (z.natAbs : Int) := by omega
              by_cases h2 : pw0 = 0
              · have h2' : (pw0 : Int) = 0 := by omega
                rw [h2'] at hg1
                simp [h1, h1', h2, h2', hsz]
                exact hg1
              · have h2' : ¬ (pw0 : Int) = 0 := by omega
                simp [h1, h1', h2, h2', hsz]
                exact hg2
          simp
          exact ee
        by_cases hn : L = []
        · rw [decide_eq_true hn] at heq
          by_cases hneg : z < 0
          · have hg := go2 [45] (tb_by (by decide) (by decide))
            clear go2 hK
            generalize sS [45] = Y1 at *
            generalize sS L = Y2 at *
            simp [heq, hneg, t4]
            exact hg
          · have hg := go2 [] (tb_nil _)
            clear go2 hK
            generalize sS [] = Y1 at *
            generalize sS L = Y2 at *
            simp [heq, hneg, t3]
            exact hg
        · rw [decide_eq_false hn] at heq
          have hg := go2 S hS
          clear go2 hK
          generalize sS L = Y2 at *
          simp [heq]
          exact hg
      by_cases hneg : z < 0
      · simp [hneg, t1, t2]
        exact go _ (tb_by (by decide) (by decide))
      · simp [hneg, t1, t2]
        exact go _ (tb_by (by decide) (by decide))
    · rintro _ ⟨L, _, _, _, _, _, _, rfl, hT⟩
      refine hK _ ?_
      clear hK K
      have hTp : Pl L := hT.pl (by omega)
      have heq : dEq (.str (sS L)) (.str (Str.ofString "")) = some (.st (.bl (decide (L = [])))) := by rw [l_e, p_eqT hTp pl_nil]
      refine wq_seq fun K hK => ?_
      by_cases hn : L = []
      · rw [decide_eq_true hn] at heq
        generalize sS L = X at *
        simp [heq]
        exact ⟨[48], l_0, fun c hc => by rw [List.mem_singleton.mp hc]; decide, by simp⟩
      · rw [decide_eq_false hn] at heq
        have fin : ∃ L', sS L = sS L' ∧ Tb 1300 L' := ⟨L, rfl, hT.mono (by omega)⟩
        generalize sS L = X at *
        simp [heq]
        refine hK _ ?_
        simp
        exact fin
  obtain ⟨_, e, L, rfl, h⟩ := key
  exact ⟨L, e, h⟩
end RF

set_option Elab.async false
set_option linter.all false
set_option maxRecDepth 100000
set_option autoImplicit false
/-! numbers drawn; texts bent -/
namespace RF
open PySem PySem.Spec L2 RF.M
theorem d_Ldrawn {l : List Int} (hl : l.length ≤ 100) : ∃ f, d_L_drawn1 [il l] = .ok (.fr (nl f)) ∧ f.length = l.length ∧ ∀ x ∈ f, x.natAbs < 10 ^ 61 := by
  have key : ∃ T0, d_L_drawn1 [il l] = .ok T0 ∧ ∃ f, T0 = .fr (nl f) ∧ f.length = l.length ∧ ∀ x ∈ f, x.natAbs < 10 ^ 61 := by
    unfold d_L_drawn1 runD
    refine run_ex ?_
    unfold b_L_drawn1
    refine wq_seq fun K hK => ?_
    simp
    refine hK _ ?_
    clear hK K
    refine wq_seq fun K hK => ?_
    simp
    refine wv_ints [1, 2, 3, 4] (fun d xs => ∃ (f : List Int) (a b c : Sl), xs = [.own (nl f), a, b, c] ∧ f.length = d.length ∧ ∀ x ∈ f, x.natAbs < 10 ^ 61) ⟨[], _, _, _, rfl, rfl, fun x hx => by cases hx⟩ ?_ ?_
    · rintro J d c rest _ e ⟨f, _, _, _, rfl, hf, hx⟩ hJ
      have hdl := congrArg List.length e
      simp at hdl
      have hp : (0 : Int) < 1000000000000000000000000000000000000000000000000000000000000 := by decide
      have v0 := Int.emod_nonneg (c / 6) (show (1000000000000000000000000000000000000000000000000000000000000 : Int) ≠ 0 by decide)
      have v1 := Int.emod_lt_of_pos (c / 6) hp
      have w0 := Int.emod_nonneg c (show (6 : Int) ≠ 0 by decide)
      have w1 := Int.emod_lt_of_pos c (show (0 : Int) < 6 by decide)
      have hls : ∀ a b c d e g : Int, [D.int a, .int b, .int c, .int d, .int e, .int g] = nl [a, b, c, d, e, g] := fun _ _ _ _ _ _ => by unfold nl; rfl
      simp only [p_gN, gP_some]
      refine wq_seq fun K2 hK2 => ?_
      simp (disch := omega) [p_div, p_mod, p_pow]
      refine hK2 _ ?_
      clear hK2 K2
      generalize c / 6 % 1000000000000000000000000000000000000000000000000000000000000 = v at *
      refine wq_seq fun K2 hK2 => ?_
      simp (disch := omega) [p_mod]
      refine hK2 _ ?_
      clear hK2 K2
      generalize c % 6 = w at *
      have hat := ints_at (l := [0, 1, -1, v % 12, v, -v]) (k := w) w0 (by simp; omega)
      have hgm : (gi [0, 1, -1, v % 12, v, -v] w.toNat) ∈ [0, 1, -1, v % 12, v, -v] := gi_mem (by simp; omega)
      generalize gi [0, 1, -1, v % 12, v, -v] w.toNat = z at *
      have hz : z.natAbs < 10 ^ 61 := by
        have h12 := Int.emod_nonneg v (show (12 : Int) ≠ 0 by decide)
        have h13 := Int.emod_lt_of_pos v (show (0 : Int) < 12 by decide)
        have e61 : (10 ^ 61 : Nat) = 10000000000000000000000000000000000000000000000000000000000000 := by decide
        simp only [List.mem_cons, List.not_mem_nil, or_false] at hgm
        omega
      have hfl : f.length < 100000 := by omega
      simp (disch := omega) [p_mod, hls, hat, hfl]
      refine hJ [_, _, _, _] ⟨f ++ [z], _, _, _, rfl, by simp [hf], fun x hxm => ?_⟩
      rcases List.mem_append.mp hxm with q | q
      · exact hx x q
      · rw [List.mem_singleton.mp q]; exact hz
    · rintro _ ⟨f, _, _, _, rfl, hf, hx⟩
      refine hK _ ?_
      clear hK K
      simp
      exact ⟨_, rfl, hf, hx⟩
  obtain ⟨_, e, f, rfl, h1, h2⟩ := key
  exact ⟨f, e, h1, h2⟩
theorem l_17 : Str.ofString " +-x^0123456789.a" = sS [32, 43, 45, 120, 94, 48, 49, 50, 51, 52, 53, 54, 55, 56, 57, 46, 97] := lit_S _ _ rfl
theorem Tb.cut {k : Nat} {l : List Nat} (h : Tb k l) (lo hi : Option Int) : Tb k (cutL l lo hi) := ⟨fun c hc => h.asc c (List.mem_of_mem_drop (List.mem_of_mem_take hc)), Nat.le_trans (cutL_length l lo hi) h.len⟩
/-- a text of few plain signs -/
def TT (k : Nat) (t : T) : Prop := ∃ L, t = .st (.str (sS L)) ∧ Tb k L
theorem atI_mem {l : List D} {i : Int} (h0 : 0 ≤ i) (h1 : i < l.length) : ∃ d ∈ l, atI l i = some d := by
  refine ⟨l[i.toNat]'(by omega), List.getElem_mem _, ?_⟩
  unfold L2.atI
  rw [ixN_pos h0 h1, Option.bind_some, List.getElem?_eq_getElem]
def QL (d : D) : Prop := ∃ L, d = .str (sS L) ∧ Tb 20 L
theorem q_lit (x : String) (h : ((Str.ofString x).cps.toList.all (fun c => decide (c < 128)) && decide ((Str.ofString x).cps.toList.length ≤ 20)) = true) : QL (.str (Str.ofString x)) := by
  rw [Bool.and_eq_true] at h
  exact ⟨(Str.ofString x).cps.toList, congrArg D.str (SX.S_tl _).symm, tb_by h.1 (of_decide_eq_true h.2)⟩
theorem d_Lodd (c : Int) : ∃ L, d_L_odd [.int c] = .ok (.st (.str (sS L))) ∧ Tb 20 L := by
  have key : ∃ T0, d_L_odd [.int c] = .ok T0 ∧ TT 20 T0 := by
    have w0 := Int.emod_nonneg c (show (24 : Int) ≠ 0 by decide)
    have w1 := Int.emod_lt_of_pos c (show (0 : Int) < 24 by decide)
    unfold d_L_odd runD
    refine run_ex ?_
    unfold b_L_odd
    refine wq_seq fun K hK => ?_
    simp
    refine hK _ ?_
    clear hK K
    refine wq_seq fun K hK => ?_
    simp [p_addL]
    refine hK _ ?_
    clear hK K
    simp (disch := omega) [p_mod]
    generalize c % 24 = w at *
    refine Exists.elim (atI_mem (l := [D.str (Str.ofString ""), D.str (Str.ofString " "), D.str (Str.ofString "-"), D.str (Str.ofString "+"), D.str (Str.ofString "00"), D.str (Str.ofString "0x"), D.str (Str.ofString "-0"), D.str (Str.ofString "x + 0"), D.str (Str.ofString "x^1"), D.str (Str.ofString "x^0"), D.str (Str.ofString "x^02"), D.str (Str.ofString "x^12"), D.str (Str.ofString "2 x"), D.str (Str.ofString "x +1"), D.str (Str.ofString "x + -1"), D.str (Str.ofString "1 + x"), D.str (Str.ofString "x + x"), D.str (Str.ofString "- x"), D.str (Str.ofString "+x"), D.str (Str.ofString "1x"), D.str (Str.ofString "x^2x"), D.str (Str.ofString "xx"), D.str (Str.ofString "x^ 2"), D.str (Str.ofString "x^2 + 3x")]) (i := w) w0 w1) fun d hd => ?_
    obtain ⟨hd1, hd2⟩ := hd
    have hq : QL d := by
      simp only [List.mem_cons, List.not_mem_nil, or_false] at hd1
      rcases hd1 with rfl | rfl | rfl | rfl | rfl | rfl | rfl | rfl | rfl | rfl | rfl | rfl | rfl | rfl | rfl | rfl | rfl | rfl | rfl | rfl | rfl | rfl | rfl | rfl
      all_goals exact q_lit _ rfl
    obtain ⟨L, rfl, hL⟩ := hq
    have fin : TT 20 (T.st (.str (sS L))) := ⟨L, rfl, hL⟩
    generalize sS L = X at *
    simp [hd2]
    exact fin
  obtain ⟨_, e, L, rfl, h⟩ := key
  exact ⟨L, e, h⟩
theorem d_Lbent {L : List Nat} (hL : Tb 1400 L) (c : Int) : ∃ L', d_L_bent [.str (sS L), .int c] = .ok (.st (.str (sS L'))) ∧ Tb 3000 L' := by
  have key : ∃ T0, d_L_bent [.str (sS L), .int c] = .ok T0 ∧ TT 3000 T0 := by
    have hP := hL.pl (by decide)
    have hl := hL.len
    have hlen := p_lenS hP
    obtain ⟨t1, t2, t3⟩ := d_thing (c := c) (k := 31) (many := (L.length : Int) + 1) (by decide) (by decide) (by omega)
    obtain ⟨s1, s2, s3⟩ := d_thing (c := c) (k := 32) (many := 17) (by decide) (by decide) (by decide)
    generalize thingV c 31 ((L.length : Int) + 1) = pl at *
    generalize thingV c 32 17 = si at *
    unfold d_L_bent runD
    refine run_ex ?_
    unfold b_L_bent
    refine wq_seq fun K hK => ?_
    simp [hlen, t1]
    refine hK _ ?_
    clear hK K
    obtain ⟨ch, hch, hsi⟩ : ∃ ch, ch < 128 ∧ dIx (.str (Str.ofString " +-x^0123456789.a")) (.int si) = some (.st (.str (sS [ch]))) := by
      have hT17 : Tb 20 [32, 43, 45, 120, 94, 48, 49, 50, 51, 52, 53, 54, 55, 56, 57, 46, 97] := tb_by (by decide) (by decide)
      refine ⟨([32, 43, 45, 120, 94, 48, 49, 50, 51, 52, 53, 54, 55, 56, 57, 46, 97] : List Nat)[si.toNat]'(by simp; omega), hT17.asc _ (List.getElem_mem _), ?_⟩
      rw [l_17, p_ixS (hT17.pl (by decide))]
      unfold L2.atI
      rw [ixN_pos s2 (by simp; omega), Option.bind_some, List.getElem?_eq_getElem (by simp; omega)]
      rfl
    have hC : Tb 1 [ch] := ⟨fun x hx => by rw [List.mem_singleton.mp hx]; exact hch, by simp⟩
    refine wq_seq fun K hK => ?_
    simp [s1, hsi]
    refine hK _ ?_
    clear hK K
    have w0 := Int.emod_nonneg c (show (9 : Int) ≠ 0 by decide)
    have w1 := Int.emod_lt_of_pos c (show (0 : Int) < 9 by decide)
    refine wq_seq fun K hK => ?_
    simp (disch := omega) [p_mod]
    refine hK _ ?_
    clear hK K
    generalize c % 9 = w at *
    have cs := fun lo hi => p_slS hP lo hi
    have ct := fun lo hi => hL.cut lo hi
    have cl := fun lo hi => (hL.cut lo hi).len
    have hTT : ∀ M, Tb 3000 M → TT 3000 (T.st (.str (sS M))) := fun M h => ⟨M, rfl, h⟩
    have hw : w = 0 ∨ w = 1 ∨ w = 2 ∨ w = 3 ∨ w = 4 ∨ w = 5 ∨ w = 6 ∨ w = 7 ∨ w = 8 := by omega
    rcases hw with rfl | rfl | rfl | rfl | rfl | rfl | rfl | rfl | rfl
    · have fin := hTT _ (hL.mono (by decide))
      generalize sS L = X at *
      simp
      exact fin
    · have k1 := cl none (some pl)
      have k2 := cl (some pl) none
      have d1 := p_addT (a := cutL L none (some pl)) (b := [ch]) (by simp; omega)
      have d2 := p_addT (a := cutL L none (some pl) ++ [ch]) (b := cutL L (some pl) none) (by simp; omega)
      have fin := hTT _ (((ct none (some pl)).app hC (Nat.le_refl _)).app (ct (some pl) none) (by decide))
      have e1 := cs none (some pl)
      have e2 := cs (some pl) none
      generalize sS (cutL L none (some pl) ++ [ch] ++ cutL L (some pl) none) = Y1 at *
      generalize sS (cutL L none (some pl) ++ [ch]) = Y2 at *
      generalize sS (cutL L none (some pl)) = Y3 at *
      generalize sS (cutL L (some pl) none) = Y4 at *
      generalize sS [ch] = Y5 at *
      generalize sS L = X at *
      simp [e1, e2, d1, d2]
      exact fin
    · have k1 := cl none (some pl)
      have k2 := cl (some (pl + 1)) none
      have d1 := p_addT (a := cutL L none (some pl)) (b := [ch]) (by simp; omega)
      have d2 := p_addT (a := cutL L none (some pl) ++ [ch]) (b := cutL L (some (pl + 1)) none) (by simp; omega)
      have fin := hTT _ (((ct none (some pl)).app hC (Nat.le_refl _)).app (ct (some (pl + 1)) none) (by decide))
      have e1 := cs none (some pl)
      have e2 := cs (some (pl + 1)) none
      generalize sS (cutL L none (some pl) ++ [ch] ++ cutL L (some (pl + 1)) none) = Y1 at *
      generalize sS (cutL L none (some pl) ++ [ch]) = Y2 at *
      generalize sS (cutL L none (some pl)) = Y3 at *
      generalize sS (cutL L (some (pl + 1)) none) = Y4 at *
      generalize sS [ch] = Y5 at *
      generalize sS L = X at *
      simp [e1, e2, d1, d2]
      exact fin
    · have k1 := cl none (some pl)
      have k2 := cl (some (pl + 1)) none
      have d1 := p_addT (a := cutL L none (some pl)) (b := cutL L (some (pl + 1)) none) (by omega)
      have fin := hTT _ ((ct none (some pl)).app (ct (some (pl + 1)) none) (by decide))
      have e1 := cs none (some pl)
      have e2 := cs (some (pl + 1)) none
      generalize sS (cutL L none (some pl) ++ cutL L (some (pl + 1)) none) = Y1 at *
      generalize sS (cutL L none (some pl)) = Y3 at *
      generalize sS (cutL L (some (pl + 1)) none) = Y4 at *
      generalize sS L = X at *
      simp [e1, e2, d1]
      exact fin
    · have k1 := cl none (some pl)
      have k2 := cl (some (pl + 1)) (some (pl + 2))
      have k3 := cl (some pl) (some (pl + 1))
      have k4 := cl (some (pl + 2)) none
      have d0 := p_addT (a := cutL L (some (pl + 1)) (some (pl + 2))) (b := cutL L (some pl) (some (pl + 1))) (by omega)
      have hx1 : (cutL L (some (pl + 1)) (some (pl + 2))).length ≤ 1 := by
        unfold cutL
        rw [List.length_take]
        have h1 : HT.sIx L.length 0 (some (pl + 1)) = min (pl + 1).toNat L.length := by
          obtain ⟨k, rfl⟩ : ∃ k : Nat, pl = k := ⟨pl.toNat, by omega⟩
          rw [show ((k : Int) + 1) = ((k + 1 : Nat) : Int) by omega, HT.sIx_nat]
          rfl
        have h2 : HT.sIx L.length L.length (some (pl + 2)) = min (pl + 2).toNat L.length := by
          obtain ⟨k, rfl⟩ : ∃ k : Nat, pl = k := ⟨pl.toNat, by omega⟩
          rw [show ((k : Int) + 2) = ((k + 2 : Nat) : Int) by omega, HT.sIx_nat]
          rfl
        rw [h1, h2]
        omega
      have hx2 : (cutL L (some pl) (some (pl + 1))).length ≤ 1 := by
        unfold cutL
        rw [List.length_take]
        have h1 : HT.sIx L.length 0 (some pl) = min pl.toNat L.length := by
          obtain ⟨k, rfl⟩ : ∃ k : Nat, pl = k := ⟨pl.toNat, by omega⟩
          rw [HT.sIx_nat]
          rfl
        have h2 : HT.sIx L.length L.length (some (pl + 1)) = min (pl + 1).toNat L.length := by
          obtain ⟨k, rfl⟩ : ∃ k : Nat, pl = k := ⟨pl.toNat, by omega⟩
          rw [show ((k : Int) + 1) = ((k + 1 : Nat) : Int) by omega, HT.sIx_nat]
          rfl
        rw [h1, h2]
        omega
      have q1 : Tb 1 (cutL L (some (pl + 1)) (some (pl + 2))) := ⟨(ct _ _).asc, hx1⟩
      have q2 : Tb 1 (cutL L (some pl) (some (pl + 1))) := ⟨(ct _ _).asc, hx2⟩
      have q3 := q1.app q2 (Nat.le_refl _)
      have q3l := q3.len
      have e1 := cs none (some pl)
      have e2 := cs (some (pl + 1)) (some (pl + 2))
      have e3 := cs (some pl) (some (pl + 1))
      have e4 := cs (some (pl + 2)) none
      generalize cutL L (some (pl + 1)) (some (pl + 2)) ++ cutL L (some pl) (some (pl + 1)) = TU at *
      have d1 := p_addT (a := cutL L none (some pl)) (b := TU) (by omega)
      have d2 := p_addT (a := cutL L none (some pl) ++ TU) (b := cutL L (some (pl + 2)) none) (by rw [List.length_append]; omega)
      have fin := hTT _ (((ct none (some pl)).app q3 (Nat.le_refl _)).app (ct (some (pl + 2)) none) (by decide))
      generalize sS (cutL L none (some pl) ++ TU ++ cutL L (some (pl + 2)) none) = Y1 at *
      generalize sS (cutL L none (some pl) ++ TU) = Y2 at *
      generalize sS (cutL L none (some pl)) = Y3 at *
      generalize sS (cutL L (some (pl + 2)) none) = Y4 at *
      generalize sS (cutL L (some (pl + 1)) (some (pl + 2))) = Y5 at *
      generalize sS (cutL L (some pl) (some (pl + 1))) = Y6 at *
      generalize sS TU = Y7 at *
      generalize sS L = X at *
      simp [e1, e2, e3, e4, d0, d1, d2]
      exact fin
    · have u0 := Int.emod_nonneg (c / 9) (show (4 : Int) ≠ 0 by decide)
      have u1 := Int.emod_lt_of_pos (c / 9) (show (0 : Int) < 4 by decide)
      refine Exists.elim (atI_mem (l := [D.str (Str.ofString " "), D.str (Str.ofString " + 1"), D.str (Str.ofString " - x"), D.str (Str.ofString " + x^11")]) (i := c / 9 % 4) u0 u1) fun d hd => ?_
      obtain ⟨hd1, hd2⟩ := hd
      have hq : QL d := by
        simp only [List.mem_cons, List.not_mem_nil, or_false] at hd1
        rcases hd1 with rfl | rfl | rfl | rfl
        all_goals exact q_lit _ rfl
      obtain ⟨M, rfl, hM⟩ := hq
      have hMl := hM.len
      have d1 := p_addT (a := L) (b := M) (by omega)
      have fin := hTT _ (hL.app hM (by decide))
      generalize sS (L ++ M) = Y1 at *
      generalize sS M = Y2 at *
      generalize sS L = X at *
      simp (disch := omega) [p_div, p_mod, hd2, d1]
      exact fin
    · have u0 := Int.emod_nonneg (c / 9) (show (4 : Int) ≠ 0 by decide)
      have u1 := Int.emod_lt_of_pos (c / 9) (show (0 : Int) < 4 by decide)
      refine Exists.elim (atI_mem (l := [D.str (Str.ofString " "), D.str (Str.ofString "1 + "), D.str (Str.ofString "x^11 - "), D.str (Str.ofString "-")]) (i := c / 9 % 4) u0 u1) fun d hd => ?_
      obtain ⟨hd1, hd2⟩ := hd
      have hq : QL d := by
        simp only [List.mem_cons, List.not_mem_nil, or_false] at hd1
        rcases hd1 with rfl | rfl | rfl | rfl
        all_goals exact q_lit _ rfl
      obtain ⟨M, rfl, hM⟩ := hq
      have hMl := hM.len
      have d1 := p_addT (a := M) (b := L) (by omega)
      have fin := hTT _ (hM.app hL (by decide))
      generalize sS (M ++ L) = Y1 at *
      generalize sS M = Y2 at *
      generalize sS L = X at *
      simp (disch := omega) [p_div, p_mod, hd2, d1]
      exact fin
    · obtain ⟨M, hM, hMT⟩ := d_Lodd (c / 9)
      have fin := hTT _ (hMT.mono (by decide))
      generalize sS M = Y2 at *
      generalize sS L = X at *
      simp (disch := omega) [p_div, hM]
      exact fin
    · have u0 := Int.emod_nonneg (c / 27) (show (3 : Int) ≠ 0 by decide)
      have u1 := Int.emod_lt_of_pos (c / 27) (show (0 : Int) < 3 by decide)
      have v0 := Int.emod_nonneg (c / 9) (show (3 : Int) ≠ 0 by decide)
      have v1 := Int.emod_lt_of_pos (c / 9) (show (0 : Int) < 3 by decide)
      refine Exists.elim (atI_mem (l := [D.str (Str.ofString ""), D.str (Str.ofString "x"), D.str (Str.ofString "x^2")]) (i := c / 27 % 3) u0 u1) fun d hd => ?_
      obtain ⟨hd1, hd2⟩ := hd
      have hq : QL d := by
        simp only [List.mem_cons, List.not_mem_nil, or_false] at hd1
        rcases hd1 with rfl | rfl | rfl
        all_goals exact q_lit _ rfl
      obtain ⟨M, rfl, hM⟩ := hq
      have hMl := hM.len
      obtain ⟨Z, hZ, hZT⟩ : ∃ Z, dMulS (.str (Str.ofString "0")) (.int (58 + c / 9 % 3)) = some (.st (.str (sS Z))) ∧ Tb 60 Z := by
        have h3 : c / 9 % 3 = 0 ∨ c / 9 % 3 = 1 ∨ c / 9 % 3 = 2 := by omega
        rcases h3 with h | h | h
        · rw [h]; exact ⟨List.replicate 58 48, rfl, tb_by (by decide) (by decide)⟩
        · rw [h]; exact ⟨List.replicate 59 48, rfl, tb_by (by decide) (by decide)⟩
        · rw [h]; exact ⟨List.replicate 60 48, rfl, tb_by (by decide) (by decide)⟩
      have hZl := hZT.len
      have d0 : dAdd (.str (Str.ofString "1")) (.str (sS Z)) = some (.st (.str (sS ([49] ++ Z)))) := by
        rw [show Str.ofString "1" = sS [49] from lit_S _ _ rfl]
        exact p_addT (by simp; omega)
      have d1 := p_addT (a := [49] ++ Z) (b := M) (by simp; omega)
      have fin := hTT _ (((tb_by (k := 1) (l := [49]) (by decide) (by decide)).app hZT (Nat.le_refl _)).app hM (by decide))
      generalize sS ([49] ++ Z ++ M) = Y1 at *
      generalize sS ([49] ++ Z) = Y2 at *
      generalize sS Z = Y3 at *
      generalize sS M = Y4 at *
      generalize sS L = X at *
      simp (disch := omega) [p_div, p_mod, hd2, hZ, d0, d1]
      exact fin
  obtain ⟨_, e, L', rfl, h⟩ := key
  exact ⟨L', e, h⟩
end RF

set_option Elab.async false
set_option linter.all false
set_option maxRecDepth 100000
set_option autoImplicit false
/-! a term, written and read -/
namespace RF
open PySem PySem.Spec L2 RF.M
theorem numL_head : ∀ (k n : Nat), n ≤ k → 1 ≤ n → (TL.numL n).head? ≠ some 48 := by
  intro k
  induction k with
  | zero => intro n h1 h2; omega
  | succ k ih =>
    intro n h1 h2
    by_cases h : n < 10
    · rw [TL.numL_lt h]
      simp
      omega
    · rw [TL.numL_step (by omega)]
      have h3 := ih (n / 10) (by omega) (by omega)
      have h4 := TL.numL_ne (n / 10)
      cases hq : TL.numL (n / 10) with
      | nil => exact absurd hq h4
      | cons c r =>
        rw [hq] at h3
        exact h3
theorem numL_dig (n : Nat) : (TL.numL n).all dig = true := by
  rw [List.all_eq_true]
  intro c hc
  unfold dig
  rw [Bool.and_eq_true, decide_eq_true_eq, decide_eq_true_eq]
  refine ⟨?_, ?_⟩
  · rcases Nat.lt_or_ge c 48 with z | z
    · exact absurd hc (TL.numL_free (.inl z))
    · exact z
  · rcases Nat.lt_or_ge 57 c with z | z
    · exact absurd hc (TL.numL_free (.inr z))
    · exact z
theorem cnt_num {n k : Nat} (hk : 0 < k) (h : n < 10 ^ k) (h1 : 1 ≤ n) : cnt (TL.numL n) k = some n := by
  have e : cnt (TL.numL n) k = some (NumText.digitsVal (TL.numL n)) := if_pos ⟨List.length_pos_iff.mpr (TL.numL_ne n), TL.numL_len hk h, numL_head n n (Nat.le_refl _) h1, numL_dig n⟩
  rw [e, TL.numL_val]
/-- a term's word -/
def tw1 (n p : Nat) : List Nat := (if 1 < n ∨ p = 0 then TL.numL n else []) ++ (if p = 0 then [] else if p = 1 then [120] else [120, 94] ++ TL.numL p)
theorem cutx_app {a b : List Nat} (h : 120 ∉ a) : cutx (a ++ 120 :: b) = (a, some b) := by
  induction a with
  | nil => rfl
  | cons c a ih =>
    have hc : ¬ c = 120 := fun z => h (by rw [z]; exact List.mem_cons_self)
    have ih := ih fun z => h (List.mem_cons_of_mem _ z)
    show (if c = 120 then _ else (c :: (cutx (a ++ 120 :: b)).1, (cutx (a ++ 120 :: b)).2)) = _
    rw [if_neg hc, ih]
theorem cutx_free {a : List Nat} (h : 120 ∉ a) : cutx a = (a, none) := by
  induction a with
  | nil => rfl
  | cons c a ih =>
    have hc : ¬ c = 120 := fun z => h (by rw [z]; exact List.mem_cons_self)
    have ih := ih fun z => h (List.mem_cons_of_mem _ z)
    show (if c = 120 then _ else (c :: (cutx a).1, (cutx a).2)) = _
    rw [if_neg hc, ih]
theorem no_x (n : Nat) : 120 ∉ TL.numL n := TL.numL_free (.inr (by decide))
theorem pwr_num {p : Nat} (h2 : 2 ≤ p) (h : p < 12) : pwr (94 :: TL.numL p) = some p := by
  have hc := cnt_num (n := p) (k := 2) (by decide) (by omega) (by omega)
  show (if 94 = 94 then (cnt (TL.numL p) 2).bind fun n => if 2 ≤ n ∧ n < 12 then some n else none else none) = _
  rw [if_pos rfl, hc, Option.bind_some, if_pos ⟨h2, h⟩]
theorem trm_tw1 {n p : Nat} (h1 : 1 ≤ n) (h : n < 10 ^ 60) (hp : p < 12) : trm (tw1 n p) = some (n, p) := by
  have hc := cnt_num (n := n) (k := 60) (by decide) h h1
  have hx := no_x n
  by_cases h0 : p = 0
  · subst h0
    have e : tw1 n 0 = TL.numL n := by simp [tw1]
    rw [e]
    unfold trm
    rw [cutx_free hx]
    show (cnt (TL.numL n) 60).map _ = _
    rw [hc]
    rfl
  · have key : ∀ b, pwr b = some p → tw1 n p = (if 1 < n then TL.numL n else []) ++ 120 :: b → trm (tw1 n p) = some (n, p) := by
      intro b hb e
      rw [e]
      unfold trm
      by_cases hn : 1 < n
      · rw [if_pos hn, cutx_app hx]
        show ((if TL.numL n = [] then some 1 else cnt (TL.numL n) 60).bind fun n => (pwr b).map fun p => (n, p)) = _
        rw [if_neg (TL.numL_ne n), hc, hb]
        rfl
      · rw [if_neg hn, cutx_app (by simp)]
        show ((some 1 : Option Nat).bind fun n => (pwr b).map fun p => (n, p)) = _
        rw [hb]
        have : n = 1 := by omega
        rw [this]
        rfl
    by_cases hp1 : p = 1
    · subst hp1
      exact key [] rfl (by simp [tw1])
    · exact key (94 :: TL.numL p) (pwr_num (by omega) hp) (by simp [tw1, h0, hp1])
end RF

set_option Elab.async false
set_option linter.all false
set_option maxRecDepth 100000
set_option autoImplicit false
namespace RF
open PySem PySem.Spec L2 RF.M
theorem d_shown_term {n p : Nat} (h1 : 1 ≤ n) (h : n < 10 ^ 60) (hp : p < 12) : d_P_shown_term [.int (n : Nat), .int (p : Nat)] = .ok (.st (.str (sS (tw1 n p)))) := by
  have hn := p_strN (n := n) (by omega)
  have hpp := p_strN (n := p) (by omega)
  have l1 := TL.numL_len (n := n) (k := 60) (by decide) h
  have l2 := TL.numL_len (n := p) (k := 2) (by decide) (by omega)
  unfold d_P_shown_term runD
  refine run_of ?_
  unfold b_P_shown_term
  by_cases h0 : p = 0
  · subst h0
    have e : tw1 n 0 = TL.numL n := by simp [tw1]
    rw [e]
    generalize sS (TL.numL n) = Y at *
    simp [hn]
  have h0' : ¬ (p : Int) = 0 := by omega
  obtain ⟨Hd, hHd, e⟩ : ∃ Hd : List Nat, Hd.length ≤ 60 ∧ Hd = (if 1 < n then TL.numL n else []) := ⟨_, by split <;> simp [l1], rfl⟩
  have hhd : (if (n : Int) = 1 then (R.ok (T.st (.str (Str.ofString ""))) : R T) else .ok (.st (.str (sS (TL.numL n))))) = .ok (.st (.str (sS Hd))) := by
    by_cases hn1 : n = 1
    · rw [if_pos (by omega), e, if_neg (by omega), l_e]
    · rw [if_neg (by omega), e, if_pos (by omega)]
  have d1 : dAdd (.str (sS Hd)) (.str (Str.ofString "x")) = some (.st (.str (sS (Hd ++ [120])))) := by rw [l_x]; exact p_addT (by simp; omega)
  have d2 : dAdd (.str (sS Hd)) (.str (Str.ofString "x^")) = some (.st (.str (sS (Hd ++ [120, 94])))) := by rw [l_xh]; exact p_addT (by simp; omega)
  have d3 := p_addT (a := Hd ++ [120, 94]) (b := TL.numL p) (by simp; omega)
  have et : tw1 n p = if p = 1 then Hd ++ [120] else Hd ++ [120, 94] ++ TL.numL p := by
    unfold tw1
    rw [e]
    by_cases hp1 : p = 1
    · subst hp1; simp
    · simp [h0, hp1]
  rw [et]
  refine wq_seq fun K hK => ?_
  simp [h0, h0']
  refine hK _ ?_
  clear hK K
  refine wq_seq fun K hK => ?_
  have go : K [.val (.int (n : Nat)), .val (.int (p : Nat)), .val (.str (sS Hd))] := by
    refine hK _ ?_
    clear hK K
    by_cases hp1 : p = 1
    · subst hp1
      rw [if_pos rfl]
      generalize sS (Hd ++ [120]) = Y1 at *
      generalize sS Hd = Y2 at *
      simp [d1]
    · have hp1' : ¬ (p : Int) = 1 := by omega
      rw [if_neg hp1]
      generalize sS (Hd ++ [120, 94] ++ TL.numL p) = Y1 at *
      generalize sS (Hd ++ [120, 94]) = Y3 at *
      generalize sS (TL.numL p) = Y4 at *
      generalize sS Hd = Y2 at *
      simp [hp1, hp1', d2, d3, hpp]
  by_cases hn1 : n = 1
  · subst hn1
    rw [if_pos (by rfl)] at hhd
    injection hhd with hhd
    injection hhd with hhd
    injection hhd with hhd
    rw [← hhd] at go
    simp
    exact go
  · have hn1' : ¬ (n : Int) = 1 := by omega
    rw [if_neg hn1'] at hhd
    injection hhd with hhd
    injection hhd with hhd
    injection hhd with hhd
    rw [← hhd] at go
    generalize sS (TL.numL n) = Y at *
    simp [hn1, hn1', hn]
    exact go
end RF

set_option Elab.async false
set_option linter.all false
set_option maxRecDepth 100000
set_option autoImplicit false
/-! texts put together of words, and read back -/
namespace RF
open PySem PySem.Spec L2 RF.M
/-- what stands behind a count -/
def tl1 (p : Nat) : List Nat := if p = 0 then [] else if p = 1 then [120] else [120, 94] ++ TL.numL p
/-- a word that is read as a term -/
structure Wd (w : List Nat) (m p : Nat) : Prop where
  tm : trm w = some (m, p)
  ne : w ≠ []
  big : ∀ c ∈ w, 48 ≤ c ∧ c < 128
  len : w.length ≤ 70
theorem big_num (n : Nat) : ∀ c ∈ TL.numL n, 48 ≤ c ∧ c < 128 := fun c hc => by
  rcases Nat.lt_or_ge c 48 with z | z
  · exact absurd hc (TL.numL_free (.inl z))
  · rcases Nat.lt_or_ge 57 c with y | y
    · exact absurd hc (TL.numL_free (.inr y))
    · omega
theorem tl1_x {p : Nat} (h1 : 1 ≤ p) (hp : p < 12) : ∃ b, tl1 p = 120 :: b ∧ pwr b = some p := by
  unfold tl1
  rw [if_neg (by omega)]
  by_cases h : p = 1
  · subst h
    exact ⟨[], rfl, rfl⟩
  · rw [if_neg h]
    exact ⟨94 :: TL.numL p, rfl, pwr_num (by omega) hp⟩
theorem tl1_big (p : Nat) : ∀ c ∈ tl1 p, 48 ≤ c ∧ c < 128 := fun c hc => by
  unfold tl1 at hc
  split at hc
  · cases hc
  · split at hc
    · rw [List.mem_singleton.mp hc]; decide
    · rcases List.mem_append.mp hc with z | z
      · simp only [List.mem_cons, List.not_mem_nil, or_false] at z
        omega
      · exact big_num p c z
theorem tl1_len {p : Nat} (hp : p < 12) : (tl1 p).length ≤ 5 := by
  have := TL.numL_len (n := p) (k := 2) (by decide) (by omega)
  unfold tl1
  split
  · simp
  · split
    · simp
    · rw [List.length_append]
      simp
      omega
theorem wd_num {m p : Nat} (h1 : 1 ≤ m) (h : m < 10 ^ 60) (hp : p < 12) : Wd (TL.numL m ++ tl1 p) m p where
  tm := by
    have hc := cnt_num (n := m) (k := 60) (by decide) h h1
    have hx := no_x m
    by_cases h0 : p = 0
    · subst h0
      have e : TL.numL m ++ tl1 0 = TL.numL m := by simp [tl1]
      rw [e]
      unfold trm
      rw [cutx_free hx]
      show (cnt (TL.numL m) 60).map _ = _
      rw [hc]
      rfl
    · obtain ⟨b, e, hb⟩ := tl1_x (p := p) (by omega) hp
      rw [e]
      unfold trm
      rw [cutx_app hx]
      show ((if TL.numL m = [] then some 1 else cnt (TL.numL m) 60).bind fun n => (pwr b).map fun p => (n, p)) = _
      rw [if_neg (TL.numL_ne m), hc, hb]
      rfl
  ne := fun z => TL.numL_ne m (List.append_eq_nil_iff.mp z).1
  big := fun c hc => (List.mem_append.mp hc).elim (big_num m c) (tl1_big p c)
  len := by
    have := TL.numL_len (n := m) (k := 60) (by decide) h
    have := tl1_len hp
    rw [List.length_append]
    omega
theorem wd_x {p : Nat} (h1 : 1 ≤ p) (hp : p < 12) : Wd (tl1 p) 1 p where
  tm := by
    obtain ⟨b, e, hb⟩ := tl1_x h1 hp
    rw [e]
    have : cutx (120 :: b) = ([], some b) := cutx_app (a := []) (b := b) (by simp)
    unfold trm
    rw [this]
    show ((some 1 : Option Nat).bind fun n => (pwr b).map fun p => (n, p)) = _
    rw [hb]
    rfl
  ne := by
    obtain ⟨b, e, hb⟩ := tl1_x h1 hp
    rw [e]
    simp
  big := tl1_big p
  len := by
    have := tl1_len hp
    omega
theorem tw1_eq (n p : Nat) : tw1 n p = (if 1 < n ∨ p = 0 then TL.numL n else []) ++ tl1 p := rfl
theorem wd_tw1 {n p : Nat} (h1 : 1 ≤ n) (h : n < 10 ^ 60) (hp : p < 12) : Wd (tw1 n p) n p := by
  rw [tw1_eq]
  by_cases hc : 1 < n ∨ p = 0
  · rw [if_pos hc]
    exact wd_num h1 h hp
  · rw [if_neg hc]
    have : n = 1 := by omega
    subst this
    exact wd_x (by omega) hp
/-- a word put to a text -/
def stp (L : List Nat) (b : Bool) (w : List Nat) : List Nat := L ++ (if L = [] then (if b = true then [45] else []) else (if b = true then [32, 45, 32] else [32, 43, 32])) ++ w
def txE (es : List (Bool × List Nat)) : List Nat := es.foldl (fun L e => stp L e.1 e.2) []
def txZ (es : List (Bool × List Nat)) : List Nat := if txE es = [] then [48] else txE es
def sgn (b : Bool) : Nat := if b = true then 45 else 43
def fmE (r : List (Bool × List Nat)) : List (List Nat) := r.flatMap fun e => [[sgn e.1], e.2]
def wsE : List (Bool × List Nat) → List (List Nat)
  | [] => [[]]
  | e :: r => ((if e.1 = true then [45] else []) ++ e.2) :: fmE r
theorem txE_snoc (es : List (Bool × List Nat)) (e : Bool × List Nat) : txE (es ++ [e]) = stp (txE es) e.1 e.2 := by
  unfold txE
  rw [List.foldl_append]
  rfl
theorem tx_more : ∀ (r : List (Bool × List Nat)) (L : List Nat), L ≠ [] → r.foldl (fun L e => stp L e.1 e.2) L = L ++ r.flatMap fun e => [32, sgn e.1, 32] ++ e.2
  | [], L, _ => by simp
  | e :: r, L, h => by
    have e1 : stp L e.1 e.2 = L ++ ([32, sgn e.1, 32] ++ e.2) := by
      unfold stp sgn
      rw [if_neg h, List.append_assoc]
      split <;> rfl
    rw [List.foldl_cons, e1, tx_more r _ (by simp), List.flatMap_cons, List.append_assoc]
theorem join_more : ∀ (r : List (Bool × List Nat)) (A : List Nat), TL.joinL [32] (A :: fmE r) = A ++ r.flatMap fun e => [32, sgn e.1, 32] ++ e.2
  | [], A => by simp [fmE, TL.joinL]
  | e :: r, A => by
    have e1 : fmE (e :: r) = [sgn e.1] :: e.2 :: fmE r := by simp [fmE]
    have e2 : TL.joinL [32] (A :: [sgn e.1] :: e.2 :: fmE r) = A ++ ([32] ++ ([sgn e.1] ++ ([32] ++ TL.joinL [32] (e.2 :: fmE r)))) := rfl
    rw [e1, e2, join_more r e.2, List.flatMap_cons]
    simp
theorem stp0 (b : Bool) (w : List Nat) : stp [] b w = (if b = true then [45] else []) ++ w := by
  unfold stp
  rw [if_pos rfl, List.nil_append]
theorem txE_join {e : Bool × List Nat} {r : List (Bool × List Nat)} (h : e.2 ≠ []) : txE (e :: r) = TL.joinL [32] (wsE (e :: r)) ∧ txE (e :: r) ≠ [] := by
  have hn : (if e.1 = true then [45] else []) ++ e.2 ≠ [] := fun z => h (List.append_eq_nil_iff.mp z).2
  have e1 : txE (e :: r) = ((if e.1 = true then [45] else []) ++ e.2) ++ r.flatMap fun e => [32, sgn e.1, 32] ++ e.2 := by
    unfold txE
    rw [List.foldl_cons, stp0, tx_more r _ hn]
  refine ⟨?_, ?_⟩
  · rw [e1]
    exact (join_more r _).symm
  · rw [e1]
    exact fun z => hn (List.append_eq_nil_iff.mp z).1
theorem fmE_mem {r : List (Bool × List Nat)} {w : List Nat} (h : w ∈ fmE r) : (∃ b, w = [sgn b]) ∨ ∃ e ∈ r, w = e.2 := by
  unfold fmE at h
  obtain ⟨e, he, hw⟩ := List.mem_flatMap.mp h
  simp only [List.mem_cons, List.not_mem_nil, or_false] at hw
  rcases hw with rfl | rfl
  · exact .inl ⟨_, rfl⟩
  · exact .inr ⟨e, he, rfl⟩
/-- words that are terms -/
def Ws (es : List (Bool × List Nat)) : Prop := ∀ e ∈ es, ∃ m p, Wd e.2 m p
theorem wds_txE {e : Bool × List Nat} {r : List (Bool × List Nat)} (h : Ws (e :: r)) : wds (txE (e :: r)) = wsE (e :: r) := by
  obtain ⟨m, p, he⟩ := h e List.mem_cons_self
  rw [(txE_join he.ne).1]
  refine TL.spl_join (by simp [wsE]) fun w hw hm => ?_
  have free : ∀ f ∈ e :: r, 32 ∉ f.2 := fun f hf hm => by
    obtain ⟨m, p, hF⟩ := h f hf
    have := (hF.big 32 hm).1
    omega
  rcases List.mem_cons.mp hw with z | z
  · rw [z] at hm
    rcases List.mem_append.mp hm with y | y
    · split at y
      · simp at y
      · simp at y
    · exact free e List.mem_cons_self y
  · rcases fmE_mem z with ⟨b, rfl⟩ | ⟨f, hf, rfl⟩
    · cases b <;> simp [sgn] at hm
    · exact free f (List.mem_cons_of_mem _ hf) hm
theorem fmE_at : ∀ (r : List (Bool × List Nat)) (j : Nat) (e : Bool × List Nat), r[j]? = some e → (fmE r).getD (2 * j) [] = [sgn e.1] ∧ (fmE r).getD (2 * j + 1) [] = e.2
  | [], j, e, h => by simp at h
  | f :: r, j, e, h => by
    have e1 : fmE (f :: r) = [sgn f.1] :: f.2 :: fmE r := by simp [fmE]
    rw [e1]
    cases j with
    | zero =>
      cases h
      exact ⟨rfl, rfl⟩
    | succ j =>
      exact fmE_at r j e (by simpa using h)
theorem turn_wsE {es : List (Bool × List Nat)} (h : Ws es) {j : Nat} {e : Bool × List Nat} (he : es[j]? = some e) : turn (wsE es) j = some e := by
  cases es with
  | nil => simp at he
  | cons f r =>
    cases j with
    | zero =>
      have he : f = e := Option.some.inj he
      subst he
      obtain ⟨b, w⟩ := f
      obtain ⟨m, p, hW⟩ := h (b, w) List.mem_cons_self
      have hb := hW.big
      have h45 : w.head? ≠ some 45 := fun z => by
        have := (hb 45 (List.mem_of_mem_head? z)).1
        omega
      have e0 : (wsE ((b, w) :: r)).getD 0 [] = (if b = true then [45] else []) ++ w := rfl
      unfold turn
      simp only [e0]
      cases b with
      | true => simp
      | false => simp [h45]
    | succ j =>
      have he' : r[j]? = some e := by simpa using he
      obtain ⟨h1, h2⟩ := fmE_at r j e he'
      have g1 : (wsE (f :: r)).getD (2 * j + 1) [] = [sgn e.1] := h1
      have g2 : (wsE (f :: r)).getD (2 * j + 2) [] = e.2 := h2
      unfold turn
      simp only [g1, g2]
      obtain ⟨b, w⟩ := e
      cases b
      · rfl
      · rfl
theorem fmE_len : ∀ (r : List (Bool × List Nat)), (fmE r).length = 2 * r.length
  | [] => rfl
  | f :: r => by
    have e1 : fmE (f :: r) = [sgn f.1] :: f.2 :: fmE r := by simp [fmE]
    rw [e1, List.length_cons, List.length_cons, List.length_cons, fmE_len r]
    omega
def stE (s : Option (List Int × Nat)) (e : Bool × List Nat) : Option (List Int × Nat) := s.bind fun s => (trm e.2).bind fun t => if s.2 ≤ t.2 then none else some (s.1.set t.2 (if e.1 then -(t.1 : Int) else t.1), t.2)
def runE (es : List (Bool × List Nat)) : Option (List Int × Nat) := es.foldl stE (some (List.replicate 12 0, 12))
theorem runE_snoc (es : List (Bool × List Nat)) (e : Bool × List Nat) : runE (es ++ [e]) = stE (runE es) e := by
  unfold runE
  rw [List.foldl_append]
  rfl
theorem runT_wsE {es : List (Bool × List Nat)} (h : Ws es) : ∀ j, j ≤ es.length → runT (wsE es) j = runE (es.take j)
  | 0, _ => by rw [List.take_zero]; rfl
  | j + 1, hj => by
    have hlt : j < es.length := by omega
    have ih := runT_wsE h j (by omega)
    have ht := turn_wsE h (List.getElem?_eq_getElem hlt)
    have e1 : es.take (j + 1) = es.take j ++ [es[j]] := by
      rw [List.take_succ, List.getElem?_eq_getElem hlt]
      rfl
    rw [e1, runE_snoc, ← ih]
    show ((runT (wsE es) j).bind fun s => (turn (wsE es) j).bind fun q => (trm q.2).bind fun t => if s.2 ≤ t.2 then none else some (s.1.set t.2 (if q.1 then -(t.1 : Int) else t.1), t.2)) = _
    rw [ht]
    rfl
theorem rdO_txZ {es : List (Bool × List Nat)} (h : Ws es) : rdO (txZ es) = (runE es).map fun s => tr s.1 := by
  cases es with
  | nil =>
    have e1 : txZ [] = [48] := rfl
    rw [e1]
    rfl
  | cons e r =>
    obtain ⟨m, p, he⟩ := h e List.mem_cons_self
    obtain ⟨_, hne⟩ := txE_join (r := r) he.ne
    have hw := wds_txE h
    have e1 : txZ (e :: r) = txE (e :: r) := if_neg hne
    have h48 : txE (e :: r) ≠ [48] := fun z => by
      rw [z] at hw
      have e2 : wds [48] = [[48]] := by rfl
      rw [e2] at hw
      obtain ⟨e3, _⟩ := List.cons.inj hw
      have ht := he.tm
      have hb := he.big
      obtain ⟨b, w⟩ := e
      cases b with
      | true =>
        have := (List.cons.inj e3).1
        omega
      | false =>
        have e3 : [48] = w := e3
        rw [← e3] at ht
        have : trm [48] = none := by rfl
        rw [this] at ht
        cases ht
    have hl : (wsE (e :: r)).length = 2 * r.length + 1 := by
      show (fmE r).length + 1 = _
      rw [fmE_len]
    have hj : (2 * r.length + 1 + 1) / 2 = (e :: r).length := by rw [List.length_cons]; omega
    rw [e1]
    unfold rdO
    rw [if_neg h48, hw, hl, if_neg (by omega), hj, runT_wsE h _ (Nat.le_refl _), List.take_length]
/-- the words of so many turns, the powers falling -/
def esR (h : Nat → Option (Bool × List Nat)) (N : Nat) : Nat → List (Bool × List Nat)
  | 0 => []
  | i + 1 => esR h N i ++ (h (N - 1 - i)).toList
theorem esR_some {h : Nat → Option (Bool × List Nat)} {N i : Nat} {e : Bool × List Nat} (he : h (N - 1 - i) = some e) : esR h N (i + 1) = esR h N i ++ [e] := by
  show esR h N i ++ (h (N - 1 - i)).toList = _
  rw [he]
  rfl
theorem esR_none {h : Nat → Option (Bool × List Nat)} {N i : Nat} (he : h (N - 1 - i) = none) : esR h N (i + 1) = esR h N i := by
  show esR h N i ++ (h (N - 1 - i)).toList = _
  rw [he]
  exact List.append_nil _
theorem esR_first (h : Nat → Option (Bool × List Nat)) (N : Nat) : ∀ i, i ≤ N → esR h (N + 1) (i + 1) = (h N).toList ++ esR h N i
  | 0, _ => by
    show [] ++ (h (N + 1 - 1 - 0)).toList = (h N).toList ++ []
    simp
  | i + 1, hi => by
    show esR h (N + 1) (i + 1) ++ (h (N + 1 - 1 - (i + 1))).toList = (h N).toList ++ (esR h N i ++ (h (N - 1 - i)).toList)
    rw [esR_first h N i (by omega), List.append_assoc, show N + 1 - 1 - (i + 1) = N - 1 - i by omega]
theorem esR_high {h : Nat → Option (Bool × List Nat)} {n : Nat} : ∀ N, n ≤ N → (∀ p, n ≤ p → p < N → h p = none) → esR h N N = esR h n n
  | 0, hn, _ => by
    have : n = 0 := by omega
    rw [this]
  | N + 1, hn, hp => by
    by_cases e : n = N + 1
    · rw [e]
    · rw [esR_first h N N (Nat.le_refl _), hp N (by omega) (by omega)]
      exact esR_high N (by omega) fun p h1 h2 => hp p h1 (by omega)
theorem esR_congr {h h' : Nat → Option (Bool × List Nat)} {N : Nat} (e : ∀ p, p < N → h p = h' p) : ∀ i, i ≤ N → esR h N i = esR h' N i
  | 0, _ => rfl
  | i + 1, hi => by
    show esR h N i ++ (h (N - 1 - i)).toList = esR h' N i ++ (h' (N - 1 - i)).toList
    rw [esR_congr e i (by omega), e _ (by omega)]
/-- the number that an entry tells -/
def Ent (h : Nat → Option (Bool × List Nat)) (u : Nat → Int) (p : Nat) : Prop := (h p = none ∧ u p = 0) ∨ ∃ b w m, h p = some (b, w) ∧ Wd w m p ∧ u p = if b = true then -(m : Int) else m
theorem ws_esR {h : Nat → Option (Bool × List Nat)} {u : Nat → Int} {N : Nat} (H : ∀ p, p < N → Ent h u p) : ∀ i, i ≤ N → Ws (esR h N i)
  | 0, _ => fun e he => by cases he
  | i + 1, hi => fun e he => by
    rcases H (N - 1 - i) (by omega) with ⟨h1, _⟩ | ⟨b, w, m, h1, hW, _⟩
    · rw [esR_none h1] at he
      exact ws_esR H i (by omega) e he
    · rw [esR_some h1] at he
      rcases List.mem_append.mp he with z | z
      · exact ws_esR H i (by omega) e z
      · rw [List.mem_singleton.mp z]
        exact ⟨m, _, hW⟩
theorem gi_set {l : List Int} {k : Nat} (a : Int) (hk : k < l.length) (j : Nat) : gi (l.set k a) j = if j = k then a else gi l j := by
  unfold gi
  rw [List.getD_eq_getElem?_getD, List.getD_eq_getElem?_getD, List.getElem?_set]
  by_cases e : j = k
  · subst e
    simp [hk]
  · rw [if_neg e, if_neg (fun z => e z.symm)]
theorem gi_rep (k j : Nat) : gi (List.replicate k 0) j = 0 := by
  unfold gi
  rw [List.getD_eq_getElem?_getD, List.getElem?_replicate]
  split <;> rfl
theorem runE_esR {h : Nat → Option (Bool × List Nat)} {u : Nat → Int} {N : Nat} (hN : N ≤ 12) (H : ∀ p, p < N → Ent h u p) : ∀ i, i ≤ N → ∃ f l, runE (esR h N i) = some (f, l) ∧ N - i ≤ l ∧ f.length = 12 ∧ ∀ p, gi f p = if N - i ≤ p ∧ p < N then u p else 0
  | 0, _ => ⟨List.replicate 12 0, 12, rfl, by omega, by simp, fun p => by rw [gi_rep, if_neg (by omega)]⟩
  | i + 1, hi => by
    obtain ⟨f, l, h1, h2, h3, h4⟩ := runE_esR hN H i (by omega)
    rcases H (N - 1 - i) (by omega) with ⟨g1, g2⟩ | ⟨b, w, m, g1, hW, g2⟩
    · refine ⟨f, l, by rw [esR_none g1]; exact h1, by omega, h3, fun p => ?_⟩
      rw [h4]
      by_cases c1 : p = N - 1 - i
      · subst c1
        rw [g2, if_neg (by omega)]
        split <;> rfl
      · by_cases c2 : N - i ≤ p ∧ p < N
        · rw [if_pos c2, if_pos (by omega)]
        · rw [if_neg c2, if_neg (by omega)]
    · refine ⟨f.set (N - 1 - i) (u (N - 1 - i)), N - 1 - i, ?_, by omega, by simpa using h3, fun p => ?_⟩
      · rw [esR_some g1, runE_snoc, h1]
        show ((trm w).bind fun t => if l ≤ t.2 then none else some (f.set t.2 (if b then -(t.1 : Int) else t.1), t.2)) = _
        rw [hW.tm, Option.bind_some, if_neg (by show ¬ l ≤ N - 1 - i; omega), g2]
      · rw [gi_set _ (by omega), h4]
        by_cases c1 : p = N - 1 - i
        · subst c1
          rw [if_pos rfl, if_pos (by omega)]
        · rw [if_neg c1]
          by_cases c2 : N - i ≤ p ∧ p < N
          · rw [if_pos c2, if_pos (by omega)]
          · rw [if_neg c2, if_neg (by omega)]
theorem hor0 (x : Int) : ∀ l : List Int, (∀ p, gi l p = 0) → hor x l = 0
  | [], _ => rfl
  | a :: l, h => by
    have h0 : a = 0 := h 0
    rw [hor, hor0 x l fun p => h (p + 1), h0]
    simp
theorem hor_gi (x : Int) : ∀ a b : List Int, (∀ p, gi a p = gi b p) → hor x a = hor x b
  | [], b, h => by
    have : hor x b = 0 := hor0 x b fun p => (h p).symm
    rw [this]
    rfl
  | a :: l, [], h => hor0 x (a :: l) h
  | a :: l, b :: r, h => by
    have h0 : a = b := h 0
    rw [hor, hor, hor_gi x l r fun p => h (p + 1), h0]
theorem tr_gi {a b : List Int} (h : ∀ p, gi a p = gi b p) : tr a = tr b := tr_eq fun x => hor_gi x a b h
theorem gi_tr : ∀ (l : List Int) (p : Nat), gi (tr l) p = gi l p
  | [], p => rfl
  | a :: l, p => by
    have ih := gi_tr l
    unfold tr
    split
    · rename_i e
      rw [e] at ih
      split
      · rename_i e2
        cases p with
        | zero => rw [e2]; rfl
        | succ p => exact ih p
      · cases p with
        | zero => rfl
        | succ p => exact ih p
    · cases p with
      | zero => rfl
      | succ p => exact ih p
/-- READ BACK -/
theorem rdO_esR {h : Nat → Option (Bool × List Nat)} {u : Nat → Int} {N : Nat} (hN : N ≤ 12) (H : ∀ p, p < N → Ent h u p) {l : List Int} (hl : ∀ p, gi l p = if p < N then u p else 0) : rdO (txZ (esR h N N)) = some (tr l) := by
  obtain ⟨f, k, h1, _, _, h4⟩ := runE_esR hN H N (Nat.le_refl _)
  rw [rdO_txZ (ws_esR H N (Nat.le_refl _)), h1]
  show some (tr f) = _
  refine congrArg some (tr_gi fun p => ?_)
  rw [h4, hl]
  by_cases c : p < N
  · rw [if_pos c, if_pos ⟨by omega, c⟩]
  · rw [if_neg c, if_neg fun z => c z.2]
theorem tb_stp {k m : Nat} {L : List Nat} {b : Bool} {w : List Nat} {n p : Nat} (hL : Tb k L) (hW : Wd w n p) (hm : k + 73 ≤ m) : Tb m (stp L b w) := by
  have t1 : Tb 3 (if L = [] then (if b = true then [45] else []) else (if b = true then [32, 45, 32] else [32, 43, 32])) := by
    split
    · split
      · exact tb_by (by decide) (by decide)
      · exact tb_nil _
    · split
      · exact tb_by (by decide) (by decide)
      · exact tb_by (by decide) (by decide)
  have t2 : Tb 70 w := ⟨fun c hc => (hW.big c hc).2, hW.len⟩
  exact (hL.app t1 (Nat.le_refl _)).app t2 (by omega)
theorem tb_esR {h : Nat → Option (Bool × List Nat)} {u : Nat → Int} {N : Nat} (H : ∀ p, p < N → Ent h u p) : ∀ i, i ≤ N → Tb (100 * i) (txE (esR h N i))
  | 0, _ => tb_nil _
  | i + 1, hi => by
    have ih := tb_esR H i (by omega)
    rcases H (N - 1 - i) (by omega) with ⟨g1, _⟩ | ⟨b, w, m, g1, hW, _⟩
    · rw [esR_none g1]
      exact ih.mono (by omega)
    · rw [esR_some g1, txE_snoc]
      exact tb_stp ih hW (by omega)
theorem tb_txZ {k : Nat} {es : List (Bool × List Nat)} (h : Tb k (txE es)) (hk : 1 ≤ k) : Tb k (txZ es) := by
  unfold txZ
  split
  · exact (tb_by (k := 1) (by decide) (by decide)).mono hk
  · exact h
/-- the entry of a number -/
def hS (l : List Int) (p : Nat) : Option (Bool × List Nat) := if gi l p = 0 then none else some (decide (gi l p < 0), tw1 (gi l p).natAbs p)
/-- a polynomial's text -/
def shw (l : List Int) : List Nat := txZ (esR (hS l) l.length l.length)
theorem ent_S {l : List Int} {p : Nat} (hp : p < 12) (h : (gi l p).natAbs < 10 ^ 60) : Ent (hS l) (gi l) p := by
  unfold Ent hS
  by_cases h0 : gi l p = 0
  · rw [if_pos h0]
    exact .inl ⟨rfl, h0⟩
  · rw [if_neg h0]
    refine .inr ⟨_, _, (gi l p).natAbs, rfl, wd_tw1 (by omega) h hp, ?_⟩
    by_cases hn : gi l p < 0
    · rw [decide_eq_true hn, if_pos rfl]
      omega
    · rw [decide_eq_false hn]
      show gi l p = ((gi l p).natAbs : Int)
      omega
theorem gi_abs {l : List Int} {B : Nat} (hB : 0 < B) (h : ∀ x ∈ l, x.natAbs < B) (p : Nat) : (gi l p).natAbs < B := by
  by_cases hp : p < l.length
  · refine h _ ?_
    unfold gi
    rw [List.getD_eq_getElem?_getD, List.getElem?_eq_getElem hp]
    exact List.getElem_mem _
  · rw [gi_none (by omega)]
    exact hB
theorem ents_S {l : List Int} (hl : l.length ≤ 12) (h : ∀ x ∈ l, x.natAbs < 10 ^ 60) : ∀ p, p < l.length → Ent (hS l) (gi l) p := fun p hp => ent_S (by omega) (gi_abs (Nat.pow_pos (by decide)) h p)
theorem shw_tb {l : List Int} (hl : l.length ≤ 12) (h : ∀ x ∈ l, x.natAbs < 10 ^ 60) : Tb 1300 (shw l) :=
  tb_txZ ((tb_esR (ents_S hl h) _ (Nat.le_refl _)).mono (by omega)) (by decide)
theorem shw_read {l : List Int} (hl : l.length ≤ 12) (h : ∀ x ∈ l, x.natAbs < 10 ^ 60) : rdO (shw l) = some (tr l) :=
  rdO_esR hl (ents_S hl h) fun p => by
    split
    · rfl
    · exact gi_none (by omega)
theorem hS_tr (l : List Int) (p : Nat) : hS (tr l) p = hS l p := by
  unfold hS
  rw [gi_tr]
/-- a text by entries is the text of the polynomial that it tells -/
theorem shw_of {l : List Int} {h : Nat → Option (Bool × List Nat)} {N : Nat} (hl : l.length ≤ N) (e : ∀ p, p < N → h p = hS l p) : txZ (esR h N N) = shw (tr l) := by
  have ht := tr_length l
  unfold shw
  rw [esR_congr e N (Nat.le_refl _), esR_high (n := (tr l).length) N (by omega) fun p h1 h2 => ?_]
  · congr 1
    exact esR_congr (fun p _ => (hS_tr l p).symm) _ (Nat.le_refl _)
  · rw [← hS_tr]
    unfold hS
    rw [gi_none h1, if_pos rfl]
end RF

set_option Elab.async false
set_option linter.all false
set_option maxRecDepth 100000
set_option autoImplicit false
/-! both write a polynomial's text -/
namespace RF
open PySem PySem.Spec L2 RF.M
theorem e60 : (10 ^ 60 : Nat) = 1000000000000000000000000000000000000000000000000000000000000 := by decide
theorem d_Lshw {l : List Int} (hl : l.length ≤ 12) (hx : ∀ x ∈ l, x.natAbs < 10 ^ 60) : d_L_shown [il l] = .ok (.st (.str (sS (shw l)))) := by
  have hent := ents_S hl hx
  unfold d_L_shown runD
  refine run_of ?_
  unfold b_L_shown
  refine wq_seq fun K hK => ?_
  simp
  refine hK _ ?_
  clear hK K
  refine wq_seq fun K hK => ?_
  simp (disch := omega) [p_rng1]
  refine wv_rng [1, 2, 3, 4, 5, 6, 7] (fun i xs => ∃ (L : List Nat) (a b c e f g : Sl), xs = [.val (.str (sS L)), a, b, c, e, f, g] ∧ L = txE (esR (hS l) l.length i)) ⟨[], _, _, _, _, _, _, by rw [← l_e]; rfl, rfl⟩ ?_ ?_
  · rintro J i _ hi ⟨L, a1, a2, a3, a4, a5, a6, rfl, hL⟩ hJ
    have hil : i < l.length := by simpa using hi
    have hT : Tb (100 * i) L := by rw [hL]; exact tb_esR hent i (by omega)
    have hpw : (l.length : Int) - 1 - i = ((l.length - 1 - i : Nat) : Int) := by omega
    have hat := ints_at (l := l) (k := ((l.length - 1 - i : Nat) : Int)) (by omega) (by omega)
    rw [Int.toNat_natCast] at hat
    have hgm := gi_abs (Nat.pow_pos (by decide)) hx (l.length - 1 - i)
    have hhS : hS l (l.length - 1 - i) = if gi l (l.length - 1 - i) = 0 then none else some (decide (gi l (l.length - 1 - i) < 0), tw1 (gi l (l.length - 1 - i)).natAbs (l.length - 1 - i)) := rfl
    have hno := fun h => esR_none (h := hS l) (N := l.length) (i := i) h
    have hso := fun e h => esR_some (h := hS l) (N := l.length) (i := i) (e := e) h
    generalize gi l (l.length - 1 - i) = z at *
    have hpw12 : l.length - 1 - i < 12 := by omega
    generalize l.length - 1 - i = pw0 at *
    have hTl := hT.len
    have hTp : Pl L := hT.pl (by omega)
    have heq : dEq (.str (sS L)) (.str (Str.ofString "")) = some (.st (.bl (decide (L = [])))) := by rw [l_e, p_eqT hTp pl_nil]
    simp only [p_gN, gP_some]
    iterate 2
      refine wq_seq fun K hK => ?_
      simp [hpw, hat]
      refine hK _ ?_
      clear hK K
    refine wq_seq fun K hK => ?_
    by_cases hz : z = 0
    · rw [if_pos hz] at hhS
      simp [hz]
      exact hJ [_, _, _, _, _, _, _] ⟨L, _, _, _, _, _, _, rfl, by rw [hno hhS]; exact hL⟩
    rw [if_neg hz] at hhS
    have hnx := hso _ hhS
    simp [hz]
    refine hK _ ?_
    clear hK K
    refine wq_seq fun K hK => ?_
    have t1 : atI [D.str (Str.ofString " + "), D.str (Str.ofString " - ")] 0 = some (.str (sS [32, 43, 32])) := by rw [← l_sp]; rfl
    have t2 : atI [D.str (Str.ofString " + "), D.str (Str.ofString " - ")] 1 = some (.str (sS [32, 45, 32])) := by rw [← l_sm]; rfl
    have t3 : atI [D.str (Str.ofString ""), D.str (Str.ofString "-")] 0 = some (.str (sS [])) := by rw [← l_e]; rfl
    have t4 : atI [D.str (Str.ofString ""), D.str (Str.ofString "-")] 1 = some (.str (sS [45])) := by rw [← l_mi]; rfl
    obtain ⟨SS, hSS⟩ : ∃ S : List Nat, S = if L = [] then (if z < 0 then [45] else []) else (if z < 0 then [32, 45, 32] else [32, 43, 32]) := ⟨_, rfl⟩
    obtain ⟨Wd0, hWd⟩ : ∃ W : List Nat, W = if 1 < z.natAbs ∨ pw0 = 0 then TL.numL z.natAbs else [] := ⟨_, rfl⟩
    have hSl : SS.length ≤ 3 := by
      rw [hSS]
      split
      · split <;> simp
      · split <;> simp
    have hWl : Wd0.length ≤ 60 := by
      have := TL.numL_len (n := z.natAbs) (k := 60) (by decide) hgm
      rw [hWd]
      split
      · exact this
      · simp
    have hTl2 := tl1_len hpw12
    have hst : txE (esR (hS l) l.length (i + 1)) = L ++ SS ++ Wd0 ++ tl1 pw0 := by
      rw [hnx, txE_snoc, ← hL]
      show stp L (decide (z < 0)) (tw1 z.natAbs pw0) = _
      unfold stp
      rw [tw1_eq, ← hWd, hSS, List.append_assoc]
      simp only [decide_eq_true_eq, List.append_assoc]
    have go : ∀ S, (¬ L = [] → S = SS) → K [.val (il l), .val (.str (sS L)), .val (.int (i : Nat)), .val (.int (pw0 : Nat)), .val (.int z), .val (.str (sS S)), a5, a6] := by
      intro S hS
      refine hK _ ?_
      clear hK K
      refine wq_seq fun K hK => ?_
      have go2 : K [.val (il l), .val (.str (sS L)), .val (.int (i : Nat)), .val (.int (pw0 : Nat)), .val (.int z), .val (.str (sS SS)), a5, a6] := by
        refine hK _ ?_
        clear hK K
        refine wq_seq fun K hK => ?_
        have ee : K [.val (il l), .val (.str (sS L)), .val (.int (i : Nat)), .val (.int (pw0 : Nat)), .val (.int z), .val (.str (sS SS)), .val (.str (Str.ofString "")), a6] := by
          refine hK _ ?_
          clear hK K
          refine wq_seq fun K hK => ?_
          have go3 : K [.val (il l), .val (.str (sS L)), .val (.int (i : Nat)), .val (.int (pw0 : Nat)), .val (.int z), .val (.str (sS SS)), .val (.str (sS Wd0)), a6] := by
            refine hK _ ?_
            clear hK K
            refine wq_seq fun K hK => ?_
            have go4 : K [.val (il l), .val (.str (sS L)), .val (.int (i : Nat)), .val (.int (pw0 : Nat)), .val (.int z), .val (.str (sS SS)), .val (.str (sS Wd0)), .val (.str (sS (tl1 pw0)))] := by
              refine hK _ ?_
              clear hK K
              have d1 := p_addT (a := L) (b := SS) (by omega)
              have d2 := p_addT (a := L ++ SS) (b := Wd0) (by rw [List.length_append]; omega)
              have d3 := p_addT (a := L ++ SS ++ Wd0) (b := tl1 pw0) (by rw [List.length_append, List.length_append]; omega)
              have fin : ∀ X, X = sS (L ++ SS ++ Wd0 ++ tl1 pw0) → J [.val (il l), .val (.str X), .val (.int (i : Nat)), .val (.int (pw0 : Nat)), .val (.int z), .val (.str (sS SS)), .val (.str (sS Wd0)), .val (.str (sS (tl1 pw0)))] := fun X hX => by
                subst hX
                exact hJ [_, _, _, _, _, _, _] ⟨_, _, _, _, _, _, _, rfl, hst.symm⟩
              generalize sS (L ++ SS ++ Wd0 ++ tl1 pw0) = Y4 at *
              generalize sS (L ++ SS ++ Wd0) = Y3 at *
              generalize sS (L ++ SS) = Y2 at *
              generalize sS (tl1 pw0) = Z1 at *
              generalize sS Wd0 = Z2 at *
              generalize sS SS = Z3 at *
              generalize sS L = Z4 at *
              simp [d1, d2, d3]
              exact fin _ rfl
            have hst := p_strN (n := pw0) (by omega)
            have hnl := TL.numL_len (n := pw0) (k := 2) (by decide) (by omega)
            have d5 : dAdd (.str (Str.ofString "x^")) (.str (sS (TL.numL pw0))) = some (.st (.str (sS ([120, 94] ++ TL.numL pw0)))) := by rw [l_xh]; exact p_addT (by simp; omega)
            have u1 : ∀ X, atI [D.str (Str.ofString ""), D.str (Str.ofString "x"), D.str X] 0 = some (.str (sS [])) := fun X => by rw [← l_e]; rfl
            have u2 : ∀ X, atI [D.str (Str.ofString ""), D.str (Str.ofString "x"), D.str X] 1 = some (.str (sS [120])) := fun X => by rw [← l_x]; rfl
            have u3 : ∀ X, atI [D.str (Str.ofString ""), D.str (Str.ofString "x"), D.str X] 2 = some (.str X) := fun X => rfl
            have et : tl1 pw0 = if pw0 = 0 then [] else if pw0 = 1 then [120] else [120, 94] ++ TL.numL pw0 := rfl
            rw [et] at go4
            clear hK hst hTl2 et hnx
            have hm3 : pw0 = 0 ∨ pw0 = 1 ∨ 2 ≤ pw0 := by omega
            rcases hm3 with hm | hm | hm
            · rw [if_pos hm] at go4
              have hmm : min (pw0 : Int) 2 = 0 := by omega
              have hst := p_strN (n := pw0) (by omega)
              generalize sS ([120, 94] ++ TL.numL pw0) = Y1 at *
              generalize sS (TL.numL pw0) = Y2 at *
              simp [hst, d5, hmm, u1]
              exact go4
            · rw [if_neg (by omega), if_pos hm] at go4
              have hmm : min (pw0 : Int) 2 = 1 := by omega
              have hst := p_strN (n := pw0) (by omega)
              generalize sS ([120, 94] ++ TL.numL pw0) = Y1 at *
              generalize sS (TL.numL pw0) = Y2 at *
              simp [hst, d5, hmm, u2]
              exact go4
            · rw [if_neg (by omega), if_neg (by omega)] at go4
              have hmm : min (pw0 : Int) 2 = 2 := by omega
              have hst := p_strN (n := pw0) (by omega)
              generalize sS ([120, 94] ++ TL.numL pw0) = Y1 at *
              generalize sS (TL.numL pw0) = Y2 at *
              simp [hst, d5, hmm, u3]
              exact go4
          have hsz := p_strN (n := z.natAbs) (by rw [e60] at hgm; have e61 : (10 ^ 61 : Nat) = 10000000000000000000000000000000000000000000000000000000000000 := by decide
                                                 omega)
          rw [hWd] at go3
          clear hK hst hWl hWd
          by_cases h1 : 1 < z.natAbs
          · have h1' : (1 : Int) < (z.natAbs : Int) := by omega
            rw [if_pos (.inl h1)] at go3
            generalize sS (TL.numL z.natAbs) = Y1 at *
            simp [h1, h1', hsz]
            exact go3
          · have h1' : ¬ (1 : Int) < (z.natAbs : Int) := by omega
            by_cases h2 : pw0 = 0
            · have h2' : (pw0 : Int) = 0 := by omega
              rw [if_pos (.inr h2)] at go3
              rw [h2'] at go3
              generalize sS (TL.numL z.natAbs) = Y1 at *
              simp [h1, h1', h2, h2', hsz]
              exact go3
            · have h2' : ¬ (pw0 : Int) = 0 := by omega
              rw [if_neg (fun q => q.elim h1 h2), ← l_e] at go3
              generalize sS (TL.numL z.natAbs) = Y1 at *
              simp [h1, h1', h2, h2', hsz]
              exact go3
        simp
        exact ee
      by_cases hn : L = []
      · rw [decide_eq_true hn] at heq
        rw [if_pos hn] at hSS
        by_cases hneg : z < 0
        · rw [if_pos hneg] at hSS
          rw [hSS] at go2
          clear hK
          generalize sS [45] = Y1 at *
          generalize sS L = Y2 at *
          simp [heq, hneg, t4]
          exact go2
        · rw [if_neg hneg] at hSS
          rw [hSS] at go2
          clear hK
          generalize sS [] = Y1 at *
          generalize sS L = Y2 at *
          simp [heq, hneg, t3]
          exact go2
      · rw [decide_eq_false hn] at heq
        rw [hS hn]
        clear hK
        generalize sS L = Y2 at *
        simp [heq]
        exact go2
    by_cases hneg : z < 0
    · simp [hneg, t1, t2]
      exact go _ fun hn => by rw [hSS, if_neg hn, if_pos hneg]
    · simp [hneg, t1, t2]
      exact go _ fun hn => by rw [hSS, if_neg hn, if_neg hneg]
  · rintro _ ⟨L, _, _, _, _, _, _, rfl, hL⟩
    refine hK _ ?_
    clear hK K
    have hT : Tb (100 * l.length) L := by rw [hL]; exact tb_esR hent l.length (Nat.le_refl _)
    have hTp : Pl L := hT.pl (by omega)
    have heq : dEq (.str (sS L)) (.str (Str.ofString "")) = some (.st (.bl (decide (L = [])))) := by rw [l_e, p_eqT hTp pl_nil]
    have es : shw l = if L = [] then [48] else L := by unfold shw txZ; rw [← hL]
    rw [es]
    by_cases hn : L = []
    · rw [if_pos hn]
      rw [decide_eq_true hn] at heq
      have h0 := l_0
      generalize sS [48] = X0 at *
      generalize sS L = X at *
      refine wq_seq fun K hK => ?_
      simp [heq, h0]
    · rw [if_neg hn]
      rw [decide_eq_false hn] at heq
      generalize sS L = X at *
      refine wq_seq fun K hK => ?_
      simp [heq]
      refine hK _ ?_
      simp
def tooG : Xc := ⟨.tooGreat, [], []⟩
/-- the program writes the text -/
theorem d_shown {l : List Int} (hl : l.length ≤ 100000) (h12 : (tr l).length ≤ 12) (hx : ∀ x ∈ tr l, x.natAbs < 10 ^ 60) : d_P_shown [il l] = .ok (.st (.str (sS (shw (tr l))))) := by
  have ht := d_trimmed l (by omega)
  unfold d_P_shown runD
  refine run_of ?_
  unfold b_P_shown
  generalize tr l = m at *
  have hent := ents_S h12 hx
  refine wq_seq fun K hK => ?_
  simp [ht]
  refine hK _ ?_
  clear hK K
  refine wq_seq fun K hK => ?_
  have g12 : ¬ (12 : Int) < m.length := by omega
  simp [g12]
  refine hK _ ?_
  clear hK K
  refine wq_seq fun K hK => ?_
  simp
  refine wv_ints [2] (fun d xs => ∃ a, xs = [a]) ⟨_, rfl⟩ ?_ ?_
  · rintro J d a rest _ e ⟨_, rfl⟩ hJ
    have ha := hx a (by rw [e]; simp)
    rw [e60] at ha
    have g : ¬ (1000000000000000000000000000000000000000000000000000000000000 : Int) ≤ (a.natAbs : Int) := by omega
    simp only [p_gN, gP_some]
    simp (disch := omega) [p_pow, g]
    exact hJ [_] ⟨_, rfl⟩
  rintro _ ⟨a2, rfl⟩
  refine hK _ ?_
  clear hK K
  refine wq_seq fun K hK => ?_
  simp
  refine hK _ ?_
  clear hK K
  refine wq_seq fun K hK => ?_
  have hm5 : m.length ≤ 100000 := by omega
  simp [hm5]
  refine wv_enumRev [2, 3, 4] (fun r xs => ∃ (L : List Nat) (a c : Sl), xs = [a, .val (.str (sS L)), c] ∧ L = txE (esR (hS m) m.length r.length)) ⟨[], _, _, by rw [← l_e]; rfl, rfl⟩ ?_ ?_
  · rintro J d z r _ e ⟨L, a, c, rfl, hL⟩ hJ
    have hlen := congrArg List.length e
    simp at hlen
    have hT : Tb (100 * r.length) L := by rw [hL]; exact tb_esR hent r.length (by omega)
    have hTl := hT.len
    have hTp : Pl L := hT.pl (by omega)
    have hpw : m.length - 1 - r.length = d.length := by omega
    have hz1 : gi m d.length = z := by
      unfold gi
      rw [e, List.getD_eq_getElem?_getD]
      simp
    have hzm := hx z (by rw [e]; simp)
    have hhS : hS m (m.length - 1 - r.length) = if z = 0 then none else some (decide (z < 0), tw1 z.natAbs d.length) := by
      rw [hpw]
      unfold hS
      rw [hz1]
    have hrl : (z :: r).length = r.length + 1 := rfl
    have hd12 : d.length < 12 := by omega
    have heq : dEq (.str (sS L)) (.str (Str.ofString "")) = some (.st (.bl (decide (L = [])))) := by rw [l_e, p_eqT hTp pl_nil]
    simp only [gP, p_gT, p_gsC, p_gN, p_gsN]
    by_cases hz : z = 0
    · rw [if_pos hz] at hhS
      have hno := esR_none hhS
      simp [hz]
      exact hJ [_, _, _] ⟨L, _, _, rfl, by rw [hrl, hno]; exact hL⟩
    rw [if_neg hz] at hhS
    have hnx := esR_some hhS
    have hz1 : 1 ≤ z.natAbs := by omega
    have hsh := d_shown_term hz1 hzm hd12
    obtain ⟨SS, hSS⟩ : ∃ S : List Nat, S = if L = [] then (if z < 0 then [45] else []) else (if z < 0 then [32, 45, 32] else [32, 43, 32]) := ⟨_, rfl⟩
    have hSl : SS.length ≤ 3 := by
      rw [hSS]
      split
      · split <;> simp
      · split <;> simp
    have hwl := (wd_tw1 hz1 hzm hd12).len
    have hst : txE (esR (hS m) m.length (r.length + 1)) = L ++ SS ++ tw1 z.natAbs d.length := by
      rw [hnx, txE_snoc, ← hL]
      show stp L (decide (z < 0)) (tw1 z.natAbs d.length) = _
      unfold stp
      rw [hSS]
      simp only [decide_eq_true_eq]
    generalize tw1 z.natAbs d.length = W at *
    refine wq_seq fun K hK => ?_
    simp [hz]
    refine hK _ ?_
    clear hK K
    refine wq_seq fun K hK => ?_
    have go : K [.val (il l), .val (il m), .val (.int z), .val (.str (sS (L ++ SS))), .val (.int d.length)] := by
      refine hK _ ?_
      clear hK K
      have d2 := p_addT (a := L ++ SS) (b := W) (by rw [List.length_append]; omega)
      have fin : ∀ X, X = sS (L ++ SS ++ W) → J [.val (il l), .val (il m), .val (.int z), .val (.str X), .val (.int d.length)] := fun X hX => by
        subst hX
        exact hJ [_, _, _] ⟨_, _, _, rfl, by rw [hrl]; exact hst.symm⟩
      generalize sS (L ++ SS ++ W) = Y4 at *
      generalize sS (L ++ SS) = Y2 at *
      generalize sS W = Z1 at *
      simp [hsh, d2]
      exact fin _ rfl
    by_cases hn : L = []
    · rw [decide_eq_true hn] at heq
      rw [if_pos hn] at hSS
      by_cases hneg : z < 0
      · rw [if_pos hneg] at hSS
        rw [hn, hSS, List.nil_append, ← l_mi] at go
        clear hK
        generalize sS L = Y2 at *
        simp [heq, hneg]
        exact go
      · rw [if_neg hneg] at hSS
        rw [hn, hSS, List.nil_append, ← l_e] at go
        clear hK
        generalize sS L = Y2 at *
        simp [heq, hneg]
        exact go
    · rw [decide_eq_false hn] at heq
      rw [if_neg hn] at hSS
      by_cases hneg : z < 0
      · rw [if_pos hneg] at hSS
        rw [hSS] at go
        have d1 : dAdd (.str (sS L)) (.str (Str.ofString " - ")) = some (.st (.str (sS (L ++ [32, 45, 32])))) := by rw [l_sm]; exact p_addT (by simp; omega)
        clear hK
        generalize sS (L ++ [32, 45, 32]) = Y3 at *
        generalize sS L = Y2 at *
        simp [heq, hneg, d1]
        exact go
      · rw [if_neg hneg] at hSS
        rw [hSS] at go
        have d1 : dAdd (.str (sS L)) (.str (Str.ofString " + ")) = some (.st (.str (sS (L ++ [32, 43, 32])))) := by rw [l_sp]; exact p_addT (by simp; omega)
        clear hK
        generalize sS (L ++ [32, 43, 32]) = Y3 at *
        generalize sS L = Y2 at *
        simp [heq, hneg, d1]
        exact go
  · rintro _ ⟨L, _, _, rfl, hL⟩
    refine hK _ ?_
    clear hK K
    have hT : Tb (100 * m.length) L := by rw [hL]; exact tb_esR hent m.length (Nat.le_refl _)
    have hTp : Pl L := hT.pl (by omega)
    have heq : dEq (.str (sS L)) (.str (Str.ofString "")) = some (.st (.bl (decide (L = [])))) := by rw [l_e, p_eqT hTp pl_nil]
    have es : shw m = if L = [] then [48] else L := by unfold shw txZ; rw [← hL]
    rw [es]
    by_cases hn : L = []
    · rw [if_pos hn]
      rw [decide_eq_true hn] at heq
      have h0 := l_0
      generalize sS [48] = X0 at *
      generalize sS L = X at *
      simp [heq, h0]
    · rw [if_neg hn]
      rw [decide_eq_false hn] at heq
      generalize sS L = X at *
      simp [heq]
/-- what is too great is refused -/
theorem d_shown_bad {l : List Int} (hl : l.length ≤ 100000) (hb : 12 < (tr l).length ∨ ∃ x ∈ tr l, 10 ^ 60 ≤ x.natAbs) : d_P_shown [il l] = .ex tooG := by
  have ht := d_trimmed l (by omega)
  unfold d_P_shown runD
  refine run_of ?_
  unfold b_P_shown
  generalize tr l = m at *
  refine wq_seq fun K hK => ?_
  simp [ht]
  refine hK _ ?_
  clear hK K
  refine wq_seq fun K hK => ?_
  by_cases h12 : 12 < m.length
  · have g12 : (12 : Int) < m.length := by omega
    simp [g12, tooG]
  have g12 : ¬ (12 : Int) < m.length := by omega
  obtain ⟨y, hy, hyb⟩ := hb.resolve_left h12
  rw [e60] at hyb
  simp [g12]
  refine hK _ ?_
  clear hK K
  refine wq_seq fun K hK => ?_
  simp
  refine wv_ints [2] (fun d xs => (∃ a, xs = [a]) ∧ ∀ x ∈ d, x.natAbs < 1000000000000000000000000000000000000000000000000000000000000) ⟨⟨_, rfl⟩, fun x hx => by cases hx⟩ ?_ ?_
  · rintro J d a rest _ e ⟨⟨_, rfl⟩, hd⟩ hJ
    simp only [p_gN, gP_some]
    by_cases ha : a.natAbs < 1000000000000000000000000000000000000000000000000000000000000
    · have g : ¬ (1000000000000000000000000000000000000000000000000000000000000 : Int) ≤ (a.natAbs : Int) := by omega
      simp (disch := omega) [p_pow, g]
      refine hJ [_] ⟨⟨_, rfl⟩, fun x hx => ?_⟩
      rcases List.mem_append.mp hx with z | z
      · exact hd x z
      · rw [List.mem_singleton.mp z]; exact ha
    · have g : (1000000000000000000000000000000000000000000000000000000000000 : Int) ≤ (a.natAbs : Int) := by omega
      simp (disch := omega) [p_pow, g, tooG]
  · rintro _ ⟨⟨_, rfl⟩, hd⟩
    have := hd y hy
    omega
end RF

set_option Elab.async false
set_option linter.all false
set_option maxRecDepth 100000
set_option autoImplicit false
/-! the texts of law k82 -/
namespace RF
open PySem PySem.Spec L2 RF.M
/-- the number by a cell -/
def vT (c : Int) : Nat := (1 + c / 5 % 999999999999999999999999999999999999999999999999999999999999).toNat
theorem vT_eq (c : Int) : ((vT c : Nat) : Int) = 1 + c / 5 % 999999999999999999999999999999999999999999999999999999999999 := by
  have := Int.emod_nonneg (c / 5) (show (999999999999999999999999999999999999999999999999999999999999 : Int) ≠ 0 by decide)
  unfold vT
  omega
theorem vT_pos (c : Int) : 1 ≤ vT c := by
  have := vT_eq c
  have := Int.emod_nonneg (c / 5) (show (999999999999999999999999999999999999999999999999999999999999 : Int) ≠ 0 by decide)
  omega
theorem vT_lt (c : Int) : vT c < 10 ^ 60 := by
  have := vT_eq c
  have := Int.emod_lt_of_pos (c / 5) (show (0 : Int) < 999999999999999999999999999999999999999999999999999999999999 by decide)
  rw [e60]
  omega
def mT (c : Int) (p : Nat) : Nat := if c % 5 = 3 ∨ (c % 5 = 4 ∧ 0 < p) then 1 else vT c
theorem mT_pos (c : Int) (p : Nat) : 1 ≤ mT c p := by
  unfold mT
  split
  · exact Nat.le_refl _
  · exact vT_pos c
theorem mT_lt (c : Int) (p : Nat) : mT c p < 10 ^ 60 := by
  unfold mT
  split
  · decide
  · exact vT_lt c
/-- a count's word -/
def w0T (c : Int) : List Nat := if c % 5 = 3 then [49] else TL.numL (vT c)
def w1T (c : Int) (p : Nat) (pl : Bool) : List Nat := if (c % 5 = 4 ∧ 0 < p) ∨ (pl = true ∧ w0T c = [49] ∧ 0 < p) then [] else w0T c
def wT (c : Int) (p : Nat) (pl : Bool) : List Nat := w1T c p pl ++ tl1 p
theorem num_1 : TL.numL 1 = [49] := TL.numL_lt (by decide)
theorem w0T_one (c : Int) : w0T c = [49] ↔ c % 5 = 3 ∨ vT c = 1 := by
  unfold w0T
  by_cases h : c % 5 = 3
  · rw [if_pos h]
    exact ⟨fun _ => .inl h, fun _ => rfl⟩
  · rw [if_neg h, ← num_1]
    exact ⟨fun z => .inr (TL.numL_inj z), fun z => by rw [z.resolve_left h]⟩
theorem wT_wd (c : Int) {p : Nat} (pl : Bool) (hp : p < 12) : Wd (wT c p pl) (mT c p) p := by
  have num := wd_num (mT_pos c p) (mT_lt c p) hp
  unfold wT w1T
  by_cases h1 : (c % 5 = 4 ∧ 0 < p) ∨ (pl = true ∧ w0T c = [49] ∧ 0 < p)
  · rw [if_pos h1, List.nil_append]
    have e : mT c p = 1 := by
      unfold mT
      rcases h1 with h | ⟨_, h, hp0⟩
      · rw [if_pos (.inr h)]
      · rcases (w0T_one c).mp h with z | z
        · rw [if_pos (.inl z)]
        · rw [z]
          split <;> rfl
    rw [e]
    exact wd_x (by omega) hp
  · rw [if_neg h1]
    have e : w0T c = TL.numL (mT c p) := by
      unfold w0T mT
      by_cases h : c % 5 = 3
      · rw [if_pos h, if_pos (.inl h), num_1]
      · rw [if_neg h, if_neg fun z => z.elim h fun y => h1 (.inl y)]
    rw [e]
    exact num
/-- without counts of 1: the program's word -/
theorem wT_plain (c : Int) (p : Nat) : wT c p true = tw1 (mT c p) p := by
  rw [tw1_eq]
  unfold wT
  congr 1
  unfold w1T
  by_cases h0 : p = 0
  · subst h0
    rw [if_neg (by simp), if_pos (.inr rfl)]
    unfold w0T mT
    by_cases h : c % 5 = 3
    · rw [if_pos h, if_pos (.inl h), num_1]
    · rw [if_neg h, if_neg fun z => z.elim h fun y => by omega]
  · by_cases h4 : c % 5 = 4
    · rw [if_pos (.inl ⟨h4, by omega⟩)]
      have e : mT c p = 1 := if_pos (.inr ⟨h4, by omega⟩)
      rw [e, if_neg (by omega)]
    · by_cases h1 : w0T c = [49]
      · rw [if_pos (.inr ⟨rfl, h1, by omega⟩)]
        have e : mT c p = 1 := by
          unfold mT
          rcases (w0T_one c).mp h1 with z | z
          · rw [if_pos (.inl z)]
          · rw [z]
            split <;> rfl
        rw [e, if_neg (by omega)]
      · rw [if_neg fun z => z.elim (fun y => h4 y.1) fun y => h1 y.2.1]
        have h3 : ¬ c % 5 = 3 := fun z => h1 ((w0T_one c).mpr (.inl z))
        have hv : vT c ≠ 1 := fun z => h1 ((w0T_one c).mpr (.inr z))
        have hv1 := vT_pos c
        have e : mT c p = vT c := if_neg fun z => z.elim h3 fun y => h4 y.1
        rw [e, if_pos (.inl (by omega))]
        exact if_neg h3
theorem l_1 : Str.ofString "1" = sS [49] := lit_S _ _ rfl
theorem w0T_tb (c : Int) : Tb 60 (w0T c) := by
  unfold w0T
  split
  · exact tb_by (by decide) (by decide)
  · exact numL_tb (by decide) (vT_lt c)
theorem d_Lterm (c : Int) {p : Nat} (pl : Bool) (hp : p < 12) : d_L_term [.int c, .int (p : Nat), .bl pl] = .ok (.st (.str (sS (wT c p pl)))) := by
  have hv := vT_eq c
  have hvl := vT_lt c
  have hstr := p_strN (n := vT c) (Nat.lt_of_lt_of_le hvl (by decide))
  rw [hv] at hstr
  unfold d_L_term runD
  refine run_of ?_
  unfold b_L_term
  refine wq_seq fun K hK => ?_
  have go0 : K [.val (.int c), .val (.int (p : Nat)), .val (.bl pl), .val (.str (sS (TL.numL (vT c))))] := by
    refine hK _ ?_
    clear hK K
    have hw0 : w0T c = if c % 5 = 3 then [49] else TL.numL (vT c) := rfl
    have hT0 := w0T_tb c
    refine wq_seq fun K hK => ?_
    have go1 : K [.val (.int c), .val (.int (p : Nat)), .val (.bl pl), .val (.str (sS (w0T c)))] := by
      refine hK _ ?_
      clear hK K
      have hw1 : w1T c p pl = if (c % 5 = 4 ∧ 0 < p) ∨ (pl = true ∧ w0T c = [49] ∧ 0 < p) then [] else w0T c := rfl
      have hP0 : Pl (w0T c) := hT0.pl (by decide)
      have heq : dEq (.str (sS (w0T c))) (.str (Str.ofString "1")) = some (.st (.bl (decide (w0T c = [49])))) := by rw [l_1, p_eqT hP0 (pl_one (by decide))]
      refine wq_seq fun K hK => ?_
      have go2 : K [.val (.int c), .val (.int (p : Nat)), .val (.bl pl), .val (.str (sS (w1T c p pl)))] := by
        refine hK _ ?_
        clear hK K
        have hl1 : (w1T c p pl).length ≤ 60 := by
          rw [hw1]
          split
          · simp
          · exact hT0.len
        have hst := p_strN (n := p) (by omega)
        have hnl := TL.numL_len (n := p) (k := 2) (by decide) (by omega)
        have d5 : dAdd (.str (Str.ofString "x^")) (.str (sS (TL.numL p))) = some (.st (.str (sS ([120, 94] ++ TL.numL p)))) := by rw [l_xh]; exact p_addT (by simp; omega)
        have u1 : ∀ X, atI [D.str (Str.ofString ""), D.str (Str.ofString "x"), D.str X] 0 = some (.str (sS [])) := fun X => by rw [← l_e]; rfl
        have u2 : ∀ X, atI [D.str (Str.ofString ""), D.str (Str.ofString "x"), D.str X] 1 = some (.str (sS [120])) := fun X => by rw [← l_x]; rfl
        have u3 : ∀ X, atI [D.str (Str.ofString ""), D.str (Str.ofString "x"), D.str X] 2 = some (.str X) := fun X => rfl
        have et : tl1 p = if p = 0 then [] else if p = 1 then [120] else [120, 94] ++ TL.numL p := rfl
        have d6 := p_addT (a := w1T c p pl) (b := tl1 p) (by have := tl1_len hp; omega)
        have ew : wT c p pl = w1T c p pl ++ tl1 p := rfl
        rw [ew]
        generalize sS (w1T c p pl ++ tl1 p) = Y0 at *
        rw [et] at d6
        clear hstr hv hvl hw1 hw0 heq et ew
        generalize sS (w1T c p pl) = Y3 at *
        have hm3 : p = 0 ∨ p = 1 ∨ 2 ≤ p := by omega
        rcases hm3 with hm | hm | hm
        · rw [if_pos hm] at d6
          have hmm : min (p : Int) 2 = 0 := by omega
          generalize sS ([120, 94] ++ TL.numL p) = Y1 at *
          generalize sS (TL.numL p) = Y2 at *
          generalize sS [] = Y5 at *
          simp [hst, d5, hmm, u1, d6]
        · rw [if_neg (by omega), if_pos hm] at d6
          have hmm : min (p : Int) 2 = 1 := by omega
          generalize sS ([120, 94] ++ TL.numL p) = Y1 at *
          generalize sS (TL.numL p) = Y2 at *
          generalize sS [120] = Y5 at *
          simp [hst, d5, hmm, u2, d6]
        · rw [if_neg (by omega), if_neg (by omega)] at d6
          have hmm : min (p : Int) 2 = 2 := by omega
          generalize sS ([120, 94] ++ TL.numL p) = Y1 at *
          generalize sS (TL.numL p) = Y2 at *
          simp [hst, d5, hmm, u3, d6]
      rw [hw1] at go2
      clear hK hstr hv hvl hw1 hw0
      by_cases hp0 : 0 < p
      · have hp0' : (0 : Int) < (p : Int) := by omega
        by_cases h4 : c % 5 = 4
        · rw [if_pos (.inl ⟨h4, hp0⟩), ← l_e] at go2
          generalize sS (w0T c) = Y1 at *
          simp (disch := omega) [p_mod, h4, hp0, hp0']
          exact go2
        · cases pl with
          | false =>
            rw [if_neg (by simp [h4])] at go2
            generalize sS (w0T c) = Y1 at *
            simp (disch := omega) [p_mod, h4, hp0, hp0']
            exact go2
          | true =>
            by_cases h1 : w0T c = [49]
            · rw [if_pos (.inr ⟨rfl, h1, hp0⟩), ← l_e] at go2
              rw [decide_eq_true h1] at heq
              generalize sS (w0T c) = Y1 at *
              simp (disch := omega) [p_mod, h4, hp0, hp0', heq]
              exact go2
            · rw [if_neg (by simp [h4, h1])] at go2
              rw [decide_eq_false h1] at heq
              generalize sS (w0T c) = Y1 at *
              simp (disch := omega) [p_mod, h4, hp0, hp0', heq]
              exact go2
      · have hp0' : ¬ (0 : Int) < (p : Int) := by omega
        rw [if_neg (by simp [hp0])] at go2
        have hp00 : p = 0 := by omega
        cases pl with
        | false =>
          generalize sS (w0T c) = Y1 at *
          by_cases h4 : c % 5 = 4
          · simp (disch := omega) [p_mod, h4, hp0, hp0', hp00]
            simp [hp00] at go2
            exact go2
          · simp (disch := omega) [p_mod, h4, hp0, hp0', hp00]
            simp [hp00] at go2
            exact go2
        | true =>
          by_cases h1 : w0T c = [49]
          · rw [decide_eq_true h1] at heq
            generalize sS (w0T c) = Y1 at *
            by_cases h4 : c % 5 = 4
            · simp (disch := omega) [p_mod, h4, hp0, hp0', hp00, heq]
              simp [hp00] at go2
              exact go2
            · simp (disch := omega) [p_mod, h4, hp0, hp0', hp00, heq]
              simp [hp00] at go2
              exact go2
          · rw [decide_eq_false h1] at heq
            generalize sS (w0T c) = Y1 at *
            by_cases h4 : c % 5 = 4
            · simp (disch := omega) [p_mod, h4, hp0, hp0', hp00, heq]
              simp [hp00] at go2
              exact go2
            · simp (disch := omega) [p_mod, h4, hp0, hp0', hp00, heq]
              simp [hp00] at go2
              exact go2
    rw [hw0] at go1
    clear hK hstr hv hvl
    by_cases h3 : c % 5 = 3
    · rw [if_pos h3, ← l_1] at go1
      generalize sS (TL.numL (vT c)) = Y1 at *
      simp (disch := omega) [p_mod, h3]
      exact go1
    · rw [if_neg h3] at go1
      generalize sS (TL.numL (vT c)) = Y1 at *
      simp (disch := omega) [p_mod, h3]
      exact go1
  generalize sS (TL.numL (vT c)) = Y1 at *
  simp (disch := omega) [p_mod, p_div, p_pow, hstr]
  exact go0
/-- the entry by a cell -/
def hT (ns : List Int) (pl : Bool) (p : Nat) : Option (Bool × List Nat) := if 0 < gi ns (11 - p) % 5 then some (decide (gi ns (11 - p) / 5 % 2 = 1), wT (gi ns (11 - p)) p pl) else none
def uT (ns : List Int) (p : Nat) : Int := if 0 < gi ns (11 - p) % 5 then (if gi ns (11 - p) / 5 % 2 = 1 then -(mT (gi ns (11 - p)) p : Int) else mT (gi ns (11 - p)) p) else 0
theorem ent_T (ns : List Int) (pl : Bool) {p : Nat} (hp : p < 12) : Ent (hT ns pl) (uT ns) p := by
  unfold Ent hT uT
  by_cases h : 0 < gi ns (11 - p) % 5
  · rw [if_pos h, if_pos h]
    refine .inr ⟨_, _, mT (gi ns (11 - p)) p, rfl, wT_wd _ pl hp, ?_⟩
    by_cases h2 : gi ns (11 - p) / 5 % 2 = 1
    · rw [if_pos h2, decide_eq_true h2, if_pos rfl]
    · rw [if_neg h2, decide_eq_false h2]
      rfl
  · rw [if_neg h, if_neg h]
    exact .inl ⟨rfl, rfl⟩
def dT (ns : List Int) : List Int := (List.range 12).map (uT ns)
theorem gi_dT (ns : List Int) (p : Nat) : gi (dT ns) p = if p < 12 then uT ns p else 0 := by
  unfold gi dT
  rw [List.getD_eq_getElem?_getD, List.getElem?_map]
  by_cases h : p < 12
  · rw [if_pos h, List.getElem?_range h]
    rfl
  · rw [if_neg h, List.getElem?_eq_none (by simp; omega)]
    rfl
theorem dT_len (ns : List Int) : (dT ns).length = 12 := by unfold dT; simp
theorem dT_abs (ns : List Int) : ∀ x ∈ dT ns, x.natAbs < 10 ^ 60 := fun x hx => by
  unfold dT at hx
  obtain ⟨p, hp, rfl⟩ := List.mem_map.mp hx
  have := mT_lt (gi ns (11 - p)) p
  unfold uT
  split
  · split <;> omega
  · decide
def txT (ns : List Int) (pl : Bool) : List Nat := txZ (esR (hT ns pl) 12 12)
theorem txT_read (ns : List Int) (pl : Bool) : rdO (txT ns pl) = some (tr (dT ns)) := rdO_esR (Nat.le_refl _) (fun p hp => ent_T ns pl hp) (gi_dT ns)
theorem txT_plain (ns : List Int) : txT ns true = shw (tr (dT ns)) := shw_of (by rw [dT_len]; exact Nat.le_refl _) fun p hp => by
  have hm := mT_pos (gi ns (11 - p)) p
  have e : hS (dT ns) p = if uT ns p = 0 then none else some (decide (uT ns p < 0), tw1 (uT ns p).natAbs p) := by
    unfold hS
    rw [gi_dT, if_pos hp]
  rw [e]
  unfold hT uT
  by_cases h : 0 < gi ns (11 - p) % 5
  · rw [if_pos h, if_pos h, wT_plain]
    by_cases h2 : gi ns (11 - p) / 5 % 2 = 1
    · rw [if_pos h2, if_neg (by omega), decide_eq_true h2, decide_eq_true (by omega), Int.natAbs_neg, Int.natAbs_natCast]
    · rw [if_neg h2, if_neg (by omega), decide_eq_false h2, decide_eq_false (by omega), Int.natAbs_natCast]
  · rw [if_neg h, if_neg h, if_pos rfl]
theorem txT_tb (ns : List Int) (pl : Bool) : Tb 1300 (txT ns pl) := tb_txZ ((tb_esR (fun p hp => ent_T ns pl hp) 12 (Nat.le_refl _)).mono (by decide)) (by decide)
theorem d_Ltext (ns : List Int) (pl : Bool) : d_L_text [il ns, .bl pl] = .ok (.st (.str (sS (txT ns pl)))) := by
  have hent : ∀ p, p < 12 → Ent (hT ns pl) (uT ns) p := fun p hp => ent_T ns pl hp
  unfold d_L_text runD
  refine run_of ?_
  unfold b_L_text
  refine wq_seq fun K hK => ?_
  simp
  refine hK _ ?_
  clear hK K
  refine wq_seq fun K hK => ?_
  simp (disch := omega) [p_rng1]
  refine wv_rng [2, 3, 4, 5] (fun i xs => ∃ (L : List Nat) (a b c : Sl), xs = [.val (.str (sS L)), a, b, c] ∧ L = txE (esR (hT ns pl) 12 i)) ⟨[], _, _, _, by rw [← l_e]; rfl, rfl⟩ ?_ ?_
  · rintro J i _ hi ⟨L, a1, a2, a3, rfl, hL⟩ hJ
    have hT' : Tb (100 * i) L := by rw [hL]; exact tb_esR hent i (by omega)
    have hTl := hT'.len
    have hTp : Pl L := hT'.pl (by omega)
    have heq : dEq (.str (sS L)) (.str (Str.ofString "")) = some (.st (.bl (decide (L = [])))) := by rw [l_e, p_eqT hTp pl_nil]
    have hat := d_at1 ns (i : Int) (by omega)
    rw [Int.toNat_natCast] at hat
    have ei : 11 - (12 - 1 - i) = i := by omega
    have hhT : hT ns pl (12 - 1 - i) = if 0 < gi ns i % 5 then some (decide (gi ns i / 5 % 2 = 1), wT (gi ns i) (12 - 1 - i) pl) else none := by
      unfold hT
      rw [ei]
    have hno := fun h => esR_none (h := hT ns pl) (N := 12) (i := i) h
    have hso := fun e h => esR_some (h := hT ns pl) (N := 12) (i := i) (e := e) h
    have hpw12 : 12 - 1 - i < 12 := by omega
    have hpw : (11 : Int) - i = ((12 - 1 - i : Nat) : Int) := by omega
    have htm := d_Lterm (gi ns i) pl hpw12
    have hwl := (wT_wd (gi ns i) pl hpw12).len
    generalize 12 - 1 - i = pw0 at *
    generalize wT (gi ns i) pw0 pl = W at *
    generalize gi ns i = z at *
    simp only [p_gN, gP_some]
    refine wq_seq fun K hK => ?_
    simp [hat]
    refine hK _ ?_
    clear hK K
    by_cases hz : 0 < z % 5
    · rw [if_pos hz] at hhT
      have hnx := hso _ hhT
      have t1 : atI [D.str (Str.ofString " + "), D.str (Str.ofString " - ")] 0 = some (.str (sS [32, 43, 32])) := by rw [← l_sp]; rfl
      have t2 : atI [D.str (Str.ofString " + "), D.str (Str.ofString " - ")] 1 = some (.str (sS [32, 45, 32])) := by rw [← l_sm]; rfl
      have t3 : atI [D.str (Str.ofString ""), D.str (Str.ofString "-")] 0 = some (.str (sS [])) := by rw [← l_e]; rfl
      have t4 : atI [D.str (Str.ofString ""), D.str (Str.ofString "-")] 1 = some (.str (sS [45])) := by rw [← l_mi]; rfl
      obtain ⟨SS, hSS⟩ : ∃ S : List Nat, S = if L = [] then (if z / 5 % 2 = 1 then [45] else []) else (if z / 5 % 2 = 1 then [32, 45, 32] else [32, 43, 32]) := ⟨_, rfl⟩
      have hSl : SS.length ≤ 3 := by
        rw [hSS]
        split
        · split <;> simp
        · split <;> simp
      have hst : txE (esR (hT ns pl) 12 (i + 1)) = L ++ SS ++ W := by
        rw [hnx, txE_snoc, ← hL]
        show stp L (decide (z / 5 % 2 = 1)) W = _
        unfold stp
        rw [hSS]
        simp only [decide_eq_true_eq]
      have hc : (cV (e2 dGt (e2 dMod (eV 4) (eC (.int 5))) (eC (.int 0)))) [.val (il ns), .val (.bl pl), .val (.str (sS L)), .val (.int (i : Nat)), .val (.int z), a3] = .ok true := by
        simp (disch := omega) [p_mod, hz]
      rw [p_sif, hc, toS_ok, if_pos rfl]
      refine wq_seq fun K hK => ?_
      have go : ∀ S, (¬ L = [] → S = SS) → K [.val (il ns), .val (.bl pl), .val (.str (sS L)), .val (.int (i : Nat)), .val (.int z), .val (.str (sS S))] := by
        intro S hS
        refine hK _ ?_
        clear hK K
        refine wq_seq fun K hK => ?_
        have go2 : K [.val (il ns), .val (.bl pl), .val (.str (sS L)), .val (.int (i : Nat)), .val (.int z), .val (.str (sS SS))] := by
          refine hK _ ?_
          clear hK K
          have d1 := p_addT (a := L) (b := SS) (by omega)
          have d2 := p_addT (a := L ++ SS) (b := W) (by rw [List.length_append]; omega)
          have fin : ∀ X, X = sS (L ++ SS ++ W) → J [.val (il ns), .val (.bl pl), .val (.str X), .val (.int (i : Nat)), .val (.int z), .val (.str (sS SS))] := fun X hX => by
            subst hX
            exact hJ [_, _, _, _] ⟨_, _, _, _, rfl, hst.symm⟩
          generalize sS (L ++ SS ++ W) = Y4 at *
          generalize sS (L ++ SS) = Y2 at *
          generalize sS W = Z1 at *
          generalize sS SS = Z3 at *
          generalize sS L = Z4 at *
          simp [hpw, htm, d1, d2]
          exact fin _ rfl
        by_cases hn : L = []
        · rw [decide_eq_true hn] at heq
          rw [if_pos hn] at hSS
          by_cases hneg : z / 5 % 2 = 1
          · rw [if_pos hneg] at hSS
            rw [hSS] at go2
            clear hK
            generalize sS [45] = Y1 at *
            generalize sS L = Y2 at *
            simp (disch := omega) [heq, p_mod, p_div, hneg, t4]
            exact go2
          · rw [if_neg hneg] at hSS
            rw [hSS] at go2
            have h0 : z / 5 % 2 = 0 := by omega
            clear hK
            generalize sS [] = Y1 at *
            generalize sS L = Y2 at *
            simp (disch := omega) [heq, p_mod, p_div, h0, t3]
            exact go2
        · rw [decide_eq_false hn] at heq
          rw [hS hn]
          clear hK
          generalize sS L = Y2 at *
          simp [heq]
          exact go2
      by_cases hneg : z / 5 % 2 = 1
      · have g := go [32, 45, 32] fun hn => by rw [hSS, if_neg hn, if_pos hneg]
        generalize sS [32, 45, 32] = Y1 at *
        generalize sS L = Y2 at *
        simp (disch := omega) [p_mod, p_div, hneg, t2]
        exact g
      · have h0 : z / 5 % 2 = 0 := by omega
        have g := go [32, 43, 32] fun hn => by rw [hSS, if_neg hn, if_neg hneg]
        generalize sS [32, 43, 32] = Y1 at *
        generalize sS L = Y2 at *
        simp (disch := omega) [p_mod, p_div, h0, t1]
        exact g
    · rw [if_neg hz] at hhT
      simp (disch := omega) [p_mod, hz]
      exact hJ [_, _, _, _] ⟨L, _, _, _, rfl, by rw [hno hhT]; exact hL⟩
  · rintro _ ⟨L, _, _, _, rfl, hL⟩
    refine hK _ ?_
    clear hK K
    have hL : L = txE (esR (hT ns pl) 12 12) := hL
    have hT' : Tb (100 * 12) L := by rw [hL]; exact tb_esR hent 12 (Nat.le_refl _)
    have hTp : Pl L := hT'.pl (by omega)
    have heq : dEq (.str (sS L)) (.str (Str.ofString "")) = some (.st (.bl (decide (L = [])))) := by rw [l_e, p_eqT hTp pl_nil]
    have es : txT ns pl = if L = [] then [48] else L := by unfold txT txZ; rw [← hL]
    rw [es]
    by_cases hn : L = []
    · rw [if_pos hn]
      rw [decide_eq_true hn] at heq
      have h0 := l_0
      generalize sS [48] = X0 at *
      generalize sS L = X at *
      refine wq_seq fun K hK => ?_
      simp [heq, h0]
    · rw [if_neg hn]
      rw [decide_eq_false hn] at heq
      generalize sS L = X at *
      refine wq_seq fun K hK => ?_
      simp [heq]
      refine hK _ ?_
      simp
theorem d_Ldue (ns : List Int) : d_L_due9 [il ns] = .ok (.fr (nl (tr (dT ns)))) := by
  have htr := d_Ltrimmed (dT ns) (by rw [dT_len]; decide)
  unfold d_L_due9 runD
  refine run_of ?_
  unfold b_L_due9
  refine wq_seq fun K hK => ?_
  simp
  refine hK _ ?_
  clear hK K
  refine wq_seq fun K hK => ?_
  simp (disch := omega) [p_rng1]
  refine wv_rng [1, 2, 3, 4] (fun i xs => ∃ (a b c : Sl), xs = [.own (nl ((List.range i).map (uT ns))), a, b, c]) ⟨_, _, _, rfl⟩ ?_ ?_
  · rintro J i _ hi ⟨a1, a2, a3, rfl⟩ hJ
    have hi : i < 12 := hi
    have hpw : (11 : Int) - i = ((11 - i : Nat) : Int) := by omega
    have hat := d_at1 ns ((11 - i : Nat) : Int) (by omega)
    rw [Int.toNat_natCast] at hat
    have hu : uT ns i = if 0 < gi ns (11 - i) % 5 then (if gi ns (11 - i) / 5 % 2 = 1 then -(mT (gi ns (11 - i)) i : Int) else mT (gi ns (11 - i)) i) else 0 := rfl
    have hfl : ((List.range i).map (uT ns)).length = i := by simp
    have hsn : (List.range (i + 1)).map (uT ns) = (List.range i).map (uT ns) ++ [uT ns i] := by rw [List.range_succ, List.map_append]; rfl
    rw [hsn] at hJ
    generalize uT ns i = uu at *
    generalize (List.range i).map (uT ns) = f at *
    generalize gi ns (11 - i) = z at *
    generalize 11 - i = pw0 at *
    have hv := vT_eq z
    simp only [p_gN, gP_some]
    refine wq_seq fun K hK => ?_
    simp [hpw, hat]
    refine hK _ ?_
    clear hK K
    refine wq_seq fun K hK => ?_
    have go0 : K [.val (il ns), .own (nl f), .val (.int (i : Nat)), .val (.int z), .val (.int (vT z : Nat))] := by
      refine hK _ ?_
      clear hK K
      refine wq_seq fun K hK => ?_
      have go1 : K [.val (il ns), .own (nl f), .val (.int (i : Nat)), .val (.int z), .val (.int (mT z i : Nat))] := by
        refine hK _ ?_
        clear hK K
        generalize mT z i = m at *
        have hfl2 : f.length < 100000 := by omega
        have b0 : atI (nl [(m : Int), -(m : Int)]) 0 = some (.int (m : Nat)) := by unfold nl; rfl
        have b1 : atI (nl [(m : Int), -(m : Int)]) 1 = some (.int (-(m : Nat))) := by unfold nl; rfl
        have k1 : ∀ y : Int, dMul (.int y) (.int 1) = some (.st (.int (y * 1))) := fun y => p_mul (Sm.okR (by unfold Sm; decide))
        have k0 : ∀ y : Int, dMul (.int y) (.int 0) = some (.st (.int (y * 0))) := fun y => p_mul (Sm.okR (by unfold Sm; decide))
        have fin : J [.val (il ns), .own (nl (f ++ [uu])), .val (.int (i : Nat)), .val (.int z), .val (.int (m : Nat))] := hJ [_, _, _, _] ⟨_, _, _, rfl⟩
        rw [hu] at fin
        have hz2 : z / 5 % 2 = 0 ∨ z / 5 % 2 = 1 := by omega
        by_cases hz : 0 < z % 5
        · rw [if_pos hz] at fin
          rcases hz2 with h2 | h2
          · rw [if_neg (by omega)] at fin
            simp (disch := omega) [p_mod, p_div, hz, h2, b0, k1, hfl2]
            exact fin
          · rw [if_pos h2] at fin
            simp (disch := omega) [p_mod, p_div, hz, h2, b1, k1, hfl2]
            exact fin
        · rw [if_neg hz] at fin
          rcases hz2 with h2 | h2
          · simp (disch := omega) [p_mod, p_div, hz, h2, b0, k0, hfl2]
            exact fin
          · simp (disch := omega) [p_mod, p_div, hz, h2, b1, k0, hfl2]
            exact fin
      unfold mT at go1
      clear hK hv hu
      generalize vT z = v at *
      by_cases h3 : z % 5 = 3
      · rw [if_pos (.inl h3)] at go1
        simp (disch := omega) [p_mod, h3]
        exact go1
      · by_cases h4 : z % 5 = 4
        · by_cases hi0 : 0 < i
          · have hi0' : (0 : Int) < (i : Int) := by omega
            rw [if_pos (.inr ⟨h4, hi0⟩)] at go1
            simp (disch := omega) [p_mod, h3, h4, hi0, hi0']
            exact go1
          · have hi00 : i = 0 := by omega
            subst hi00
            rw [if_neg (by simp [h3])] at go1
            simp (disch := omega) [p_mod, h3, h4]
            exact go1
        · rw [if_neg (by simp [h3, h4])] at go1
          simp (disch := omega) [p_mod, h3, h4]
          exact go1
    rw [hv] at go0
    simp (disch := omega) [p_mod, p_div, p_pow]
    exact go0
  · rintro _ ⟨_, _, _, rfl⟩
    refine hK _ ?_
    clear hK K
    have e : (List.range 12).map (uT ns) = dT ns := rfl
    have e' : (List.range (Int.toNat 12)).map (uT ns) = dT ns := rfl
    first
      | rw [e]
      | rw [e']
    generalize dT ns = d at *
    simp [htr]
end RF

set_option Elab.async false
set_option linter.all false
set_option maxRecDepth 100000
set_option autoImplicit false
namespace RF
open PySem PySem.Spec L2 RF.M
theorem law_k82 (ns : List Int) (hn : ns.length ≤ 63) : d_law40 [il ns] = .ok (.st (.bl true)) := by
  have hx1 := d_Ltext ns false
  have hx2 := d_Ltext ns true
  have hdue := d_Ldue ns
  have hP1 : Pl (txT ns false) := (txT_tb ns false).pl (by decide)
  have hP2 : Pl (txT ns true) := (txT_tb ns true).pl (by decide)
  have hrd := d_read hP1
  rw [txT_read] at hrd
  have hrd : d_P_read [.str (sS (txT ns false))] = .ok (.fr (nl (tr (dT ns)))) := hrd
  have htt : tr (tr (dT ns)) = tr (dT ns) := tr_of (tr_tr _)
  have htl := tr_length (dT ns)
  rw [dT_len] at htl
  have hsh := d_shown (l := tr (dT ns)) (by omega) (by rw [htt]; exact htl) fun x hx => by
    rw [htt] at hx
    exact dT_abs ns x (tr_mem x hx)
  rw [htt, ← txT_plain] at hsh
  have hsame := d_same (tr (dT ns)) (tr (dT ns)) (by omega)
  rw [decide_eq_true rfl] at hsame
  have hne := p_neT hP2 hP2
  rw [decide_eq_true rfl] at hne
  have heq := p_eqT hP2 hP2
  rw [decide_eq_true rfl] at heq
  generalize tr (dT ns) = d at *
  generalize sS (txT ns false) = X1 at *
  generalize sS (txT ns true) = X2 at *
  have hdl : d.length < 100000 := by omega
  unfold d_law40 runD
  refine run_of ?_
  unfold b_law40
  refine wq_seq fun K hK => ?_
  simp [hx1]
  refine hK _ ?_
  clear hK K
  refine wq_seq fun K hK => ?_
  simp [hdue]
  refine hK _ ?_
  clear hK K
  refine wq_seq fun K hK => ?_
  simp [hrd]
  refine hK _ ?_
  clear hK K
  refine wq_seq fun K hK => ?_
  simp [hsame]
  refine hK _ ?_
  clear hK K
  refine wq_seq fun K hK => ?_
  simp [hsh]
  refine hK _ ?_
  clear hK K
  refine wq_seq fun K hK => ?_
  simp [isiD, hx2, hne]
  refine hK _ ?_
  clear hK K
  refine wq_seq fun K hK => ?_
  simp [hdl]
  refine hK _ ?_
  clear hK K
  simp [hrd, hsame, hsh, heq]
end RF

set_option Elab.async false
set_option linter.all false
set_option maxRecDepth 100000
set_option autoImplicit false
set_option maxHeartbeats 0
namespace RF.Wk
open PySem PySem.Spec L2 RF RF.M
def topS (i : Nat) : Stmt := PySem.Challenge.pw_restform_k82_polynomials_read.main.body.getD i (.Pass ⟨0, 0, 0, 0⟩)
abbrev s_trimmed : Stmt := topS 5
abbrev N_trimmed : List Str := ["some", "found"]
theorem sc_trimmed : FnScope N_trimmed ["some"] (defScope s_trimmed) := ⟨rfl, rfl, rfl, by decide +kernel, rfl, by decide +kernel, by decide +kernel⟩
abbrev s_figures_of : Stmt := topS 9
abbrev N_figures_of : List Str := ["word", "most", "sign"]
theorem sc_figures_of : FnScope N_figures_of ["word", "most"] (defScope s_figures_of) := ⟨rfl, rfl, rfl, by decide +kernel, rfl, by decide +kernel, by decide +kernel⟩
abbrev s_power_of : Stmt := topS 10
abbrev N_power_of : List Str := ["tail", "power"]
theorem sc_power_of : FnScope N_power_of ["tail"] (defScope s_power_of) := ⟨rfl, rfl, rfl, by decide +kernel, rfl, by decide +kernel, by decide +kernel⟩
abbrev s_term_of : Stmt := topS 11
abbrev N_term_of : List Str := ["word", "head", "mark", "tail", "count"]
theorem sc_term_of : FnScope N_term_of ["word"] (defScope s_term_of) := ⟨rfl, rfl, rfl, by decide +kernel, rfl, by decide +kernel, by decide +kernel⟩
abbrev s_signed : Stmt := topS 12
abbrev N_signed : List Str := ["words", "k"]
theorem sc_signed : FnScope N_signed ["words", "k"] (defScope s_signed) := ⟨rfl, rfl, rfl, by decide +kernel, rfl, by decide +kernel, by decide +kernel⟩
abbrev s_read : Stmt := topS 13
abbrev N_read : List Str := ["line", "words", "found", "last", "k", "away", "word", "count", "power"]
theorem sc_read : FnScope N_read ["line"] (defScope s_read) := ⟨rfl, rfl, rfl, by decide +kernel, rfl, by decide +kernel, by decide +kernel⟩
abbrev s_shown_term : Stmt := topS 14
abbrev N_shown_term : List Str := ["count", "power", "head"]
theorem sc_shown_term : FnScope N_shown_term ["count", "power"] (defScope s_shown_term) := ⟨rfl, rfl, rfl, by decide +kernel, rfl, by decide +kernel, by decide +kernel⟩
abbrev s_shown : Stmt := topS 15
abbrev N_shown : List Str := ["some", "terms", "number", "found", "power"]
theorem sc_shown : FnScope N_shown ["some"] (defScope s_shown) := ⟨rfl, rfl, rfl, by decide +kernel, rfl, by decide +kernel, by decide +kernel⟩
abbrev s__law_whole : Stmt := topS 17
abbrev N__law_whole : List Str := ["_law_found"]
theorem sc__law_whole : FnScope N__law_whole ["_law_found"] (defScope s__law_whole) := ⟨rfl, rfl, rfl, by decide +kernel, rfl, by decide +kernel, by decide +kernel⟩
abbrev s__law_same : Stmt := topS 18
abbrev N__law_same : List Str := ["_law_found", "_law_due_here", "_law_one"]
theorem sc__law_same : FnScope N__law_same ["_law_found", "_law_due_here"] (defScope s__law_same) := ⟨rfl, rfl, rfl, by decide +kernel, rfl, by decide +kernel, by decide +kernel⟩
abbrev s__law_at : Stmt := topS 19
abbrev N__law_at : List Str := ["_law_script", "_law_k"]
theorem sc__law_at : FnScope N__law_at ["_law_script", "_law_k"] (defScope s__law_at) := ⟨rfl, rfl, rfl, by decide +kernel, rfl, by decide +kernel, by decide +kernel⟩
abbrev s__law_trimmed : Stmt := topS 20
abbrev N__law_trimmed : List Str := ["_law_some", "_law_found"]
theorem sc__law_trimmed : FnScope N__law_trimmed ["_law_some"] (defScope s__law_trimmed) := ⟨rfl, rfl, rfl, by decide +kernel, rfl, by decide +kernel, by decide +kernel⟩
abbrev s__law_term : Stmt := topS 21
abbrev N__law_term : List Str := ["_law_cell", "_law_power", "_law_plain", "_law_word"]
theorem sc__law_term : FnScope N__law_term ["_law_cell", "_law_power", "_law_plain"] (defScope s__law_term) := ⟨rfl, rfl, rfl, by decide +kernel, rfl, by decide +kernel, by decide +kernel⟩
abbrev s__law_text : Stmt := topS 22
abbrev N__law_text : List Str := ["_law_script", "_law_plain", "_law_found", "_law_k", "_law_cell", "_law_sign"]
theorem sc__law_text : FnScope N__law_text ["_law_script", "_law_plain"] (defScope s__law_text) := ⟨rfl, rfl, rfl, by decide +kernel, rfl, by decide +kernel, by decide +kernel⟩
abbrev s__law_due : Stmt := topS 23
abbrev N__law_due : List Str := ["_law_script", "_law_found", "_law_k", "_law_cell", "_law_number"]
theorem sc__law_due : FnScope N__law_due ["_law_script"] (defScope s__law_due) := ⟨rfl, rfl, rfl, by decide +kernel, rfl, by decide +kernel, by decide +kernel⟩
abbrev s_law : Stmt := topS 24
abbrev N_law : List Str := ["_law_script", "_law_line", "_law_due_here", "_law_found", "_law_written"]
theorem sc_law : FnScope N_law ["_law_script"] (defScope s_law) := ⟨rfl, rfl, rfl, by decide +kernel, rfl, by decide +kernel, by decide +kernel⟩
section
variable {P : Program} {w : World} {K : PySem.W.Frag} {mg : Str → Option Value} {base : Heap}
theorem cal_trimmed {f : Addr} {fd : FuncData} (F : Fun K "trimmed" "trimmed" s_trimmed f fd) (mf : mg "trimmed" = some (.ref f)) (bi : Binds K fd ["some"] [])  (z_list : mg "list" = none) (z_len : mg "len" = none)   : Cal P w K mg base 1 "trimmed" 1 d_P_trimmed :=
  ⟨f, fd, _, ok_def (m := b_P_trimmed) F sc_trimmed rfl rfl (fun cdv A outer s H E hr C tk =>
    dss_cons (ds_own 1 C (dx_ct call_list_of ra_list (by rfl) z_list bt_list (da_cons (dx_v 0) (da_nil))))
    (dss_cons (ds_while 1000000 C ((dw_and (dt_gt (dx_cb call_lenA ra_len (by rfl) z_len PySem.boot_len (da_cons (dx_v 1) (da_nil))) (dx_int)) (dw_and1 (dt_eq C.un (dx_ix (dx_v 1) (dx_neg (dx_int))) (dx_int)))).dt) (dss_one (ds_pop 1)))
    (dss_one (ds_ret (dx_v 1))))), mf, F.kp, bi⟩
theorem cal_figures_of {f : Addr} {fd : FuncData} (F : Fun K "figures_of" "figures_of" s_figures_of f fd) (mf : mg "figures_of" = some (.ref f)) (bi : Binds K fd ["word", "most"] [])  (z_len : mg "len" = none) (z_int : mg "int" = none)  (x_NoText : ExF K mg .noText) : Cal P w K mg base 1 "figures_of" 2 d_P_figures_of :=
  ⟨f, fd, _, ok_def (m := b_P_figures_of) F sc_figures_of rfl rfl (fun cdv A outer s H E hr C tk =>
    dss_cons (ds_if ((dw_or (dt_lt (dx_cb call_lenA ra_len (by rfl) z_len PySem.boot_len (da_cons (dx_v 0) (da_nil))) (dx_int)) (dw_or (dt_gt (dx_cb call_lenA ra_len (by rfl) z_len PySem.boot_len (da_cons (dx_v 0) (da_nil))) (dx_v 1)) (dw_or1 (dt_eq C.un (dx_ix (dx_v 0) (dx_int)) (dx_str))))).dt) (dss_one (ds_raise .noText C tk x_NoText)) (dss_nil))
    (dss_cons (ds_for C (di_tx (dx_v 0)) (dg_n 2 C.nd) (dss_one (ds_if (dt_notinC (dx_v 2) (dx_str)) (dss_one (ds_raise .noText C tk x_NoText)) (dss_nil))))
    (dss_one (ds_ret (dx_ct call_int_str ra_intS (by rfl) z_int bt_int (da_cons (dx_v 0) (da_nil))))))), mf, F.kp, bi⟩
theorem cal_power_of {f : Addr} {fd : FuncData} (F : Fun K "power_of" "power_of" s_power_of f fd) (mf : mg "power_of" = some (.ref f)) (bi : Binds K fd ["tail"] []) (c_figures_of : Cal P w K mg base 1 "figures_of" 2 d_P_figures_of)  (z_POWERS : ∃ u, mg "POWERS" = some (.int 12 u)) (x_NoText : ExF K mg .noText) : Cal P w K mg base 2 "power_of" 1 d_P_power_of :=
  ⟨f, fd, _, ok_def (m := b_P_power_of) F sc_power_of rfl rfl (fun cdv A outer s H E hr C tk =>
    dss_cons (ds_if (dt_eq C.un (dx_v 0) (dx_str)) (dss_one (ds_ret (dx_int))) (dss_nil))
    (dss_cons (ds_if (dt_ne C.un (dx_ix (dx_v 0) (dx_int)) (dx_str)) (dss_one (ds_raise .noText C tk x_NoText)) (dss_nil))
    (dss_cons (ds_val 1 C (dx_cal C c_figures_of hr (da_cons (dx_sl (dx_v 0) (do_some (dx_int)) (do_none)) (da_cons (dx_int) (da_nil)))))
    (dss_cons (ds_if ((dw_or (dt_lt (dx_v 1) (dx_int)) (dw_or1 (dt_ge (dx_v 1) (dx_glob (by rfl) z_POWERS.choose_spec)))).dt) (dss_one (ds_raise .noText C tk x_NoText)) (dss_nil))
    (dss_one (ds_ret (dx_v 1))))))), mf, F.kp, bi⟩
theorem cal_term_of {f : Addr} {fd : FuncData} (F : Fun K "term_of" "term_of" s_term_of f fd) (mf : mg "term_of" = some (.ref f)) (bi : Binds K fd ["word"] []) (c_figures_of : Cal P w K mg base 1 "figures_of" 2 d_P_figures_of) (c_power_of : Cal P w K mg base 2 "power_of" 1 d_P_power_of)  (z_FIGURES : ∃ u, mg "FIGURES" = some (.int 60 u))  : Cal P w K mg base 3 "term_of" 1 d_P_term_of :=
  ⟨f, fd, _, ok_def (m := b_P_term_of) F sc_term_of rfl rfl (fun cdv A outer s H E hr C tk =>
    dss_cons (ds_asg (dx_part (dx_v 0) (dx_str)) (dg_tup C.calm (dgs_cons (dg_n 1 C.nd) (dgs_cons (dg_n 2 C.nd) (dgs_cons (dg_n 3 C.nd) (dgs_nil))))))
    (dss_cons (ds_if (dt_eq C.un (dx_v 2) (dx_str)) (dss_one (ds_ret (dx_tup (da_cons (dx_cal C c_figures_of hr (da_cons (dx_v 1) (da_cons (dx_glob (by rfl) z_FIGURES.choose_spec) (da_nil)))) (da_cons (dx_int) (da_nil)))))) (dss_nil))
    (dss_cons (ds_val 4 C (dx_int))
    (dss_cons (ds_if (dt_ne C.un (dx_v 1) (dx_str)) (dss_one (ds_val 4 C (dx_cal C c_figures_of hr (da_cons (dx_v 1) (da_cons (dx_glob (by rfl) z_FIGURES.choose_spec) (da_nil)))))) (dss_nil))
    (dss_one (ds_ret (dx_tup (da_cons (dx_v 4) (da_cons (dx_cal C c_power_of hr (da_cons (dx_v 3) (da_nil))) (da_nil)))))))))), mf, F.kp, bi⟩
theorem cal_signed {f : Addr} {fd : FuncData} (F : Fun K "signed" "signed" s_signed f fd) (mf : mg "signed" = some (.ref f)) (bi : Binds K fd ["words", "k"] [])    (x_NoText : ExF K mg .noText) : Cal P w K mg base 1 "signed" 2 d_P_signed :=
  ⟨f, fd, _, ok_def (m := b_P_signed) F sc_signed rfl rfl (fun cdv A outer s H E hr C tk =>
    dss_cons (ds_if (dt_eq C.un (dx_v 1) (dx_int)) (dss_cons (ds_if (dt_val (dx_start (dx_ix (dx_v 0) (dx_int)) (dx_str))) (dss_one (ds_ret (dx_tup (da_cons (dx_bl) (da_cons (dx_sl (dx_ix (dx_v 0) (dx_int)) (do_some (dx_int)) (do_none)) (da_nil)))))) (dss_nil))
    (dss_one (ds_ret (dx_tup (da_cons (dx_bl) (da_cons (dx_ix (dx_v 0) (dx_int)) (da_nil))))))) (dss_nil))
    (dss_cons (ds_if (dt_notinS (dx_ix (dx_v 0) (dx_sub (dx_v 1) (dx_int))) (dx_tup (da_cons (dx_str) (da_cons (dx_str) (da_nil))))) (dss_one (ds_raise .noText C tk x_NoText)) (dss_nil))
    (dss_one (ds_ret (dx_tup (da_cons (dx_eq C.un (dx_ix (dx_v 0) (dx_sub (dx_v 1) (dx_int))) (dx_str)) (da_cons (dx_ix (dx_v 0) (dx_v 1)) (da_nil)))))))), mf, F.kp, bi⟩
theorem cal_read {f : Addr} {fd : FuncData} (F : Fun K "read" "read" s_read f fd) (mf : mg "read" = some (.ref f)) (bi : Binds K fd ["line"] []) (c_signed : Cal P w K mg base 1 "signed" 2 d_P_signed) (c_term_of : Cal P w K mg base 3 "term_of" 1 d_P_term_of) (c_trimmed : Cal P w K mg base 1 "trimmed" 1 d_P_trimmed) (z_len : mg "len" = none) (z_range : mg "range" = none) (z_POWERS : ∃ u, mg "POWERS" = some (.int 12 u)) (x_NoText : ExF K mg .noText) : Cal P w K mg base 4 "read" 1 d_P_read :=
  ⟨f, fd, _, ok_def (m := b_P_read) F sc_read rfl rfl (fun cdv A outer s H E hr C tk =>
    dss_cons (ds_if (dt_eq C.un (dx_v 0) (dx_str)) (dss_one (ds_ret (dx_lst (da_nil)))) (dss_nil))
    (dss_cons (ds_val 1 C (dx_split (dx_v 0) (dx_str)))
    (dss_cons (ds_if (dt_eq C.un (dx_mod (dx_cb call_lenA ra_len (by rfl) z_len PySem.boot_len (da_cons (dx_v 1) (da_nil))) (dx_int)) (dx_int)) (dss_one (ds_raise .noText C tk x_NoText)) (dss_nil))
    (dss_cons (ds_own 2 C (dx_rep (da_cons (dx_int) (da_nil)) (dx_glob (by rfl) z_POWERS.choose_spec)))
    (dss_cons (ds_val 3 C (dx_glob (by rfl) z_POWERS.choose_spec))
    (dss_cons (ds_for C (di_rng3 (by rfl) z_range (da_cons (dx_int) (da_cons (dx_cb call_lenA ra_len (by rfl) z_len PySem.boot_len (da_cons (dx_v 1) (da_nil))) (da_cons (dx_int) (da_nil))))) (dg_n 4 C.nd) (dss_cons (ds_asg (dx_cal C c_signed hr (da_cons (dx_v 1) (da_cons (dx_v 4) (da_nil)))) (dg_tup C.calm (dgs_cons (dg_n 5 C.nd) (dgs_cons (dg_n 6 C.nd) (dgs_nil)))))
    (dss_cons (ds_asg (dx_cal C c_term_of hr (da_cons (dx_v 6) (da_nil))) (dg_tup C.calm (dgs_cons (dg_n 7 C.nd) (dgs_cons (dg_n 8 C.nd) (dgs_nil)))))
    (dss_cons (ds_if (dt_ge (dx_v 8) (dx_v 3)) (dss_one (ds_raise .noText C tk x_NoText)) (dss_nil))
    (dss_cons (ds_set 2 (dx_if (dt_val (dx_v 5)) (dx_neg (dx_v 7)) (dx_v 7)) (dx_v 8))
    (dss_one (ds_val 3 C (dx_v 8))))))))
    (dss_one (ds_ret (dx_cal C c_trimmed hr (da_cons (dx_v 2) (da_nil))))))))))), mf, F.kp, bi⟩
theorem cal_shown_term {f : Addr} {fd : FuncData} (F : Fun K "shown_term" "shown_term" s_shown_term f fd) (mf : mg "shown_term" = some (.ref f)) (bi : Binds K fd ["count", "power"] [])  (z_str : mg "str" = none)   : Cal P w K mg base 1 "shown_term" 2 d_P_shown_term :=
  ⟨f, fd, _, ok_def (m := b_P_shown_term) F sc_shown_term rfl rfl (fun cdv A outer s H E hr C tk =>
    dss_cons (ds_if (dt_eq C.un (dx_v 1) (dx_int)) (dss_one (ds_ret (dx_ct call_str_int ra_str (by rfl) z_str bt_str (da_cons (dx_v 0) (da_nil))))) (dss_nil))
    (dss_cons (ds_val 2 C (dx_if (dt_eq C.un (dx_v 0) (dx_int)) (dx_str) (dx_ct call_str_int ra_str (by rfl) z_str bt_str (da_cons (dx_v 0) (da_nil)))))
    (dss_cons (ds_if (dt_eq C.un (dx_v 1) (dx_int)) (dss_one (ds_ret (dx_add (dx_v 2) (dx_str)))) (dss_nil))
    (dss_one (ds_ret (dx_add (dx_add (dx_v 2) (dx_str)) (dx_ct call_str_int ra_str (by rfl) z_str bt_str (da_cons (dx_v 1) (da_nil))))))))), mf, F.kp, bi⟩
theorem cal_shown {f : Addr} {fd : FuncData} (F : Fun K "shown" "shown" s_shown f fd) (mf : mg "shown" = some (.ref f)) (bi : Binds K fd ["some"] []) (c_trimmed : Cal P w K mg base 1 "trimmed" 1 d_P_trimmed) (c_shown_term : Cal P w K mg base 1 "shown_term" 2 d_P_shown_term) (z_len : mg "len" = none) (z_abs : mg "abs" = none) (z_list : mg "list" = none) (z_enumerate : mg "enumerate" = none) (z_reversed : mg "reversed" = none) (z_POWERS : ∃ u, mg "POWERS" = some (.int 12 u)) (x_TooGreat : ExF K mg .tooGreat) : Cal P w K mg base 2 "shown" 1 d_P_shown :=
  ⟨f, fd, _, ok_def (m := b_P_shown) F sc_shown rfl rfl (fun cdv A outer s H E hr C tk =>
    dss_cons (ds_val 1 C (dx_cal C c_trimmed hr (da_cons (dx_v 0) (da_nil))))
    (dss_cons (ds_if (dt_gt (dx_cb call_lenA ra_len (by rfl) z_len PySem.boot_len (da_cons (dx_v 1) (da_nil))) (dx_glob (by rfl) z_POWERS.choose_spec)) (dss_one (ds_raise .tooGreat C tk x_TooGreat)) (dss_nil))
    (dss_cons (ds_for C (di_list (dx_v 1)) (dg_n 2 C.nd) (dss_one (ds_if (dt_ge (dx_cb call_abs ra_i1 (by rfl) z_abs bt_abs (da_cons (dx_v 2) (da_nil))) (dx_pow (dx_int) (dx_int))) (dss_one (ds_raise .tooGreat C tk x_TooGreat)) (dss_nil))))
    (dss_cons (ds_val 3 C (dx_str))
    (dss_cons (ds_for C (di_rev (by rfl) z_reversed (da_cons (dx_lEnumerate C (by rfl) z_list (by rfl) z_enumerate (da_cons (dx_v 1) (da_nil))) (da_nil))) (dg_tup C.calm (dgs_cons (dg_n 4 C.nd) (dgs_cons (dg_n 2 C.nd) (dgs_nil)))) (dss_cons (ds_if (dt_eq C.un (dx_v 2) (dx_int)) (dss_one (ds_cont)) (dss_nil))
    (dss_cons (ds_if (dt_eq C.un (dx_v 3) (dx_str)) (dss_one (ds_val 3 C (dx_if (dt_lt (dx_v 2) (dx_int)) (dx_str) (dx_str)))) (dss_one (ds_val 3 C (dx_add (dx_v 3) (dx_if (dt_lt (dx_v 2) (dx_int)) (dx_str) (dx_str))))))
    (dss_one (ds_val 3 C (dx_add (dx_v 3) (dx_cal C c_shown_term hr (da_cons (dx_cb call_abs ra_i1 (by rfl) z_abs bt_abs (da_cons (dx_v 2) (da_nil))) (da_cons (dx_v 4) (da_nil))))))))))
    (dss_one (ds_ret (dx_if (dt_eq C.un (dx_v 3) (dx_str)) (dx_str) (dx_v 3))))))))), mf, F.kp, bi⟩
theorem cal__law_whole {f : Addr} {fd : FuncData} (F : Fun K "_law_whole" "_law_whole" s__law_whole f fd) (mf : mg "_law_whole" = some (.ref f)) (bi : Binds K fd ["_law_found"] [])  (z_isinstance : mg "isinstance" = none) (z_int : mg "int" = none) (z_bool : mg "bool" = none)   : Cal P w K mg base 1 "_law_whole" 1 d_L_whole :=
  ⟨f, fd, _, ok_def (m := b_L_whole) F sc__law_whole rfl rfl (fun cdv A outer s H E hr C tk =>
    dss_one (ds_ret (dx_and (dx_isi (.inl rfl) (dx_v 0) (by rfl) z_isinstance (by rfl) z_int bt_int bt_isinstance) (dx_one (dx_not (dx_isi (.inr (.inl rfl)) (dx_v 0) (by rfl) z_isinstance (by rfl) z_bool bt_bool bt_isinstance)))))), mf, F.kp, bi⟩
theorem cal__law_same {f : Addr} {fd : FuncData} (F : Fun K "_law_same" "_law_same" s__law_same f fd) (mf : mg "_law_same" = some (.ref f)) (bi : Binds K fd ["_law_found", "_law_due_here"] []) (c__law_whole : Cal P w K mg base 1 "_law_whole" 1 d_L_whole) (z_isinstance : mg "isinstance" = none) (z_list : mg "list" = none) (z_len : mg "len" = none) (z_all : mg "all" = none)   : Cal P w K mg base 2 "_law_same" 2 d_L_same :=
  ⟨f, fd, _, ok_def (m := b_L_same) F sc__law_same rfl rfl (fun cdv A outer s H E hr C tk =>
    dss_cons (ds_if ((dw_or (dt_not (dt_val (dx_isi (.inr (.inr (.inr (.inl rfl)))) (dx_v 0) (by rfl) z_isinstance (by rfl) z_list bt_list bt_isinstance))) (dw_or1 (dt_ne C.un (dx_cb call_lenA ra_len (by rfl) z_len PySem.boot_len (da_cons (dx_v 0) (da_nil))) (dx_cb call_lenA ra_len (by rfl) z_len PySem.boot_len (da_cons (dx_v 1) (da_nil)))))).dt) (dss_one (ds_ret (dx_bl))) (dss_nil))
    (dss_one (ds_ret (dx_and (dx_cb (cr_all C.calm) ra_all (by rfl) z_all bt_all (da_cons (dx_lc [(("_law_one" : Str), 2)] C (dic_list (dx_v 0)) (blkOk_by (N := N__law_same) (sc := defScope s__law_same) (by decide +kernel)) (fun _ _ _ _ _ => dgc_n 2 (C).blk.nd) (fun _ _ _ _ _ => dts_nil) (fun _ _ _ _ _ => dx_cal (C).blk c__law_whole hr (da_cons (dx_v 2) (da_nil)))) (da_nil))) (dx_one (dx_eq C.un (dx_v 0) (dx_v 1))))))), mf, F.kp, bi⟩
theorem cal__law_at {f : Addr} {fd : FuncData} (F : Fun K "_law_at" "_law_at" s__law_at f fd) (mf : mg "_law_at" = some (.ref f)) (bi : Binds K fd ["_law_script", "_law_k"] [])  (z_len : mg "len" = none)   : Cal P w K mg base 1 "_law_at" 2 d_L_at :=
  ⟨f, fd, _, ok_def (m := b_L_at) F sc__law_at rfl rfl (fun cdv A outer s H E hr C tk =>
    dss_cons (ds_if (dt_lt (dx_v 1) (dx_cb call_lenA ra_len (by rfl) z_len PySem.boot_len (da_cons (dx_v 0) (da_nil)))) (dss_one (ds_ret (dx_ix (dx_v 0) (dx_v 1)))) (dss_nil))
    (dss_one (ds_ret (dx_int)))), mf, F.kp, bi⟩
theorem cal__law_trimmed {f : Addr} {fd : FuncData} (F : Fun K "_law_trimmed" "_law_trimmed" s__law_trimmed f fd) (mf : mg "_law_trimmed" = some (.ref f)) (bi : Binds K fd ["_law_some"] [])  (z_list : mg "list" = none) (z_len : mg "len" = none)   : Cal P w K mg base 1 "_law_trimmed" 1 d_L_trimmed :=
  ⟨f, fd, _, ok_def (m := b_L_trimmed) F sc__law_trimmed rfl rfl (fun cdv A outer s H E hr C tk =>
    dss_cons (ds_own 1 C (dx_ct call_list_of ra_list (by rfl) z_list bt_list (da_cons (dx_v 0) (da_nil))))
    (dss_cons (ds_while 1000000 C ((dw_and (dt_gt (dx_cb call_lenA ra_len (by rfl) z_len PySem.boot_len (da_cons (dx_v 1) (da_nil))) (dx_int)) (dw_and1 (dt_eq C.un (dx_ix (dx_v 1) (dx_neg (dx_int))) (dx_int)))).dt) (dss_one (ds_pop 1)))
    (dss_one (ds_ret (dx_v 1))))), mf, F.kp, bi⟩
theorem cal__law_term {f : Addr} {fd : FuncData} (F : Fun K "_law_term" "_law_term" s__law_term f fd) (mf : mg "_law_term" = some (.ref f)) (bi : Binds K fd ["_law_cell", "_law_power", "_law_plain"] [])  (z_str : mg "str" = none) (z_min : mg "min" = none)   : Cal P w K mg base 1 "_law_term" 3 d_L_term :=
  ⟨f, fd, _, ok_def (m := b_L_term) F sc__law_term rfl rfl (fun cdv A outer s H E hr C tk =>
    dss_cons (ds_val 3 C (dx_ct call_str_int ra_str (by rfl) z_str bt_str (da_cons (dx_add (dx_int) (dx_mod (dx_div (dx_v 0) (dx_int)) (dx_sub (dx_pow (dx_int) (dx_int)) (dx_int)))) (da_nil))))
    (dss_cons (ds_if (dt_eq C.un (dx_mod (dx_v 0) (dx_int)) (dx_int)) (dss_one (ds_val 3 C (dx_str))) (dss_nil))
    (dss_cons (ds_if ((dw_or ((dw_and (dt_eq C.un (dx_mod (dx_v 0) (dx_int)) (dx_int)) (dw_and1 (dt_gt (dx_v 1) (dx_int)))).dt) (dw_or1 ((dw_and (dt_val (dx_v 2)) (dw_and (dt_eq C.un (dx_v 3) (dx_str)) (dw_and1 (dt_gt (dx_v 1) (dx_int))))).dt))).dt) (dss_one (ds_val 3 C (dx_str))) (dss_nil))
    (dss_one (ds_ret (dx_add (dx_v 3) (dx_ix (dx_lst (da_cons (dx_str) (da_cons (dx_str) (da_cons (dx_add (dx_str) (dx_ct call_str_int ra_str (by rfl) z_str bt_str (da_cons (dx_v 1) (da_nil)))) (da_nil))))) (dx_cb (call_min2 C.calm) ra_i2 (by rfl) z_min bt_min (da_cons (dx_v 1) (da_cons (dx_int) (da_nil))))))))))), mf, F.kp, bi⟩
theorem cal__law_text {f : Addr} {fd : FuncData} (F : Fun K "_law_text" "_law_text" s__law_text f fd) (mf : mg "_law_text" = some (.ref f)) (bi : Binds K fd ["_law_script", "_law_plain"] []) (c__law_at : Cal P w K mg base 1 "_law_at" 2 d_L_at) (c__law_term : Cal P w K mg base 1 "_law_term" 3 d_L_term) (z_range : mg "range" = none)   : Cal P w K mg base 2 "_law_text" 2 d_L_text :=
  ⟨f, fd, _, ok_def (m := b_L_text) F sc__law_text rfl rfl (fun cdv A outer s H E hr C tk =>
    dss_cons (ds_val 2 C (dx_str))
    (dss_cons (ds_for C (di_rng1 (by rfl) z_range (da_cons (dx_int) (da_nil))) (dg_n 3 C.nd) (dss_cons (ds_val 4 C (dx_cal C c__law_at hr (da_cons (dx_v 0) (da_cons (dx_v 3) (da_nil)))))
    (dss_one (ds_if (dt_gt (dx_mod (dx_v 4) (dx_int)) (dx_int)) (dss_cons (ds_val 5 C (dx_ix (dx_lst (da_cons (dx_str) (da_cons (dx_str) (da_nil)))) (dx_mod (dx_div (dx_v 4) (dx_int)) (dx_int))))
    (dss_cons (ds_if (dt_eq C.un (dx_v 2) (dx_str)) (dss_one (ds_val 5 C (dx_ix (dx_lst (da_cons (dx_str) (da_cons (dx_str) (da_nil)))) (dx_mod (dx_div (dx_v 4) (dx_int)) (dx_int))))) (dss_nil))
    (dss_one (ds_val 2 C (dx_add (dx_add (dx_v 2) (dx_v 5)) (dx_cal C c__law_term hr (da_cons (dx_v 4) (da_cons (dx_sub (dx_int) (dx_v 3)) (da_cons (dx_v 1) (da_nil)))))))))) (dss_nil)))))
    (dss_cons (ds_if (dt_eq C.un (dx_v 2) (dx_str)) (dss_one (ds_ret (dx_str))) (dss_nil))
    (dss_one (ds_ret (dx_v 2)))))), mf, F.kp, bi⟩
theorem cal__law_due {f : Addr} {fd : FuncData} (F : Fun K "_law_due" "_law_due" s__law_due f fd) (mf : mg "_law_due" = some (.ref f)) (bi : Binds K fd ["_law_script"] []) (c__law_at : Cal P w K mg base 1 "_law_at" 2 d_L_at) (c__law_trimmed : Cal P w K mg base 1 "_law_trimmed" 1 d_L_trimmed) (z_range : mg "range" = none) (z_int : mg "int" = none)   : Cal P w K mg base 2 "_law_due" 1 d_L_due9 :=
  ⟨f, fd, _, ok_def (m := b_L_due9) F sc__law_due rfl rfl (fun cdv A outer s H E hr C tk =>
    dss_cons (ds_own 1 C (dx_lst (da_nil)))
    (dss_cons (ds_for C (di_rng1 (by rfl) z_range (da_cons (dx_int) (da_nil))) (dg_n 2 C.nd) (dss_cons (ds_val 3 C (dx_cal C c__law_at hr (da_cons (dx_v 0) (da_cons (dx_sub (dx_int) (dx_v 2)) (da_nil)))))
    (dss_cons (ds_val 4 C (dx_add (dx_int) (dx_mod (dx_div (dx_v 3) (dx_int)) (dx_sub (dx_pow (dx_int) (dx_int)) (dx_int)))))
    (dss_cons (ds_if ((dw_or (dt_eq C.un (dx_mod (dx_v 3) (dx_int)) (dx_int)) (dw_or1 ((dw_and (dt_eq C.un (dx_mod (dx_v 3) (dx_int)) (dx_int)) (dw_and1 (dt_gt (dx_v 2) (dx_int)))).dt))).dt) (dss_one (ds_val 4 C (dx_int))) (dss_nil))
    (dss_one (ds_app 1 (dx_mul (dx_ix (dx_lst (da_cons (dx_v 4) (da_cons (dx_sub (dx_int) (dx_v 4)) (da_nil)))) (dx_mod (dx_div (dx_v 3) (dx_int)) (dx_int))) (dx_ct call_intA ra_intA (by rfl) z_int bt_int (da_cons (dx_gt (dx_mod (dx_v 3) (dx_int)) (dx_int)) (da_nil))))))))))
    (dss_one (ds_ret (dx_cal C c__law_trimmed hr (da_cons (dx_v 1) (da_nil))))))), mf, F.kp, bi⟩
end
theorem fn_law {P : Program} {w : World} {K : PySem.W.Frag} {mg : Str → Option Value} {base : Heap} {f : Addr} {fd : FuncData} (F : Fun K "law" "law" s_law f fd) (c__law_text : Cal P w K mg base 2 "_law_text" 2 d_L_text) (c__law_due : Cal P w K mg base 2 "_law_due" 1 d_L_due9) (c_read : Cal P w K mg base 4 "read" 1 d_P_read) (c__law_same : Cal P w K mg base 2 "_law_same" 2 d_L_same) (c_shown : Cal P w K mg base 2 "shown" 1 d_P_shown) (z_list : mg "list" = none) (z_isinstance : mg "isinstance" = none) (z_str : mg "str" = none)   : FnOk P w K mg base (L2.CX P w) 5 f fd ["_law_script"] (spD K 1 d_law40) :=
  ok_def (m := b_law40) F sc_law rfl rfl (fun cdv A outer s H E hr C tk =>
    dss_cons (ds_val 1 C (dx_cal C c__law_text hr (da_cons (dx_v 0) (da_cons (dx_bl) (da_nil)))))
    (dss_cons (ds_val 2 C (dx_cal C c__law_due hr (da_cons (dx_v 0) (da_nil))))
    (dss_cons (ds_own 3 C (dx_cal C c_read hr (da_cons (dx_v 1) (da_nil))))
    (dss_cons (ds_if (dt_not (dt_val (dx_cal C c__law_same hr (da_cons (dx_v 3) (da_cons (dx_v 2) (da_nil)))))) (dss_one (ds_ret (dx_bl))) (dss_nil))
    (dss_cons (ds_val 4 C (dx_cal C c_shown hr (da_cons (dx_ct call_list_of ra_list (by rfl) z_list bt_list (da_cons (dx_v 2) (da_nil))) (da_nil))))
    (dss_cons (ds_if ((dw_or (dt_not (dt_val (dx_isi (.inr (.inr (.inl rfl))) (dx_v 4) (by rfl) z_isinstance (by rfl) z_str bt_str bt_isinstance))) (dw_or1 (dt_ne C.un (dx_v 4) (dx_cal C c__law_text hr (da_cons (dx_v 0) (da_cons (dx_bl) (da_nil))))))).dt) (dss_one (ds_ret (dx_bl))) (dss_nil))
    (dss_cons (ds_app 3 (dx_int))
    (dss_one (ds_ret (dx_and (dx_cal C c__law_same hr (da_cons (dx_cal C c_read hr (da_cons (dx_v 1) (da_nil))) (da_cons (dx_v 2) (da_nil)))) (dx_one (dx_eq C.un (dx_cal C c_shown hr (da_cons (dx_cal C c_read hr (da_cons (dx_v 1) (da_nil))) (da_nil))) (dx_v 4)))))))))))))
theorem all_mk {l : PySem.W.OpenLaw} {w : World} {K : PySem.W.Frag} {h : Heap} {mg : Str → Option Value} {fa : Addr} (X : K.In h) (G : h.Ns mainGlobals mg) (hfa : mg "law" = some (.ref fa))
    {f0 : Addr} {od0 an0 : Option Addr} {sl0 : Array (Option Value)} {oc0 kV0 dc0 pm0 cd0 ct0 : Value}
    {f1 : Addr} {od1 an1 : Option Addr} {sl1 : Array (Option Value)} {oc1 kV1 dc1 pm1 cd1 ct1 : Value}
    {f2 : Addr} {od2 an2 : Option Addr} {sl2 : Array (Option Value)} {oc2 kV2 dc2 pm2 cd2 ct2 : Value}
    {f3 : Addr} {od3 an3 : Option Addr} {sl3 : Array (Option Value)} {oc3 kV3 dc3 pm3 cd3 ct3 : Value}
    {f4 : Addr} {od4 an4 : Option Addr} {sl4 : Array (Option Value)} {oc4 kV4 dc4 pm4 cd4 ct4 : Value}
    {f5 : Addr} {od5 an5 : Option Addr} {sl5 : Array (Option Value)} {oc5 kV5 dc5 pm5 cd5 ct5 : Value}
    {f6 : Addr} {od6 an6 : Option Addr} {sl6 : Array (Option Value)} {oc6 kV6 dc6 pm6 cd6 ct6 : Value}
    {f7 : Addr} {od7 an7 : Option Addr} {sl7 : Array (Option Value)} {oc7 kV7 dc7 pm7 cd7 ct7 : Value}
    {f8 : Addr} {od8 an8 : Option Addr} {sl8 : Array (Option Value)} {oc8 kV8 dc8 pm8 cd8 ct8 : Value}
    {f9 : Addr} {od9 an9 : Option Addr} {sl9 : Array (Option Value)} {oc9 kV9 dc9 pm9 cd9 ct9 : Value}
    {f10 : Addr} {od10 an10 : Option Addr} {sl10 : Array (Option Value)} {oc10 kV10 dc10 pm10 cd10 ct10 : Value}
    {f11 : Addr} {od11 an11 : Option Addr} {sl11 : Array (Option Value)} {oc11 kV11 dc11 pm11 cd11 ct11 : Value}
    {f12 : Addr} {od12 an12 : Option Addr} {sl12 : Array (Option Value)} {oc12 kV12 dc12 pm12 cd12 ct12 : Value}
    {f13 : Addr} {od13 an13 : Option Addr} {sl13 : Array (Option Value)} {oc13 kV13 dc13 pm13 cd13 ct13 : Value}
    {f14 : Addr} {od14 an14 : Option Addr} {sl14 : Array (Option Value)} {oc14 kV14 dc14 pm14 cd14 ct14 : Value}
    {f15 : Addr} {od15 an15 : Option Addr} {sl15 : Array (Option Value)} {oc15 kV15 dc15 pm15 cd15 ct15 : Value}
    (a0 : PySem.W.nsIn K mainGlobals "trimmed" = some (some (.ref f0))) (l0 : K.lookup f0 = some ⟨oc0, od0, .func (PySem.W.fnOf "trimmed" "trimmed" (defArgs s_trimmed) (defBody s_trimmed) (defScope s_trimmed) .none kV0 dc0 pm0 an0 cd0 ct0), sl0⟩) (cc0 : PySem.W.codeIn K cd0 "trimmed" = true) (k0 : PySem.W.keepIn K (.ref f0) = true)
    (a1 : PySem.W.nsIn K mainGlobals "figures_of" = some (some (.ref f1))) (l1 : K.lookup f1 = some ⟨oc1, od1, .func (PySem.W.fnOf "figures_of" "figures_of" (defArgs s_figures_of) (defBody s_figures_of) (defScope s_figures_of) .none kV1 dc1 pm1 an1 cd1 ct1), sl1⟩) (cc1 : PySem.W.codeIn K cd1 "figures_of" = true) (k1 : PySem.W.keepIn K (.ref f1) = true)
    (a2 : PySem.W.nsIn K mainGlobals "power_of" = some (some (.ref f2))) (l2 : K.lookup f2 = some ⟨oc2, od2, .func (PySem.W.fnOf "power_of" "power_of" (defArgs s_power_of) (defBody s_power_of) (defScope s_power_of) .none kV2 dc2 pm2 an2 cd2 ct2), sl2⟩) (cc2 : PySem.W.codeIn K cd2 "power_of" = true) (k2 : PySem.W.keepIn K (.ref f2) = true)
    (a3 : PySem.W.nsIn K mainGlobals "term_of" = some (some (.ref f3))) (l3 : K.lookup f3 = some ⟨oc3, od3, .func (PySem.W.fnOf "term_of" "term_of" (defArgs s_term_of) (defBody s_term_of) (defScope s_term_of) .none kV3 dc3 pm3 an3 cd3 ct3), sl3⟩) (cc3 : PySem.W.codeIn K cd3 "term_of" = true) (k3 : PySem.W.keepIn K (.ref f3) = true)
    (a4 : PySem.W.nsIn K mainGlobals "signed" = some (some (.ref f4))) (l4 : K.lookup f4 = some ⟨oc4, od4, .func (PySem.W.fnOf "signed" "signed" (defArgs s_signed) (defBody s_signed) (defScope s_signed) .none kV4 dc4 pm4 an4 cd4 ct4), sl4⟩) (cc4 : PySem.W.codeIn K cd4 "signed" = true) (k4 : PySem.W.keepIn K (.ref f4) = true)
    (a5 : PySem.W.nsIn K mainGlobals "read" = some (some (.ref f5))) (l5 : K.lookup f5 = some ⟨oc5, od5, .func (PySem.W.fnOf "read" "read" (defArgs s_read) (defBody s_read) (defScope s_read) .none kV5 dc5 pm5 an5 cd5 ct5), sl5⟩) (cc5 : PySem.W.codeIn K cd5 "read" = true) (k5 : PySem.W.keepIn K (.ref f5) = true)
    (a6 : PySem.W.nsIn K mainGlobals "shown_term" = some (some (.ref f6))) (l6 : K.lookup f6 = some ⟨oc6, od6, .func (PySem.W.fnOf "shown_term" "shown_term" (defArgs s_shown_term) (defBody s_shown_term) (defScope s_shown_term) .none kV6 dc6 pm6 an6 cd6 ct6), sl6⟩) (cc6 : PySem.W.codeIn K cd6 "shown_term" = true) (k6 : PySem.W.keepIn K (.ref f6) = true)
    (a7 : PySem.W.nsIn K mainGlobals "shown" = some (some (.ref f7))) (l7 : K.lookup f7 = some ⟨oc7, od7, .func (PySem.W.fnOf "shown" "shown" (defArgs s_shown) (defBody s_shown) (defScope s_shown) .none kV7 dc7 pm7 an7 cd7 ct7), sl7⟩) (cc7 : PySem.W.codeIn K cd7 "shown" = true) (k7 : PySem.W.keepIn K (.ref f7) = true)
    (a8 : PySem.W.nsIn K mainGlobals "_law_whole" = some (some (.ref f8))) (l8 : K.lookup f8 = some ⟨oc8, od8, .func (PySem.W.fnOf "_law_whole" "_law_whole" (defArgs s__law_whole) (defBody s__law_whole) (defScope s__law_whole) .none kV8 dc8 pm8 an8 cd8 ct8), sl8⟩) (cc8 : PySem.W.codeIn K cd8 "_law_whole" = true) (k8 : PySem.W.keepIn K (.ref f8) = true)
    (a9 : PySem.W.nsIn K mainGlobals "_law_same" = some (some (.ref f9))) (l9 : K.lookup f9 = some ⟨oc9, od9, .func (PySem.W.fnOf "_law_same" "_law_same" (defArgs s__law_same) (defBody s__law_same) (defScope s__law_same) .none kV9 dc9 pm9 an9 cd9 ct9), sl9⟩) (cc9 : PySem.W.codeIn K cd9 "_law_same" = true) (k9 : PySem.W.keepIn K (.ref f9) = true)
    (a10 : PySem.W.nsIn K mainGlobals "_law_at" = some (some (.ref f10))) (l10 : K.lookup f10 = some ⟨oc10, od10, .func (PySem.W.fnOf "_law_at" "_law_at" (defArgs s__law_at) (defBody s__law_at) (defScope s__law_at) .none kV10 dc10 pm10 an10 cd10 ct10), sl10⟩) (cc10 : PySem.W.codeIn K cd10 "_law_at" = true) (k10 : PySem.W.keepIn K (.ref f10) = true)
    (a11 : PySem.W.nsIn K mainGlobals "_law_trimmed" = some (some (.ref f11))) (l11 : K.lookup f11 = some ⟨oc11, od11, .func (PySem.W.fnOf "_law_trimmed" "_law_trimmed" (defArgs s__law_trimmed) (defBody s__law_trimmed) (defScope s__law_trimmed) .none kV11 dc11 pm11 an11 cd11 ct11), sl11⟩) (cc11 : PySem.W.codeIn K cd11 "_law_trimmed" = true) (k11 : PySem.W.keepIn K (.ref f11) = true)
    (a12 : PySem.W.nsIn K mainGlobals "_law_term" = some (some (.ref f12))) (l12 : K.lookup f12 = some ⟨oc12, od12, .func (PySem.W.fnOf "_law_term" "_law_term" (defArgs s__law_term) (defBody s__law_term) (defScope s__law_term) .none kV12 dc12 pm12 an12 cd12 ct12), sl12⟩) (cc12 : PySem.W.codeIn K cd12 "_law_term" = true) (k12 : PySem.W.keepIn K (.ref f12) = true)
    (a13 : PySem.W.nsIn K mainGlobals "_law_text" = some (some (.ref f13))) (l13 : K.lookup f13 = some ⟨oc13, od13, .func (PySem.W.fnOf "_law_text" "_law_text" (defArgs s__law_text) (defBody s__law_text) (defScope s__law_text) .none kV13 dc13 pm13 an13 cd13 ct13), sl13⟩) (cc13 : PySem.W.codeIn K cd13 "_law_text" = true) (k13 : PySem.W.keepIn K (.ref f13) = true)
    (a14 : PySem.W.nsIn K mainGlobals "_law_due" = some (some (.ref f14))) (l14 : K.lookup f14 = some ⟨oc14, od14, .func (PySem.W.fnOf "_law_due" "_law_due" (defArgs s__law_due) (defBody s__law_due) (defScope s__law_due) .none kV14 dc14 pm14 an14 cd14 ct14), sl14⟩) (cc14 : PySem.W.codeIn K cd14 "_law_due" = true) (k14 : PySem.W.keepIn K (.ref f14) = true)
    (a15 : PySem.W.nsIn K mainGlobals "law" = some (some (.ref f15))) (l15 : K.lookup f15 = some ⟨oc15, od15, .func (PySem.W.fnOf "law" "law" (defArgs s_law) (defBody s_law) (defScope s_law) .none kV15 dc15 pm15 an15 cd15 ct15), sl15⟩) (cc15 : PySem.W.codeIn K cd15 "law" = true) (k15 : PySem.W.keepIn K (.ref f15) = true)
    {a_TooGreat : Addr} (xn_TooGreat : PySem.W.nsIn K mainGlobals "TooGreat" = some (some (.ref a_TooGreat)))
    {a_NoText : Addr} (xn_NoText : PySem.W.nsIn K mainGlobals "NoText" = some (some (.ref a_NoText)))
    (xe_NoText : PySem.W.excIn K a_NoText [.type "ValueError", .type "Exception", .type "BaseException", .type "object"] "ValueError.__new__" = true) (xk_NoText : PySem.W.keepIn K (.ref a_NoText) = true) (xs_NoText : PySem.W.subIn K (.ref a_NoText) (.type "BaseException") = some true) (xt_NoText : PySem.W.typeIn K (.ref a_NoText) = some (.type "type"))
    (xe_TooGreat : PySem.W.excIn K a_TooGreat [.type "ValueError", .type "Exception", .type "BaseException", .type "object"] "ValueError.__new__" = true) (xk_TooGreat : PySem.W.keepIn K (.ref a_TooGreat) = true) (xs_TooGreat : PySem.W.subIn K (.ref a_TooGreat) (.type "BaseException") = some true) (xt_TooGreat : PySem.W.typeIn K (.ref a_TooGreat) = some (.type "type"))
    (n_list : PySem.W.nsIn K mainGlobals "list" = some none)
    (n_len : PySem.W.nsIn K mainGlobals "len" = some none)
    (n_int : PySem.W.nsIn K mainGlobals "int" = some none)
    (n_range : PySem.W.nsIn K mainGlobals "range" = some none)
    (n_str : PySem.W.nsIn K mainGlobals "str" = some none)
    (n_abs : PySem.W.nsIn K mainGlobals "abs" = some none)
    (n_enumerate : PySem.W.nsIn K mainGlobals "enumerate" = some none)
    (n_reversed : PySem.W.nsIn K mainGlobals "reversed" = some none)
    (n_isinstance : PySem.W.nsIn K mainGlobals "isinstance" = some none)
    (n_bool : PySem.W.nsIn K mainGlobals "bool" = some none)
    (n_all : PySem.W.nsIn K mainGlobals "all" = some none)
    (n_min : PySem.W.nsIn K mainGlobals "min" = some none)
    {u_POWERS : Tok} (n_POWERS : PySem.W.nsIn K mainGlobals "POWERS" = some (some (.int 12 u_POWERS)))
    {u_FIGURES : Tok} (n_FIGURES : PySem.W.nsIn K mainGlobals "FIGURES" = some (some (.int 60 u_FIGURES))) :
    ∃ fd : FuncData, (∀ (s : Shared) (v : Value), BindsTo s fd ⟨[v], []⟩ [("_law_script", v)]) ∧ ∀ base : Heap, K.In base → base.Ns mainGlobals mg → FnOk l.prog w K mg base (L2.CX l.prog w) 5 fa fd ["_law_script"] (spD K 1 d_law40) := by
  have e := hfa.symm.trans (PySem.W.mg_of X G a15)
  cases e
  have z_list := PySem.W.mg_none_of X G n_list
  have z_len := PySem.W.mg_none_of X G n_len
  have z_int := PySem.W.mg_none_of X G n_int
  have z_range := PySem.W.mg_none_of X G n_range
  have z_str := PySem.W.mg_none_of X G n_str
  have z_abs := PySem.W.mg_none_of X G n_abs
  have z_enumerate := PySem.W.mg_none_of X G n_enumerate
  have z_reversed := PySem.W.mg_none_of X G n_reversed
  have z_isinstance := PySem.W.mg_none_of X G n_isinstance
  have z_bool := PySem.W.mg_none_of X G n_bool
  have z_all := PySem.W.mg_none_of X G n_all
  have z_min := PySem.W.mg_none_of X G n_min
  have z_POWERS : ∃ u, mg "POWERS" = some (.int 12 u) := ⟨_, PySem.W.mg_of X G n_POWERS⟩
  have z_FIGURES : ∃ u, mg "FIGURES" = some (.int 60 u) := ⟨_, PySem.W.mg_of X G n_FIGURES⟩
  have ad_TooGreat : adK K .tooGreat = a_TooGreat := adK_of xn_TooGreat
  have ad_NoText : adK K .noText = a_NoText := adK_of xn_NoText
  have x_NoText : ExF K mg .noText := ⟨by rw [ad_NoText]; exact xe_NoText, by rw [ad_NoText]; exact PySem.W.mg_of X G xn_NoText, by rw [ad_NoText]; exact xk_NoText, by rw [ad_NoText]; exact xs_NoText, by rw [ad_NoText]; exact xt_NoText⟩
  have x_TooGreat : ExF K mg .tooGreat := ⟨by rw [ad_TooGreat]; exact xe_TooGreat, by rw [ad_TooGreat]; exact PySem.W.mg_of X G xn_TooGreat, by rw [ad_TooGreat]; exact xk_TooGreat, by rw [ad_TooGreat]; exact xs_TooGreat, by rw [ad_TooGreat]; exact xt_TooGreat⟩
  have F0 := fun_mk (st := s_trimmed) l0 cc0 k0
  have b0 := F0.binds (ps := ["some"]) fun _ _ _ _ _ _ us hl => match us, hl with | [_], _ => rfl
  have F1 := fun_mk (st := s_figures_of) l1 cc1 k1
  have b1 := F1.binds (ps := ["word", "most"]) fun _ _ _ _ _ _ us hl => match us, hl with | [_, _], _ => rfl
  have F2 := fun_mk (st := s_power_of) l2 cc2 k2
  have b2 := F2.binds (ps := ["tail"]) fun _ _ _ _ _ _ us hl => match us, hl with | [_], _ => rfl
  have F3 := fun_mk (st := s_term_of) l3 cc3 k3
  have b3 := F3.binds (ps := ["word"]) fun _ _ _ _ _ _ us hl => match us, hl with | [_], _ => rfl
  have F4 := fun_mk (st := s_signed) l4 cc4 k4
  have b4 := F4.binds (ps := ["words", "k"]) fun _ _ _ _ _ _ us hl => match us, hl with | [_, _], _ => rfl
  have F5 := fun_mk (st := s_read) l5 cc5 k5
  have b5 := F5.binds (ps := ["line"]) fun _ _ _ _ _ _ us hl => match us, hl with | [_], _ => rfl
  have F6 := fun_mk (st := s_shown_term) l6 cc6 k6
  have b6 := F6.binds (ps := ["count", "power"]) fun _ _ _ _ _ _ us hl => match us, hl with | [_, _], _ => rfl
  have F7 := fun_mk (st := s_shown) l7 cc7 k7
  have b7 := F7.binds (ps := ["some"]) fun _ _ _ _ _ _ us hl => match us, hl with | [_], _ => rfl
  have F8 := fun_mk (st := s__law_whole) l8 cc8 k8
  have b8 := F8.binds (ps := ["_law_found"]) fun _ _ _ _ _ _ us hl => match us, hl with | [_], _ => rfl
  have F9 := fun_mk (st := s__law_same) l9 cc9 k9
  have b9 := F9.binds (ps := ["_law_found", "_law_due_here"]) fun _ _ _ _ _ _ us hl => match us, hl with | [_, _], _ => rfl
  have F10 := fun_mk (st := s__law_at) l10 cc10 k10
  have b10 := F10.binds (ps := ["_law_script", "_law_k"]) fun _ _ _ _ _ _ us hl => match us, hl with | [_, _], _ => rfl
  have F11 := fun_mk (st := s__law_trimmed) l11 cc11 k11
  have b11 := F11.binds (ps := ["_law_some"]) fun _ _ _ _ _ _ us hl => match us, hl with | [_], _ => rfl
  have F12 := fun_mk (st := s__law_term) l12 cc12 k12
  have b12 := F12.binds (ps := ["_law_cell", "_law_power", "_law_plain"]) fun _ _ _ _ _ _ us hl => match us, hl with | [_, _, _], _ => rfl
  have F13 := fun_mk (st := s__law_text) l13 cc13 k13
  have b13 := F13.binds (ps := ["_law_script", "_law_plain"]) fun _ _ _ _ _ _ us hl => match us, hl with | [_, _], _ => rfl
  have F14 := fun_mk (st := s__law_due) l14 cc14 k14
  have b14 := F14.binds (ps := ["_law_script"]) fun _ _ _ _ _ _ us hl => match us, hl with | [_], _ => rfl
  have F15 := fun_mk (st := s_law) l15 cc15 k15
  have b15 := F15.binds (ps := ["_law_script"]) fun _ _ _ _ _ _ us hl => match us, hl with | [_], _ => rfl
  refine ⟨PySem.W.fnOf "law" "law" (defArgs s_law) (defBody s_law) (defScope s_law) .none kV15 dc15 pm15 an15 cd15 ct15, fun s v => .of_eq rfl, fun base _ _ => ?_⟩
  have c_trimmed : Cal l.prog w K mg base 1 "trimmed" 1 d_P_trimmed := cal_trimmed F0 (PySem.W.mg_of X G a0) b0  z_list z_len  
  have c_figures_of : Cal l.prog w K mg base 1 "figures_of" 2 d_P_figures_of := cal_figures_of F1 (PySem.W.mg_of X G a1) b1  z_len z_int  x_NoText
  have c_power_of : Cal l.prog w K mg base 2 "power_of" 1 d_P_power_of := cal_power_of F2 (PySem.W.mg_of X G a2) b2 c_figures_of  z_POWERS x_NoText
  have c_term_of : Cal l.prog w K mg base 3 "term_of" 1 d_P_term_of := cal_term_of F3 (PySem.W.mg_of X G a3) b3 c_figures_of c_power_of  z_FIGURES 
  have c_signed : Cal l.prog w K mg base 1 "signed" 2 d_P_signed := cal_signed F4 (PySem.W.mg_of X G a4) b4    x_NoText
  have c_read : Cal l.prog w K mg base 4 "read" 1 d_P_read := cal_read F5 (PySem.W.mg_of X G a5) b5 c_signed c_term_of c_trimmed z_len z_range z_POWERS x_NoText
  have c_shown_term : Cal l.prog w K mg base 1 "shown_term" 2 d_P_shown_term := cal_shown_term F6 (PySem.W.mg_of X G a6) b6  z_str  
  have c_shown : Cal l.prog w K mg base 2 "shown" 1 d_P_shown := cal_shown F7 (PySem.W.mg_of X G a7) b7 c_trimmed c_shown_term z_len z_abs z_list z_enumerate z_reversed z_POWERS x_TooGreat
  have c__law_whole : Cal l.prog w K mg base 1 "_law_whole" 1 d_L_whole := cal__law_whole F8 (PySem.W.mg_of X G a8) b8  z_isinstance z_int z_bool  
  have c__law_same : Cal l.prog w K mg base 2 "_law_same" 2 d_L_same := cal__law_same F9 (PySem.W.mg_of X G a9) b9 c__law_whole z_isinstance z_list z_len z_all  
  have c__law_at : Cal l.prog w K mg base 1 "_law_at" 2 d_L_at := cal__law_at F10 (PySem.W.mg_of X G a10) b10  z_len  
  have c__law_trimmed : Cal l.prog w K mg base 1 "_law_trimmed" 1 d_L_trimmed := cal__law_trimmed F11 (PySem.W.mg_of X G a11) b11  z_list z_len  
  have c__law_term : Cal l.prog w K mg base 1 "_law_term" 3 d_L_term := cal__law_term F12 (PySem.W.mg_of X G a12) b12  z_str z_min  
  have c__law_text : Cal l.prog w K mg base 2 "_law_text" 2 d_L_text := cal__law_text F13 (PySem.W.mg_of X G a13) b13 c__law_at c__law_term z_range  
  have c__law_due : Cal l.prog w K mg base 2 "_law_due" 1 d_L_due9 := cal__law_due F14 (PySem.W.mg_of X G a14) b14 c__law_at c__law_trimmed z_range z_int  
  exact fn_law F15 c__law_text c__law_due c_read c__law_same c_shown z_list z_isinstance z_str  
end RF.Wk

set_option maxHeartbeats 0 in
theorem PySem.Challenge.cw_restform_k82_polynomials_read_holds : PySem.Challenge.rw_restform_k82_polynomials_read.Holds := by
  w_on; o_law; k_head; (case hw => w_witness2)
  k_fill
  refine L2.walk_of (l := PySem.Challenge.rw_restform_k82_polynomials_read) (n := 63) (k := 5) (x := "_law_script") (CX := fun w => L2.CX (PySem.Challenge.rw_restform_k82_polynomials_read).prog w) (sp := fun w => RF.spD _ 1 RF.M.d_law40) rfl (by decide) rfl ⟨rfl, by decide, by decide⟩ (fun w h Y => PySem.W.kIn_of Y) ?F (fun _ H a ns hl _ hS => RF.law_sp (RF.law_out RF.law_k82) H a ns hl hS) (fun _ _ _ _ _ h => RF.law_cx h)
  case F =>
    intro w mg fa h KX G hmg
    refine' RF.Wk.all_mk KX G hmg ?a0 ?l0 ?cc0 ?k0 ?a1 ?l1 ?cc1 ?k1 ?a2 ?l2 ?cc2 ?k2 ?a3 ?l3 ?cc3 ?k3 ?a4 ?l4 ?cc4 ?k4 ?a5 ?l5 ?cc5 ?k5 ?a6 ?l6 ?cc6 ?k6 ?a7 ?l7 ?cc7 ?k7 ?a8 ?l8 ?cc8 ?k8 ?a9 ?l9 ?cc9 ?k9 ?a10 ?l10 ?cc10 ?k10 ?a11 ?l11 ?cc11 ?k11 ?a12 ?l12 ?cc12 ?k12 ?a13 ?l13 ?cc13 ?k13 ?a14 ?l14 ?cc14 ?k14 ?a15 ?l15 ?cc15 ?k15 ?xn_TooGreat ?xn_NoText ?xe_NoText ?xk_NoText ?xs_NoText ?xt_NoText ?xe_TooGreat ?xk_TooGreat ?xs_TooGreat ?xt_TooGreat ?n_list ?n_len ?n_int ?n_range ?n_str ?n_abs ?n_enumerate ?n_reversed ?n_isinstance ?n_bool ?n_all ?n_min ?n_POWERS ?n_FIGURES
    (case a0 => k_is); (case l0 => k_is); (case cc0 => k_is); (case k0 => k_is); (case a1 => k_is); (case l1 => k_is); (case cc1 => k_is); (case k1 => k_is); (case a2 => k_is); (case l2 => k_is); (case cc2 => k_is); (case k2 => k_is); (case a3 => k_is); (case l3 => k_is); (case cc3 => k_is); (case k3 => k_is); (case a4 => k_is); (case l4 => k_is); (case cc4 => k_is); (case k4 => k_is); (case a5 => k_is); (case l5 => k_is); (case cc5 => k_is); (case k5 => k_is); (case a6 => k_is); (case l6 => k_is); (case cc6 => k_is); (case k6 => k_is); (case a7 => k_is); (case l7 => k_is); (case cc7 => k_is); (case k7 => k_is); (case a8 => k_is); (case l8 => k_is); (case cc8 => k_is); (case k8 => k_is); (case a9 => k_is); (case l9 => k_is); (case cc9 => k_is); (case k9 => k_is); (case a10 => k_is); (case l10 => k_is); (case cc10 => k_is); (case k10 => k_is); (case a11 => k_is); (case l11 => k_is); (case cc11 => k_is); (case k11 => k_is); (case a12 => k_is); (case l12 => k_is); (case cc12 => k_is); (case k12 => k_is); (case a13 => k_is); (case l13 => k_is); (case cc13 => k_is); (case k13 => k_is); (case a14 => k_is); (case l14 => k_is); (case cc14 => k_is); (case k14 => k_is); (case a15 => k_is); (case l15 => k_is); (case cc15 => k_is); (case k15 => k_is); (case xn_TooGreat => k_is); (case xn_NoText => k_is); (case xe_NoText => k_exc); (case xk_NoText => k_is); (case xs_NoText => k_is); (case xt_NoText => k_is); (case xe_TooGreat => k_exc); (case xk_TooGreat => k_is); (case xs_TooGreat => k_is); (case xt_TooGreat => k_is); (case n_list => k_is); (case n_len => k_is); (case n_int => k_is); (case n_range => k_is); (case n_str => k_is); (case n_abs => k_is); (case n_enumerate => k_is); (case n_reversed => k_is); (case n_isinstance => k_is); (case n_bool => k_is); (case n_all => k_is); (case n_min => k_is); (case n_POWERS => k_is); (case n_FIGURES => k_is)
