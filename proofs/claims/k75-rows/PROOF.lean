import PyProof.Rows.All
import Wide.All
import OpenK.AllK
import Wide.FinOn
import HandS.ForMost
import HandS.Wide
import HandS.Style
import HandS.IsInst
import HandS.TupAny
import HandS.TupMul
import HandS.SortInts
import HandS.Conv
import HandS.Defaults
import HandS.Iter
import HandS.Comp
import HandS.WideMore
import HandS.Base
import HandS.Call
import HandS.Ends
import HandS.More
import HandS.Words
import HandS.WordsExc
import HandS.Codes
import HandS.Head0
import HandS.Head1
import HandS.Head2
import HandS.HeadEnd
import HandS.HeadHook1
import HandS.HeadHook2
import HandS.HeadHook4
import PySem.Challenge.RW_shortpapers_k75_rows_in_a_code
set_option Elab.async false
set_option linter.all false
set_option maxRecDepth 100000
set_option maxHeartbeats 4000000
/-! Z1: plain data, what stands for it, the ghost state, its steps -/
namespace Z
open PySem L2

/-- plain data: scr is the script -/
inductive D where
  | non | bl (b : Bool) | int (i : Int) | str (x : Str) | tup (ds : List D) | lst (ds : List D) | scr (ns : List Int)

/-- what a slot holds: data, a list of its own, a deal (a list of a list and one thing) -/
inductive O where
  | dat (d : D) | own (ds : List D) | deal (ds : List D) (m : D)

section
variable (K : PySem.W.Frag) (F : Addr → Prop) (H : Hp)
mutual
def Rep : D → V → Prop
  | .non, v => v = .non
  | .bl b, v => v = .bl b
  | .int i, v => v = .int i
  | .str x, v => v = .str x
  | .tup ds, v => ∃ a vs, v = .ref a ∧ SqT K H a vs ∧ Reps ds vs
  | .lst ds, v => ∃ a vs, v = .ref a ∧ F a ∧ H a = some (.lst vs) ∧ Reps ds vs
  | .scr ns, v => ∃ a, v = .ref a ∧ ((∃ o, H a = some (.frz o (.lst (ns.map V.int)))) ∨ SqL K (fun _ => none) a (ns.map V.int))
def Reps : List D → List V → Prop
  | [], vs => vs = []
  | d :: ds, vs => ∃ v r, vs = v :: r ∧ Rep d v ∧ Reps ds r
end
/-- a slot's thing, at the addresses f -/
def Own (f : Nat → Option Addr) : O → V → Prop
  | .dat d, v => Rep K F H d v ∧ ∀ j, f j = none
  | .own ds, v => ∃ a vs, v = .ref a ∧ f 0 = some a ∧ (∀ j, f (j + 1) = none) ∧ H a = some (.lst vs) ∧ Reps K F H ds vs
  | .deal ds m, v => ∃ a b vs w, v = .ref a ∧ f 0 = some a ∧ f 1 = some b ∧ (∀ j, f (j + 2) = none) ∧ H a = some (.lst [.ref b, w]) ∧ H b = some (.lst vs) ∧ Reps K F H ds vs ∧ Rep K F H m w
end

/-- the ghost: frozen addresses, the heap, each slot's own addresses, what the slots hold -/
structure Gh where
  F : Addr → Prop
  H : Hp
  fp : Nat → Nat → Option Addr
  Γ : List (Option O)

structure Con (K : PySem.W.Frag) (G : Gh) (σ : L2.St) : Prop where
  len : G.Γ.length = σ.length
  get : ∀ i o, G.Γ[i]? = some (some o) → ∃ v, σ[i]? = some (some v) ∧ Own K G.F G.H (G.fp i) o v
  non : ∀ i, (∀ o, G.Γ[i]? ≠ some (some o)) → ∀ j, G.fp i j = none
  sep : ∀ i j i' j' a, G.fp i j = some a → G.fp i' j' = some a → i = i' ∧ j = j'
  nof : ∀ i j a, G.fp i j = some a → ¬ G.F a
  fin : ∀ a, G.F a → G.H a ≠ none

/-- a slot holds a deal -/
def isDeal : Option (Option O) → Bool
  | some (some (.deal _ _)) => true
  | _ => false

structure Ste (G G' : Gh) : Prop where
  sub : ∀ a, G.F a → G'.F a
  keep : ∀ a o, G.H a = some o → (∀ i j, G.fp i j ≠ some a) → G'.H a = some o
  dom : ∀ a, G.H a ≠ none → G'.H a ≠ none
  fps : ∀ i j a, G'.fp i j = some a → (∃ i' j', G.fp i' j' = some a) ∨ G.H a = none
  fnew : ∀ a, G'.F a → G.F a ∨ (∃ i j, G.fp i j = some a) ∨ G.H a = none
  deal : ∀ i, isDeal G.Γ[i]? = true → isDeal G'.Γ[i]? = true ∧ G'.fp i = G.fp i
  len : G'.Γ.length = G.Γ.length

theorem Ste.refl (G : Gh) : Ste G G := ⟨fun _ h => h, fun _ _ h _ => h, fun _ h => h, fun i j a h => .inl ⟨i, j, h⟩, fun _ h => .inl h, fun _ h => ⟨h, rfl⟩, rfl⟩
theorem Ste.trans {G G1 G2 : Gh} (s : Ste G G1) (t : Ste G1 G2) : Ste G G2 where
  sub := fun a h => t.sub a (s.sub a h)
  keep := fun a o h n => t.keep a o (s.keep a o h n) fun i j e => by
    rcases s.fps i j a e with ⟨i', j', e'⟩ | e'
    · exact n i' j' e'
    · rw [h] at e'; cases e'
  dom := fun a h => t.dom a (s.dom a h)
  fps := fun i j a h => by
    rcases t.fps i j a h with ⟨i', j', e⟩ | e
    · exact s.fps i' j' a e
    · right
      cases q : G.H a with
      | none => rfl
      | some o => exact absurd e (s.dom a (by rw [q]; simp))
  fnew := fun a h => by
    rcases t.fnew a h with e | ⟨i, j, e⟩ | e
    · exact s.fnew a e
    · rcases s.fps i j a e with z | z
      · exact .inr (.inl z)
      · exact .inr (.inr z)
    · right; right
      cases q : G.H a with
      | none => rfl
      | some o => exact absurd e (s.dom a (by rw [q]; simp))
  deal := fun i h => by
    obtain ⟨a, b⟩ := s.deal i h
    obtain ⟨c, d⟩ := t.deal i a
    exact ⟨c, d.trans b⟩
  len := t.len.trans s.len

/-- what holds of an address that no slot owns is kept -/
theorem SqT.stay {K : PySem.W.Frag} {H H' : Hp} {a : Addr} {vs : List V} (k : ∀ o, H a = some o → H' a = some o) (h : SqT K H a vs) : SqT K H' a vs := by
  rcases h with (h | ⟨o, h⟩) | h
  · exact .inl (.inl (k _ h))
  · exact .inl (.inr ⟨o, k _ h⟩)
  · exact .inr h
theorem SqL.stay {K : PySem.W.Frag} {H H' : Hp} {a : Addr} {vs : List V} (k : ∀ o, H a = some o → H' a = some o) (h : SqL K H a vs) : SqL K H' a vs := by
  rcases h with (h | ⟨o, h⟩) | h
  · exact .inl (.inl (k _ h))
  · exact .inl (.inr ⟨o, k _ h⟩)
  · exact .inr h

section
variable {K : PySem.W.Frag} {G G' : Gh} {σ : L2.St}
/-- each own address holds a list -/
theorem Con.lst (C : Con K G σ) {i j : Nat} {a : Addr} (e : G.fp i j = some a) : ∃ vs, G.H a = some (.lst vs) := by
  cases q : G.Γ[i]? with
  | none => rw [C.non i (fun o z => by rw [q] at z; cases z) j] at e; cases e
  | some x =>
    cases x with
    | none => rw [C.non i (fun o z => by rw [q] at z; cases z) j] at e; cases e
    | some o =>
      obtain ⟨v, _, w⟩ := C.get i o q
      cases o with
      | dat d => rw [w.2 j] at e; cases e
      | own ds =>
        obtain ⟨b, vs, _, e0, e1, h, _⟩ := w
        cases j with
        | zero => rw [e0] at e; cases e; exact ⟨vs, h⟩
        | succ j => rw [e1 j] at e; cases e
      | deal ds m =>
        obtain ⟨b, c, vs, w, _, e0, e1, e2, h, h', _⟩ := w
        match j with
        | 0 => rw [e0] at e; cases e; exact ⟨_, h⟩
        | 1 => rw [e1] at e; cases e; exact ⟨_, h'⟩
        | j + 2 => rw [e2 j] at e; cases e
/-- steps keep what is not a list of a slot's own -/
theorem Con.keepN (C : Con K G σ) (S : Ste G G') {a : Addr} {o : HO} (h : G.H a = some o) (n : ∀ vs, o ≠ .lst vs) : G'.H a = some o :=
  S.keep a o h fun i j e => by
    obtain ⟨vs, q⟩ := C.lst e
    rw [h] at q; cases q
    exact n vs rfl
theorem Con.keepF (C : Con K G σ) (S : Ste G G') {a : Addr} {o : HO} (h : G.H a = some o) (f : G.F a) : G'.H a = some o :=
  S.keep a o h fun i j e => C.nof i j a e f
theorem Con.sqT (C : Con K G σ) (S : Ste G G') {a : Addr} {vs : List V} (h : SqT K G.H a vs) : SqT K G'.H a vs := by
  rcases h with (h | ⟨o, h⟩) | h
  · exact .inl (.inl (C.keepN S h fun vs => by intro z; cases z))
  · exact .inl (.inr ⟨o, C.keepN S h fun vs => by intro z; cases z⟩)
  · exact .inr h
mutual
theorem Rep.step (C : Con K G σ) (S : Ste G G') : ∀ (d : D) (v : V), Rep K G.F G.H d v → Rep K G'.F G'.H d v
  | .non, v, h => h
  | .bl b, v, h => h
  | .int i, v, h => h
  | .str x, v, h => h
  | .tup ds, v, h => by
    obtain ⟨a, vs, e, q, r⟩ := h
    exact ⟨a, vs, e, C.sqT S q, Reps.step C S ds vs r⟩
  | .lst ds, v, h => by
    obtain ⟨a, vs, e, f, q, r⟩ := h
    exact ⟨a, vs, e, S.sub a f, C.keepF S q f, Reps.step C S ds vs r⟩
  | .scr ns, v, h => by
    obtain ⟨a, e, q⟩ := h
    refine ⟨a, e, ?_⟩
    rcases q with ⟨o, q⟩ | q
    · exact .inl ⟨o, C.keepN S q fun vs => by intro z; cases z⟩
    · exact .inr q
theorem Reps.step (C : Con K G σ) (S : Ste G G') : ∀ (ds : List D) (vs : List V), Reps K G.F G.H ds vs → Reps K G'.F G'.H ds vs
  | [], vs, h => h
  | d :: ds, vs, h => by
    obtain ⟨v, r, e, h1, h2⟩ := h
    exact ⟨v, r, e, Rep.step C S d v h1, Reps.step C S ds r h2⟩
end
end

/-! ### more frozen addresses -/
section
variable {K : PySem.W.Frag} {F F' : Addr → Prop} {H : Hp}
mutual
theorem Rep.mono (m : ∀ a, F a → F' a) : ∀ (d : D) (v : V), Rep K F H d v → Rep K F' H d v
  | .non, v, h => h
  | .bl b, v, h => h
  | .int i, v, h => h
  | .str x, v, h => h
  | .tup ds, v, h => by
    obtain ⟨a, vs, e, q, r⟩ := h
    exact ⟨a, vs, e, q, Reps.mono m ds vs r⟩
  | .lst ds, v, h => by
    obtain ⟨a, vs, e, f, q, r⟩ := h
    exact ⟨a, vs, e, m a f, q, Reps.mono m ds vs r⟩
  | .scr ns, v, h => h
theorem Reps.mono (m : ∀ a, F a → F' a) : ∀ (ds : List D) (vs : List V), Reps K F H ds vs → Reps K F' H ds vs
  | [], vs, h => h
  | d :: ds, vs, h => by
    obtain ⟨v, r, e, h1, h2⟩ := h
    exact ⟨v, r, e, Rep.mono m d v h1, Reps.mono m ds r h2⟩
end
theorem Own.mono (m : ∀ a, F a → F' a) {f : Nat → Option Addr} {o : O} {v : V} (h : Own K F H f o v) : Own K F' H f o v := by
  cases o with
  | dat d => exact ⟨Rep.mono m _ _ h.1, h.2⟩
  | own ds =>
    obtain ⟨a, vs, e, e0, e1, q, r⟩ := h
    exact ⟨a, vs, e, e0, e1, q, Reps.mono m _ _ r⟩
  | deal ds x =>
    obtain ⟨a, b, vs, w, e, e0, e1, e2, q, q', r, r'⟩ := h
    exact ⟨a, b, vs, w, e, e0, e1, e2, q, q', Reps.mono m _ _ r, Rep.mono m _ _ r'⟩
/-- lists of data -/
theorem Reps.length : ∀ {ds : List D} {vs : List V}, Reps K F H ds vs → vs.length = ds.length
  | [], _, h => by cases h; rfl
  | d :: ds, _, h => by
    obtain ⟨v, r, e, _, h2⟩ := h
    subst e
    exact congrArg (· + 1) (Reps.length h2)
theorem Reps.get : ∀ {ds : List D} {vs : List V} {i : Nat} {d : D}, Reps K F H ds vs → ds[i]? = some d → ∃ v, vs[i]? = some v ∧ Rep K F H d v
  | [], _, _, _, _, e => by cases e
  | d :: ds, _, 0, _, h, e => by
    obtain ⟨v, r, e1, h1, _⟩ := h
    subst e1
    cases e
    exact ⟨v, rfl, h1⟩
  | d :: ds, _, i + 1, _, h, e => by
    obtain ⟨v, r, e1, _, h2⟩ := h
    subst e1
    obtain ⟨w, a, b⟩ := Reps.get (i := i) h2 (by simpa using e)
    exact ⟨w, by simpa using a, b⟩
theorem Reps.get' : ∀ {ds : List D} {vs : List V} {i : Nat} {v : V}, Reps K F H ds vs → vs[i]? = some v → ∃ d, ds[i]? = some d ∧ Rep K F H d v
  | [], _, _, _, h, e => by cases h; cases e
  | d :: ds, _, 0, _, h, e => by
    obtain ⟨v, r, e1, h1, _⟩ := h
    subst e1
    cases e
    exact ⟨d, rfl, h1⟩
  | d :: ds, _, i + 1, _, h, e => by
    obtain ⟨v, r, e1, _, h2⟩ := h
    subst e1
    obtain ⟨w, a, b⟩ := Reps.get' (i := i) h2 (by simpa using e)
    exact ⟨w, by simpa using a, b⟩
theorem Reps.append : ∀ {ds es : List D} {vs ws : List V}, Reps K F H ds vs → Reps K F H es ws → Reps K F H (ds ++ es) (vs ++ ws)
  | [], _, _, _, h, g => by cases h; exact g
  | d :: ds, _, _, _, h, g => by
    obtain ⟨v, r, e1, h1, h2⟩ := h
    subst e1
    exact ⟨v, _, rfl, h1, Reps.append h2 g⟩
theorem Reps.take : ∀ {ds : List D} {vs : List V} (n : Nat), Reps K F H ds vs → Reps K F H (ds.take n) (vs.take n)
  | [], _, n, h => by cases h; simp [Reps]
  | d :: ds, _, 0, h => by simp [Reps]
  | d :: ds, _, n + 1, h => by
    obtain ⟨v, r, e1, h1, h2⟩ := h
    subst e1
    exact ⟨v, _, rfl, h1, Reps.take n h2⟩
theorem Reps.drop : ∀ {ds : List D} {vs : List V} (n : Nat), Reps K F H ds vs → Reps K F H (ds.drop n) (vs.drop n)
  | [], _, n, h => by cases h; simp [Reps]
  | d :: ds, _, 0, h => by simpa using h
  | d :: ds, _, n + 1, h => by
    obtain ⟨v, r, e1, h1, h2⟩ := h
    subst e1
    simpa using Reps.drop n h2
theorem Reps.set : ∀ {ds : List D} {vs : List V} (i : Nat) {d : D} {v : V}, Reps K F H ds vs → Rep K F H d v → Reps K F H (ds.set i d) (vs.set i v)
  | [], _, i, _, _, h, _ => by cases h; simp [Reps]
  | d :: ds, _, 0, e, w, h, g => by
    obtain ⟨v, r, e1, h1, h2⟩ := h
    subst e1
    exact ⟨w, r, rfl, g, h2⟩
  | d :: ds, _, i + 1, e, w, h, g => by
    obtain ⟨v, r, e1, h1, h2⟩ := h
    subst e1
    exact ⟨v, _, rfl, h1, Reps.set i h2 g⟩
theorem Reps.one {d : D} {v : V} (h : Rep K F H d v) : Reps K F H [d] [v] := ⟨v, [], rfl, h, rfl⟩
theorem Reps.reverse : ∀ {ds : List D} {vs : List V}, Reps K F H ds vs → Reps K F H ds.reverse vs.reverse
  | [], _, h => by cases h; simp [Reps]
  | d :: ds, _, h => by
    obtain ⟨v, r, e1, h1, h2⟩ := h
    subst e1
    rw [List.reverse_cons, List.reverse_cons]
    exact Reps.append (Reps.reverse h2) (Reps.one h1)
theorem Reps.eraseIdx : ∀ {ds : List D} {vs : List V} (i : Nat), Reps K F H ds vs → Reps K F H (ds.eraseIdx i) (vs.eraseIdx i)
  | [], _, i, h => by cases h; simp [Reps]
  | d :: ds, _, 0, h => by
    obtain ⟨v, r, e1, h1, h2⟩ := h
    subst e1
    exact h2
  | d :: ds, _, i + 1, h => by
    obtain ⟨v, r, e1, h1, h2⟩ := h
    subst e1
    exact ⟨v, _, rfl, h1, Reps.eraseIdx i h2⟩
theorem Reps.dropLast {ds : List D} {vs : List V} (h : Reps K F H ds vs) : Reps K F H ds.dropLast vs.dropLast := by
  rw [List.dropLast_eq_take, List.dropLast_eq_take, Reps.length h]
  exact Reps.take _ h
theorem Reps.rep {ds : List D} {vs : List V} (h : Reps K F H ds vs) : ∀ k : Nat, Reps K F H (List.replicate k ds).flatten (List.replicate k vs).flatten
  | 0 => by simp [Reps]
  | k + 1 => by
    rw [List.replicate_succ, List.replicate_succ, List.flatten_cons, List.flatten_cons]
    exact Reps.append h (Reps.rep h k)
theorem Reps.ints : ∀ {ns : List Int} {vs : List V}, Reps K F H (ns.map D.int) vs → vs = ns.map V.int
  | [], _, h => h
  | n :: ns, _, h => by
    obtain ⟨v, r, e1, h1, h2⟩ := h
    subst e1
    rw [show v = V.int n from h1, Reps.ints h2]
    rfl
end

section
variable {K : PySem.W.Frag} {G G' : Gh} {σ : L2.St}
theorem Own.step (C : Con K G σ) (S : Ste G G') {f : Nat → Option Addr} {o : O} {v : V} (h : Own K G.F G.H f o v) (k : ∀ j a u, f j = some a → G.H a = some u → G'.H a = some u) : Own K G'.F G'.H f o v := by
  cases o with
  | dat d => exact ⟨Rep.step C S _ _ h.1, h.2⟩
  | own ds =>
    obtain ⟨a, vs, e, e0, e1, q, r⟩ := h
    exact ⟨a, vs, e, e0, e1, k 0 a _ e0 q, Reps.step C S _ _ r⟩
  | deal ds x =>
    obtain ⟨a, b, vs, w, e, e0, e1, e2, q, q', r, r'⟩ := h
    exact ⟨a, b, vs, w, e, e0, e1, e2, k 0 a _ e0 q, k 1 b _ e1 q', Reps.step C S _ _ r, Rep.step C S _ _ r'⟩
/-- more is frozen -/
theorem Con.frz (C : Con K G σ) (P : Addr → Prop) (hp : ∀ a, P a → G.H a ≠ none ∧ ∀ i j, G.fp i j ≠ some a) : Con K { G with F := fun a => G.F a ∨ P a } σ where
  len := C.len
  get := fun i o e => by
    obtain ⟨v, e1, w⟩ := C.get i o e
    exact ⟨v, e1, Own.mono (fun a h => .inl h) w⟩
  non := C.non
  sep := C.sep
  nof := fun i j a e z => by
    rcases z with z | z
    · exact C.nof i j a e z
    · exact (hp a z).2 i j e
  fin := fun a z => by
    rcases z with z | z
    · exact C.fin a z
    · exact (hp a z).1
theorem get_set {α : Type} {l : List α} {i k : Nat} {x y : α} (h : (l.set i x)[k]? = some y) : (k = i ∧ x = y ∧ i < l.length) ∨ (k ≠ i ∧ l[k]? = some y) := by
  by_cases hk : i = k
  · subst hk
    rw [List.getElem?_set] at h
    by_cases hl : i < l.length
    · simp [hl] at h
      exact .inl ⟨rfl, h, hl⟩
    · simp [hl] at h
  · rw [List.getElem?_set_ne hk] at h
    exact .inr ⟨Ne.symm hk, h⟩
/-- one slot is changed -/
theorem Con.slot {G' : Gh} {σ' : L2.St} (C : Con K G σ) (i : Nat) (x : Option O) (hΓ : G'.Γ = G.Γ.set i x) (hσl : σ'.length = σ.length) (hσ : ∀ k, k ≠ i → σ'[k]? = σ[k]?) (hfp : ∀ k, k ≠ i → G'.fp k = G.fp k)
    (hx : ∀ o, x = some o → i < G.Γ.length → ∃ v, σ'[i]? = some (some v) ∧ Own K G'.F G'.H (G'.fp i) o v) (hn : x = none ∨ G.Γ.length ≤ i → ∀ j, G'.fp i j = none)
    (inj : ∀ j j' a, G'.fp i j = some a → G'.fp i j' = some a → j = j') (dis : ∀ j a, G'.fp i j = some a → ∀ k j', k ≠ i → G.fp k j' ≠ some a)
    (nof : ∀ j a, G'.fp i j = some a → ¬ G'.F a) (nof2 : ∀ k j a, k ≠ i → G.fp k j = some a → ¬ G'.F a) (fin : ∀ a, G'.F a → G'.H a ≠ none)
    (hR : ∀ k o v, k ≠ i → Own K G.F G.H (G.fp k) o v → Own K G'.F G'.H (G.fp k) o v) : Con K G' σ' where
  len := by rw [hΓ, List.length_set, hσl]; exact C.len
  get := fun k o e => by
    rw [hΓ] at e
    rcases get_set e with ⟨rfl, e1, hl⟩ | ⟨hk, e1⟩
    · exact hx o e1 hl
    · obtain ⟨v, e2, w⟩ := C.get k o e1
      exact ⟨v, by rw [hσ k hk]; exact e2, by rw [hfp k hk]; exact hR k o v hk w⟩
  non := fun k h j => by
    by_cases hk : k = i
    · subst hk
      refine hn ?_ j
      by_cases hl : k < G.Γ.length
      · left
        cases x with
        | none => rfl
        | some o => exact absurd (by rw [hΓ, List.getElem?_set_self hl]) (h o)
      · exact .inr (Nat.le_of_not_lt hl)
    · rw [hfp k hk]
      refine C.non k (fun o e => h o ?_) j
      rw [hΓ, List.getElem?_set_ne (Ne.symm hk)]
      exact e
  sep := fun k j k' j' a e e' => by
    by_cases hk : k = i
    · subst hk
      by_cases hk' : k' = k
      · subst hk'
        exact ⟨rfl, inj j j' a e e'⟩
      · rw [hfp k' hk'] at e'
        exact absurd e' (dis j a e k' j' hk')
    · by_cases hk' : k' = i
      · subst hk'
        rw [hfp k hk] at e
        exact absurd e (dis j' a e' k j hk)
      · rw [hfp k hk] at e
        rw [hfp k' hk'] at e'
        exact C.sep k j k' j' a e e'
  nof := fun k j a e => by
    by_cases hk : k = i
    · subst hk; exact nof j a e
    · rw [hfp k hk] at e
      exact nof2 k j a hk e
  fin := fin
/-- a slot is forgotten -/
def Gh.kill (G : Gh) (i : Nat) : Gh := { G with fp := fun k => if k = i then fun _ => none else G.fp k, Γ := G.Γ.set i none }
theorem Con.kill (C : Con K G σ) (i : Nat) : Con K (G.kill i) σ := by
  have fi : (G.kill i).fp i = fun _ => none := by show (if i = i then _ else _) = _; rw [if_pos rfl]
  have fk : ∀ k, k ≠ i → (G.kill i).fp k = G.fp k := fun k hk => by show (if k = i then _ else _) = _; rw [if_neg hk]
  refine C.slot i none rfl rfl (fun _ _ => rfl) fk (fun o z => by cases z) (fun _ j => by rw [fi]) (fun j j' a e => by rw [fi] at e; cases e) (fun j a e => by rw [fi] at e; cases e) (fun j a e => by rw [fi] at e; cases e) (fun k j a _ e => C.nof k j a e) C.fin (fun k o v _ h => h)
theorem isDeal_set {Γ : List (Option O)} {i k : Nat} {x : Option O} (hk : k ≠ i) : isDeal (Γ.set i x)[k]? = isDeal Γ[k]? := by rw [List.getElem?_set_ne (Ne.symm hk)]
/-- .. which holds no deal -/
theorem Ste.kill (G : Gh) (i : Nat) (h : isDeal G.Γ[i]? = false) : Ste G (G.kill i) where
  sub := fun _ h => h
  keep := fun _ _ h _ => h
  dom := fun _ h => h
  fps := fun k j a e => by
    have e : (if k = i then fun _ => none else G.fp k) j = some a := e
    by_cases hk : k = i
    · rw [if_pos hk] at e; cases e
    · rw [if_neg hk] at e
      exact .inl ⟨k, j, e⟩
  fnew := fun _ h => .inl h
  deal := fun k hd => by
    have hk : k ≠ i := fun z => by subst z; rw [h] at hd; cases hd
    refine ⟨?_, ?_⟩
    · show isDeal (G.Γ.set i none)[k]? = true
      rw [isDeal_set hk]; exact hd
    · show (if k = i then _ else _) = _
      rw [if_neg hk]
  len := by show (G.Γ.set i none).length = _; rw [List.length_set]
/-- a new object is laid -/
def Gh.lay (G : Gh) (p : Addr) (o : HO) : Gh := { G with H := upd G.H p o }
theorem Ste.lay (G : Gh) {p : Addr} {o : HO} (h : G.H p = none) : Ste G (G.lay p o) where
  sub := fun _ h => h
  keep := fun a u e _ => by show upd G.H p o a = _; rw [upd_ne (ne_of_none e h)]; exact e
  dom := fun a e z => by
    have z : upd G.H p o a = none := z
    by_cases ha : a = p
    · subst ha; rw [upd_same] at z; cases z
    · rw [upd_ne ha] at z; exact e z
  fps := fun k j a e => .inl ⟨k, j, e⟩
  fnew := fun _ h => .inl h
  deal := fun k hd => ⟨hd, rfl⟩
  len := rfl
theorem Con.lay (C : Con K G σ) {p : Addr} {o : HO} (h : G.H p = none) : Con K (G.lay p o) σ where
  len := C.len
  get := fun i x e => by
    obtain ⟨v, e1, w⟩ := C.get i x e
    exact ⟨v, e1, Own.step C (Ste.lay G h) w fun j a u _ q => by show upd G.H p o a = _; rw [upd_ne (ne_of_none q h)]; exact q⟩
  non := C.non
  sep := C.sep
  nof := C.nof
  fin := fun a f => (Ste.lay G h).dom a (C.fin a f)
theorem Con.fresh (C : Con K G σ) {p : Addr} (h : G.H p = none) : ¬ G.F p ∧ ∀ i j, G.fp i j ≠ some p := ⟨fun f => C.fin p f h, fun i j e => by obtain ⟨vs, q⟩ := C.lst e; rw [h] at q; cases q⟩
end

/-! ### what an expression gives -/
/-- data; a new list; a new deal; the list (the deal) of a slot; the list in the deal of a slot -/
inductive R where
  | val (d : D) | new (ds : List D) | newD (ds : List D) (m : D) | at (i : Nat) | at1 (i : Nat)

section
variable (K : PySem.W.Frag) (H0 : Hp) (G : Gh) (σ : L2.St)
def RepR : R → V → Prop
  | .val d, v => Rep K G.F G.H d v
  | .new ds, v => ∃ a vs, v = .ref a ∧ H0 a = none ∧ G.H a = some (.lst vs) ∧ Reps K G.F G.H ds vs ∧ ¬ G.F a ∧ ∀ i j, G.fp i j ≠ some a
  | .newD ds m, v => ∃ a b vs w, v = .ref a ∧ H0 a = none ∧ H0 b = none ∧ a ≠ b ∧ G.H a = some (.lst [.ref b, w]) ∧ G.H b = some (.lst vs) ∧ Reps K G.F G.H ds vs ∧ Rep K G.F G.H m w ∧ (¬ G.F a ∧ ∀ i j, G.fp i j ≠ some a) ∧ (¬ G.F b ∧ ∀ i j, G.fp i j ≠ some b)
  | .at i, v => σ[i]? = some (some v)
  | .at1 i, v => isDeal G.Γ[i]? = true ∧ ∃ b, G.fp i 1 = some b ∧ v = .ref b
end
section
variable {K : PySem.W.Frag} {H0 : Hp} {G G' : Gh} {σ : L2.St}
theorem Ste.new (S : Ste G G') {a : Addr} {o : HO} (h : G.H a = some o) (n : ¬ G.F a ∧ ∀ i j, G.fp i j ≠ some a) : G'.H a = some o ∧ ¬ G'.F a ∧ ∀ i j, G'.fp i j ≠ some a := by
  refine ⟨S.keep a o h n.2, fun f => ?_, fun i j e => ?_⟩
  · rcases S.fnew a f with z | ⟨i, j, z⟩ | z
    · exact n.1 z
    · exact n.2 i j z
    · rw [h] at z; cases z
  · rcases S.fps i j a e with ⟨i', j', z⟩ | z
    · exact n.2 i' j' z
    · rw [h] at z; cases z
theorem RepR.step (C : Con K G σ) (S : Ste G G') : ∀ {r : R} {v : V}, RepR K H0 G σ r v → RepR K H0 G' σ r v
  | .val d, v, h => Rep.step C S d v h
  | .new ds, v, h => by
    obtain ⟨a, vs, e, z, q, r, n⟩ := h
    obtain ⟨q', n'⟩ := S.new q n
    exact ⟨a, vs, e, z, q', Reps.step C S _ _ r, n'⟩
  | .newD ds m, v, h => by
    obtain ⟨a, b, vs, w, e, z, z', ne, q, q', r, r', n, n'⟩ := h
    obtain ⟨q1, n1⟩ := S.new q n
    obtain ⟨q2, n2⟩ := S.new q' n'
    exact ⟨a, b, vs, w, e, z, z', ne, q1, q2, Reps.step C S _ _ r, Rep.step C S _ _ r', n1, n2⟩
  | .at i, v, h => h
  | .at1 i, v, h => by
    obtain ⟨d, b, e, z⟩ := h
    obtain ⟨d', f⟩ := S.deal i d
    exact ⟨d', b, by rw [f]; exact e, z⟩
theorem Ste.nn (S : Ste G G') {a : Addr} (h : G'.H a = none) : G.H a = none := by
  cases q : G.H a with
  | none => rfl
  | some o => exact absurd h (S.dom a (by rw [q]; simp))
/-- an earlier start -/
theorem RepR.base {H1 : Hp} (hb : ∀ a, H1 a = none → H0 a = none) : ∀ {r : R} {v : V}, RepR K H1 G σ r v → RepR K H0 G σ r v
  | .val d, v, h => h
  | .new ds, v, h => by
    obtain ⟨a, vs, e, z, h⟩ := h
    exact ⟨a, vs, e, hb a z, h⟩
  | .newD ds m, v, h => by
    obtain ⟨a, b, vs, w, e, z, z', h⟩ := h
    exact ⟨a, b, vs, w, e, hb a z, hb b z', h⟩
  | .at i, v, h => h
  | .at1 i, v, h => h

def mvO (i : Nat) (Γ : List (Option O)) : Option (Option O) → Option (D × List (Option O))
  | some (some (.dat d)) => some (d, Γ)
  | some (some (.own ds)) => some (.lst ds, Γ.set i none)
  | _ => none
def drO : Option (Option O) → Option D
  | some (some (.dat d)) => some d
  | some (some (.own ds)) => some (.lst ds)
  | _ => none
def dr1 : Option (Option O) → Option D
  | some (some (.deal ds m)) => some (.lst ds)
  | _ => none
/-- the thing as data that stays: what was new or a slot's own is frozen -/
def mv (Γ : List (Option O)) : R → Option (D × List (Option O))
  | .val d => some (d, Γ)
  | .new ds => some (.lst ds, Γ)
  | .newD ds m => none
  | .at i => mvO i Γ Γ[i]?
  | .at1 _ => none
/-- the thing as it is now -/
def dr (Γ : List (Option O)) : R → Option D
  | .val d => some d
  | .new ds => some (.lst ds)
  | .newD ds m => none
  | .at i => drO Γ[i]?
  | .at1 i => dr1 Γ[i]?
def Snap (K : PySem.W.Frag) (F : Addr → Prop) (H : Hp) : D → V → Prop
  | .lst ds, v => ∃ a vs, v = .ref a ∧ H a = some (.lst vs) ∧ Reps K F H ds vs
  | d, v => Rep K F H d v
theorem Snap.of {F : Addr → Prop} {H : Hp} : ∀ {d : D} {v : V}, Rep K F H d v → Snap K F H d v
  | .non, _, h => h
  | .bl _, _, h => h
  | .int _, _, h => h
  | .str _, _, h => h
  | .tup _, _, h => h
  | .scr _, _, h => h
  | .lst _, _, h => by
    obtain ⟨a, vs, e, _, q, r⟩ := h
    exact ⟨a, vs, e, q, r⟩
theorem dr_ok (C : Con K G σ) : ∀ {r : R} {v : V} {d : D}, RepR K H0 G σ r v → dr G.Γ r = some d → Snap K G.F G.H d v
  | .val d, v, _, h, e => by cases e; exact .of h
  | .new ds, v, _, h, e => by
    cases e
    obtain ⟨a, vs, e, _, q, r, _⟩ := h
    exact ⟨a, vs, e, q, r⟩
  | .newD ds m, v, _, h, e => by cases e
  | .at i, v, d, h, e => by
    have e : drO G.Γ[i]? = some d := e
    unfold drO at e
    split at e
    · rename_i d' q
      cases e
      obtain ⟨v', e1, w⟩ := C.get i _ q
      rw [show σ[i]? = some (some v) from h] at e1
      cases e1
      exact .of w.1
    · rename_i ds q
      cases e
      obtain ⟨v', e1, a, vs, e2, _, _, q', r⟩ := C.get i _ q
      rw [show σ[i]? = some (some v) from h] at e1
      cases e1
      exact ⟨a, vs, e2, q', r⟩
    · cases e
  | .at1 i, v, d, h, e => by
    have e : dr1 G.Γ[i]? = some d := e
    unfold dr1 at e
    split at e
    · rename_i ds m q
      cases e
      obtain ⟨_, b, e1, rfl⟩ := h
      obtain ⟨v', _, a, b', vs, w, _, _, e3, _, _, q', r, _⟩ := C.get i _ q
      rw [e1] at e3
      cases e3
      exact ⟨b, vs, rfl, q', r⟩
    · cases e
theorem mv_ok {G0 : Gh} (C : Con K G σ) (S : Ste G0 G) : ∀ {r : R} {v : V} {d : D} {Γ' : List (Option O)}, RepR K G0.H G σ r v → mv G.Γ r = some (d, Γ') →
    ∃ G' : Gh, G'.Γ = Γ' ∧ G'.H = G.H ∧ (∀ a, G.F a → G'.F a) ∧ Con K G' σ ∧ Ste G0 G' ∧ Rep K G'.F G'.H d v
  | .val d, v, _, _, h, e => by cases e; exact ⟨G, rfl, rfl, fun _ h => h, C, S, h⟩
  | .new ds, v, _, _, h, e => by
    cases e
    obtain ⟨a, vs, rfl, z, q, r, n⟩ := h
    refine ⟨{ G with F := fun b => G.F b ∨ b = a }, rfl, rfl, fun _ h => .inl h, C.frz (fun b => b = a) (fun b e => by subst e; exact ⟨by rw [q]; simp, n.2⟩), ⟨fun b h => .inl (S.sub b h), S.keep, S.dom, S.fps, fun b h => ?_, S.deal, S.len⟩, ⟨a, vs, rfl, .inr rfl, q, Reps.mono (fun _ h => .inl h) _ _ r⟩⟩
    rcases h with h | rfl
    · exact S.fnew b h
    · exact .inr (.inr z)
  | .newD ds m, v, _, _, h, e => by cases e
  | .at i, v, d, Γ', h, e => by
    have e : mvO i G.Γ G.Γ[i]? = some (d, Γ') := e
    unfold mvO at e
    split at e
    · rename_i d' q
      cases e
      obtain ⟨v', e1, w⟩ := C.get i _ q
      rw [show σ[i]? = some (some v) from h] at e1
      cases e1
      exact ⟨G, rfl, rfl, fun _ h => h, C, S, w.1⟩
    · rename_i ds q
      cases e
      obtain ⟨v', e1, a, vs, rfl, f0, f1, q', r⟩ := C.get i _ q
      rw [show σ[i]? = some (some v) from h] at e1
      cases e1
      have Sk : Ste G (G.kill i) := Ste.kill G i (by rw [q]; rfl)
      have Ck := C.kill i
      have hfp : ∀ k j, (G.kill i).fp k j ≠ some a := fun k j e => by
        have e : (if k = i then fun _ => none else G.fp k) j = some a := e
        by_cases hk : k = i
        · rw [if_pos hk] at e; cases e
        · rw [if_neg hk] at e
          exact hk (C.sep k j i 0 a e f0).1
      have Cf := Ck.frz (fun b => b = a) (fun b e => by subst e; exact ⟨by show G.H b ≠ none; rw [q']; simp, hfp⟩)
      refine ⟨{ G.kill i with F := fun b => (G.kill i).F b ∨ b = a }, rfl, rfl, fun _ h => .inl h, Cf, ?_, ⟨a, vs, rfl, .inr rfl, q', Reps.mono (fun _ h => .inl h) _ _ r⟩⟩
      have St := S.trans Sk
      refine ⟨fun b h => .inl (St.sub b h), St.keep, St.dom, St.fps, fun b h => ?_, St.deal, St.len⟩
      rcases h with h | rfl
      · exact St.fnew b h
      · exact .inr (S.fps i 0 b f0)
    · cases e
  | .at1 i, v, _, _, h, e => by cases e
end
end Z

set_option Elab.async false
set_option linter.all false
set_option maxRecDepth 100000
set_option maxHeartbeats 4000000
/-! Z2: readings by actions; names, constants, operators, arguments, displays -/
namespace Z
open PySem L2

abbrev Ga := List (Option O)
abbrev Act (α : Type) := Ga → Option (α × Ga)

def RepRs (K : PySem.W.Frag) (H0 : Hp) (G : Gh) (σ : L2.St) : List R → List V → Prop
  | [], vs => vs = []
  | r :: rs, vs => ∃ v w, vs = v :: w ∧ RepR K H0 G σ r v ∧ RepRs K H0 G σ rs w
theorem RepRs.step {K : PySem.W.Frag} {H0 : Hp} {G G' : Gh} {σ : L2.St} (C : Con K G σ) (S : Ste G G') : ∀ {rs : List R} {vs : List V}, RepRs K H0 G σ rs vs → RepRs K H0 G' σ rs vs
  | [], _, h => h
  | r :: rs, _, h => by
    obtain ⟨v, w, e, h1, h2⟩ := h
    exact ⟨v, w, e, RepR.step C S h1, RepRs.step C S h2⟩
theorem RepRs.base {K : PySem.W.Frag} {H0 H1 : Hp} {G : Gh} {σ : L2.St} (hb : ∀ a, H1 a = none → H0 a = none) : ∀ {rs : List R} {vs : List V}, RepRs K H1 G σ rs vs → RepRs K H0 G σ rs vs
  | [], _, h => h
  | r :: rs, _, h => by
    obtain ⟨v, w, e, h1, h2⟩ := h
    exact ⟨v, w, e, RepR.base hb h1, RepRs.base hb h2⟩
def drs (Γ : Ga) : List R → Option (List D)
  | [] => some []
  | r :: rs => match dr Γ r, drs Γ rs with
    | some d, some ds => some (d :: ds)
    | _, _ => none
def Snaps (K : PySem.W.Frag) (F : Addr → Prop) (H : Hp) : List D → List V → Prop
  | [], vs => vs = []
  | d :: ds, vs => ∃ v w, vs = v :: w ∧ Snap K F H d v ∧ Snaps K F H ds w
theorem drs_ok {K : PySem.W.Frag} {H0 : Hp} {G : Gh} {σ : L2.St} (C : Con K G σ) : ∀ {rs : List R} {vs : List V} {ds : List D}, RepRs K H0 G σ rs vs → drs G.Γ rs = some ds → Snaps K G.F G.H ds vs
  | [], _, _, h, e => by cases e; exact h
  | r :: rs, _, ds, h, e => by
    obtain ⟨v, w, e1, h1, h2⟩ := h
    unfold drs at e
    split at e
    · rename_i d ds' q1 q2
      cases e
      exact ⟨v, w, e1, dr_ok C h1 q1, drs_ok C h2 q2⟩
    · cases e

/-! ### readings -/
def Go (K : PySem.W.Frag) (G : Gh) (σ : L2.St) (r : R) (Γ' : Ga) (Q : VK) : Prop := ∀ G' v, G'.Γ = Γ' → Con K G' σ → Ste G G' → RepR K G.H G' σ r v → Q v G'.H
def tOf (K : PySem.W.Frag) (f : Act R) : TE := fun σ H Q => ∃ G : Gh, G.H = H ∧ Con K G σ ∧ ∃ r Γ', f G.Γ = some (r, Γ') ∧ Go K G σ r Γ' Q
def tOfT (K : PySem.W.Frag) (f : Act Bool) : TT := fun σ H Q => ∃ G : Gh, G.H = H ∧ Con K G σ ∧ ∃ b Γ', f G.Γ = some (b, Γ') ∧ ∀ G', G'.Γ = Γ' → Con K G' σ → Ste G G' → Q b G'.H
def tOfR (K : PySem.W.Frag) (f : Act (List R)) : TA := fun σ H Q => ∃ G : Gh, G.H = H ∧ Con K G σ ∧ ∃ rs Γ', f G.Γ = some (rs, Γ') ∧ ∀ G' vs, G'.Γ = Γ' → Con K G' σ → Ste G G' → RepRs K G.H G' σ rs vs → Q vs G'.H
theorem pe_imp {X : Cx} {e : Expr} {t t' : TE} (h : PE X e t) (i : ∀ σ H Q, t' σ H Q → t σ H Q) : PE X e t' := ⟨fun pins s σ H Q I q => h.run pins s σ H Q I (i σ H Q q)⟩
theorem pt_imp {X : Cx} {e : Expr} {t t' : TT} (h : PT X e t) (i : ∀ σ H Q, t' σ H Q → t σ H Q) : PT X e t' := ⟨fun pins s σ H Q I q => h.run pins s σ H Q I (i σ H Q q)⟩
theorem pa_imp {X : Cx} {e : List Expr} {t t' : TA} (h : PA X e t) (i : ∀ σ H Q, t' σ H Q → t σ H Q) : PA X e t' := ⟨fun pos pins s σ H Q I q => h.run pos pins s σ H Q I (i σ H Q q)⟩
theorem ps_imp {X : Cx} {e : Stmt} {t t' : TS} (h : PS X e t) (i : ∀ D σ H, t' D σ H → t D σ H) : PS X e t' := ⟨fun pins s σ H D I q => h.run pins s σ H D I (i D σ H q)⟩
theorem pe_or {X : Cx} {e : Expr} {t t' : TE} (h : PE X e t) (h' : PE X e t') : PE X e (fun σ H Q => t σ H Q ∨ t' σ H Q) := ⟨fun pins s σ H Q I q => q.elim (h.run pins s σ H Q I) (h'.run pins s σ H Q I)⟩

/-! ### names, constants -/
def rdO (i : Nat) (Γ : Ga) : Option (Option O) → Option (R × Ga)
  | some (some (.dat d)) => some (.val d, Γ)
  | some (some (.own _)) => some (.at i, Γ)
  | some (some (.deal _ _)) => some (.at i, Γ)
  | _ => none
def aVar (i : Nat) : Act R := fun Γ => rdO i Γ Γ[i]?
def aVal (d : D) : Act R := fun Γ => some (.val d, Γ)
section
variable {X : Cx}
theorem t_var {K : PySem.W.Frag} {i : Nat} {σ : L2.St} {H : Hp} {Q : VK} (h : tOf K (aVar i) σ H Q) : tVar i σ H Q := by
  obtain ⟨G, rfl, C, r, Γ', e, k⟩ := h
  have e : rdO i G.Γ G.Γ[i]? = some (r, Γ') := e
  unfold rdO at e
  split at e
  · rename_i d q
    cases e
    obtain ⟨v, e1, w⟩ := C.get i _ q
    exact ⟨v, e1, k G v rfl C (.refl G) w.1⟩
  · rename_i d q
    cases e
    obtain ⟨v, e1, w⟩ := C.get i _ q
    exact ⟨v, e1, k G v rfl C (.refl G) e1⟩
  · rename_i d m q
    cases e
    obtain ⟨v, e1, w⟩ := C.get i _ q
    exact ⟨v, e1, k G v rfl C (.refl G) e1⟩
  · cases e
theorem pe_aVar {i : Nat} {x : Str} {pos : Pos} (hN : X.N[i]? = some x) (hv : Vis X.env.scope x) (hd : (x == ("__debug__" : Str)) = false) (hcd : (x == ("__classdict__" : Str)) = false) : PE X (.Name x pos) (tOf X.K (aVar i)) :=
  pe_imp (pe_var hN hv hd hcd) fun _ _ _ => t_var
theorem t_val {K : PySem.W.Frag} {d : D} {v : V} {σ : L2.St} {H : Hp} {Q : VK} (r : ∀ F H, Rep K F H d v) (h : tOf K (aVal d) σ H Q) : tC v σ H Q := by
  obtain ⟨G, rfl, C, r', Γ', e, k⟩ := h
  cases e
  exact k G v rfl C (.refl G) (r _ _)
end

/-! ### results of operations on values -/
/-- data that stands; a tuple; a new list -/
inductive PR where
  | v (d : D) | t (ds : List D) | l (ds : List D)
def PR.r : PR → R
  | .v d => .val d
  | .t ds => .val (.tup ds)
  | .l ds => .new ds
def PRok (K : PySem.W.Frag) (F : Addr → Prop) (H : Hp) : PR → VK → Prop
  | .v d, Q => ∀ v, Rep K F H d v → Q v H
  | .t ds, Q => (∀ p vs, H p = none → Reps K F H ds vs → Q (.ref p) (upd H p (.tup vs))) ∧ ∀ a vs, SqT K H a vs → Reps K F H ds vs → Q (.ref a) H
  | .l ds, Q => ∀ p vs, H p = none → Reps K F H ds vs → Q (.ref p) (upd H p (.lst vs))
section
variable {K : PySem.W.Frag} {G0 G : Gh} {σ : L2.St} {Q : VK}
theorem pr_ok (C : Con K G σ) (S : Ste G0 G) : ∀ {pr : PR}, Go K G0 σ pr.r G.Γ Q → PRok K G.F G.H pr Q
  | .v d, k => fun v h => k G v rfl C S h
  | .t ds, k => ⟨fun p vs hp r => by
      have L := C.lay (o := .tup vs) hp
      have S2 := Ste.lay G (o := .tup vs) hp
      exact k (G.lay p (.tup vs)) (.ref p) rfl L (S.trans S2) ⟨p, vs, rfl, SqT.of upd_same, Reps.step C S2 _ _ r⟩,
    fun a vs q r => k G (.ref a) rfl C S ⟨a, vs, rfl, q, r⟩⟩
  | .l ds, k => fun p vs hp r => by
      have L := C.lay (o := .lst vs) hp
      have S2 := Ste.lay G (o := .lst vs) hp
      obtain ⟨n1, n2⟩ := C.fresh hp
      exact k (G.lay p (.lst vs)) (.ref p) rfl L (S.trans S2) ⟨p, vs, rfl, S.nn hp, upd_same, Reps.step C S2 _ _ r, n1, n2⟩
end

/-! ### two-place operations -/
def aBin (p : D → D → Option PR) (fa fb : Act R) : Act R := fun Γ =>
  match fa Γ with
  | none => none
  | some (r1, Γ1) => match fb Γ1 with
    | none => none
    | some (r2, Γ2) => match dr Γ2 r1, dr Γ2 r2 with
      | some d1, some d2 => match p d1 d2 with
        | some pr => some (pr.r, Γ2)
        | none => none
      | _, _ => none
/-- the rule of an operation on values, its plain word -/
def OpA (K : PySem.W.Frag) (r : R2) (p : D → D → Option PR) : Prop := ∀ F H x y d1 d2 pr Q, Snap K F H d1 x → Snap K F H d2 y → p d1 d2 = some pr → PRok K F H pr Q → r x y H Q
theorem t_bin {K : PySem.W.Frag} {r : R2} {p : D → D → Option PR} (o : OpA K r p) {fa fb : Act R} {σ : L2.St} {H : Hp} {Q : VK} (h : tOf K (aBin p fa fb) σ H Q) : tOp r (tOf K fa) (tOf K fb) σ H Q := by
  obtain ⟨G, rfl, C, rr, Γ', e, k⟩ := h
  unfold aBin at e
  split at e
  · cases e
  · rename_i r1 Γ1 e1
    split at e
    · cases e
    · rename_i r2 Γ2 e2
      split at e
      · rename_i d1 d2 q1 q2
        split at e
        · rename_i pr q
          cases e
          refine ⟨G, rfl, C, r1, Γ1, e1, fun G1 v1 g1 C1 S1 R1 => ⟨G1, rfl, C1, r2, _, by rw [g1]; exact e2, fun G2 v2 g2 C2 S2 R2 => ?_⟩⟩
          subst g2
          exact o G2.F G2.H v1 v2 d1 d2 pr Q (dr_ok C2 (RepR.step C1 S2 R1) q1) (dr_ok C2 R2 q2) q (pr_ok C2 (S1.trans S2) k)
        · cases e
      · cases e
section
variable {X : Cx}
theorem pe_aBin {op : Operator} {r : R2} {p : D → D → Option PR} {a b : Expr} {pos : Pos} {fa fb : Act R} (ho : OpR X (binaryOp op) r) (o : OpA X.K r p) (ha : PE X a (tOf X.K fa)) (hb : PE X b (tOf X.K fb)) : PE X (.BinOp a op b pos) (tOf X.K (aBin p fa fb)) :=
  pe_imp (pe_op ho ha hb) fun _ _ _ => t_bin o
theorem pe_aCmp {op : CmpOp} {r : R2} {p : D → D → Option PR} {a b : Expr} {pos : Pos} {fa fb : Act R} (ho : OpR X (compareOp op) r) (o : OpA X.K r p) (ha : PE X a (tOf X.K fa)) (hb : PE X b (tOf X.K fb)) (hm : behindInMarks op b = false) : PE X (.Compare a [op] [b] pos) (tOf X.K (aBin p fa fb)) :=
  pe_imp (pe_cmpR ho ha hb hm) fun _ _ _ => t_bin o
end

/-! ### tests -/
def toB : R → Option Bool
  | .val (.bl b) => some b
  | _ => none
def aT (f : Act R) : Act Bool := fun Γ => match f Γ with
  | none => none
  | some (r, Γ1) => match toB r with
    | some b => some (b, Γ1)
    | none => none
theorem toB_rep {K : PySem.W.Frag} {H0 : Hp} {G : Gh} {σ : L2.St} {r : R} {v : V} {b : Bool} (h : RepR K H0 G σ r v) (e : toB r = some b) : v = .bl b := by
  unfold toB at e
  split at e
  · cases e; exact h
  · cases e
theorem t_tB {K : PySem.W.Frag} {f : Act R} {t : TE} {σ : L2.St} {H : Hp} {Q : Bool → Hp → Prop} (ht : ∀ Q, tOf K f σ H Q → t σ H Q) (h : tOfT K (aT f) σ H Q) : t σ H fun x H1 => ∃ c, x = .bl c ∧ Q c H1 := by
  obtain ⟨G, rfl, C, b, Γ', e, k⟩ := h
  unfold aT at e
  split at e
  · cases e
  · rename_i r Γ1 e1
    split at e
    · rename_i b' q
      cases e
      exact ht _ ⟨G, rfl, C, r, _, e1, fun G' v g C' S R => ⟨_, toB_rep R q, k G' g C' S⟩⟩
    · cases e
def aAnd (fa fb : Act Bool) : Act Bool := fun Γ => match fa Γ with
  | none => none
  | some (true, Γ1) => fb Γ1
  | some (false, Γ1) => some (false, Γ1)
def aOr (fa fb : Act Bool) : Act Bool := fun Γ => match fa Γ with
  | none => none
  | some (true, Γ1) => some (true, Γ1)
  | some (false, Γ1) => fb Γ1
def aNot (fa : Act Bool) : Act Bool := fun Γ => match fa Γ with
  | none => none
  | some (b, Γ1) => some (!b, Γ1)
/-- a test as a value -/
def aB (f : Act Bool) : Act R := fun Γ => match f Γ with
  | none => none
  | some (b, Γ1) => some (.val (.bl b), Γ1)
section
variable {K : PySem.W.Frag} {σ : L2.St} {H : Hp}
theorem t_and {fa fb : Act Bool} {Q : Bool → Hp → Prop} (h : tOfT K (aAnd fa fb) σ H Q) : tAnd (tOfT K fa) (tOfT K fb) σ H Q := by
  obtain ⟨G, rfl, C, b, Γ', e, k⟩ := h
  unfold aAnd at e
  split at e
  · cases e
  · rename_i Γ1 e1
    refine ⟨G, rfl, C, true, Γ1, e1, fun G1 g1 C1 S1 => ?_⟩
    refine iteT ?_
    exact ⟨G1, rfl, C1, b, Γ', by rw [g1]; exact e, fun G2 g2 C2 S2 => k G2 g2 C2 (S1.trans S2)⟩
  · rename_i Γ1 e1
    cases e
    refine ⟨G, rfl, C, false, _, e1, fun G1 g1 C1 S1 => ?_⟩
    refine iteF ?_
    exact k G1 g1 C1 S1
theorem t_or {fa fb : Act Bool} {Q : Bool → Hp → Prop} (h : tOfT K (aOr fa fb) σ H Q) : tOr (tOfT K fa) (tOfT K fb) σ H Q := by
  obtain ⟨G, rfl, C, b, Γ', e, k⟩ := h
  unfold aOr at e
  split at e
  · cases e
  · rename_i Γ1 e1
    cases e
    refine ⟨G, rfl, C, true, _, e1, fun G1 g1 C1 S1 => ?_⟩
    refine iteT ?_
    exact k G1 g1 C1 S1
  · rename_i Γ1 e1
    refine ⟨G, rfl, C, false, Γ1, e1, fun G1 g1 C1 S1 => ?_⟩
    refine iteF ?_
    exact ⟨G1, rfl, C1, b, Γ', by rw [g1]; exact e, fun G2 g2 C2 S2 => k G2 g2 C2 (S1.trans S2)⟩
theorem t_not {fa : Act Bool} {Q : Bool → Hp → Prop} (h : tOfT K (aNot fa) σ H Q) : tNot (tOfT K fa) σ H Q := by
  obtain ⟨G, rfl, C, b, Γ', e, k⟩ := h
  unfold aNot at e
  split at e
  · cases e
  · rename_i b1 Γ1 e1
    cases e
    exact ⟨G, rfl, C, b1, _, e1, fun G1 g1 C1 S1 => k G1 g1 C1 S1⟩
end
end Z

set_option Elab.async false
set_option linter.all false
set_option maxRecDepth 100000
set_option maxHeartbeats 4000000
/-! Z3: the operations on values -/
namespace Z
open PySem L2

theorem line_eq : sizeLine = 16777216 := sizeLine_eq
mutual
def D.py : D → PyData
  | .non => .none
  | .bl b => .bool b
  | .int i => .int i
  | .str x => .str x
  | .tup ds => .tuple (D.pys ds)
  | .lst ds => .list (D.pys ds)
  | .scr ns => .list (ns.map PyData.int)
def D.pys : List D → List PyData
  | [] => []
  | d :: ds => d.py :: D.pys ds
end
section
variable {K : PySem.W.Frag} {F : Addr → Prop} {H : Hp}
theorem dpAll_ints : ∀ ns : List Int, DpAll K H (ns.map V.int) (ns.map PyData.int)
  | [] => .nil
  | n :: ns => .cons (.int n) (dpAll_ints ns)
mutual
theorem dp_of : ∀ (d : D) (v : V), Rep K F H d v → Dp K H v d.py
  | .non, _, h => by cases h; exact .non
  | .bl b, _, h => by cases h; exact .bl b
  | .int i, _, h => by cases h; exact .int i
  | .str x, _, h => by cases h; exact .str x
  | .tup ds, _, h => by
    obtain ⟨a, vs, rfl, q, r⟩ := h
    exact .tup q (dpAll_of ds vs r)
  | .lst ds, _, h => by
    obtain ⟨a, vs, rfl, _, q, r⟩ := h
    exact .lst (SqL.of q) (dpAll_of ds vs r)
  | .scr ns, _, h => by
    obtain ⟨a, rfl, q⟩ := h
    refine .lst ?_ (dpAll_ints ns)
    rcases q with ⟨o, q⟩ | (q | ⟨o, q⟩) | q
    · exact .inl (.inr ⟨o, q⟩)
    · cases q
    · cases q
    · exact .inr q
theorem dpAll_of : ∀ (ds : List D) (vs : List V), Reps K F H ds vs → DpAll K H vs (D.pys ds)
  | [], _, h => by cases h; exact .nil
  | d :: ds, _, h => by
    obtain ⟨v, r, rfl, h1, h2⟩ := h
    exact .cons (dp_of d v h1) (dpAll_of ds r h2)
end
theorem dp_snap : ∀ {d : D} {v : V}, Snap K F H d v → Dp K H v d.py
  | .non, _, h => dp_of (F := F) _ _ h
  | .bl _, _, h => dp_of (F := F) _ _ h
  | .int _, _, h => dp_of (F := F) _ _ h
  | .str _, _, h => dp_of (F := F) _ _ h
  | .tup _, _, h => dp_of (F := F) _ _ h
  | .scr _, _, h => dp_of (F := F) _ _ h
  | .lst ds, _, h => by
    obtain ⟨a, vs, rfl, q, r⟩ := h
    exact .lst (SqL.of q) (dpAll_of ds vs r)
end

section
open PySem.Spec
theorem tuple_mul0 (l : Addr) (n : Nat) (dd : Option Addr) (sl : Array (Option Value)) (x : Int) (u : Tok) (c0 : (decide (x < -(2 ^ 63)) || decide (x ≥ 2 ^ 63)) = false) :
    Meets (Builtin.«tuple.__mul__» ⟨[.ref l, .int x u], []⟩) (fun _ R s => s.heap.get? l = some { cls := .type "tuple", dict := dd, data := .seq #[] n, slots := sl } ∧
      R (.ok (.ret (Value.ref l))) s) :=
  .of_wp fun prog w A R s h => by
    obtain ⟨hp, g, d, tk, os⟩ := s
    obtain ⟨hl, h⟩ := h
    have f1 := AutoSeq1.idx_int
    wp_walk using wpAny_loadPart' hl
    refine wpAny_ite_false (decide_eq_false (by rw [c0]; exact Bool.false_ne_true)) ?_
    wp_walk using wpAny_loadPart' hl
    exact ⟨_, rfl, h⟩
/-- () * k -/
def rRepT0 (K : PySem.W.Frag) : R2 := fun x y H Q => ∃ l k, x = .ref l ∧ y = .int k ∧ SqT K H l [] ∧ -(2 ^ 62) ≤ k ∧ k < 2 ^ 62 ∧ Q (.ref l) H
theorem op_repT0 {X : Cx} : OpR X (binaryOp .Mult) (rRepT0 X.K) := by
  intro pins s σ H x y v u Q I rx ry h
  obtain ⟨l, k, rfl, rfl, hT, h1, h2, q⟩ := h
  cases rx
  obtain ⟨t, rfl⟩ := ry
  obtain ⟨its, r, ⟨⟨cls, dd, data, sl⟩, ho, hc, n, hd⟩, hs⟩ := I.tuple hT
  simp only at hc hd
  subst hc hd
  cases r
  have c0 : (decide (k < -(2 ^ 63)) || decide (k ≥ 2 ^ 63)) = false := by
    rw [decide_eq_false (by omega), decide_eq_false (by omega)] <;> rfl
  refine wpAny_binaryOp_repeat_ref (T := "tuple") (U := "int") (by decide) ⟨_, ho, rfl⟩ (fun s' => typeIs_int s' k t) noFill_tuple_mul F.fills_int_mul F.slot_int_rmul repeat_tuple F.slot_int_index.lookup
    (call_meets F.slot_int_rmul (typeIs_int s k t) F.entry_int_rmul (F.args_int_rmul_2 _ _) (int_rmul_tuple k t l #[] n dd sl)
      ⟨ho, rfl, ⟨_, ho, rfl⟩, call_meets F.slot_tuple_mul ⟨_, ho, rfl⟩ F.entry_tuple_mul (F.args_tuple_mul_2 _ _) (tuple_mul0 l n dd sl k t c0) ⟨ho, ?_⟩⟩)
  exact ⟨.ref l, H, I, rfl, q⟩
end
/-! ### sums, products, .. -/
def okMul (i j : Int) : Prop := (-(2 ^ 64) < i ∧ i < 2 ^ 64) ∨ (-(2 ^ 64) < j ∧ j < 2 ^ 64) ∨ i.natAbs.log2 + j.natAbs.log2 < 1000000
instance (i j : Int) : Decidable (okMul i j) := by unfold okMul; infer_instance
def okDiv (j : Int) : Prop := 0 < j ∧ j.natAbs.log2 < 9000
instance (j : Int) : Decidable (okDiv j) := by unfold okDiv; infer_instance
def addP : D → D → Option PR
  | .int i, .int j => some (.v (.int (i + j)))
  | .str a, .str b => if a.length + b.length ≤ 16777216 then some (.v (.str (a ++ b))) else none
  | .lst a, .lst b => if a.length + b.length ≤ 16777216 then some (.l (a ++ b)) else none
  | .tup a, .tup b => if a.length + b.length ≤ 16777216 then some (.t (a ++ b)) else none
  | _, _ => none
def subP : D → D → Option PR
  | .int i, .int j => some (.v (.int (i - j)))
  | _, _ => none
def mulP : D → D → Option PR
  | .int i, .int j => if okMul i j then some (.v (.int (i * j))) else none
  | .lst a, .int k => if 0 ≤ k ∧ k ≤ 1000000 ∧ a.length * k.toNat ≤ 16777216 then some (.l (List.replicate k.toNat a).flatten) else none
  | .tup a, .int k => if a ≠ [] ∧ 2 ≤ k ∧ k ≤ 1000 ∧ a.length ≤ 1000 then some (.t (List.replicate k.toNat a).flatten) else if a = [] ∧ -(2 ^ 62) ≤ k ∧ k < 2 ^ 62 then some (.v (.tup [])) else none
  | _, _ => none
def divP : D → D → Option PR
  | .int i, .int j => if okDiv j then some (.v (.int (i / j))) else none
  | _, _ => none
def modP : D → D → Option PR
  | .int i, .int j => if 0 < j then some (.v (.int (i % j))) else none
  | _, _ => none
def powP : D → D → Option PR
  | .int i, .int j => if 0 ≤ j ∧ j ≤ 1000000 ∧ i.natAbs < 2 ^ 64 then some (.v (.int (i ^ j.toNat))) else none
  | _, _ => none
def bandP : D → D → Option PR
  | .int i, .int j => some (.v (.int (Builtin.bitAnd i j)))
  | _, _ => none

section
variable {X : Cx}
theorem opA_or {K : PySem.W.Frag} {r r' : R2} {p : D → D → Option PR} (h : ∀ F H x y d1 d2 pr Q, Snap K F H d1 x → Snap K F H d2 y → p d1 d2 = some pr → PRok K F H pr Q → r x y H Q ∨ r' x y H Q) : OpA K (fun x y H Q => r x y H Q ∨ r' x y H Q) p := h
def rAdd (K : PySem.W.Frag) : R2 := fun x y H Q => (rI0 fun i j => .int (i + j)) x y H Q ∨ (fun x y H Q => (∃ i j, x = .str i ∧ y = .str j ∧ i.length + j.length ≤ sizeLine ∧ Q (.str (i ++ j)) H) ∨ (fun x y H Q => rCat x y H Q ∨ rCatA K x y H Q) x y H Q) x y H Q
theorem op_addA : OpR X (binaryOp .Add) (rAdd X.K) := op_add.or (op_add_str.or (op_cat.or op_catA))
theorem opA_add {K : PySem.W.Frag} : OpA K (rAdd K) addP := by
  intro F H x y d1 d2 pr Q h1 h2 e k
  unfold addP at e
  split at e
  · cases e
    exact .inl ⟨_, _, h1, h2, k _ rfl⟩
  · split at e
    · rename_i hz
      cases e
      exact .inr (.inl ⟨_, _, h1, h2, by rw [line_eq]; exact hz, k _ rfl⟩)
    · cases e
  · split at e
    · rename_i hz
      cases e
      obtain ⟨a, vs, rfl, q, r⟩ := h1
      obtain ⟨b, ws, rfl, q', r'⟩ := h2
      exact .inr (.inr (.inl ⟨a, b, vs, ws, rfl, rfl, q, q', by rw [line_eq, r.length, r'.length]; exact hz, fun p hp => k p _ hp (r.append r')⟩))
    · cases e
  · split at e
    · rename_i hz
      cases e
      obtain ⟨a, vs, rfl, q, r⟩ := h1
      obtain ⟨b, ws, rfl, q', r'⟩ := h2
      refine .inr (.inr (.inr ⟨a, b, vs, ws, rfl, rfl, q, q', by rw [line_eq, r.length, r'.length]; exact hz, fun e => ?_, fun _ e => ?_, fun _ _ p hp => k.1 p _ hp (r.append r')⟩))
      · subst e
        have e0 := r.append r'
        rw [List.nil_append] at e0
        exact k.2 b ws q' e0
      · subst e
        have e0 := r.append r'
        rw [List.append_nil] at e0
        exact k.2 a vs q e0
    · cases e
  · cases e
theorem opA_sub {K : PySem.W.Frag} : OpA K (rI0 fun i j => .int (i - j)) subP := by
  intro F H x y d1 d2 pr Q h1 h2 e k
  unfold subP at e
  split at e
  · cases e; exact ⟨_, _, h1, h2, k _ rfl⟩
  · cases e
def rMul (K : PySem.W.Frag) : R2 := fun x y H Q => rI CMul (fun i j => .int (i * j)) x y H Q ∨ (fun x y H Q => rI CMulW (fun i j => .int (i * j)) x y H Q ∨ (fun x y H Q => rRep x y H Q ∨ (fun x y H Q => rRepT K x y H Q ∨ rRepT0 K x y H Q) x y H Q) x y H Q) x y H Q
theorem op_mulA : OpR X (binaryOp .Mult) (rMul X.K) := op_mul.or (op_mulW.or (op_rep.or (op_repT.or op_repT0)))
theorem opA_mul {K : PySem.W.Frag} : OpA K (rMul K) mulP := by
  intro F H x y d1 d2 pr Q h1 h2 e k
  unfold mulP at e
  split at e
  · split at e
    · rename_i hz
      cases e
      rcases hz with hz | hz | hz
      · exact .inl ⟨_, _, h1, h2, .inl hz, k _ rfl⟩
      · exact .inl ⟨_, _, h1, h2, .inr hz, k _ rfl⟩
      · exact .inr (.inl ⟨_, _, h1, h2, hz, k _ rfl⟩)
    · cases e
  · split at e
    · rename_i hz
      cases e
      obtain ⟨a, vs, rfl, q, r⟩ := h1
      obtain ⟨hz1, hz2, hz3⟩ := hz
      exact .inr (.inr (.inl ⟨a, _, vs, rfl, h2, q, by omega, by omega, by rw [line_eq, r.length]; exact hz3, fun p hp => k p _ hp (r.rep _)⟩))
    · cases e
  · split at e
    · rename_i hz
      cases e
      obtain ⟨a, vs, rfl, q, r⟩ := h1
      obtain ⟨hz0, hz1, hz2, hz3⟩ := hz
      refine .inr (.inr (.inr (.inl ⟨a, _, vs, rfl, h2, q, fun z => hz0 ?_, hz1, hz2, by rw [r.length]; exact hz3, fun p hp => k.1 p _ hp (r.rep _)⟩)))
      have := r.length
      rw [z] at this
      exact List.length_eq_zero_iff.mp this.symm
    · split at e
      · rename_i hz
        obtain ⟨rfl, hz1, hz2⟩ := hz
        cases e
        obtain ⟨a, vs, rfl, q, r⟩ := h1
        cases r
        exact .inr (.inr (.inr (.inr ⟨a, _, rfl, h2, q, hz1, hz2, k _ ⟨a, [], rfl, q, rfl⟩⟩)))
      · cases e
  · cases e
theorem opA_div {K : PySem.W.Frag} : OpA K (rI CDivW fun i j => .int (i / j)) divP := by
  intro F H x y d1 d2 pr Q h1 h2 e k
  unfold divP at e
  split at e
  · split at e
    · rename_i hz
      cases e; exact ⟨_, _, h1, h2, hz, k _ rfl⟩
    · cases e
  · cases e
theorem opA_mod {K : PySem.W.Frag} : OpA K (rI (fun _ j => 0 < j) fun i j => .int (i % j)) modP := by
  intro F H x y d1 d2 pr Q h1 h2 e k
  unfold modP at e
  split at e
  · split at e
    · rename_i hz
      cases e; exact ⟨_, _, h1, h2, hz, k _ rfl⟩
    · cases e
  · cases e
theorem opA_pow {K : PySem.W.Frag} : OpA K (rI CPow fun i j => .int (i ^ j.toNat)) powP := by
  intro F H x y d1 d2 pr Q h1 h2 e k
  unfold powP at e
  split at e
  · split at e
    · rename_i hz
      cases e; exact ⟨_, _, h1, h2, hz, k _ rfl⟩
    · cases e
  · cases e
theorem opA_band {K : PySem.W.Frag} : OpA K (rI0 fun i j => .int (Builtin.bitAnd i j)) bandP := by
  intro F H x y d1 d2 pr Q h1 h2 e k
  unfold bandP at e
  split at e
  · cases e; exact ⟨_, _, h1, h2, k _ rfl⟩
  · cases e
end

/-! ### comparisons -/
def eqB : D → D → Option Bool
  | .int i, .int j => some (decide (i = j))
  | .str i, .str j => some (decide (i = j))
  | .bl i, .bl j => some (decide (i = j))
  | .non, .non => some true
  | .non, .int _ => some false
  | .int _, .non => some false
  | .non, .bl _ => some false
  | .bl _, .non => some false
  | .non, .str _ => some false
  | .str _, .non => some false
  | .int _, .str _ => some false
  | .str _, .int _ => some false
  | .bl _, .str _ => some false
  | .str _, .bl _ => some false
  | d, e => if SeqAt.shaped d.py = true ∧ SeqAt.shaped e.py = true then some (PyData.eqv d.py e.py) else none
def eqP (d e : D) : Option PR := match eqB d e with
  | some b => some (.v (.bl b))
  | none => none
def neP (d e : D) : Option PR := match eqB d e with
  | some b => some (.v (.bl (!b)))
  | none => none
def cmpP (f : Int → Int → Bool) : D → D → Option PR
  | .int i, .int j => some (.v (.bl (f i j)))
  | _, _ => none
abbrev ltP := cmpP fun i j => decide (i < j)
abbrev leP := cmpP fun i j => decide (i ≤ j)
abbrev gtP := cmpP fun i j => decide (j < i)
abbrev geP := cmpP fun i j => decide (j ≤ i)
/-- is None, is True, is False -/
def isB : D → D → Option Bool
  | .non, .non => some true
  | _, .non => some false
  | .bl b, .bl c => some (decide (b = c))
  | .non, .bl _ => some false
  | .int _, .bl _ => some false
  | .str _, .bl _ => some false
  | .tup _, .bl _ => some false
  | .lst _, .bl _ => some false
  | _, _ => none
def isP (d e : D) : Option PR := match isB d e with
  | some b => some (.v (.bl b))
  | none => none
def isnP (d e : D) : Option PR := match isB d e with
  | some b => some (.v (.bl (!b)))
  | none => none
def flatD : D → Bool
  | .non => true
  | .bl _ => true
  | .int _ => true
  | .str _ => true
  | _ => false
def D.fv : D → V
  | .non => .non
  | .bl b => .bl b
  | .int i => .int i
  | .str x => .str x
  | _ => .non
def inB : D → D → Option Bool
  | d, .tup es => if flatD d = true ∧ es.all flatD = true then some (inV d.fv (es.map D.fv)) else none
  | d, .lst es => if flatD d = true ∧ es.all flatD = true then some (inV d.fv (es.map D.fv)) else none
  | _, _ => none
def inP (d e : D) : Option PR := match inB d e with
  | some b => some (.v (.bl b))
  | none => none
def ninP (d e : D) : Option PR := match inB d e with
  | some b => some (.v (.bl (!b)))
  | none => none
section
variable {K : PySem.W.Frag} {F : Addr → Prop} {H : Hp}
theorem eqB_ok {d e : D} {x y : V} {b : Bool} (h1 : Snap K F H d x) (h2 : Snap K F H e y) (q : eqB d e = some b) : (scal x y = true ∧ b = decide (x = y)) ∨ (∃ d' e', Dp K H x d' ∧ Dp K H y e' ∧ SeqAt.shaped d' = true ∧ SeqAt.shaped e' = true ∧ b = PyData.eqv d' e') := by
  unfold eqB at q
  split at q <;> first
    | (rename_i hd; split at q
       · rename_i hz
         cases q
         exact .inr ⟨_, _, dp_snap h1, dp_snap h2, hz.1, hz.2, rfl⟩
       · cases q)
    | (cases q
       cases (show x = _ from h1)
       cases (show y = _ from h2)
       refine .inl ⟨rfl, ?_⟩
       simp)
def rEqA (K : PySem.W.Frag) : R2 := fun x y H Q => rEq x y H Q ∨ rEqD K x y H Q
def rNeA (K : PySem.W.Frag) : R2 := fun x y H Q => rNe x y H Q ∨ rNeD K x y H Q
theorem opA_eq : OpA K (rEqA K) eqP := by
  intro F H x y d1 d2 pr Q h1 h2 e k
  unfold eqP at e
  split at e
  · rename_i b q
    cases e
    rcases eqB_ok h1 h2 q with ⟨s, rfl⟩ | ⟨d', e', p1, p2, s1, s2, rfl⟩
    · exact .inl ⟨s, k _ rfl⟩
    · exact .inr ⟨d', e', p1, p2, s1, s2, k _ rfl⟩
  · cases e
theorem opA_ne : OpA K (rNeA K) neP := by
  intro F H x y d1 d2 pr Q h1 h2 e k
  unfold neP at e
  split at e
  · rename_i b q
    cases e
    rcases eqB_ok h1 h2 q with ⟨s, rfl⟩ | ⟨d', e', p1, p2, s1, s2, rfl⟩
    · exact .inl ⟨s, k _ rfl⟩
    · exact .inr ⟨d', e', p1, p2, s1, s2, k _ rfl⟩
  · cases e
theorem opA_cmp {f : Int → Int → Bool} : OpA K (rI0 fun i j => .bl (f i j)) (cmpP f) := by
  intro F H x y d1 d2 pr Q h1 h2 e k
  unfold cmpP at e
  split at e
  · cases e; exact ⟨_, _, h1, h2, k _ rfl⟩
  · cases e
/-- x is None, True, False -/
def rIsA : R2 := fun x y H Q => (y = .non ∧ Q (.bl (decide (x = .non))) H) ∨ ∃ b, y = .bl b ∧ (∀ n, x ≠ .ty n) ∧ Q (.bl (decide (x = .bl b))) H
def rIsnA : R2 := fun x y H Q => (y = .non ∧ Q (.bl (!decide (x = .non))) H) ∨ ∃ b, y = .bl b ∧ (∀ n, x ≠ .ty n) ∧ Q (.bl (!decide (x = .bl b))) H
theorem isB_ok {d e : D} {x y : V} {b : Bool} (h1 : Snap K F H d x) (h2 : Snap K F H e y) (q : isB d e = some b) : (y = .non ∧ b = decide (x = .non)) ∨ ∃ c, y = .bl c ∧ (∀ n, x ≠ .ty n) ∧ b = decide (x = .bl c) := by
  cases e with
  | non =>
    cases (show y = _ from h2)
    refine .inl ⟨rfl, ?_⟩
    cases d with
    | non => cases q; cases (show x = _ from h1); simp
    | bl b => cases q; cases (show x = _ from h1); simp
    | int b => cases q; cases (show x = _ from h1); simp
    | str b => cases q; cases (show x = _ from h1); simp
    | tup ds => cases q; obtain ⟨a, vs, rfl, _⟩ := h1; simp
    | lst ds => cases q; obtain ⟨a, vs, rfl, _⟩ := h1; simp
    | scr ds => cases q; obtain ⟨a, rfl, _⟩ := h1; simp
  | bl c =>
    cases (show y = _ from h2)
    cases d with
    | non => cases q; cases (show x = _ from h1); exact .inr ⟨_, rfl, by simp, by simp⟩
    | bl b => cases q; cases (show x = _ from h1); exact .inr ⟨_, rfl, by simp, by simp⟩
    | int b => cases q; cases (show x = _ from h1); exact .inr ⟨_, rfl, by simp, by simp⟩
    | str b => cases q; cases (show x = _ from h1); exact .inr ⟨_, rfl, by simp, by simp⟩
    | tup ds => cases q; obtain ⟨a, vs, rfl, _⟩ := h1; exact .inr ⟨_, rfl, by simp, by simp⟩
    | lst ds => cases q; obtain ⟨a, vs, rfl, _⟩ := h1; exact .inr ⟨_, rfl, by simp, by simp⟩
    | scr ds => cases q
  | _ => cases d <;> cases q
theorem opA_is : OpA K rIsA isP := by
  intro F H x y d1 d2 pr Q h1 h2 e k
  unfold isP at e
  split at e
  · rename_i b q
    cases e
    rcases isB_ok h1 h2 q with ⟨s, rfl⟩ | ⟨c, s, n, rfl⟩
    · exact .inl ⟨s, k _ rfl⟩
    · exact .inr ⟨c, s, n, k _ rfl⟩
  · cases e
theorem opA_isn : OpA K rIsnA isnP := by
  intro F H x y d1 d2 pr Q h1 h2 e k
  unfold isnP at e
  split at e
  · rename_i b q
    cases e
    rcases isB_ok h1 h2 q with ⟨s, rfl⟩ | ⟨c, s, n, rfl⟩
    · exact .inl ⟨s, k _ rfl⟩
    · exact .inr ⟨c, s, n, k _ rfl⟩
  · cases e
theorem flat_rep : ∀ {d : D} {x : V}, Rep K F H d x → flatD d = true → x = d.fv ∧ flatV x = true
  | .non, _, h, _ => by cases h; exact ⟨rfl, rfl⟩
  | .bl _, _, h, _ => by cases h; exact ⟨rfl, rfl⟩
  | .int _, _, h, _ => by cases h; exact ⟨rfl, rfl⟩
  | .str _, _, h, _ => by cases h; exact ⟨rfl, rfl⟩
  | .tup _, _, _, z => by cases z
  | .lst _, _, _, z => by cases z
  | .scr _, _, _, z => by cases z
theorem flat_snap : ∀ {d : D} {x : V}, Snap K F H d x → flatD d = true → x = d.fv ∧ flatV x = true
  | .non, _, h, z => flat_rep (K := K) (F := F) (H := H) h z
  | .bl _, _, h, z => flat_rep (K := K) (F := F) (H := H) h z
  | .int _, _, h, z => flat_rep (K := K) (F := F) (H := H) h z
  | .str _, _, h, z => flat_rep (K := K) (F := F) (H := H) h z
  | .tup _, _, _, z => by cases z
  | .lst _, _, _, z => by cases z
  | .scr _, _, _, z => by cases z
theorem flat_reps : ∀ {ds : List D} {vs : List V}, Reps K F H ds vs → ds.all flatD = true → vs = ds.map D.fv ∧ vs.all flatV = true
  | [], _, h, _ => by cases h; exact ⟨rfl, rfl⟩
  | d :: ds, _, h, z => by
    obtain ⟨v, r, rfl, h1, h2⟩ := h
    rw [List.all_cons, Bool.and_eq_true] at z
    obtain ⟨a, b⟩ := flat_rep h1 z.1
    obtain ⟨c, e⟩ := flat_reps h2 z.2
    exact ⟨by rw [List.map_cons, ← a, ← c], by rw [List.all_cons, b, e]; rfl⟩
theorem inB_ok {d e : D} {x y : V} {b : Bool} (h1 : Snap K F H d x) (h2 : Snap K F H e y) (q : inB d e = some b) : ∃ p xs, y = .ref p ∧ (SqL K H p xs ∨ SqT K H p xs) ∧ flatV x = true ∧ xs.all flatV = true ∧ b = inV x xs := by
  unfold inB at q
  split at q
  · split at q
    · rename_i hz
      cases q
      obtain ⟨a, vs, rfl, q, r⟩ := h2
      obtain ⟨e1, f1⟩ := flat_snap h1 hz.1
      obtain ⟨e2, f2⟩ := flat_reps r hz.2
      exact ⟨a, vs, rfl, .inr q, f1, f2, by rw [e1, e2]⟩
    · cases q
  · split at q
    · rename_i hz
      cases q
      obtain ⟨a, vs, rfl, q, r⟩ := h2
      obtain ⟨e1, f1⟩ := flat_snap h1 hz.1
      obtain ⟨e2, f2⟩ := flat_reps r hz.2
      exact ⟨a, vs, rfl, .inl (SqL.of q), f1, f2, by rw [e1, e2]⟩
    · cases q
  · cases q
theorem opA_in : OpA K (rIn K false) inP := by
  intro F H x y d1 d2 pr Q h1 h2 e k
  unfold inP at e
  split at e
  · rename_i b q
    cases e
    obtain ⟨p, xs, rfl, s, f1, f2, rfl⟩ := inB_ok h1 h2 q
    exact ⟨p, xs, rfl, s, f1, f2, k _ rfl⟩
  · cases e
theorem opA_nin : OpA K (rIn K true) ninP := by
  intro F H x y d1 d2 pr Q h1 h2 e k
  unfold ninP at e
  split at e
  · rename_i b q
    cases e
    obtain ⟨p, xs, rfl, s, f1, f2, rfl⟩ := inB_ok h1 h2 q
    exact ⟨p, xs, rfl, s, f1, f2, k _ rfl⟩
  · cases e
end
section
variable {X : Cx}
theorem op_eqA (hu : X.A.units + 64 < cLine) : OpR X (compareOp .Eq) (rEqA X.K) := op_eq.or (op_eqD hu)
theorem op_neA (hu : X.A.units + 64 < cLine) : OpR X (compareOp .NotEq) (rNeA X.K) := op_ne.or (op_neD hu)
theorem rel_bl {x : V} {v : Value} {b : Bool} (r : RelV x v) : v = .bool b ↔ x = .bl b := by
  constructor
  · rintro rfl
    cases x with
    | bl c => cases r; rfl
    | non => cases r
    | int i => obtain ⟨t, q⟩ := r; cases q
    | str i => obtain ⟨t, q⟩ := r; cases q
    | byt i => obtain ⟨t, q⟩ := r; cases q
    | flt i => obtain ⟨t, q⟩ := r; cases q
    | ref a => cases r
    | ty n => cases r
  · rintro rfl; exact r
theorem plain_bl {x : V} {v : Value} {b : Bool} (r : RelV x v) (n : ∀ n, x ≠ .ty n) : PySem.plainIs v (.bool b) = true := by
  cases x with
  | bl c => cases r; rfl
  | non => cases r; rfl
  | int i => obtain ⟨t, q⟩ := r; cases q; rfl
  | str i => obtain ⟨t, q⟩ := r; cases q; rfl
  | byt i => obtain ⟨t, q⟩ := r; cases q; rfl
  | flt i => obtain ⟨t, q⟩ := r; cases q; rfl
  | ref a => cases r; rfl
  | ty m => exact absurd rfl (n m)
theorem op_isBlA : OpR X (compareOp .Is) (fun x y H Q => ∃ b, y = .bl b ∧ (∀ n, x ≠ .ty n) ∧ Q (.bl (decide (x = .bl b))) H) := by
  intro pins s σ H x y v u Q I rx ry h
  obtain ⟨b, rfl, n, q⟩ := h
  cases (show u = Value.bool b from ry)
  refine wpAny_is_plain (plain_bl rx n) ⟨.bl (decide (x = .bl b)), H, I, ?_, q⟩
  show _ = Value.bool _
  congr 1
  by_cases e : x = .bl b
  · rw [decide_eq_true e, (rel_bl rx).mpr e]; exact beq_self_eq_true _
  · rw [decide_eq_false e]; exact beq_eq_false_iff_ne.mpr fun z => e ((rel_bl rx).mp z)
theorem op_isnBlA : OpR X (compareOp .IsNot) (fun x y H Q => ∃ b, y = .bl b ∧ (∀ n, x ≠ .ty n) ∧ Q (.bl (!decide (x = .bl b))) H) := by
  intro pins s σ H x y v u Q I rx ry h
  obtain ⟨b, rfl, n, q⟩ := h
  cases (show u = Value.bool b from ry)
  refine wpAny_isNot_plain (plain_bl rx n) ⟨.bl (!decide (x = .bl b)), H, I, ?_, q⟩
  show _ = Value.bool _
  congr 1
  by_cases e : x = .bl b
  · rw [decide_eq_true e, (rel_bl rx).mpr e]; simp
  · have : ¬ v = Value.bool b := fun z => e ((rel_bl rx).mp z)
    rw [decide_eq_false e, beq_eq_false_iff_ne.mpr this]
theorem op_isA : OpR X (compareOp .Is) rIsA := op_isN.or op_isBlA
theorem op_isnA : OpR X (compareOp .IsNot) rIsnA := op_notN.or op_isnBlA
end
end Z

set_option Elab.async false
set_option linter.all false
set_option maxRecDepth 100000
set_option maxHeartbeats 4000000
/-! Z4: subscripts, slices, argument lists, displays, built-ins, methods -/
namespace Z
open PySem L2

section
variable {K : PySem.W.Frag} {F : Addr → Prop} {H : Hp}
theorem scr_seq {ns : List Int} {v : V} (h : Rep K F H (.scr ns) v) : ∃ a, v = .ref a ∧ SqL K H a (ns.map V.int) := by
  obtain ⟨a, rfl, q⟩ := h
  refine ⟨a, rfl, ?_⟩
  rcases q with ⟨o, q⟩ | (q | ⟨o, q⟩) | q
  · exact .inl (.inr ⟨o, q⟩)
  · cases q
  · cases q
  · exact .inr q
theorem Reps.at {ds : List D} {vs : List V} {i : Int} {d : D} (h : Reps K F H ds vs) (e : atI ds i = some d) : ∃ v, atI vs i = some v ∧ Rep K F H d v := by
  unfold atI at e ⊢
  rw [h.length]
  cases q : ixN ds.length i with
  | none => rw [q] at e; cases e
  | some j =>
    rw [q] at e
    exact h.get e
theorem Reps.ofInts : ∀ ns : List Int, Reps K F H (ns.map D.int) (ns.map V.int)
  | [] => rfl
  | n :: ns => ⟨_, _, rfl, rfl, Reps.ofInts ns⟩
end

/-! ### x[i] -/
def ixP : D → D → Option PR
  | .lst xs, .int i => match atI xs i with
    | some d => some (.v d)
    | none => none
  | .tup xs, .int i => match atI xs i with
    | some d => some (.v d)
    | none => none
  | .str z, .int i => if z.length ≤ 16777216 then (match atI z.cps.toList i with
    | some c => some (.v (.str ⟨#[c]⟩))
    | none => none) else none
  | _, _ => none
theorem opA_ix {K : PySem.W.Frag} : OpA K (rIx K) ixP := by
  intro F H x y d1 d2 pr Q h1 h2 e k
  unfold ixP at e
  split at e
  · split at e
    · rename_i d q
      cases e
      obtain ⟨a, vs, rfl, q', r⟩ := h1
      obtain ⟨v, e1, e2⟩ := r.at q
      exact .inl ⟨a, vs, _, v, rfl, h2, SqL.of q', e1, k _ e2⟩
    · cases e
  · split at e
    · rename_i d q
      cases e
      obtain ⟨a, vs, rfl, q', r⟩ := h1
      obtain ⟨v, e1, e2⟩ := r.at q
      exact .inr (.inl ⟨a, vs, _, v, rfl, h2, q', e1, k _ e2⟩)
    · cases e
  · split at e
    · rename_i hz
      split at e
      · rename_i c q
        cases e
        exact .inr (.inr ⟨_, _, c, h1, h2, by rw [line_eq]; exact hz, q, k _ rfl⟩)
      · cases e
    · cases e
  · cases e
/-- of a deal: its list, its other thing -/
def ixDeal (i : Nat) : Option (Option O) → D → Option R
  | some (some (.deal _ m)), .int j => if j = 0 then some (.at1 i) else if j = 1 then some (.val m) else none
  | _, _ => none
def ixR (Γ : Ga) : R → D → Option R
  | .at i, d => match Γ[i]? with
    | some (some (.deal ds m)) => ixDeal i (some (some (.deal ds m))) d
    | _ => match dr Γ (.at i) with
      | some d1 => (match ixP d1 d with
        | some pr => some pr.r
        | none => none)
      | none => none
  | r, d => match dr Γ r with
    | some d1 => (match ixP d1 d with
      | some pr => some pr.r
      | none => none)
    | none => none
def aIx (fa fb : Act R) : Act R := fun Γ =>
  match fa Γ with
  | none => none
  | some (r1, Γ1) => match fb Γ1 with
    | none => none
    | some (r2, Γ2) => match dr Γ2 r2 with
      | none => none
      | some d2 => match ixR Γ2 r1 d2 with
        | some r => some (r, Γ2)
        | none => none
theorem snap_int {K : PySem.W.Frag} {F : Addr → Prop} {H : Hp} {j : Int} {v : V} (h : Snap K F H (.int j) v) : v = .int j := h
theorem t_ix {K : PySem.W.Frag} {fa fb : Act R} {σ : L2.St} {H : Hp} {Q : VK} (h : tOf K (aIx fa fb) σ H Q) : tOp (rIx K) (tOf K fa) (tOf K fb) σ H Q := by
  obtain ⟨G, rfl, C, rr, Γ', e, k⟩ := h
  unfold aIx at e
  split at e
  · cases e
  · rename_i r1 Γ1 e1
    split at e
    · cases e
    · rename_i r2 Γ2 e2
      split at e
      · cases e
      · rename_i d2 q2
        split at e
        · rename_i r q
          cases e
          refine ⟨G, rfl, C, r1, Γ1, e1, fun G1 v1 g1 C1 S1 R1 => ⟨G1, rfl, C1, r2, _, by rw [g1]; exact e2, fun G2 v2 g2 C2 S2 R2 => ?_⟩⟩
          subst g2
          have R1 := RepR.step C1 S2 R1
          have plain : ∀ d1 pr, dr G2.Γ r1 = some d1 → ixP d1 d2 = some pr → rr = pr.r → rIx K v1 v2 G2.H Q := fun d1 pr a b c =>
            opA_ix G2.F G2.H v1 v2 d1 d2 pr Q (dr_ok C2 R1 a) (dr_ok C2 R2 q2) b (pr_ok C2 (S1.trans S2) (c ▸ k))
          have other : ∀ r1', r1 = r1' → (match dr G2.Γ r1' with
            | some d1 => (match ixP d1 d2 with
              | some pr => some pr.r
              | none => none)
            | none => none) = some rr → rIx K v1 v2 G2.H Q := by
            intro r1' er q
            subst er
            split at q
            · rename_i d1 a
              split at q
              · rename_i pr b
                cases q
                exact plain d1 pr a b rfl
              · cases q
            · cases q
          unfold ixR at q
          split at q
          · rename_i i _
            split at q
            · rename_i ds m hΓ
              obtain ⟨v', e3, a, b, vs, w, e4, f0, f1, f2, h1, h2, r, r'⟩ := C2.get i _ hΓ
              have e5 : v1 = v' := by
                have z : σ[i]? = some (some v1) := R1
                rw [z] at e3
                exact Option.some.inj (Option.some.inj e3)
              subst e5 e4
              unfold ixDeal at q
              split at q
              · rename_i m' j zz
                cases zz
                split at q
                · rename_i hj
                  cases q
                  subst hj
                  refine .inl ⟨a, _, 0, .ref b, rfl, snap_int (dr_ok C2 R2 q2), SqL.of h1, rfl, k G2 _ rfl C2 (S1.trans S2) ⟨by rw [hΓ]; rfl, b, f1, rfl⟩⟩
                · split at q
                  · rename_i hj
                    cases q
                    subst hj
                    exact .inl ⟨a, _, 1, w, rfl, snap_int (dr_ok C2 R2 q2), SqL.of h1, rfl, k G2 _ rfl C2 (S1.trans S2) r'⟩
                  · cases q
              · cases q
            · exact other _ rfl q
          · exact other _ rfl q
        · cases e

/-! ### x[lo:hi], x[::-1] -/
def cut {α : Type} (xs : List α) (lo hi : Option Int) : List α := (xs.drop (HT.sIx xs.length 0 lo)).take (HT.sIx xs.length xs.length hi - HT.sIx xs.length 0 lo)
def slP : D → Option Int → Option Int → Option PR
  | .lst xs, lo, hi => some (.l (cut xs lo hi))
  | .tup xs, lo, hi => some (.t (cut xs lo hi))
  | .scr ns, lo, hi => some (.l ((cut ns lo hi).map D.int))
  | .str z, lo, hi => if z.length ≤ 16777216 then some (.v (.str (cutS z lo hi))) else none
  | _, _, _ => none
def rSl (K : PySem.W.Frag) : V → Option Int → Option Int → Hp → VK → Prop := fun x lo hi H Q => rSlL K x lo hi H Q ∨ (fun x lo hi H Q => rSlA K x lo hi H Q ∨ rSlS x lo hi H Q) x lo hi H Q
theorem sl_A {X : Cx} : SlR X (rSl X.K) := sl_list.or (sl_tupA.or sl_str)
theorem reps_cut {K : PySem.W.Frag} {F : Addr → Prop} {H : Hp} {ds : List D} {vs : List V} (h : Reps K F H ds vs) (lo hi : Option Int) : Reps K F H (cut ds lo hi) (cutV vs lo hi) := by
  unfold cut cutV
  rw [h.length]
  exact Reps.take _ (Reps.drop _ h)
theorem cut_map {α β : Type} (f : α → β) (xs : List α) (lo hi : Option Int) : cut (xs.map f) lo hi = (cut xs lo hi).map f := by
  unfold cut
  rw [List.length_map, List.map_take, List.map_drop]
theorem cut_whole {vs : List V} {lo hi : Option Int} (h : HT.sIx vs.length 0 lo = 0 ∧ HT.sIx vs.length vs.length hi = vs.length) : cutV vs lo hi = vs := by
  unfold cutV
  rw [h.1, h.2, List.drop_zero, Nat.sub_zero, List.take_length]
theorem slP_ok {K : PySem.W.Frag} {F : Addr → Prop} {H : Hp} {x : V} {d : D} {lo hi : Option Int} {pr : PR} {Q : VK} (h : Snap K F H d x) (e : slP d lo hi = some pr) (k : PRok K F H pr Q) : rSl K x lo hi H Q := by
  unfold slP at e
  split at e
  · cases e
    obtain ⟨a, vs, rfl, q, r⟩ := h
    exact .inl ⟨a, vs, rfl, SqL.of q, fun p hp => k p _ hp (reps_cut r _ _)⟩
  · cases e
    obtain ⟨a, vs, rfl, q, r⟩ := h
    refine .inr (.inl ⟨a, vs, rfl, q, fun w => ?_, fun _ p hp => k.1 p _ hp (reps_cut r _ _)⟩)
    have rc := reps_cut r lo hi
    rw [cut_whole w] at rc
    exact k.2 a vs q rc
  · cases e
    obtain ⟨a, rfl, q⟩ := scr_seq (F := F) h
    refine .inl ⟨a, _, rfl, q, fun p hp => k p _ hp ?_⟩
    show Reps K F H _ (cut _ _ _)
    rw [cut_map]
    exact Reps.ofInts _
  · split at e
    · rename_i hz
      cases e
      exact .inr (.inr ⟨_, h, by rw [line_eq]; exact hz, k _ rfl⟩)
    · cases e
  · cases e
/-- a part of a slice -/
def aOpt : Option (Act R) → Act (Option Int)
  | none => fun Γ => some (none, Γ)
  | some f => fun Γ => match f Γ with
    | some (.val (.int i), Γ1) => some (some i, Γ1)
    | _ => none
def tOpt (K : PySem.W.Frag) : Option (Act R) → TO
  | none => tNoPart
  | some f => tPart (tOf K f)
theorem t_opt {K : PySem.W.Frag} {f : Option (Act R)} {G : Gh} {σ : L2.St} {o : Option Int} {Γ' : Ga} {Q : Option Int → Hp → Prop} (C : Con K G σ) (e : aOpt f G.Γ = some (o, Γ')) (k : ∀ G', G'.Γ = Γ' → Con K G' σ → Ste G G' → Q o G'.H) : tOpt K f σ G.H Q := by
  cases f with
  | none => cases e; exact k G rfl C (.refl G)
  | some f =>
    have e : (match f G.Γ with
      | some (.val (.int i), Γ1) => some (some i, Γ1)
      | _ => none) = some (o, Γ') := e
    split at e
    · rename_i i Γ1 q
      cases e
      exact ⟨G, rfl, C, _, _, q, fun G' v g C' S R => ⟨i, R, k G' g C' S⟩⟩
    · cases e
def aSl (fa : Act R) (lo hi : Option (Act R)) : Act R := fun Γ =>
  match fa Γ with
  | none => none
  | some (r1, Γ1) => match aOpt lo Γ1 with
    | none => none
    | some (l, Γ2) => match aOpt hi Γ2 with
      | none => none
      | some (h, Γ3) => match dr Γ3 r1 with
        | none => none
        | some d => match slP d l h with
          | some pr => some (pr.r, Γ3)
          | none => none
theorem t_sl {K : PySem.W.Frag} {fa : Act R} {lo hi : Option (Act R)} {σ : L2.St} {H : Hp} {Q : VK} (h : tOf K (aSl fa lo hi) σ H Q) : tSl (rSl K) (tOf K fa) (tOpt K lo) (tOpt K hi) σ H Q := by
  obtain ⟨G, rfl, C, rr, Γ', e, k⟩ := h
  unfold aSl at e
  split at e
  · cases e
  · rename_i r1 Γ1 e1
    split at e
    · cases e
    · rename_i l Γ2 e2
      split at e
      · cases e
      · rename_i h Γ3 e3
        split at e
        · cases e
        · rename_i d q
          split at e
          · rename_i pr q2
            cases e
            refine ⟨G, rfl, C, r1, Γ1, e1, fun G1 v1 g1 C1 S1 R1 => ?_⟩
            subst g1
            refine t_opt C1 e2 fun G2 g2 C2 S2 => ?_
            subst g2
            refine t_opt C2 e3 fun G3 g3 C3 S3 => ?_
            subst g3
            exact slP_ok (dr_ok C3 (RepR.step C2 S3 (RepR.step C1 S2 R1)) q) q2 (pr_ok C3 ((S1.trans S2).trans S3) k)
          · cases e
section
variable {X : Cx}
theorem pe_aIx {a b : Expr} {pos : Pos} {fa fb : Act R} (ha : PE X a (tOf X.K fa)) (hb : PE X b (tOf X.K fb)) (hs : PlainIx b) : PE X (.Subscript a b pos) (tOf X.K (aIx fa fb)) :=
  pe_imp (pe_ix ix_seq ha hb hs) fun _ _ _ => t_ix
theorem po_aOpt {e : Option Expr} {f : Option (Act R)} (h : match e, f with
    | none, none => True
    | some e, some f => PE X e (tOf X.K f)
    | _, _ => False) : PO X e (tOpt X.K f) := by
  cases e with
  | none => cases f with
    | none => exact po_none
    | some f => cases h
  | some e => cases f with
    | none => cases h
    | some f => exact po_some h
theorem pe_aSl {a : Expr} {lo hi : Option Expr} {p2 pos : Pos} {fa : Act R} {fl fh : Option (Act R)} (ha : PE X a (tOf X.K fa)) (hl : PO X lo (tOpt X.K fl)) (hh : PO X hi (tOpt X.K fh)) : PE X (.Subscript a (.Slice lo hi none p2) pos) (tOf X.K (aSl fa fl fh)) :=
  pe_imp (pe_slice sl_A ha hl hh) fun _ _ _ => t_sl
end
/-- one-place operations on values -/
def aUn (p : D → Option PR) (fa : Act R) : Act R := fun Γ =>
  match fa Γ with
  | none => none
  | some (r1, Γ1) => match dr Γ1 r1 with
    | none => none
    | some d => match p d with
      | some pr => some (pr.r, Γ1)
      | none => none
theorem t_un {K : PySem.W.Frag} {r : V → Hp → VK → Prop} {p : D → Option PR} (o : ∀ F H x d pr Q, Snap K F H d x → p d = some pr → PRok K F H pr Q → r x H Q) {fa : Act R} {σ : L2.St} {H : Hp} {Q : VK} (h : tOf K (aUn p fa) σ H Q) : tUn r (tOf K fa) σ H Q := by
  obtain ⟨G, rfl, C, rr, Γ', e, k⟩ := h
  unfold aUn at e
  split at e
  · cases e
  · rename_i r1 Γ1 e1
    split at e
    · cases e
    · rename_i d q
      split at e
      · rename_i pr q2
        cases e
        refine ⟨G, rfl, C, r1, _, e1, fun G1 v1 g1 C1 S1 R1 => ?_⟩
        subst g1
        exact o _ _ _ _ _ _ (dr_ok C1 R1 q) q2 (pr_ok C1 S1 k)
      · cases e
def revP : D → Option PR
  | .lst xs => some (.l xs.reverse)
  | _ => none
def negP : D → Option PR
  | .int i => some (.v (.int (-i)))
  | _ => none
section
variable {X : Cx}
theorem pe_aRev {e : Expr} {k : Nat} {p1 p2 p3 pos : Pos} {fa : Act R} (ha : PE X e (tOf X.K fa)) : PE X (.Subscript e (.Slice none none (some (.UnaryOp .USub (.Constant (.int 1) k p1) p2)) p3) pos) (tOf X.K (aUn revP fa)) :=
  pe_imp (pe_revL ha) fun _ _ _ h => t_un (r := fun x H1 Q => ∃ a xs, x = .ref a ∧ SqL X.K H1 a xs ∧ ∀ p, H1 p = none → Q (.ref p) (upd H1 p (.lst xs.reverse))) (fun F H x d pr Q h e k => by
    unfold revP at e
    split at e
    · cases e
      obtain ⟨a, vs, rfl, q, r⟩ := h
      exact ⟨a, vs, rfl, SqL.of q, fun p hp => k p _ hp r.reverse⟩
    · cases e) h
theorem pe_aNeg {e : Expr} {pos : Pos} {fa : Act R} (ha : PE X e (tOf X.K fa)) : PE X (.UnaryOp .USub e pos) (tOf X.K (aUn negP fa)) :=
  pe_imp (pe_un un_neg ha) fun _ _ _ h => t_un (r := rU fun i => .int (-i)) (fun F H x d pr Q h e k => by
    unfold negP at e
    split at e
    · cases e
      exact ⟨_, h, k _ rfl⟩
    · cases e) h
end

/-! ### argument lists -/
def aNil {α : Type} : Act (List α) := fun Γ => some ([], Γ)
def aCons (f : Act R) (g : Act (List R)) : Act (List R) := fun Γ => match f Γ with
  | none => none
  | some (r, Γ1) => match g Γ1 with
    | none => none
    | some (rs, Γ2) => some (r :: rs, Γ2)
/-- an argument handed on: data, or a deal -/
inductive Arg where
  | d (d : D) | ref (i : Nat)
def mvA (Γ : Ga) (r : R) : Option (Arg × Ga) := match r with
  | .at i => match isDeal Γ[i]? with
    | true => some (.ref i, Γ)
    | false => match mv Γ (.at i) with
      | some (d, Γ') => some (.d d, Γ')
      | none => none
  | r => match mv Γ r with
    | some (d, Γ') => some (.d d, Γ')
    | none => none
def aConsA (f : Act R) (g : Act (List Arg)) : Act (List Arg) := fun Γ => match f Γ with
  | none => none
  | some (r, Γ1) => match mvA Γ1 r with
    | none => none
    | some (a, Γ2) => match g Γ2 with
      | none => none
      | some (as, Γ3) => some (a :: as, Γ3)
def RepA (K : PySem.W.Frag) (G : Gh) (σ : L2.St) : Arg → V → Prop
  | .d d, v => Rep K G.F G.H d v
  | .ref i, v => σ[i]? = some (some v) ∧ isDeal G.Γ[i]? = true
def RepAs (K : PySem.W.Frag) (G : Gh) (σ : L2.St) : List Arg → List V → Prop
  | [], vs => vs = []
  | r :: rs, vs => ∃ v w, vs = v :: w ∧ RepA K G σ r v ∧ RepAs K G σ rs w
def tOfA (K : PySem.W.Frag) (f : Act (List Arg)) : TA := fun σ H Q => ∃ G : Gh, G.H = H ∧ Con K G σ ∧ ∃ rs Γ', f G.Γ = some (rs, Γ') ∧ ∀ G' vs, G'.Γ = Γ' → Con K G' σ → Ste G G' → RepAs K G' σ rs vs → Q vs G'.H
theorem RepA.step {K : PySem.W.Frag} {G G' : Gh} {σ : L2.St} (C : Con K G σ) (S : Ste G G') : ∀ {r : Arg} {v : V}, RepA K G σ r v → RepA K G' σ r v
  | .d d, v, h => Rep.step C S _ _ h
  | .ref i, v, h => ⟨h.1, (S.deal i h.2).1⟩
theorem mvA_ok {K : PySem.W.Frag} {G0 G : Gh} {σ : L2.St} (C : Con K G σ) (S : Ste G0 G) {r : R} {v : V} {a : Arg} {Γ' : Ga} (h : RepR K G0.H G σ r v) (e : mvA G.Γ r = some (a, Γ')) :
    ∃ G' : Gh, G'.Γ = Γ' ∧ G'.H = G.H ∧ Con K G' σ ∧ Ste G0 G' ∧ RepA K G' σ a v := by
  have plain : ∀ r', r = r' → (match mv G.Γ r' with
      | some (d, Γ') => some (Arg.d d, Γ')
      | none => none) = some (a, Γ') → ∃ G' : Gh, G'.Γ = Γ' ∧ G'.H = G.H ∧ Con K G' σ ∧ Ste G0 G' ∧ RepA K G' σ a v := by
    intro r' er q
    subst er
    split at q
    · rename_i d Γ1 q1
      cases q
      obtain ⟨G', g, hh, _, C', S', R'⟩ := mv_ok C S h q1
      exact ⟨G', g, hh, C', S', R'⟩
    · cases q
  unfold mvA at e
  split at e
  · rename_i i
    split at e
    · rename_i hd
      cases e
      exact ⟨G, rfl, rfl, C, S, h, hd⟩
    · exact plain _ rfl e
  · exact plain _ rfl e
def noStar : Expr → Bool
  | .Starred .. => false
  | _ => true
theorem starEach_of {e : Expr} (h : noStar e = true) (es : List Expr) (env : Env) : starEach (e :: es) env = (false, eval e env) :: starEach es env := by
  cases e <;> first | rfl | cases h
section
variable {X : Cx}
theorem pa_aNilR : PA X [] (tOfR X.K aNil) := pa_imp pa_nil fun σ H Q ⟨G, g, C, rs, Γ', e, k⟩ => by
  cases e
  subst g
  exact k G [] rfl C (.refl G) rfl
theorem pa_aCons {e : Expr} {es : List Expr} {f : Act R} {g : Act (List R)} (he : PE X e (tOf X.K f)) (hs : PA X es (tOfR X.K g)) (ns : noStar e = true) : PA X (e :: es) (tOfR X.K (aCons f g)) :=
  pa_imp (pa_cons he hs (starEach_of ns es _)) fun σ H Q ⟨G, gh, C, rs, Γ', e, k⟩ => by
    subst gh
    unfold aCons at e
    split at e
    · cases e
    · rename_i r Γ1 e1
      split at e
      · cases e
      · rename_i rs' Γ2 e2
        cases e
        refine ⟨G, rfl, C, r, Γ1, e1, fun G1 v1 g1 C1 S1 R1 => ⟨G1, rfl, C1, rs', _, by rw [g1]; exact e2, fun G2 vs g2 C2 S2 R2 => ?_⟩⟩
        exact k G2 (v1 :: vs) g2 C2 (S1.trans S2) ⟨v1, vs, rfl, RepR.step C1 S2 R1, RepRs.base (fun a z => S1.nn z) R2⟩
theorem pa_aNilA : PA X [] (tOfA X.K aNil) := pa_imp pa_nil fun σ H Q ⟨G, g, C, rs, Γ', e, k⟩ => by
  cases e
  subst g
  exact k G [] rfl C (.refl G) rfl
theorem pa_aConsA {e : Expr} {es : List Expr} {f : Act R} {g : Act (List Arg)} (he : PE X e (tOf X.K f)) (hs : PA X es (tOfA X.K g)) (ns : noStar e = true) : PA X (e :: es) (tOfA X.K (aConsA f g)) :=
  pa_imp (pa_cons he hs (starEach_of ns es _)) fun σ H Q ⟨G, gh, C, rs, Γ', e, k⟩ => by
    subst gh
    unfold aConsA at e
    split at e
    · cases e
    · rename_i r Γ1 e1
      split at e
      · cases e
      · rename_i a Γ2 e2
        split at e
        · cases e
        · rename_i as Γ3 e3
          cases e
          refine ⟨G, rfl, C, r, Γ1, e1, fun G1 v1 g1 C1 S1 R1 => ?_⟩
          subst g1
          obtain ⟨G2, g2, hh, C2, S2, R2⟩ := mvA_ok C1 S1 R1 e2
          refine ⟨G2, hh, C2, as, _, by rw [g2]; exact e3, fun G3 vs g3 C3 S3 R3 => ?_⟩
          exact k G3 (v1 :: vs) g3 C3 (S2.trans S3) ⟨v1, vs, rfl, RepA.step C2 S3 R2, R3⟩
end
def argD : List Arg → Option (List D)
  | [] => some []
  | .d d :: as => match argD as with
    | some ds => some (d :: ds)
    | none => none
  | .ref _ :: _ => none
theorem argD_ok {K : PySem.W.Frag} {G : Gh} {σ : L2.St} : ∀ {as : List Arg} {vs : List V} {ds : List D}, RepAs K G σ as vs → argD as = some ds → Reps K G.F G.H ds vs
  | [], _, _, h, e => by cases e; exact h
  | .d d :: as, _, _, h, e => by
    obtain ⟨v, w, e1, h1, h2⟩ := h
    unfold argD at e
    split at e
    · rename_i ds q
      cases e
      exact ⟨v, w, e1, h1, argD_ok h2 q⟩
    · cases e
  | .ref _ :: _, _, _, _, e => by cases e
/-! ### displays -/
def aDisp (c : List D → PR) (g : Act (List Arg)) : Act R := fun Γ => match g Γ with
  | none => none
  | some (as, Γ1) => match argD as with
    | none => none
    | some ds => if ds.length ≤ 16777216 then some ((c ds).r, Γ1) else none
section
variable {X : Cx}
theorem pe_aTup {es : List Expr} {k : Nat} {pos : Pos} {g : Act (List Arg)} (h : PA X es (tOfA X.K g)) : PE X (.Tuple es k pos) (tOf X.K (aDisp .t g)) :=
  pe_imp (pe_tup h) fun σ H Q ⟨G, gh, C, r, Γ', e, k⟩ => by
    subst gh
    unfold aDisp at e
    split at e
    · cases e
    · rename_i as Γ1 e1
      split at e
      · cases e
      · rename_i ds q
        split at e
        · rename_i hz
          cases e
          refine ⟨G, rfl, C, as, _, e1, fun G1 vs g1 C1 S1 R1 => ?_⟩
          subst g1
          have R := argD_ok R1 q
          exact ⟨by rw [R.length, line_eq]; exact hz, fun p hp => (pr_ok (pr := .t ds) C1 S1 k).1 p vs hp R⟩
        · cases e
theorem pe_aLst {es : List Expr} {pos : Pos} {g : Act (List Arg)} (h : PA X es (tOfA X.K g)) : PE X (.List es pos) (tOf X.K (aDisp .l g)) :=
  pe_imp (pe_lst h) fun σ H Q ⟨G, gh, C, r, Γ', e, k⟩ => by
    subst gh
    unfold aDisp at e
    split at e
    · cases e
    · rename_i as Γ1 e1
      split at e
      · cases e
      · rename_i ds q
        split at e
        · rename_i hz
          cases e
          refine ⟨G, rfl, C, as, _, e1, fun G1 vs g1 C1 S1 R1 => ?_⟩
          subst g1
          have R := argD_ok R1 q
          exact ⟨by rw [R.length, line_eq]; exact hz, fun p hp => pr_ok (pr := .l ds) C1 S1 k p vs hp R⟩
        · cases e
end
/-- [a new list, a thing]: a deal -/
def aDeal (fa fb : Act R) : Act R := fun Γ => match fa Γ with
  | some (.new ds, Γ1) => (match fb Γ1 with
    | some (r2, Γ2) => (match mv Γ2 r2 with
      | some (d, Γ3) => (match r2 with
        | .val _ => some (.newD ds d, Γ3)
        | _ => none)
      | none => none)
    | none => none)
  | _ => none
section
variable {X : Cx}
theorem pe_aDeal {a b : Expr} {pos : Pos} {fa fb : Act R} (ha : PE X a (tOf X.K fa)) (hb : PE X b (tOf X.K fb)) (na : noStar a = true) (nb : noStar b = true) : PE X (.List [a, b] pos) (tOf X.K (aDeal fa fb)) :=
  pe_imp (pe_lst (pa_cons ha (pa_cons hb pa_nil (starEach_of nb [] _)) (starEach_of na [b] _))) fun σ H Q ⟨G, gh, C, r, Γ', e, k⟩ => by
    subst gh
    unfold aDeal at e
    split at e
    · rename_i ds Γ1 e1
      split at e
      · rename_i r2 Γ2 e2
        split at e
        · rename_i d Γ3 e3
          split at e
          · rename_i d'
            cases e
            cases e3
            refine ⟨G, rfl, C, _, _, e1, fun G1 v1 g1 C1 S1 R1 => ⟨G1, rfl, C1, _, _, by rw [g1]; exact e2, fun G2 v2 g2 C2 S2 R2 => ?_⟩⟩
            subst g2
            obtain ⟨b, vs, rfl, z, q, r, n⟩ := RepR.step C1 S2 R1
            refine ⟨by show 2 ≤ sizeLine; rw [line_eq]; decide, fun p hp => ?_⟩
            have L := C2.lay (o := .lst [.ref b, v2]) hp
            have S3 := Ste.lay G2 (o := .lst [.ref b, v2]) hp
            have S := (S1.trans S2).trans S3
            obtain ⟨q', n'⟩ := S3.new q n
            obtain ⟨m1, m2⟩ := C2.fresh hp
            have ne : p ≠ b := fun e => by subst e; rw [hp] at q; cases q
            exact k (G2.lay p _) (.ref p) rfl L S ⟨p, b, vs, v2, rfl, (S1.trans S2).nn hp, z, ne, upd_same, q', Reps.step C2 S3 _ _ r, Rep.step C2 S3 _ _ R2, ⟨m1, m2⟩, n'⟩
          · cases e
        · cases e
      · cases e
    · cases e
end
end Z

set_option Elab.async false
set_option linter.all false
set_option maxRecDepth 100000
set_option maxHeartbeats 4000000
/-! Z5: built-in functions, isinstance, methods of lists and texts -/
namespace Z
open PySem L2 PyProof.Rows

def toInts : List D → Option (List Int)
  | [] => some []
  | .int i :: ds => match toInts ds with
    | some ns => some (i :: ns)
    | none => none
  | _ => none
def toBls : List D → Option (List Bool)
  | [] => some []
  | .bl i :: ds => match toBls ds with
    | some ns => some (i :: ns)
    | none => none
  | _ => none
def toStrs : List D → Option (List Str)
  | [] => some []
  | .str i :: ds => match toStrs ds with
    | some ns => some (i :: ns)
    | none => none
  | _ => none
theorem toInts_eq : ∀ {ds : List D} {ns : List Int}, toInts ds = some ns → ds = ns.map D.int
  | [], _, e => by cases e; rfl
  | .int i :: ds, _, e => by
    unfold toInts at e
    split at e
    · rename_i ns q
      cases e
      rw [toInts_eq q]; rfl
    · cases e
  | .non :: _, _, e => by cases e
  | .bl _ :: _, _, e => by cases e
  | .str _ :: _, _, e => by cases e
  | .tup _ :: _, _, e => by cases e
  | .lst _ :: _, _, e => by cases e
  | .scr _ :: _, _, e => by cases e
theorem toBls_eq : ∀ {ds : List D} {ns : List Bool}, toBls ds = some ns → ds = ns.map D.bl
  | [], _, e => by cases e; rfl
  | .bl i :: ds, _, e => by
    unfold toBls at e
    split at e
    · rename_i ns q
      cases e
      rw [toBls_eq q]; rfl
    · cases e
  | .non :: _, _, e => by cases e
  | .int _ :: _, _, e => by cases e
  | .str _ :: _, _, e => by cases e
  | .tup _ :: _, _, e => by cases e
  | .lst _ :: _, _, e => by cases e
  | .scr _ :: _, _, e => by cases e
theorem toStrs_eq : ∀ {ds : List D} {ns : List Str}, toStrs ds = some ns → ds = ns.map D.str
  | [], _, e => by cases e; rfl
  | .str i :: ds, _, e => by
    unfold toStrs at e
    split at e
    · rename_i ns q
      cases e
      rw [toStrs_eq q]; rfl
    · cases e
  | .non :: _, _, e => by cases e
  | .int _ :: _, _, e => by cases e
  | .bl _ :: _, _, e => by cases e
  | .tup _ :: _, _, e => by cases e
  | .lst _ :: _, _, e => by cases e
  | .scr _ :: _, _, e => by cases e
section
variable {K : PySem.W.Frag} {F : Addr → Prop} {H : Hp}
theorem Reps.bls : ∀ {ns : List Bool} {vs : List V}, Reps K F H (ns.map D.bl) vs → vs = ns.map V.bl
  | [], _, h => h
  | n :: ns, _, h => by
    obtain ⟨v, r, e1, h1, h2⟩ := h
    subst e1
    rw [show v = V.bl n from h1, Reps.bls h2]
    rfl
theorem Reps.strs : ∀ {ns : List Str} {vs : List V}, Reps K F H (ns.map D.str) vs → vs = ns.map V.str
  | [], _, h => h
  | n :: ns, _, h => by
    obtain ⟨v, r, e1, h1, h2⟩ := h
    subst e1
    rw [show v = V.str n from h1, Reps.strs h2]
    rfl
end

/-! ### the built-in functions -/
inductive Blt where
  | len | int | abs | sum | min | max | tuple | list | ord | sorted | all
def Blt.name : Blt → Str
  | .len => "len" | .int => "int" | .abs => "abs" | .sum => "sum" | .min => "min" | .max => "max" | .tuple => "tuple" | .list => "list" | .ord => "ord" | .sorted => "sorted" | .all => "all"
def maxL : List Int → Int
  | [] => 0
  | [a] => a
  | a :: b :: r => let m := maxL (b :: r); if a < m then m else a
def minL : List Int → Int
  | [] => 0
  | [a] => a
  | a :: b :: r => let m := minL (b :: r); if m < a then m else a
theorem maxL_max : ∀ (ns : List Int), 0 < ns.length → maxL ns ∈ ns ∧ ∀ y ∈ ns, y ≤ maxL ns
  | [], h => by cases h
  | [a], _ => by simp [maxL]
  | a :: b :: r, _ => by
    obtain ⟨h1, h2⟩ := maxL_max (b :: r) (by simp)
    unfold maxL
    simp only
    split
    · rename_i h
      refine ⟨List.mem_cons_of_mem _ h1, fun y hy => ?_⟩
      rcases List.mem_cons.mp hy with rfl | hy
      · omega
      · exact h2 y hy
    · rename_i h
      refine ⟨List.mem_cons_self, fun y hy => ?_⟩
      rcases List.mem_cons.mp hy with rfl | hy
      · omega
      · have := h2 y hy; omega
theorem minL_min : ∀ (ns : List Int), 0 < ns.length → minL ns ∈ ns ∧ ∀ y ∈ ns, minL ns ≤ y
  | [], h => by cases h
  | [a], _ => by simp [minL]
  | a :: b :: r, _ => by
    obtain ⟨h1, h2⟩ := minL_min (b :: r) (by simp)
    unfold minL
    simp only
    split
    · rename_i h
      refine ⟨List.mem_cons_of_mem _ h1, fun y hy => ?_⟩
      rcases List.mem_cons.mp hy with rfl | hy
      · omega
      · exact h2 y hy
    · rename_i h
      refine ⟨List.mem_cons_self, fun y hy => ?_⟩
      rcases List.mem_cons.mp hy with rfl | hy
      · omega
      · have := h2 y hy; omega
/-- the ints in rising order -/
def sortL (ns : List Int) : List Int := ns.mergeSort fun a b => decide (a ≤ b)
theorem sortL_perm (ns : List Int) : (sortL ns).Perm ns := List.mergeSort_perm _ _
theorem sortL_sorted (ns : List Int) : (sortL ns).Pairwise (· ≤ ·) := by
  have h := List.pairwise_mergeSort (le := fun a b : Int => decide (a ≤ b)) (fun a b c h1 h2 => by simp at *; omega) (fun a b => by simp; omega) ns
  exact h.imp fun h => by simpa using h
theorem sortL_of {ns ms : List Int} (p : ms.Perm ns) (s : ms.Pairwise (· ≤ ·)) : ms = sortL ns :=
  List.Perm.eq_of_pairwise (le := fun a b : Int => a ≤ b) (fun a b _ _ h1 h2 => by omega) s (sortL_sorted ns) (p.trans (sortL_perm ns).symm)

def Blt.p : Blt → List D → Option PR
  | .len, [.lst ds] => some (.v (.int ds.length))
  | .len, [.tup ds] => some (.v (.int ds.length))
  | .len, [.scr ds] => some (.v (.int ds.length))
  | .len, [.str z] => if z.length ≤ 16777216 then some (.v (.int z.length)) else none
  | .int, [.int i] => some (.v (.int i))
  | .int, [.bl b] => some (.v (.int (if b then 1 else 0)))
  | .abs, [.int i] => some (.v (.int (if i < 0 then -i else i)))
  | .sum, [.lst ds] => match toInts ds with
    | some ns => some (.v (.int ns.sum))
    | none => none
  | .min, [.int i, .int j] => some (.v (.int (if j < i then j else i)))
  | .max, [.int i, .int j] => some (.v (.int (if j > i then j else i)))
  | .min, [.lst ds] => match toInts ds with
    | some (n :: ns) => some (.v (.int (minL (n :: ns))))
    | _ => none
  | .max, [.lst ds] => match toInts ds with
    | some (n :: ns) => some (.v (.int (maxL (n :: ns))))
    | _ => none
  | .tuple, [.lst ds] => some (.t ds)
  | .tuple, [.tup ds] => some (.t ds)
  | .list, [.lst ds] => some (.l ds)
  | .list, [.tup ds] => some (.l ds)
  | .list, [.scr ns] => some (.l (ns.map D.int))
  | .ord, [.str z] => if z.length = 1 then some (.v (.int ((z.cps.getD 0 0 : Nat) : Int))) else none
  | .sorted, [.lst ds] => match toInts ds with
    | some ns => some (.l ((sortL ns).map D.int))
    | none => none
  | .all, [.lst ds] => match toBls ds with
    | some bs => some (.v (.bl (bs.all id)))
    | none => none
  | _, _ => none
def aBlt (p : List D → Option PR) (g : Act (List R)) : Act R := fun Γ => match g Γ with
  | none => none
  | some (rs, Γ1) => match drs Γ1 rs with
    | none => none
    | some ds => match p ds with
      | some pr => some (pr.r, Γ1)
      | none => none
def BltA (K : PySem.W.Frag) (r : List V → Hp → VK → Prop) (p : List D → Option PR) : Prop := ∀ F H vs ds pr Q, Snaps K F H ds vs → p ds = some pr → PRok K F H pr Q → r vs H Q
theorem t_blt {K : PySem.W.Frag} {r : List V → Hp → VK → Prop} {p : List D → Option PR} (o : BltA K r p) {g : Act (List R)} {σ : L2.St} {H : Hp} {Q : VK} (h : tOf K (aBlt p g) σ H Q) : tCB r (tOfR K g) σ H Q := by
  obtain ⟨G, rfl, C, rr, Γ', e, k⟩ := h
  unfold aBlt at e
  split at e
  · cases e
  · rename_i rs Γ1 e1
    split at e
    · cases e
    · rename_i ds q
      split at e
      · rename_i pr q2
        cases e
        refine ⟨G, rfl, C, rs, _, e1, fun G1 vs g1 C1 S1 R1 => ?_⟩
        subst g1
        exact o _ _ _ _ _ _ (drs_ok C1 R1 q) q2 (pr_ok C1 S1 k)
      · cases e
section
variable {K : PySem.W.Frag} {F : Addr → Prop} {H : Hp}
theorem snaps1 {d : D} {vs : List V} (h : Snaps K F H [d] vs) : ∃ v, vs = [v] ∧ Snap K F H d v := by
  obtain ⟨v, w, rfl, h1, h2⟩ := h
  cases h2
  exact ⟨v, rfl, h1⟩
theorem snaps2 {d e : D} {vs : List V} (h : Snaps K F H [d, e] vs) : ∃ v w, vs = [v, w] ∧ Snap K F H d v ∧ Snap K F H e w := by
  obtain ⟨v, w, rfl, h1, h2⟩ := h
  obtain ⟨w, rfl, h3⟩ := snaps1 h2
  exact ⟨v, w, rfl, h1, h3⟩
end
def rLenA (K : PySem.W.Frag) : List V → Hp → VK → Prop := fun xs H Q => (∃ p ys, xs = [.ref p] ∧ (SqL K H p ys ∨ SqT K H p ys) ∧ Q (.int ys.length) H) ∨ (∃ z, xs = [.str z] ∧ z.length ≤ sizeLine ∧ Q (.int z.length) H)
def rIntA : List V → Hp → VK → Prop := fun xs H Q => (∃ i, xs = [.int i] ∧ Q (.int i) H) ∨ ∃ k, xs = [.bl k] ∧ Q (.int (if k then 1 else 0)) H
def rMinA (K : PySem.W.Frag) : List V → Hp → VK → Prop := fun xs H Q => (∃ i j, xs = [.int i, .int j] ∧ Q (.int (if j < i then j else i)) H) ∨ rMin K xs H Q
def rMaxA (K : PySem.W.Frag) : List V → Hp → VK → Prop := fun xs H Q => (∃ i j, xs = [.int i, .int j] ∧ Q (.int (if j > i then j else i)) H) ∨ rMax K xs H Q
def rTupA (K : PySem.W.Frag) : List V → Hp → VK → Prop := fun xs H Q => ∃ p ys, xs = [.ref p] ∧ ((SqL K H p ys ∧ ∀ l, H l = none → Q (.ref l) (upd H l (.tup ys))) ∨ (SqT K H p ys ∧ Q (.ref p) H))
def rLstA (K : PySem.W.Frag) : List V → Hp → VK → Prop := fun xs H Q => ∃ p ys, xs = [.ref p] ∧ (SqL K H p ys ∨ SqT K H p ys) ∧ ∀ l, H l = none → Q (.ref l) (upd H l (.lst ys))
def Blt.r (K : PySem.W.Frag) : Blt → List V → Hp → VK → Prop
  | .len => rLenA K
  | .int => rIntA
  | .abs => fun xs H Q => ∃ i, xs = [.int i] ∧ Q (.int (if i < 0 then -i else i)) H
  | .sum => rSum K
  | .min => rMinA K
  | .max => rMaxA K
  | .tuple => rTupA K
  | .list => rLstA K
  | .ord => fun xs H Q => ∃ x, xs = [.str x] ∧ x.length = 1 ∧ Q (.int (x.cps.getD 0 0 : Nat)) H
  | .sorted => rSortedI K
  | .all => rAll K
theorem Blt.bltA {K : PySem.W.Frag} (b : Blt) : BltA K (b.r K) b.p := by
  intro F H vs ds pr Q h e k
  unfold Blt.p at e
  split at e
  · cases e; obtain ⟨v, rfl, a, ws, rfl, q, r⟩ := snaps1 h; exact .inl ⟨a, ws, rfl, .inl (SqL.of q), k _ (by rw [r.length]; rfl)⟩
  · cases e; obtain ⟨v, rfl, a, ws, rfl, q, r⟩ := snaps1 h; exact .inl ⟨a, ws, rfl, .inr q, k _ (by rw [r.length]; rfl)⟩
  · cases e
    obtain ⟨v, rfl, h1⟩ := snaps1 h
    obtain ⟨a, rfl, q⟩ := scr_seq (F := F) h1
    exact .inl ⟨a, _, rfl, .inl q, k _ (by rw [List.length_map]; rfl)⟩
  · split at e
    · rename_i hz
      cases e; obtain ⟨v, rfl, h1⟩ := snaps1 h; cases (show v = _ from h1); exact .inr ⟨_, rfl, by rw [line_eq]; exact hz, k _ rfl⟩
    · cases e
  · cases e; obtain ⟨v, rfl, h1⟩ := snaps1 h; cases (show v = _ from h1); exact .inl ⟨_, rfl, k _ rfl⟩
  · cases e; obtain ⟨v, rfl, h1⟩ := snaps1 h; cases (show v = _ from h1); exact .inr ⟨_, rfl, k _ rfl⟩
  · cases e; obtain ⟨v, rfl, h1⟩ := snaps1 h; cases (show v = _ from h1); exact ⟨_, rfl, k _ rfl⟩
  · split at e
    · rename_i ns q
      cases e; obtain ⟨v, rfl, a, ws, rfl, q', r⟩ := snaps1 h
      rw [toInts_eq q] at r
      have := r.ints
      subst this
      exact ⟨a, ns, rfl, SqL.of q', k _ rfl⟩
    · cases e
  · cases e; obtain ⟨v, w, rfl, h1, h2⟩ := snaps2 h; cases (show v = _ from h1); cases (show w = _ from h2); exact .inl ⟨_, _, rfl, k _ rfl⟩
  · cases e; obtain ⟨v, w, rfl, h1, h2⟩ := snaps2 h; cases (show v = _ from h1); cases (show w = _ from h2); exact .inl ⟨_, _, rfl, k _ rfl⟩
  · split at e
    · rename_i n ns q
      cases e; obtain ⟨v, rfl, a, ws, rfl, q', r⟩ := snaps1 h
      rw [toInts_eq q] at r
      have := r.ints
      subst this
      obtain ⟨m1, m2⟩ := minL_min (n :: ns) (by simp)
      refine .inr ⟨a, _, rfl, SqL.of q', by simp, fun m h1 h2 => ?_⟩
      have : m = minL (n :: ns) := by have := h2 _ m1; have := m2 _ h1; omega
      exact k _ (by rw [this]; rfl)
    · cases e
  · split at e
    · rename_i n ns q
      cases e; obtain ⟨v, rfl, a, ws, rfl, q', r⟩ := snaps1 h
      rw [toInts_eq q] at r
      have := r.ints
      subst this
      obtain ⟨m1, m2⟩ := maxL_max (n :: ns) (by simp)
      refine .inr ⟨a, _, rfl, SqL.of q', by simp, fun m h1 h2 => ?_⟩
      have : m = maxL (n :: ns) := by have := h2 _ m1; have := m2 _ h1; omega
      exact k _ (by rw [this]; rfl)
    · cases e
  · cases e; obtain ⟨v, rfl, a, ws, rfl, q, r⟩ := snaps1 h; exact ⟨a, ws, rfl, .inl ⟨SqL.of q, fun l hl => k.1 l _ hl r⟩⟩
  · cases e; obtain ⟨v, rfl, a, ws, rfl, q, r⟩ := snaps1 h; exact ⟨a, ws, rfl, .inr ⟨q, k.2 a _ q r⟩⟩
  · cases e; obtain ⟨v, rfl, a, ws, rfl, q, r⟩ := snaps1 h; exact ⟨a, ws, rfl, .inl (SqL.of q), fun l hl => k l _ hl r⟩
  · cases e; obtain ⟨v, rfl, a, ws, rfl, q, r⟩ := snaps1 h; exact ⟨a, ws, rfl, .inr q, fun l hl => k l _ hl r⟩
  · cases e
    obtain ⟨v, rfl, h1⟩ := snaps1 h
    obtain ⟨a, rfl, q⟩ := scr_seq (F := F) h1
    exact ⟨a, _, rfl, .inl q, fun l hl => k l _ hl (Reps.ofInts _)⟩
  · split at e
    · rename_i hz
      cases e; obtain ⟨v, rfl, h1⟩ := snaps1 h; cases (show v = _ from h1); exact ⟨_, rfl, hz, k _ rfl⟩
    · cases e
  · split at e
    · rename_i ns q
      cases e; obtain ⟨v, rfl, a, ws, rfl, q', r⟩ := snaps1 h
      rw [toInts_eq q] at r
      have := r.ints
      subst this
      refine ⟨a, ns, rfl, SqL.of q', fun ns' p perm so hp => ?_⟩
      rw [sortL_of perm so]
      exact k p _ hp (Reps.ofInts _)
    · cases e
  · split at e
    · rename_i bs q
      cases e; obtain ⟨v, rfl, a, ws, rfl, q', r⟩ := snaps1 h
      rw [toBls_eq q] at r
      have := r.bls
      subst this
      exact ⟨a, bs, rfl, SqL.of q', k _ rfl⟩
    · cases e
  · cases e
def noStars : List Expr → Bool
  | [] => true
  | e :: es => noStar e && noStars es
theorem backTo_none {pos : Pos} {env : Env} : ∀ {es : List Expr}, noStars es = true → (backTo pos (starEach es env)).any (·.1) = false
  | [], _ => rfl
  | e :: es, h => by
    have h : (noStar e && noStars es) = true := h
    rw [Bool.and_eq_true] at h
    rw [starEach_of h.1]
    show (false || (backTo pos (starEach es env)).any (·.1)) = false
    rw [backTo_none h.2]; rfl
section
variable {X : Cx}
theorem pe_aBlt {b : Blt} {e : Expr} {es : List Expr} {p pos : Pos} {g : Act (List R)} (hc : X.calm = true) (hg : Gl X b.name) (hm : X.mg b.name = none) (hs : noStars (e :: es) = true) (ha : PA X (e :: es) (tOfR X.K g)) : PE X (.Call (.Name b.name p) (e :: es) [] pos) (tOf X.K (aBlt b.p g)) := by
  refine pe_imp (t := tCB (b.r X.K) (tOfR X.K g)) ?_ fun _ _ _ => t_blt b.bltA
  have hs : (noStar e && noStars es) = true := hs
  rw [Bool.and_eq_true] at hs
  have he := starEach_of hs.1 es X.env
  have hp := backTo_none (pos := pos) (env := X.env) hs.2
  cases b with
  | len => exact pe_callB (call_len_seq.or call_len_str) hg hm PySem.boot_len ha (by decide) (by decide) he hp
  | int => exact pe_callTy call_int1 hg hm PyProof.Rows.boot_int ha (by decide) (by decide) he hp
  | abs => exact pe_callB call_abs hg hm PyProof.Rows.boot_abs ha (by decide) (by decide) he hp
  | sum => exact pe_callB (cr_sum hc) hg hm PyProof.Rows.boot_sum ha (by decide) (by decide) he hp
  | min => exact pe_callB ((call_min2 hc).or (cr_min hc)) hg hm PyProof.Rows.boot_min ha (by decide) (by decide) he hp
  | max => exact pe_callB ((call_max2 hc).or (cr_max hc)) hg hm PyProof.Rows.boot_max ha (by decide) (by decide) he hp
  | tuple => exact pe_callTy call_tuple_of hg hm PyProof.Rows.boot_tuple ha (by decide) (by decide) he hp
  | list => exact pe_callTy call_list_of hg hm PyProof.Rows.boot_list ha (by decide) (by decide) he hp
  | ord => exact pe_callB call_ord hg hm PyProof.Rows.boot_ord ha (by decide) (by decide) he hp
  | sorted => exact pe_callB cr_sortedI hg hm PyProof.Rows.boot_sorted ha (by decide) (by decide) he hp
  | all => exact pe_callB (cr_all hc) hg hm PyProof.Rows.boot_all ha (by decide) (by decide) he hp
end

/-! ### isinstance -/
inductive Ty where
  | int | bool | str | tuple | list | dict
def Ty.name : Ty → String
  | .int => "int" | .bool => "bool" | .str => "str" | .tuple => "tuple" | .list => "list" | .dict => "dict"
def D.ty : D → String
  | .non => "NoneType" | .bl _ => "bool" | .int _ => "int" | .str _ => "str" | .tup _ => "tuple" | .lst _ => "list" | .scr _ => "list"
def isiB : D → Ty → Bool
  | .bl _, .bool => true
  | .bl _, .int => true
  | .int _, .int => true
  | .str _, .str => true
  | .tup _, .tuple => true
  | .lst _, .list => true
  | .scr _, .list => true
  | _, _ => false
theorem isi_kit (d : D) (t : Ty) : kitB d.ty t.name = some (isiB d t) := by
  cases d <;> cases t <;> (simp only [D.ty, Ty.name, isiB]; decide +kernel)
theorem tyX_of {K : PySem.W.Frag} {F : Addr → Prop} {H : Hp} : ∀ {d : D} {v : V}, Snap K F H d v → TyX K H v (.type d.ty)
  | .non, _, h => by cases (show _ = V.non from h); exact .base .non
  | .bl b, _, h => by cases (show _ = V.bl b from h); exact .base (.bl b)
  | .int b, _, h => by cases (show _ = V.int b from h); exact .base (.int b)
  | .str b, _, h => by cases (show _ = V.str b from h); exact .base (.str b)
  | .tup ds, _, h => by
    obtain ⟨a, vs, rfl, q, _⟩ := h
    rcases q with (q | ⟨o, q⟩) | ⟨o, its, n, q, c, _⟩
    · exact .base (.tup q)
    · exact .fTuple q
    · exact .kTuple q c
  | .lst ds, _, h => by
    obtain ⟨a, vs, rfl, q, _⟩ := h
    exact .base (.lst q)
  | .scr ds, _, h => by
    obtain ⟨a, rfl, q⟩ := scr_seq (F := F) h
    rcases q with (q | ⟨o, q⟩) | ⟨o, its, n, q, c, _⟩
    · exact .base (.lst q)
    · exact .base (.frz q)
    · exact .kList q c
def aIsi (ts : List Ty) (f : Act R) : Act R := fun Γ => match f Γ with
  | none => none
  | some (r, Γ1) => match dr Γ1 r with
    | none => none
    | some d => some (.val (.bl (ts.any (isiB d))), Γ1)
theorem kit_any {K : PySem.W.Frag} (d : D) : ∀ ts : List Ty, PySem.W.kitAny K (.type d.ty) (ts.map fun t => Value.type t.name) = some (ts.any (isiB d))
  | [] => rfl
  | t :: ts => by
    rw [List.map_cons, List.any_cons]
    refine kitAny_cons (kit_ty (isi_kit d t)) (fun e => ?_) (fun e => ?_)
    · rw [e, Bool.false_or]; exact kit_any d ts
    · rw [e]; rfl
section
variable {X : Cx}
def tyE (X : Cx) : List Expr → List Ty → Prop
  | [], [] => True
  | .Name x _ :: es, t :: ts => x = Str.ofString t.name ∧ Gl X x ∧ X.mg x = none ∧ tyE X es ts
  | _, _ => False
theorem boot_ty (t : Ty) : bootBuiltins (Str.ofString t.name) = some (.type t.name) := by cases t <;> decide +kernel
theorem ty_nn (t : Ty) : (Str.ofString t.name) ≠ "__name__" ∧ ((Str.ofString t.name) == ("__debug__" : Str)) = false := by cases t <;> exact ⟨by decide +kernel, by decide +kernel⟩
theorem pe_ty {x : Str} {pos : Pos} {t : Ty} (h : x = Str.ofString t.name) (hg : Gl X x) (hm : X.mg x = none) : PE X (.Name x pos) (tC (.ty t.name)) := by
  subst h
  exact pe_bltn hg hm (boot_ty t) rfl (ty_nn t).1 (ty_nn t).2
def tTys : List Ty → TA := fun ts _ H Q => Q (ts.map fun t => V.ty t.name) H
theorem pa_tys : ∀ {es : List Expr} {ts : List Ty}, tyE X es ts → PA X es (tTys ts)
  | [], [], _ => pa_imp pa_nil fun _ _ _ h => h
  | .Name x p :: es, t :: ts, h => by
    obtain ⟨h1, h2, h3, h4⟩ := h
    exact pa_imp (pa_cons (pe_ty h1 h2 h3) (pa_tys h4) (starEach_of rfl _ _)) fun _ _ _ h => h
  | [], _ :: _, h => h.elim
  | _ :: _, [], h => by
    unfold tyE at h
    split at h <;> first | exact h.elim | contradiction
theorem pe_isi1 {a : Expr} {x : Str} {p p2 pos : Pos} {t : Ty} {f : Act R} (hg : Gl X "isinstance") (hm : X.mg "isinstance" = none) (ha : PE X a (tOf X.K f)) (na : noStar a = true) (h : tyE X [.Name x p2] [t]) : PE X (.Call (.Name "isinstance" p) [a, .Name x p2] [] pos) (tOf X.K (aIsi [t] f)) := by
  obtain ⟨h1, h2, h3, _⟩ := h
  refine pe_imp (pe_callB call_isi hg hm PyProof.Rows.boot_isinstance (pa_cons ha (pa_cons (pe_ty h1 h2 h3) pa_nil) (starEach_of na _ _)) (by decide) (by decide) (starEach_of na _ _) rfl) fun σ H Q h => ?_
  obtain ⟨G, rfl, C, rr, Γ', e, k⟩ := h
  unfold aIsi at e
  split at e
  · cases e
  · rename_i r Γ1 e1
    split at e
    · cases e
    · rename_i d q
      cases e
      refine ⟨G, rfl, C, r, _, e1, fun G1 v1 g1 C1 S1 R1 => ?_⟩
      subst g1
      refine ⟨v1, _, _, _, _, rfl, ClsV.ty t.name, tyX_of (dr_ok C1 R1 q), kit_ty (isi_kit d t), k G1 _ rfl C1 S1 ?_⟩
      show V.bl _ = V.bl _
      rw [List.any_cons, List.any_nil, Bool.or_false]
theorem cls_tys : ∀ ts : List Ty, Paired ClsV (ts.map fun t => V.ty t.name) (ts.map fun t => Value.type t.name)
  | [] => .nil
  | t :: ts => .cons (ClsV.ty t.name) (cls_tys ts)
theorem pe_isiT {a : Expr} {es : List Expr} {kk : Nat} {p p2 pos : Pos} {ts : List Ty} {f : Act R} (hg : Gl X "isinstance") (hm : X.mg "isinstance" = none) (ha : PE X a (tOf X.K f)) (na : noStar a = true) (h : tyE X es ts) (hl : ts.length ≤ 100) : PE X (.Call (.Name "isinstance" p) [a, .Tuple es kk p2] [] pos) (tOf X.K (aIsi ts f)) := by
  refine pe_imp (pe_callB call_isiT hg hm PyProof.Rows.boot_isinstance (pa_cons ha (pa_cons (pe_tup (pa_tys h)) pa_nil) (starEach_of na _ _)) (by decide) (by decide) (starEach_of na _ _) rfl) fun σ H Q h => ?_
  obtain ⟨G, rfl, C, rr, Γ', e, k⟩ := h
  unfold aIsi at e
  split at e
  · cases e
  · rename_i r Γ1 e1
    split at e
    · cases e
    · rename_i d q
      cases e
      refine ⟨G, rfl, C, r, _, e1, fun G1 v1 g1 C1 S1 R1 => ?_⟩
      subst g1
      refine ⟨by rw [List.length_map, line_eq]; omega, fun tp hp => ?_⟩
      have L := C1.lay (o := .tup (ts.map fun t => V.ty t.name)) hp
      have S2 := Ste.lay G1 (o := .tup (ts.map fun t => V.ty t.name)) hp
      have R2 := RepR.step C1 S2 R1
      exact ⟨v1, tp, _, _, _, _, rfl, upd_same, cls_tys ts, tyX_of (dr_ok L R2 q), kit_any d ts, k (G1.lay tp _) _ rfl L (S1.trans S2) rfl⟩
end
end Z

set_option Elab.async false
set_option linter.all false
set_option maxRecDepth 100000
set_option maxHeartbeats 4000000
/-! Z6: lists that change; calls of the text's own defs -/
namespace Z
open PySem L2 PyProof.Rows

def Gh.mut (G : Gh) (i : Nat) (a : Addr) (vs : List V) (x : O) : Gh := { G with H := upd G.H a (.lst vs), Γ := G.Γ.set i (some x) }
section
variable {K : PySem.W.Frag} {G : Gh} {σ : L2.St} {i j : Nat} {a : Addr} {vs : List V} {o x : O} {v : V}
theorem Ste.mut (C : Con K G σ) (hΓ : G.Γ[i]? = some (some o)) (ha : G.fp i j = some a) (hd : isDeal (some (some o)) = true → isDeal (some (some x)) = true) : Ste G (G.mut i a vs x) where
  sub := fun _ h => h
  keep := fun b u e n => by
    show upd G.H a (.lst vs) b = _
    rw [upd_ne (fun z => n i j (by rw [z]; exact ha))]
    exact e
  dom := fun b e z => by
    have z : upd G.H a (.lst vs) b = none := z
    by_cases hb : b = a
    · subst hb; rw [upd_same] at z; cases z
    · rw [upd_ne hb] at z; exact e z
  fps := fun k l b e => .inl ⟨k, l, e⟩
  fnew := fun _ h => .inl h
  deal := fun k h => by
    refine ⟨?_, rfl⟩
    show isDeal (G.Γ.set i (some x))[k]? = true
    by_cases hk : k = i
    · subst hk
      obtain ⟨hl, _⟩ := List.getElem?_eq_some_iff.mp hΓ
      rw [List.getElem?_set_self hl]
      exact hd (by rw [← hΓ]; exact h)
    · rw [isDeal_set hk]; exact h
  len := by show (G.Γ.set i (some x)).length = _; rw [List.length_set]
theorem Con.mut (C : Con K G σ) (hΓ : G.Γ[i]? = some (some o)) (ha : G.fp i j = some a) (hd : isDeal (some (some o)) = true → isDeal (some (some x)) = true) (hσ : σ[i]? = some (some v)) (hx : Own K G.F (upd G.H a (.lst vs)) (G.fp i) x v) : Con K (G.mut i a vs x) σ := by
  have S := Ste.mut (vs := vs) C hΓ ha hd
  refine C.slot i (some x) rfl rfl (fun _ _ => rfl) (fun _ _ => rfl) (fun o' e _ => ?_) (fun h => ?_) (fun l l' b e e' => (C.sep i l i l' b e e').2) (fun l b e k l' hk z => hk (C.sep k l' i l b z e).1) (fun l b e => C.nof i l b e) (fun k l b _ e => C.nof k l b e) (fun b f => S.dom b (C.fin b f)) fun k o' w hk h => ?_
  · cases e
    exact ⟨v, hσ, hx⟩
  · rcases h with h | h
    · cases h
    · obtain ⟨hl, _⟩ := List.getElem?_eq_some_iff.mp hΓ
      omega
  · exact Own.step C S h fun l b u e q => by
      show upd G.H a (.lst vs) b = _
      rw [upd_ne (fun z => hk (C.sep k l i j a (by rw [← z]; exact e) ha).1)]
      exact q
end
/-- the list of a slot (of a slot's deal) -/
def lstO : Option (Option O) → Bool
  | some (some (.own _)) => true
  | some (some (.deal _ _)) => true
  | _ => false
def lstR (Γ : Ga) : R → Bool
  | .at i => lstO Γ[i]?
  | .at1 i => isDeal Γ[i]?
  | _ => false
/-- the list's items; what stands behind other items are put in -/
def itO : Option (Option O) → Option (List D)
  | some (some (.own ds)) => some ds
  | _ => none
def it1 : Option (Option O) → Option (List D)
  | some (some (.deal ds _)) => some ds
  | _ => none
def items (Γ : Ga) : R → Option (List D)
  | .at i => itO Γ[i]?
  | .at1 i => it1 Γ[i]?
  | _ => none
def putO (ds : List D) : Option (Option O) → Option O
  | some (some (.deal _ m)) => some (.deal ds m)
  | _ => none
def putR (Γ : Ga) (ds : List D) : R → Ga
  | .at i => Γ.set i (some (.own ds))
  | .at1 i => Γ.set i (putO ds Γ[i]?)
  | _ => Γ
section
variable {K : PySem.W.Frag} {H0 : Hp} {G : Gh} {σ : L2.St}
theorem lstR_ok (C : Con K G σ) : ∀ {r : R} {v : V}, RepR K H0 G σ r v → lstR G.Γ r = true → ∃ a vs, v = .ref a ∧ G.H a = some (.lst vs)
  | .at i, v, h, e => by
    have e : lstO G.Γ[i]? = true := e
    unfold lstO at e
    split at e
    · rename_i ds q
      obtain ⟨w, e1, a, vs, rfl, _, _, q', _⟩ := C.get i _ q
      rw [show σ[i]? = some (some v) from h] at e1
      cases e1
      exact ⟨a, vs, rfl, q'⟩
    · rename_i ds m q
      obtain ⟨w, e1, a, b, vs, u, rfl, _, _, _, q', _⟩ := C.get i _ q
      rw [show σ[i]? = some (some v) from h] at e1
      cases e1
      exact ⟨a, _, rfl, q'⟩
    · cases e
  | .at1 i, v, h, e => by
    obtain ⟨hd, b, f1, rfl⟩ := h
    cases q : G.Γ[i]? with
    | none => rw [q] at hd; cases hd
    | some x =>
      cases x with
      | none => rw [q] at hd; cases hd
      | some o =>
        cases o with
        | deal ds m =>
          obtain ⟨w, e1, a, b', vs, u, _, _, f1', _, _, q', _⟩ := C.get i _ q
          rw [f1] at f1'
          cases f1'
          exact ⟨b, vs, rfl, q'⟩
        | dat d => rw [q] at hd; cases hd
        | own d => rw [q] at hd; cases hd
/-- the list as it stands, and as it stands behind a change -/
theorem put_ok (C : Con K G σ) : ∀ {r : R} {v : V} {ds : List D}, RepR K H0 G σ r v → items G.Γ r = some ds → ∃ a vs, v = .ref a ∧ G.H a = some (.lst vs) ∧ Reps K G.F G.H ds vs ∧
    ∀ ds' vs', Reps K G.F G.H ds' vs' → ∃ G' : Gh, G'.Γ = putR G.Γ ds' r ∧ G'.H = upd G.H a (.lst vs') ∧ Con K G' σ ∧ Ste G G'
  | .at i, v, ds, h, e => by
    have e : itO G.Γ[i]? = some ds := e
    unfold itO at e
    split at e
    · rename_i ds q
      cases e
      obtain ⟨w, e1, a, vs, rfl, f0, f1, q', r⟩ := C.get i _ q
      rw [show σ[i]? = some (some v) from h] at e1
      cases e1
      refine ⟨a, vs, rfl, q', r, fun ds' vs' r' => ⟨G.mut i a vs' (.own ds'), rfl, rfl, ?_, Ste.mut C q f0 (fun z => by cases z)⟩⟩
      have S := Ste.mut (vs := vs') (x := .own ds') C q f0 (fun z => by cases z)
      exact C.mut q f0 (fun z => by cases z) h ⟨a, vs', rfl, f0, f1, upd_same, Reps.step C S _ _ r'⟩
    · cases e
  | .at1 i, v, ds, h, e => by
    have e : it1 G.Γ[i]? = some ds := e
    unfold it1 at e
    split at e
    · rename_i ds m q
      cases e
      obtain ⟨hd, b, f1, rfl⟩ := h
      obtain ⟨w, e1, a, b', vs, u, rfl, f0, f1', f2, q1, q2, r1, r2⟩ := C.get i _ q
      rw [f1] at f1'
      cases f1'
      refine ⟨b, vs, rfl, q2, r1, fun ds' vs' r' => ⟨G.mut i b vs' (.deal ds' m), ?_, rfl, ?_, Ste.mut C q f1 (fun _ => rfl)⟩⟩
      · show G.Γ.set i (some (.deal ds' m)) = G.Γ.set i (putO ds' G.Γ[i]?)
        rw [q]; rfl
      · have S := Ste.mut (vs := vs') (x := .deal ds' m) C q f1 (fun _ => rfl)
        have ne : a ≠ b := fun z => by
          have := (C.sep i 0 i 1 a f0 (by rw [z]; exact f1)).2
          omega
        refine C.mut q f1 (fun _ => rfl) e1 ⟨a, b, vs', u, rfl, f0, f1, f2, ?_, upd_same, Reps.step C S _ _ r', Rep.step C S _ _ r2⟩
        rw [upd_ne ne]; exact q1
    · cases e
end

/-! ### append, extend, pop -/
def aApp (fa : Act R) (g : Act (List Arg)) : Act R := fun Γ => match fa Γ with
  | none => none
  | some (r1, Γ1) => match lstR Γ1 r1 with
    | false => none
    | true => match g Γ1 with
      | none => none
      | some (as, Γ2) => match argD as, items Γ2 r1 with
        | some [d], some ds => if ds.length < 16777216 then some (.val .non, putR Γ2 (ds ++ [d]) r1) else none
        | _, _ => none
def aExt (fa : Act R) (g : Act (List R)) : Act R := fun Γ => match fa Γ with
  | none => none
  | some (r1, Γ1) => match lstR Γ1 r1 with
    | false => none
    | true => match g Γ1 with
      | none => none
      | some (rs, Γ2) => match drs Γ2 rs, items Γ2 r1 with
        | some [.lst es], some ds => if ds.length + es.length ≤ 16777216 then some (.val .non, putR Γ2 (ds ++ es) r1) else none
        | _, _ => none
def aPop (fa : Act R) : Act R := fun Γ => match fa Γ with
  | none => none
  | some (r1, Γ1) => match lstR Γ1 r1 with
    | false => none
    | true => match items Γ1 r1 with
      | none => none
      | some ds => match ds[ds.length - 1]? with
        | none => none
        | some d => some (.val d, putR Γ1 ds.dropLast r1)
def aPopAt (fa : Act R) (g : Act (List R)) : Act R := fun Γ => match fa Γ with
  | none => none
  | some (r1, Γ1) => match lstR Γ1 r1 with
    | false => none
    | true => match g Γ1 with
      | none => none
      | some (rs, Γ2) => match drs Γ2 rs, items Γ2 r1 with
        | some [.int i], some ds => match (if -(2 ^ 63) ≤ i ∧ i < 2 ^ 63 then seqIndex? i ds.length else none) with
          | none => none
          | some k => match ds[k]? with
            | none => none
            | some d => some (.val d, putR Γ2 (ds.eraseIdx k) r1)
        | _, _ => none
section
variable {X : Cx}
def recv : Expr → Bool
  | .Name .. => true
  | .Subscript .. => true
  | .Constant .. => true
  | _ => false
theorem recv_base {e : Expr} (h : recv e = true) (n : Str) (env : Env) (w : Sem Value) : attributeBase e n env w = w := by
  cases e <;> first | rfl | cases h
theorem pe_aApp {o e : Expr} {apos cpos : Pos} {fa : Act R} {g : Act (List Arg)} (ho : PE X o (tOf X.K fa)) (ha : PA X [e] (tOfA X.K g)) (hr : recv o = true) (hs : noStar e = true) (hl : (apos.endLine == cpos.line) = true) :
    PE X (.Call (.Attribute o "append" apos) [e] [] cpos) (tOf X.K (aApp fa g)) := by
  refine pe_imp (pe_bm PySem.F.plainAttrs_list PySem.F.slot_list_append PySem.F.type_list_append mt_append ho ha (recv_base hr _ _ _) (by rw [starEach_of hs]; rfl) hl (starEach_of hs _ _) rfl) fun σ H Q h => ?_
  obtain ⟨G, rfl, C, rr, Γ', e, k⟩ := h
  unfold aApp at e
  split at e
  · cases e
  · rename_i r1 Γ1 e1
    split at e
    · cases e
    · rename_i hL
      split at e
      · cases e
      · rename_i as Γ2 e2
        split at e
        · rename_i d ds q1 q2
          split at e
          · rename_i hz
            cases e
            refine ⟨G, rfl, C, r1, Γ1, e1, fun G1 v1 g1 C1 S1 R1 => ?_⟩
            subst g1
            obtain ⟨a, ws, rfl, hh⟩ := lstR_ok C1 R1 hL
            refine ⟨.inl ⟨rfl, ws, SqL.of hh⟩, G1, rfl, C1, as, _, e2, fun G2 vs g2 C2 S2 R2 => ?_⟩
            subst g2
            obtain ⟨a', us, e', h', r', put⟩ := put_ok C2 (RepR.step C1 S2 R1) q2
            cases e'
            have RA := argD_ok R2 q1
            obtain ⟨y, t, rfl, ry, rt⟩ := RA
            cases rt
            obtain ⟨G3, g3, h3, C3, S3⟩ := put _ _ (r'.append (Reps.one ry))
            exact ⟨a, us, y, rfl, rfl, h', by rw [r'.length, line_eq]; exact hz, by rw [← h3]; exact k G3 .non g3 C3 ((S1.trans S2).trans S3) rfl⟩
          · cases e
        · cases e
theorem pe_aExt {o e : Expr} {apos cpos : Pos} {fa : Act R} {g : Act (List R)} (ho : PE X o (tOf X.K fa)) (ha : PA X [e] (tOfR X.K g)) (hr : recv o = true) (hs : noStar e = true) (hl : (apos.endLine == cpos.line) = true) :
    PE X (.Call (.Attribute o "extend" apos) [e] [] cpos) (tOf X.K (aExt fa g)) := by
  refine pe_imp (pe_bm PySem.F.plainAttrs_list PySem.F.slot_list_extend PySem.F.type_list_extend mt_extend ho ha (recv_base hr _ _ _) (by rw [starEach_of hs]; rfl) hl (starEach_of hs _ _) rfl) fun σ H Q h => ?_
  obtain ⟨G, rfl, C, rr, Γ', e, k⟩ := h
  unfold aExt at e
  split at e
  · cases e
  · rename_i r1 Γ1 e1
    split at e
    · cases e
    · rename_i hL
      split at e
      · cases e
      · rename_i rs Γ2 e2
        split at e
        · rename_i es ds q1 q2
          split at e
          · rename_i hz
            cases e
            refine ⟨G, rfl, C, r1, Γ1, e1, fun G1 v1 g1 C1 S1 R1 => ?_⟩
            subst g1
            obtain ⟨a, ws, rfl, hh⟩ := lstR_ok C1 R1 hL
            refine ⟨.inl ⟨rfl, ws, SqL.of hh⟩, G1, rfl, C1, rs, _, e2, fun G2 vs g2 C2 S2 R2 => ?_⟩
            subst g2
            obtain ⟨a', us, e', h', r', put⟩ := put_ok C2 (RepR.step C1 S2 R1) q2
            cases e'
            obtain ⟨w, rfl, b, zs, rfl, hb, rb⟩ := snaps1 (drs_ok C2 R2 q1)
            obtain ⟨G3, g3, h3, C3, S3⟩ := put _ _ (r'.append rb)
            exact ⟨a, b, us, zs, rfl, rfl, h', hb, by rw [r'.length, rb.length, line_eq]; exact hz, by rw [← h3]; exact k G3 .non g3 C3 ((S1.trans S2).trans S3) rfl⟩
          · cases e
        · cases e
theorem pe_aPop {o : Expr} {apos cpos : Pos} {fa : Act R} (ho : PE X o (tOf X.K fa)) (hr : recv o = true) (hl : (apos.endLine == cpos.line) = true) : PE X (.Call (.Attribute o "pop" apos) [] [] cpos) (tOf X.K (aPop fa)) := by
  refine pe_imp (pe_bm0 PySem.F.plainAttrs_list PySem.F.slot_list_pop PySem.F.type_list_pop mt_pop ho (recv_base hr _ _ _) hl) fun σ H Q h => ?_
  obtain ⟨G, rfl, C, rr, Γ', e, k⟩ := h
  unfold aPop at e
  split at e
  · cases e
  · rename_i r1 Γ1 e1
    split at e
    · cases e
    · rename_i hL
      split at e
      · cases e
      · rename_i ds q
        split at e
        · cases e
        · rename_i d q2
          cases e
          refine ⟨G, rfl, C, r1, Γ1, e1, fun G1 v1 g1 C1 S1 R1 => ?_⟩
          subst g1
          obtain ⟨a, ws, rfl, hh, r', put⟩ := put_ok C1 R1 q
          refine ⟨.inl ⟨rfl, ws, SqL.of hh⟩, ?_⟩
          obtain ⟨y, ey, ry⟩ := r'.get q2
          obtain ⟨G3, g3, h3, C3, S3⟩ := put _ _ r'.dropLast
          exact ⟨a, ws, y, rfl, rfl, hh, by rw [r'.length]; exact ey, by rw [← h3]; exact k G3 y g3 C3 (S1.trans S3) (Rep.step C1 S3 _ _ ry)⟩
theorem pe_aPopAt {o e : Expr} {apos cpos : Pos} {fa : Act R} {g : Act (List R)} (ho : PE X o (tOf X.K fa)) (ha : PA X [e] (tOfR X.K g)) (hr : recv o = true) (hs : noStar e = true) (hl : (apos.endLine == cpos.line) = true) :
    PE X (.Call (.Attribute o "pop" apos) [e] [] cpos) (tOf X.K (aPopAt fa g)) := by
  refine pe_imp (pe_bm PySem.F.plainAttrs_list PySem.F.slot_list_pop PySem.F.type_list_pop mt_popAt ho ha (recv_base hr _ _ _) (by rw [starEach_of hs]; rfl) hl (starEach_of hs _ _) rfl) fun σ H Q h => ?_
  obtain ⟨G, rfl, C, rr, Γ', e, k⟩ := h
  unfold aPopAt at e
  split at e
  · cases e
  · rename_i r1 Γ1 e1
    split at e
    · cases e
    · rename_i hL
      split at e
      · cases e
      · rename_i rs Γ2 e2
        split at e
        · rename_i j ds q1 q2
          split at e
          · cases e
          · rename_i kk q3
            split at q3
            · rename_i hb
              split at e
              · cases e
              · rename_i d q4
                cases e
                refine ⟨G, rfl, C, r1, Γ1, e1, fun G1 v1 g1 C1 S1 R1 => ?_⟩
                subst g1
                obtain ⟨a, ws, rfl, hh⟩ := lstR_ok C1 R1 hL
                refine ⟨.inl ⟨rfl, ws, SqL.of hh⟩, G1, rfl, C1, rs, _, e2, fun G2 vs g2 C2 S2 R2 => ?_⟩
                subst g2
                obtain ⟨a', us, e', h', r', put⟩ := put_ok C2 (RepR.step C1 S2 R1) q2
                cases e'
                obtain ⟨w, rfl, hw⟩ := snaps1 (drs_ok C2 R2 q1)
                cases (show w = _ from hw)
                obtain ⟨y, ey, ry⟩ := r'.get q4
                obtain ⟨G3, g3, h3, C3, S3⟩ := put _ _ (r'.eraseIdx kk)
                exact ⟨a, us, j, kk, y, rfl, rfl, h', hb.1, hb.2, by rw [r'.length]; exact q3, ey, by rw [← h3]; exact k G3 y g3 C3 ((S1.trans S2).trans S3) (Rep.step C2 S3 _ _ ry)⟩
            · cases q3
        · cases e
end
/-- sep.join(texts) -/
def joinP : D → D → Option PR
  | .str a, .lst ds => match toStrs ds with
    | some ys => if (ys.map (·.length)).sum + ys.length * a.length ≤ 16777216 then some (.v (.str (Txt.join a ys))) else none
    | none => none
  | _, _ => none
section
variable {X : Cx}
theorem pe_aJoin {o e : Expr} {apos pos : Pos} {fa fb : Act R} (ho : PE X o (tOf X.K fa)) (he : PE X e (tOf X.K fb)) (hr : recv o = true) (hs : noStar e = true) (hl : (apos.endLine == pos.line) = true)
    (hstr : ∀ G : Ga, ∀ r G1, fa G = some (r, G1) → ∃ a, r = .val (.str a)) : PE X (.Call (.Attribute o "join" apos) [e] [] pos) (tOf X.K (aBin joinP fa fb)) := by
  refine pe_imp (pe_join ho he (starEach_of hs _ _) (recv_base hr _ _ _) hl) fun σ H Q h => ?_
  obtain ⟨G, rfl, C, rr, Γ', e, k⟩ := h
  unfold aBin at e
  split at e
  · cases e
  · rename_i r1 Γ1 e1
    split at e
    · cases e
    · rename_i r2 Γ2 e2
      split at e
      · rename_i d1 d2 q1 q2
        split at e
        · rename_i pr q
          cases e
          obtain ⟨sep, rfl⟩ := hstr _ _ _ e1
          refine ⟨G, rfl, C, _, Γ1, e1, fun G1 v1 g1 C1 S1 R1 => ⟨⟨sep, R1⟩, G1, rfl, C1, r2, _, by rw [g1]; exact e2, fun G2 v2 g2 C2 S2 R2 => ?_⟩⟩
          subst g2
          cases q1
          unfold joinP at q
          split at q
          · rename_i a ds z1
            cases z1
            split at q
            · rename_i ys qs
              split at q
              · rename_i hz
                cases q
                obtain ⟨b, us, rfl, hb, rb⟩ := dr_ok C2 R2 q2
                rw [toStrs_eq qs] at rb
                have := rb.strs
                subst this
                exact ⟨sep, b, ys, R1, rfl, .inl (SqL.of hb), hz, k G2 _ rfl C2 (S1.trans S2) rfl⟩
              · cases q
            · cases q
          · cases q
        · cases e
      · cases e
end
end Z

set_option Elab.async false
set_option linter.all false
set_option maxRecDepth 100000
set_option maxHeartbeats 4000000
/-! Z7: calls of the text's own defs -/
namespace Z
open PySem L2 PyProof.Rows

/-- what a def hands back: data, a new deal -/
inductive Rt where
  | dat (d : D) | deal (ds : List D) (m : D)
def Rt.r : Rt → R
  | .dat d => .val d
  | .deal ds m => .newD ds m
/-- the deal that is handed in (as the first thing), and what it is behind -/
abbrev Dl := Option (List D × D)
abbrev Sm := Dl → List D → Option (Rt × Dl)
def dlO : Dl → Ga
  | some (c, m) => [some (.deal c m)]
  | none => []
def inΓ (q : Dl) (ds : List D) : Ga := dlO q ++ ds.map fun d => some (.dat d)
def outΓ (q : Dl) (ds : List D) : Ga := dlO q ++ ds.map fun _ => none
def spOf (K : PySem.W.Frag) (n : Nat) (g : Sm) : Sp := fun vs H Q _ => vs.length = n ∧ ∃ (G : Gh) (q : Dl) (ds : List D), G.H = H ∧ G.Γ = inΓ q ds ∧ Con K G (vs.map some) ∧ ∃ rt q', g q ds = some (rt, q') ∧ q.isSome = q'.isSome ∧
  ∀ G' v, G'.Γ = outΓ q' ds → Con K G' (vs.map some) → Ste G G' → RepR K G.H G' (vs.map some) rt.r v → Q v G'.H

section
variable {K : PySem.W.Frag} {G G' Gc : Gh} {σ : L2.St}
/-- data alone, in slots of a new frame -/
theorem con_data (F : Addr → Prop) (H : Hp) (fin : ∀ a, F a → H a ≠ none) : ∀ {ds : List D} {vs : List V}, Reps K F H ds vs → Con K ⟨F, H, fun _ _ => none, ds.map fun d => some (.dat d)⟩ (vs.map some) := by
  intro ds vs r
  refine ⟨by simp [r.length], fun i o e => ?_, fun _ _ _ => rfl, (fun i j i' j' a e => by cases e), (fun i j a e => by cases e), fin⟩
  have e : (ds.map fun d => some (O.dat d))[i]? = some (some o) := e
  rw [List.getElem?_map] at e
  cases q : ds[i]? with
  | none => rw [q] at e; cases e
  | some d =>
    rw [q] at e
    have e1 : some (O.dat d) = some o := Option.some.inj e
    cases e1
    obtain ⟨v, h1, h2⟩ := r.get q
    exact ⟨v, by rw [List.getElem?_map, h1]; rfl, h2, fun _ => rfl⟩
theorem con_deal {i : Nat} {c : List D} {m : D} {v : V} (C : Con K G σ) (hΓ : G.Γ[i]? = some (some (.deal c m))) (hσ : σ[i]? = some (some v)) {ds : List D} {vs : List V} (r : Reps K G.F G.H ds vs) :
    Con K ⟨G.F, G.H, fun k => if k = 0 then G.fp i else fun _ => none, some (.deal c m) :: ds.map fun d => some (.dat d)⟩ ((v :: vs).map some) := by
  obtain ⟨v', e1, own⟩ := C.get i _ hΓ
  rw [hσ] at e1
  cases e1
  refine ⟨by simp [r.length], fun k o e => ?_, fun k h j => ?_, fun k j k' j' a e e' => ?_, fun k j a e => ?_, C.fin⟩
  · cases k with
    | zero =>
      cases (Option.some.inj (Option.some.inj (show some (some (O.deal c m)) = some (some o) from e)))
      exact ⟨v, rfl, own⟩
    | succ k =>
      have e : (ds.map fun d => some (O.dat d))[k]? = some (some o) := e
      rw [List.getElem?_map] at e
      cases q : ds[k]? with
      | none => rw [q] at e; cases e
      | some d =>
        rw [q] at e
        have e1 : some (O.dat d) = some o := Option.some.inj e
        cases e1
        obtain ⟨w, h1, h2⟩ := r.get q
        refine ⟨w, ?_, h2, fun _ => rfl⟩
        show (vs.map some)[k]? = _
        rw [List.getElem?_map, h1]; rfl
  · show (if k = 0 then G.fp i else fun _ => none) j = none
    by_cases hk : k = 0
    · subst hk
      exact absurd rfl (h (.deal c m))
    · rw [if_neg hk]
  · have e : (if k = 0 then G.fp i else fun _ => none) j = some a := e
    have e' : (if k' = 0 then G.fp i else fun _ => none) j' = some a := e'
    by_cases hk : k = 0
    · by_cases hk' : k' = 0
      · rw [if_pos hk] at e
        rw [if_pos hk'] at e'
        exact ⟨by rw [hk, hk'], (C.sep i j i j' a e e').2⟩
      · rw [if_neg hk'] at e'; cases e'
    · rw [if_neg hk] at e; cases e
  · have e : (if k = 0 then G.fp i else fun _ => none) j = some a := e
    by_cases hk : k = 0
    · rw [if_pos hk] at e
      exact C.nof i j a e
    · rw [if_neg hk] at e; cases e
/-- behind a call that was handed data alone -/
theorem after_data (C : Con K G σ) (Cc : Con K Gc σ') (S : Ste Gc G') (C' : Con K G' σ'') (hF : Gc.F = G.F) (hH : Gc.H = G.H) (hfp : ∀ k j, Gc.fp k j = none) : Con K ⟨G'.F, G'.H, G.fp, G.Γ⟩ σ ∧ Ste G ⟨G'.F, G'.H, G.fp, G.Γ⟩ := by
  have kp : ∀ a o, G.H a = some o → G'.H a = some o := fun a o e => S.keep a o (by rw [hH]; exact e) fun k j z => by rw [hfp] at z; cases z
  have nf : ∀ a, G'.F a → G.F a ∨ G.H a = none := fun a f => by
    rcases S.fnew a f with z | ⟨k, j, z⟩ | z
    · exact .inl (hF ▸ z)
    · rw [hfp] at z; cases z
    · exact .inr (hH ▸ z)
  refine ⟨⟨C.len, fun i o e => ?_, C.non, C.sep, fun i j a e f => ?_, C'.fin⟩, ⟨fun a f => S.sub a (by rw [hF]; exact f), fun a o e _ => kp a o e, fun a e => S.dom a (by rw [hH]; exact e), fun k j a e => .inl ⟨k, j, e⟩, fun a f => ?_, fun k h => ⟨h, rfl⟩, rfl⟩⟩
  · obtain ⟨v, e1, w⟩ := C.get i o e
    refine ⟨v, e1, ?_⟩
    rw [← hF, ← hH] at w
    exact Own.step Cc S w fun j a u _ q => kp a u (by rw [← hH]; exact q)
  · obtain ⟨vs, q⟩ := C.lst e
    rcases nf a f with z | z
    · exact C.nof i j a e z
    · rw [q] at z; cases z
  · rcases nf a f with z | z
    · exact .inl z
    · exact .inr (.inr z)
/-- behind a call that was handed the deal of slot i -/
theorem after_deal {i : Nat} {c c' : List D} {m m' : D} {v : V} (C : Con K G σ) (hΓ : G.Γ[i]? = some (some (.deal c m))) (hσ : σ[i]? = some (some v)) (Cc : Con K Gc σ') (S : Ste Gc G') (C' : Con K G' σ'') (hF : Gc.F = G.F) (hH : Gc.H = G.H)
    (hfp : ∀ k, Gc.fp k = if k = 0 then G.fp i else fun _ => none) (h0 : isDeal Gc.Γ[0]? = true) (hout : G'.Γ[0]? = some (some (.deal c' m'))) (hσ' : σ''[0]? = some (some v)) :
    Con K ⟨G'.F, G'.H, G.fp, G.Γ.set i (some (.deal c' m'))⟩ σ ∧ Ste G ⟨G'.F, G'.H, G.fp, G.Γ.set i (some (.deal c' m'))⟩ := by
  have f0 : G'.fp 0 = G.fp i := by rw [(S.deal 0 h0).2, hfp 0, if_pos rfl]
  have inc : ∀ k j a, Gc.fp k j = some a → G.fp i j = some a := fun k j a e => by
    rw [hfp] at e
    by_cases hk : k = 0
    · rw [if_pos hk] at e; exact e
    · rw [if_neg hk] at e; cases e
  have kp : ∀ a o, G.H a = some o → (∀ j, G.fp i j ≠ some a) → G'.H a = some o := fun a o e n => S.keep a o (by rw [hH]; exact e) fun k j z => n j (inc k j a z)
  have nf : ∀ a, G'.F a → G.F a ∨ (∃ j, G.fp i j = some a) ∨ G.H a = none := fun a f => by
    rcases S.fnew a f with z | ⟨k, j, z⟩ | z
    · exact .inl (hF ▸ z)
    · exact .inr (.inl ⟨j, inc k j a z⟩)
    · exact .inr (.inr (hH ▸ z))
  have S' : Ste G ⟨G'.F, G'.H, G.fp, G.Γ.set i (some (.deal c' m'))⟩ := by
    refine ⟨fun a f => S.sub a (by rw [hF]; exact f), fun a o e n => kp a o e fun j => n i j, fun a e => S.dom a (by rw [hH]; exact e), fun k j a e => .inl ⟨k, j, e⟩, fun a f => ?_, fun k h => ⟨?_, rfl⟩, by show (G.Γ.set i _).length = _; rw [List.length_set]⟩
    · rcases nf a f with z | ⟨j, z⟩ | z
      · exact .inl z
      · exact .inr (.inl ⟨i, j, z⟩)
      · exact .inr (.inr z)
    · show isDeal (G.Γ.set i (some (.deal c' m')))[k]? = true
      by_cases hk : k = i
      · subst hk
        obtain ⟨hl, _⟩ := List.getElem?_eq_some_iff.mp hΓ
        rw [List.getElem?_set_self hl]; rfl
      · rw [isDeal_set hk]; exact h
  refine ⟨C.slot i (some (.deal c' m')) rfl rfl (fun _ _ => rfl) (fun _ _ => rfl) (fun o e _ => ?_) (fun h => ?_) (fun j j' a e e' => (C.sep i j i j' a e e').2) (fun j a e k j' hk z => hk (C.sep k j' i j a z e).1) (fun j a e => ?_) (fun k j a hk e f => ?_) C'.fin (fun k o w hk h => ?_), S'⟩
  · cases e
    obtain ⟨v', e1, w⟩ := C'.get 0 _ hout
    rw [hσ'] at e1
    cases e1
    refine ⟨v, hσ, ?_⟩
    rw [f0] at w
    exact w
  · rcases h with h | h
    · cases h
    · obtain ⟨hl, _⟩ := List.getElem?_eq_some_iff.mp hΓ
      omega
  · exact C'.nof 0 j a (by rw [f0]; exact e)
  · obtain ⟨vs, q⟩ := C.lst e
    rcases nf a f with z | ⟨j', z⟩ | z
    · exact C.nof k j a e z
    · exact hk (C.sep k j i j' a e z).1
    · rw [q] at z; cases z
  · rw [← hF, ← hH] at h
    exact Own.step Cc S h fun j a u e q => kp a u (by rw [← hH]; exact q) fun j' z => hk (C.sep k j i j' a e z).1
end

def aCall (n : Nat) (g : Sm) (args : Act (List Arg)) : Act R := fun Γ => match args Γ with
  | none => none
  | some (as, Γ1) => if as.length = n then (match as with
    | .ref i :: rest => (match argD rest, Γ1[i]? with
      | some ds, some (some (.deal c m)) => (match g (some (c, m)) ds with
        | some (rt, some (c', m')) => some (rt.r, Γ1.set i (some (.deal c' m')))
        | _ => none)
      | _, _ => none)
    | as => (match argD as with
      | some ds => (match g none ds with
        | some (rt, none) => some (rt.r, Γ1)
        | _ => none)
      | none => none)) else none
theorem repAs_len {K : PySem.W.Frag} {G : Gh} {σ : L2.St} : ∀ {as : List Arg} {vs : List V}, RepAs K G σ as vs → vs.length = as.length
  | [], _, h => by cases h; rfl
  | a :: as, _, h => by
    obtain ⟨v, w, rfl, _, h2⟩ := h
    exact congrArg (· + 1) (repAs_len h2)
theorem argD_len : ∀ {as : List Arg} {ds : List D}, argD as = some ds → ds.length = as.length
  | [], _, e => by cases e; rfl
  | .d d :: as, _, e => by
    unfold argD at e
    split at e
    · rename_i ds q
      cases e
      exact congrArg (· + 1) (argD_len q)
    · cases e
  | .ref _ :: _, _, e => by cases e
theorem rt_ok {K : PySem.W.Frag} {G0 G1 Gc G' : Gh} {σ σ' : L2.St} {Γ : Ga} (C : Con K G1 σ) (S : Ste G0 G1) (hH : Gc.H = G1.H) : ∀ {rt : Rt} {v : V}, RepR K Gc.H G' σ' rt.r v → RepR K G0.H ⟨G'.F, G'.H, G1.fp, Γ⟩ σ rt.r v
  | .dat d, v, h => h
  | .deal ds m, v, h => by
    obtain ⟨a, b, vs, w, e, z, z', ne, q, q', r, r', n, n'⟩ := h
    rw [hH] at z z'
    exact ⟨a, b, vs, w, e, S.nn z, S.nn z', ne, q, q', r, r', ⟨n.1, (C.fresh z).2⟩, ⟨n'.1, (C.fresh z').2⟩⟩
theorem t_call {K : PySem.W.Frag} {n : Nat} {g : Sm} {args : Act (List Arg)} {σ : L2.St} {H : Hp} {Q : VK} {E : XK} (h : tOf K (aCall n g args) σ H Q) : tOfA K args σ H fun vs H1 => spOf K n g vs H1 Q E := by
  obtain ⟨G, rfl, C, rr, Γ', e, k⟩ := h
  unfold aCall at e
  split at e
  · cases e
  · rename_i as Γ1 e1
    split at e
    · rename_i hn
      refine ⟨G, rfl, C, as, Γ1, e1, fun G1 vs g1 C1 S1 R1 => ?_⟩
      subst g1
      have hv : vs.length = n := (repAs_len R1).trans hn
      split at e
      · rename_i i rest
        split at e
        · rename_i ds c m qd qΓ
          split at e
          · rename_i rt c' m' qg
            cases e
            obtain ⟨v0, ws, rfl, ⟨hσ, hd⟩, R2⟩ := R1
            have RD := argD_ok R2 qd
            have Cc := con_deal C1 qΓ hσ RD
            refine ⟨hv, ⟨G1.F, G1.H, fun k => if k = 0 then G1.fp i else fun _ => none, some (.deal c m) :: ds.map fun d => some (.dat d)⟩, some (c, m), ds, ?_, ?_, Cc, rt, some (c', m'), qg, rfl, fun G' v gΓ C' S' RT => ?_⟩
            · rfl
            · rfl
            · have hout : G'.Γ[0]? = some (some (.deal c' m')) := by rw [gΓ]; rfl
              obtain ⟨C2, S2⟩ := after_deal C1 qΓ hσ Cc S' C' rfl rfl (fun k => rfl) rfl hout rfl
              exact k ⟨G'.F, G'.H, G1.fp, G1.Γ.set i (some (.deal c' m'))⟩ v rfl C2 (S1.trans S2) (rt_ok (Gc := ⟨G1.F, G1.H, fun k => if k = 0 then G1.fp i else fun _ => none, some (.deal c m) :: ds.map fun d => some (.dat d)⟩) C1 S1 rfl RT)
          · cases e
        · cases e
      · rename_i as' hne
        split at e
        · rename_i ds qd
          split at e
          · rename_i rt qg
            cases e
            have RD := argD_ok R1 qd
            have Cc := con_data G1.F G1.H C1.fin RD
            refine ⟨hv, ⟨G1.F, G1.H, fun _ _ => none, ds.map fun d => some (.dat d)⟩, none, ds, ?_, ?_, Cc, rt, none, qg, rfl, fun G' v gΓ C' S' RT => ?_⟩
            · rfl
            · rfl
            · obtain ⟨C2, S2⟩ := after_data C1 Cc S' C' rfl rfl (fun k j => rfl)
              exact k ⟨G'.F, G'.H, G1.fp, G1.Γ⟩ v rfl C2 (S1.trans S2) (rt_ok (Gc := ⟨G1.F, G1.H, fun _ _ => none, ds.map fun d => some (.dat d)⟩) C1 S1 rfl RT)
          · cases e
        · cases e
    · cases e
/-- what a name stands for: a def that keeps g -/
structure HasFn (X : Cx) (x : Str) (n : Nat) (g : Sm) : Prop where
  ex : ∃ k f fd ps, FnOk X.prog X.w X.K X.mg X.base CX0 k f fd ps (spOf X.K n g) ∧ Room k X.A ∧ X.mg x = some (.ref f) ∧ PySem.W.keepIn X.K (.ref f) = true ∧ Binds X.K fd ps []
section
variable {X : Cx}
theorem pe_aCall {x : Str} {n : Nat} {g : Sm} {e : Expr} {es : List Expr} {p pos : Pos} {args : Act (List Arg)} (F : HasFn X x n g) (hg : Gl X x) (hd : (x == ("__debug__" : Str)) = false) (hs : noStars (e :: es) = true) (ha : PA X (e :: es) (tOfA X.K args)) :
    PE X (.Call (.Name x p) (e :: es) [] pos) (tOf X.K (aCall n g args)) := by
  obtain ⟨k, f, fd, ps, F, hr, hm, hk, hb⟩ := F.ex
  have hs : (noStar e && noStars es) = true := hs
  rw [Bool.and_eq_true] at hs
  refine pe_imp (pe_call F hr hg hm hk hb .nil pass0 ha hd (starEach_of hs.1 _ _) (backTo_none hs.2)) fun σ H Q h => ?_
  obtain ⟨G, rfl, C, as, Γ1, e1, kk⟩ := t_call (E := E0) h
  exact ⟨G, rfl, C, as, Γ1, e1, fun G' vs g' C' S' R' => by
    have := kk G' vs g' C' S' R'
    show spOf X.K n g (vs ++ []) G'.H Q E0
    rw [List.append_nil]; exact this⟩
theorem pe_aCall0 {x : Str} {g : Sm} {p pos : Pos} (F : HasFn X x 0 g) (hg : Gl X x) (hd : (x == ("__debug__" : Str)) = false) : PE X (.Call (.Name x p) [] [] pos) (tOf X.K (aCall 0 g aNil)) := by
  obtain ⟨k, f, fd, ps, F, hr, hm, hk, hb⟩ := F.ex
  refine pe_imp (pe_call0 F hr hg hm hk hb .nil pass0 hd) fun σ H Q h => ?_
  obtain ⟨G, rfl, C, as, Γ1, e1, kk⟩ := t_call (E := E0) h
  cases e1
  exact kk G [] rfl C (.refl G) rfl
end
end Z

set_option Elab.async false
set_option linter.all false
set_option maxRecDepth 100000
set_option maxHeartbeats 4000000
/-! Z8: what is walked, targets, comprehensions -/
namespace Z
open PySem L2 PyProof.Rows

/-- the iterator J gives the things ds, whatever happens meanwhile -/
structure JOk (K : PySem.W.Frag) (G : Gh) (J : It) (ds : List D) : Prop where
  go : ∀ G1 σ, Con K G1 σ → Ste G G1 → ∀ (i : Nat) d, ds[i]? = some d → J.go i G1.H ∧ ∀ x H', J.yld i G1.H x H' → H' = G1.H ∧ Rep K G1.F G1.H d x
  stop : ∀ G1 σ, Con K G1 σ → Ste G G1 → ∀ i, ds.length ≤ i → J.stop i G1.H
def iOf (K : PySem.W.Frag) (f : Act (List D)) : TI := fun σ H R => ∃ G : Gh, G.H = H ∧ Con K G σ ∧ ∃ ds Γ', f G.Γ = some (ds, Γ') ∧ ∀ G' J, G'.Γ = Γ' → Con K G' σ → Ste G G' → JOk K G' J ds → R J G'.H
def signs (z : Str) : List D := z.cps.toList.map fun c => .str ⟨#[c]⟩
def itemsD : D → Option (List D)
  | .lst ds => some ds
  | .tup ds => some ds
  | .scr ns => some (ns.map D.int)
  | .str z => some (signs z)
  | _ => none
section
variable {K : PySem.W.Frag} {G : Gh} {σ : L2.St}
theorem jok_list (C : Con K G σ) {a : Addr} {ds : List D} (h : Rep K G.F G.H (.lst ds) (.ref a)) : JOk K G (Itl K a) ds where
  go := fun G1 σ1 C1 S i d e => by
    obtain ⟨a', vs, e1, f, q, r⟩ := Rep.step C S _ _ h
    cases e1
    obtain ⟨v, h1, h2⟩ := r.get e
    exact ⟨⟨vs, v, SqL.of q, h1⟩, fun x H' y => ⟨y.1, by have := y.2 vs (SqL.of q); rw [h1] at this; cases this; exact h2⟩⟩
  stop := fun G1 σ1 C1 S i hi => by
    obtain ⟨a', vs, e1, f, q, r⟩ := Rep.step C S _ _ h
    cases e1
    exact ⟨vs, SqL.of q, by rw [r.length]; exact hi⟩
theorem jok_tup (C : Con K G σ) {a : Addr} {ds : List D} (h : Rep K G.F G.H (.tup ds) (.ref a)) : JOk K G (Itt K a) ds where
  go := fun G1 σ1 C1 S i d e => by
    obtain ⟨a', vs, e1, q, r⟩ := Rep.step C S _ _ h
    cases e1
    obtain ⟨v, h1, h2⟩ := r.get e
    exact ⟨⟨vs, v, q, h1⟩, fun x H' y => ⟨y.1, by have := y.2 vs q; rw [h1] at this; cases this; exact h2⟩⟩
  stop := fun G1 σ1 C1 S i hi => by
    obtain ⟨a', vs, e1, q, r⟩ := Rep.step C S _ _ h
    cases e1
    exact ⟨vs, q, by rw [r.length]; exact hi⟩
theorem jok_scr (C : Con K G σ) {a : Addr} {ns : List Int} (h : Rep K G.F G.H (.scr ns) (.ref a)) : JOk K G (Itl K a) (ns.map D.int) where
  go := fun G1 σ1 C1 S i d e => by
    obtain ⟨a', e1, q⟩ := scr_seq (F := G1.F) (Rep.step C S _ _ h)
    cases e1
    rw [List.getElem?_map] at e
    cases z : ns[i]? with
    | none => rw [z] at e; cases e
    | some n =>
      rw [z] at e
      cases (Option.some.inj e)
      have h1 : (ns.map V.int)[i]? = some (.int n) := by rw [List.getElem?_map, z]; rfl
      exact ⟨⟨_, _, q, h1⟩, fun x H' y => ⟨y.1, by have := y.2 _ q; rw [h1] at this; cases this; exact rfl⟩⟩
  stop := fun G1 σ1 C1 S i hi => by
    obtain ⟨a', e1, q⟩ := scr_seq (F := G1.F) (Rep.step C S _ _ h)
    cases e1
    exact ⟨_, q, by simpa using hi⟩
theorem jok_str {z : Str} : JOk K G (Its z) (signs z) where
  go := fun G1 σ1 C1 S i d e => by
    unfold signs at e
    rw [List.getElem?_map] at e
    cases q : z.cps.toList[i]? with
    | none => rw [q] at e; cases e
    | some c =>
      rw [q] at e
      cases (Option.some.inj e)
      have q' : z.cps[i]? = some c := by rw [← Array.getElem?_toList]; exact q
      obtain ⟨hl, _⟩ := Array.getElem?_eq_some_iff.mp q'
      refine ⟨hl, fun x H' y => ⟨y.1, ?_⟩⟩
      obtain ⟨c', h1, h2⟩ := y.2
      rw [q'] at h1
      cases h1
      exact h2
  stop := fun G1 σ1 C1 S i hi => by
    unfold signs at hi
    rw [List.length_map, Array.length_toList] at hi
    exact hi
theorem jok_range {lo : Int} {n : Nat} : JOk K G (Itr lo n) ((List.range n).map fun k => .int (lo + (k : Nat))) where
  go := fun G1 σ1 C1 S i d e => by
    rw [List.getElem?_map] at e
    cases q : (List.range n)[i]? with
    | none => rw [q] at e; cases e
    | some c =>
      rw [q] at e
      obtain ⟨hl, hc⟩ := List.getElem?_eq_some_iff.mp q
      rw [List.getElem_range] at hc
      subst hc
      rw [List.length_range] at hl
      cases (Option.some.inj e)
      exact ⟨hl, fun x H' y => ⟨y.1, y.2⟩⟩
  stop := fun G1 σ1 C1 S i hi => by
    have hi : n ≤ i := by simpa using hi
    exact hi
theorem jok_rangeC {lo c : Int} {n : Nat} : JOk K G (Itc lo c n) ((List.range n).map fun k => .int (lo + (k : Nat) * c)) where
  go := fun G1 σ1 C1 S i d e => by
    rw [List.getElem?_map] at e
    cases q : (List.range n)[i]? with
    | none => rw [q] at e; cases e
    | some k =>
      rw [q] at e
      obtain ⟨hl, hc⟩ := List.getElem?_eq_some_iff.mp q
      rw [List.getElem_range] at hc
      subst hc
      rw [List.length_range] at hl
      cases (Option.some.inj e)
      exact ⟨hl, fun x H' y => ⟨y.1, y.2⟩⟩
  stop := fun G1 σ1 C1 S i hi => by
    have hi : n ≤ i := by simpa using hi
    exact hi
end
theorem pi_imp {X : Cx} {tg e : Expr} {t t' : TI} (h : PI X tg e t) (i : ∀ σ H Q, t' σ H Q → t σ H Q) : PI X tg e t' := ⟨fun pins s σ H Q I q => h.run pins s σ H Q I (i σ H Q q)⟩
theorem pi_or {X : Cx} {tg e : Expr} {t t' : TI} (h : PI X tg e t) (h' : PI X tg e t') : PI X tg e (fun σ H Q => t σ H Q ∨ t' σ H Q) := ⟨fun pins s σ H Q I q => q.elim (h.run pins s σ H Q I) (h'.run pins s σ H Q I)⟩
/-- a thing is walked: it is frozen for it -/
def aSeq (f : Act R) : Act (List D) := fun Γ => match f Γ with
  | none => none
  | some (r, Γ1) => match mv Γ1 r with
    | none => none
    | some (d, Γ2) => match itemsD d with
      | some ds => some (ds, Γ2)
      | none => none
/-- range(..) -/
def rangeP : List D → Option (List D)
  | [.int j] => if -(2 ^ 62) ≤ j ∧ j < 2 ^ 62 then some ((List.range j.toNat).map fun k => .int (0 + (k : Nat))) else none
  | [.int i, .int j] => if -(2 ^ 62) ≤ i ∧ i < 2 ^ 62 ∧ -(2 ^ 62) ≤ j ∧ j < 2 ^ 62 then some ((List.range (j - i).toNat).map fun k => .int (i + (k : Nat))) else none
  | [.int i, .int j, .int c] => if c ≠ 0 ∧ c.natAbs < 1073741824 ∧ Builtin.Range.small i j c = true ∧ 0 ≤ Builtin.Range.rangeSize i j c then some ((List.range (Builtin.Range.rangeSize i j c).toNat).map fun k => .int (i + (k : Nat) * c)) else none
  | _ => none
def aRng (n : Nat) (g : Act (List R)) : Act (List D) := fun Γ => match g Γ with
  | none => none
  | some (rs, Γ1) => match drs Γ1 rs with
    | none => none
    | some ds => if ds.length = n then (match rangeP ds with
      | some es => some (es, Γ1)
      | none => none) else none
section
variable {X : Cx} {tg : Expr}
theorem pi_aSeq {e : Expr} {f : Act R} (h : PE X e (tOf X.K f)) : PI X tg e (iOf X.K (aSeq f)) := by
  refine pi_imp (pi_or (pi_list h) (pi_or (pi_tup h) (pi_str h))) fun σ H Q h => ?_
  obtain ⟨G, rfl, C, ds, Γ', e, k⟩ := h
  unfold aSeq at e
  split at e
  · cases e
  · rename_i r Γ1 e1
    split at e
    · cases e
    · rename_i d Γ2 e2
      split at e
      · rename_i ds' q
        cases e
        cases d with
        | lst ds' =>
          cases q
          refine .inl ⟨G, rfl, C, r, Γ1, e1, fun G1 v g1 C1 S1 R1 => ?_⟩
          subst g1
          obtain ⟨G2, g2, hh, _, C2, S2, R2⟩ := mv_ok C1 S1 R1 e2
          obtain ⟨a, vs, rfl, f, q, r'⟩ := id R2
          rw [← hh]
          exact ⟨a, rfl, ⟨vs, SqL.of q⟩, k G2 _ g2 C2 S2 (jok_list C2 R2)⟩
        | tup ds' =>
          cases q
          refine .inr (.inl ⟨G, rfl, C, r, Γ1, e1, fun G1 v g1 C1 S1 R1 => ?_⟩)
          subst g1
          obtain ⟨G2, g2, hh, _, C2, S2, R2⟩ := mv_ok C1 S1 R1 e2
          obtain ⟨a, vs, rfl, q, r'⟩ := id R2
          rw [← hh]
          exact ⟨a, rfl, ⟨vs, q⟩, k G2 _ g2 C2 S2 (jok_tup C2 R2)⟩
        | scr ns =>
          cases q
          refine .inl ⟨G, rfl, C, r, Γ1, e1, fun G1 v g1 C1 S1 R1 => ?_⟩
          subst g1
          obtain ⟨G2, g2, hh, _, C2, S2, R2⟩ := mv_ok C1 S1 R1 e2
          obtain ⟨a, rfl, q⟩ := scr_seq (F := G2.F) R2
          rw [← hh]
          exact ⟨a, rfl, ⟨_, q⟩, k G2 _ g2 C2 S2 (jok_scr C2 R2)⟩
        | str z =>
          cases q
          refine .inr (.inr ⟨G, rfl, C, r, Γ1, e1, fun G1 v g1 C1 S1 R1 => ?_⟩)
          subst g1
          obtain ⟨G2, g2, hh, _, C2, S2, R2⟩ := mv_ok C1 S1 R1 e2
          rw [← hh]
          exact ⟨z, R2, k G2 _ g2 C2 S2 jok_str⟩
        | non => cases q
        | bl b => cases q
        | int b => cases q
      · cases e
def rRngA : List V → Hp → (It → Hp → Prop) → Prop := fun vs H R => (∃ j : Int, vs = [.int j] ∧ -(2 ^ 62) ≤ j ∧ j < 2 ^ 62 ∧ R (Itr 0 j.toNat) H) ∨ (∃ i j : Int, vs = [.int i, .int j] ∧ (-(2 ^ 62) ≤ i ∧ i < 2 ^ 62 ∧ -(2 ^ 62) ≤ j ∧ j < 2 ^ 62) ∧ R (Itr i (j - i).toNat) H) ∨ (∃ (i j c : Int) (n : Nat), vs = [.int i, .int j, .int c] ∧ RgC i j c n ∧ R (Itc i c n) H)
theorem rng_ok {K : PySem.W.Frag} {G : Gh} {vs : List V} {ds es : List D} {R : It → Hp → Prop} (h : Snaps K G.F G.H ds vs) (e : rangeP ds = some es) (k : ∀ J, JOk K G J es → R J G.H) : rRngA vs G.H R := by
  unfold rangeP at e
  split at e
  · split at e
    · rename_i hz
      cases e
      obtain ⟨v, rfl, h1⟩ := snaps1 h
      cases (show v = _ from h1)
      exact .inl ⟨_, rfl, hz.1, hz.2, k _ jok_range⟩
    · cases e
  · split at e
    · rename_i hz
      cases e
      obtain ⟨v, w, rfl, h1, h2⟩ := snaps2 h
      cases (show v = _ from h1)
      cases (show w = _ from h2)
      exact .inr (.inl ⟨_, _, rfl, hz, k _ jok_range⟩)
    · cases e
  · split at e
    · rename_i hz
      cases e
      obtain ⟨v, w, rfl, h1, h2⟩ := h
      obtain ⟨w, u, rfl, h2, h3⟩ := snaps2 h2
      cases (show v = _ from h1)
      cases (show w = _ from h2)
      cases (show u = _ from h3)
      obtain ⟨z1, z2, z3, z4⟩ := hz
      exact .inr (.inr ⟨_, _, _, _, rfl, ⟨z1, z2, z3, (Int.toNat_of_nonneg z4).symm⟩, k _ jok_rangeC⟩)
    · cases e
  · cases e
theorem snaps_len {K : PySem.W.Frag} {F : Addr → Prop} {H : Hp} : ∀ {ds : List D} {vs : List V}, Snaps K F H ds vs → vs.length = ds.length
  | [], _, h => by cases h; rfl
  | d :: ds, _, h => by
    obtain ⟨v, w, rfl, _, h2⟩ := h
    exact congrArg (· + 1) (snaps_len h2)
theorem i_rng {K : PySem.W.Frag} {n : Nat} {g : Act (List R)} {σ : L2.St} {H : Hp} {Q : It → Hp → Prop} (h : iOf K (aRng n g) σ H Q) : tOfR K g σ H fun vs H1 => vs.length = n ∧ rRngA vs H1 Q := by
  obtain ⟨G, rfl, C, ds, Γ', e, k⟩ := h
  unfold aRng at e
  split at e
  · cases e
  · rename_i rs Γ1 e1
    split at e
    · cases e
    · rename_i ds' q
      split at e
      · rename_i hn
        split at e
        · rename_i es q2
          cases e
          refine ⟨G, rfl, C, rs, _, e1, fun G1 vs g1 C1 S1 R1 => ?_⟩
          subst g1
          have sn := drs_ok C1 R1 q
          exact ⟨(snaps_len sn).trans hn, rng_ok sn q2 fun J j => k G1 J rfl C1 S1 j⟩
        · cases e
      · cases e
theorem ta_mono {K : PySem.W.Frag} {g : Act (List R)} {σ : L2.St} {H : Hp} {Q Q' : List V → Hp → Prop} (h : tOfR K g σ H Q) (i : ∀ vs H, Q vs H → Q' vs H) : tOfR K g σ H Q' := by
  obtain ⟨G, e, C, rs, Γ', e1, k⟩ := h
  exact ⟨G, e, C, rs, Γ', e1, fun G' vs a b c d => i _ _ (k G' vs a b c d)⟩
theorem pi_aRng1 {a : Expr} {p pos : Pos} {g : Act (List R)} (hg : Gl X "range") (hm : X.mg "range" = none) (na : noStar a = true) (ha : PA X [a] (tOfR X.K g)) : PI X tg (.Call (.Name "range" p) [a] [] pos) (iOf X.K (aRng 1 g)) := by
  refine pi_imp (pi_range1 hg hm ha (starEach_of na _ _)) fun σ H Q h => ta_mono (i_rng h) fun vs H1 ⟨hl, q⟩ => ?_
  rcases q with q | ⟨i, j, rfl, _⟩ | ⟨i, j, c, n, rfl, _⟩
  · exact q
  · cases hl
  · cases hl
theorem pi_aRng2 {a b : Expr} {p pos : Pos} {g : Act (List R)} (hg : Gl X "range") (hm : X.mg "range" = none) (na : noStar a = true) (nb : noStar b = true) (ha : PA X [a, b] (tOfR X.K g)) : PI X tg (.Call (.Name "range" p) [a, b] [] pos) (iOf X.K (aRng 2 g)) := by
  refine pi_imp (pi_range2 hg hm ha (by rw [starEach_of na, starEach_of nb]; rfl) (starEach_of nb _ _)) fun σ H Q h => ta_mono (i_rng h) fun vs H1 ⟨hl, q⟩ => ?_
  rcases q with ⟨j, rfl, _⟩ | q | ⟨i, j, c, n, rfl, _⟩
  · cases hl
  · exact q
  · cases hl
theorem pi_aRng3 {a b c : Expr} {p pos : Pos} {g : Act (List R)} (hg : Gl X "range") (hm : X.mg "range" = none) (na : noStars [a, b, c] = true) (ha : PA X [a, b, c] (tOfR X.K g)) : PI X tg (.Call (.Name "range" p) [a, b, c] [] pos) (iOf X.K (aRng 3 g)) := by
  have na : (noStar a && noStars [b, c]) = true := na
  rw [Bool.and_eq_true] at na
  refine pi_imp (pi_range3 hg hm ha (starEach_of na.1 _ _) (backTo_none na.2)) fun σ H Q h => ta_mono (i_rng h) fun vs H1 ⟨hl, q⟩ => ?_
  rcases q with ⟨j, rfl, _⟩ | ⟨i, j, rfl, _⟩ | q
  · cases hl
  · cases hl
  · exact q
end

/-! ### targets -/
def setD (i : Nat) (d : D) (Γ : Ga) : Option Ga := if isDeal Γ[i]? = true then none else some (Γ.set i (some (.dat d)))
/-- only these slots differ -/
def Diff (sl : List Nat) (σ σ' : L2.St) : Prop := σ'.length = σ.length ∧ ∀ k, k ∉ sl → σ'[k]? = σ[k]?
def gOf (K : PySem.W.Frag) (sl : List Nat) (f : D → Ga → Option Ga) : TG := fun v σ H Q => ∃ (G : Gh) (d : D), G.H = H ∧ Con K G σ ∧ Rep K G.F G.H d v ∧ ∃ Γ', f d G.Γ = some Γ' ∧ ∀ G' σ', G'.Γ = Γ' → Con K G' σ' → Ste G G' → G'.H = H → Diff sl σ σ' → Q σ' G'.H
def Gh.put (G : Gh) (i : Nat) (d : D) : Gh := { G with fp := fun k => if k = i then fun _ => none else G.fp k, Γ := G.Γ.set i (some (.dat d)) }
section
variable {K : PySem.W.Frag} {G : Gh} {σ : L2.St} {i : Nat} {d : D} {v : V}
theorem Con.put (C : Con K G σ) (r : Rep K G.F G.H d v) : Con K (G.put i d) (σ.set i (some v)) := by
  have fi : (G.put i d).fp i = fun _ => none := by show (if i = i then _ else _) = _; rw [if_pos rfl]
  have fk : ∀ k, k ≠ i → (G.put i d).fp k = G.fp k := fun k hk => by show (if k = i then _ else _) = _; rw [if_neg hk]
  refine C.slot i (some (.dat d)) rfl (by rw [List.length_set]) (fun k hk => List.getElem?_set_ne (Ne.symm hk)) fk (fun o e hl => ?_) (fun _ j => by rw [fi]) (fun j j' a e => by rw [fi] at e; cases e) (fun j a e => by rw [fi] at e; cases e) (fun j a e => by rw [fi] at e; cases e) (fun k j a _ e => C.nof k j a e) C.fin (fun k o v _ h => h)
  cases e
  refine ⟨v, List.getElem?_set_self (by rw [← C.len]; exact hl), ?_⟩
  rw [fi]
  exact ⟨r, fun _ => rfl⟩
theorem Ste.put (G : Gh) (h : isDeal G.Γ[i]? = false) : Ste G (G.put i d) where
  sub := fun _ h => h
  keep := fun _ _ h _ => h
  dom := fun _ h => h
  fps := fun k j a e => by
    have e : (if k = i then fun _ => none else G.fp k) j = some a := e
    by_cases hk : k = i
    · rw [if_pos hk] at e; cases e
    · rw [if_neg hk] at e
      exact .inl ⟨k, j, e⟩
  fnew := fun _ h => .inl h
  deal := fun k hd => by
    have hk : k ≠ i := fun z => by subst z; rw [h] at hd; cases hd
    refine ⟨?_, ?_⟩
    · show isDeal (G.Γ.set i _)[k]? = true
      rw [isDeal_set hk]; exact hd
    · show (if k = i then _ else _) = _
      rw [if_neg hk]
  len := by show (G.Γ.set i _).length = _; rw [List.length_set]
end
theorem pg_imp {X : Cx} {e : Expr} {t t' : TG} (h : PG X e t) (i : ∀ v σ H Q, t' v σ H Q → t v σ H Q) : PG X e t' := ⟨fun pins s σ H v u Q I r q => h.run pins s σ H v u Q I r (i v σ H Q q)⟩
section
variable {X : Cx}
theorem pg_aName {i : Nat} {x : Str} {pos : Pos} (hN : X.N.Nodup) (hi : X.N[i]? = some x) (hx : Loc X.env.scope x) (hf : X.fn x = true ∨ X.env.scope.names.lookup x = some .local) : PG X (.Name x pos) (gOf X.K [i] (setD i)) :=
  pg_imp (pg_name hN hi hx hf) fun v σ H Q ⟨G, d, gh, C, r, Γ', e, k⟩ => by
    subst gh
    unfold setD at e
    split at e
    · cases e
    · rename_i hd
      cases e
      exact k (G.put i d) _ rfl (C.put r) (Ste.put G (by simpa using hd)) rfl ⟨by rw [List.length_set], fun k hk => List.getElem?_set_ne (fun z => hk (by rw [z]; exact List.mem_singleton_self _))⟩
/-- several targets, one behind another -/
def setAll : List (D → Ga → Option Ga) → List D → Ga → Option Ga
  | [], [], Γ => some Γ
  | f :: fs, d :: ds, Γ => match f d Γ with
    | some Γ1 => setAll fs ds Γ1
    | none => none
  | _, _, _ => none
def setT (fs : List (D → Ga → Option Ga)) : D → Ga → Option Ga
  | .tup ds, Γ => setAll fs ds Γ
  | _, _ => none
def gsOf (K : PySem.W.Frag) (sl : List Nat) (fs : List (D → Ga → Option Ga)) : TGs := fun vs σ H Q => ∃ (G : Gh) (ds : List D), G.H = H ∧ Con K G σ ∧ Reps K G.F G.H ds vs ∧ ∃ Γ', setAll fs ds G.Γ = some Γ' ∧ ∀ G' σ', G'.Γ = Γ' → Con K G' σ' → Ste G G' → G'.H = H → Diff sl σ σ' → Q σ' G'.H
theorem pgs_imp {X : Cx} {e : List Expr} {t t' : TGs} (h : PGs X e t) (i : ∀ v σ H Q, t' v σ H Q → t v σ H Q) : PGs X e t' := ⟨fun pins s σ H v u Q I r q => h.run pins s σ H v u Q I r (i v σ H Q q)⟩
theorem pgs_aNil : PGs X [] (gsOf X.K [] []) := pgs_imp pgs_nil fun vs σ H Q ⟨G, ds, gh, C, r, Γ', e, k⟩ => by
  subst gh
  cases ds with
  | nil => cases e; cases r; exact ⟨rfl, k G σ rfl C (.refl G) rfl ⟨rfl, fun _ _ => rfl⟩⟩
  | cons d ds => cases e
theorem assignEach_of {e : Expr} (h : noStar e = true) (es : List Expr) (env : Env) : assignEach (e :: es) env = (false, assign e env) :: assignEach es env := by
  cases e <;> first | rfl | cases h
theorem pgs_aCons {e : Expr} {es : List Expr} {f : D → Ga → Option Ga} {fs : List (D → Ga → Option Ga)} {sl sl' : List Nat} (h1 : PG X e (gOf X.K sl f)) (h2 : PGs X es (gsOf X.K sl' fs)) (ns : noStar e = true) : PGs X (e :: es) (gsOf X.K (sl ++ sl') (f :: fs)) :=
  pgs_imp (pgs_cons h1 h2 (by rw [assignEach_of ns]; rfl)) fun vs σ H Q ⟨G, ds, gh, C, r, Γ', e, k⟩ => by
    subst gh
    cases ds with
    | nil => cases e
    | cons d ds =>
      obtain ⟨v, w, rfl, r1, r2⟩ := r
      have e : (match f d G.Γ with
        | some Γ1 => setAll fs ds Γ1
        | none => none) = some Γ' := e
      split at e
      · rename_i Γ1 e1
        refine ⟨v, w, rfl, G, d, rfl, C, r1, Γ1, e1, fun G1 σ1 g1 C1 S1 h1 d1 => ?_⟩
        subst g1
        exact ⟨G1, ds, rfl, C1, Reps.step C S1 _ _ r2, Γ', e, fun G2 σ2 g2 C2 S2 hh2 d2 =>
          k G2 σ2 g2 C2 (S1.trans S2) (hh2.trans h1) ⟨d2.1.trans d1.1, fun i hi => (d2.2 i (fun z => hi (List.mem_append_right _ z))).trans (d1.2 i (fun z => hi (List.mem_append_left _ z)))⟩⟩
      · cases e
theorem noStars_len {env : Env} : ∀ {es : List Expr}, noStars es = true → (assignEach es env).length = es.length ∧ (assignEach es env).findIdx? (·.1) = none
  | [], _ => ⟨rfl, rfl⟩
  | e :: es, h => by
    have h : (noStar e && noStars es) = true := h
    rw [Bool.and_eq_true] at h
    obtain ⟨a, b⟩ := noStars_len (env := env) h.2
    rw [assignEach_of h.1]
    refine ⟨congrArg (· + 1) a, ?_⟩
    rw [List.findIdx?_cons]
    simp [b]
theorem setAll_len : ∀ {fs : List (D → Ga → Option Ga)} {ds : List D} {Γ Γ' : Ga}, setAll fs ds Γ = some Γ' → ds.length = fs.length
  | [], [], _, _, _ => rfl
  | f :: fs, d :: ds, Γ, Γ', e => by
    have e : (match f d Γ with
      | some Γ1 => setAll fs ds Γ1
      | none => none) = some Γ' := e
    split at e
    · exact congrArg (· + 1) (setAll_len e)
    · cases e
  | [], _ :: _, _, _, e => by cases e
  | _ :: _, [], _, _, e => by cases e
theorem pg_aTup {es : List Expr} {k : Nat} {pos : Pos} {fs : List (D → Ga → Option Ga)} {sl : List Nat} (hc : X.calm = true) (ns : noStars es = true) (hl : fs.length = es.length) (h : PGs X es (gsOf X.K sl fs)) : PG X (.Tuple es k pos) (gOf X.K sl (setT fs)) :=
  pg_imp (pg_tup hc h (noStars_len ns).1 (noStars_len ns).2) fun v σ H Q ⟨G, d, gh, C, r, Γ', e, k⟩ => by
    subst gh
    cases d with
    | tup ds =>
      obtain ⟨a, vs, rfl, q, rr⟩ := r
      have e : setAll fs ds G.Γ = some Γ' := e
      exact ⟨a, vs, rfl, q, by rw [rr.length, setAll_len e, hl], G, ds, rfl, C, rr, Γ', e, k⟩
    | _ => cases e
end
end Z

set_option Elab.async false
set_option linter.all false
set_option maxRecDepth 100000
set_option maxHeartbeats 4000000
/-! Z9: comprehensions -/
namespace Z
open PySem L2 PyProof.Rows

def plainO : Option (Option O) → Bool
  | some (some (.own _)) => false
  | some (some (.deal _ _)) => false
  | _ => true
def wipeΓ : List Nat → Ga → Ga
  | [], Γ => Γ
  | v :: vs, Γ => (wipeΓ vs Γ).set v none
def datO : Option (Option O) → Option O
  | some (some (.dat d)) => some (.dat d)
  | _ => none
def backΓ (Γ1 : Ga) : List Nat → Ga → Ga
  | [], Γ => Γ
  | v :: vs, Γ => backΓ Γ1 vs (Γ.set v (datO Γ1[v]?))
def plains (own : List Nat) (Γ : Ga) : Bool := own.all fun v => plainO Γ[v]?
def lcL (own : List Nat) (tg : D → Ga → Option Ga) (cond : Act Bool) (elt : Act R) : List D → Ga → List D → Option (List D × Ga)
  | [], Γ, acc => some (acc, Γ)
  | d :: ds, Γ, acc => match tg d Γ with
    | none => none
    | some Γa => match cond Γa with
      | none => none
      | some (false, Γb) => if plains own Γb then lcL own tg cond elt ds (wipeΓ own Γb) acc else none
      | some (true, Γb) => match elt Γb with
        | none => none
        | some (r, Γc) => match mv Γc r with
          | none => none
          | some (y, Γd) => if plains own Γd ∧ acc.length < 16777216 then lcL own tg cond elt ds (wipeΓ own Γd) (acc ++ [y]) else none
def aLc (own : List Nat) (it : Act (List D)) (tg : D → Ga → Option Ga) (cond : Act Bool) (elt : Act R) : Act R := fun Γ => match it Γ with
  | none => none
  | some (ds, Γ1) => if plains own Γ1 then (match lcL own tg cond elt ds (wipeΓ own Γ1) [] with
    | none => none
    | some (acc, Γ2) => some (.new acc, backΓ Γ1 own Γ2)) else none

section
variable {K : PySem.W.Frag} {G G1 G' : Gh} {σ : L2.St}
/-! a list that is nobody's is changed -/
section
variable {F : Addr → Prop} {H : Hp} {P : Addr} {u w : List V}
theorem SqT.loose (hP : H P = some (.lst u)) {a : Addr} {vs : List V} (h : SqT K H a vs) : SqT K (upd H P (.lst w)) a vs := by
  rcases h with (h | ⟨o, h⟩) | h
  · exact .inl (.inl (by rw [upd_ne (fun z => by subst z; rw [hP] at h; cases h)]; exact h))
  · exact .inl (.inr ⟨o, by rw [upd_ne (fun z => by subst z; rw [hP] at h; cases h)]; exact h⟩)
  · exact .inr h
mutual
theorem Rep.loose (hP : H P = some (.lst u)) (nF : ¬ F P) : ∀ (d : D) (v : V), Rep K F H d v → Rep K F (upd H P (.lst w)) d v
  | .non, v, h => h
  | .bl b, v, h => h
  | .int i, v, h => h
  | .str x, v, h => h
  | .tup ds, v, h => by
    obtain ⟨a, vs, e, q, r⟩ := h
    exact ⟨a, vs, e, SqT.loose hP q, Reps.loose hP nF ds vs r⟩
  | .lst ds, v, h => by
    obtain ⟨a, vs, e, f, q, r⟩ := h
    exact ⟨a, vs, e, f, by rw [upd_ne (fun z => nF (by rw [← z]; exact f))]; exact q, Reps.loose hP nF ds vs r⟩
  | .scr ns, v, h => by
    obtain ⟨a, e, q⟩ := h
    refine ⟨a, e, ?_⟩
    rcases q with ⟨o, q⟩ | q
    · exact .inl ⟨o, by rw [upd_ne (fun z => by subst z; rw [hP] at q; cases q)]; exact q⟩
    · exact .inr q
theorem Reps.loose (hP : H P = some (.lst u)) (nF : ¬ F P) : ∀ (ds : List D) (vs : List V), Reps K F H ds vs → Reps K F (upd H P (.lst w)) ds vs
  | [], vs, h => h
  | d :: ds, vs, h => by
    obtain ⟨v, r, e, h1, h2⟩ := h
    exact ⟨v, r, e, Rep.loose hP nF d v h1, Reps.loose hP nF ds r h2⟩
end
theorem Own.loose (hP : H P = some (.lst u)) (nF : ¬ F P) {f : Nat → Option Addr} (nf : ∀ j, f j ≠ some P) {o : O} {v : V} (h : Own K F H f o v) : Own K F (upd H P (.lst w)) f o v := by
  have ne : ∀ j a, f j = some a → a ≠ P := fun j a e z => nf j (by rw [e, z])
  cases o with
  | dat d => exact ⟨Rep.loose hP nF _ _ h.1, h.2⟩
  | own ds =>
    obtain ⟨a, vs, e, e0, e1, q, r⟩ := h
    exact ⟨a, vs, e, e0, e1, by rw [upd_ne (ne 0 a e0)]; exact q, Reps.loose hP nF _ _ r⟩
  | deal ds x =>
    obtain ⟨a, b, vs, y, e, e0, e1, e2, q, q', r, r'⟩ := h
    exact ⟨a, b, vs, y, e, e0, e1, e2, by rw [upd_ne (ne 0 a e0)]; exact q, by rw [upd_ne (ne 1 b e1)]; exact q', Reps.loose hP nF _ _ r, Rep.loose hP nF _ _ r'⟩
end
theorem Con.loose (C : Con K G σ) {P : Addr} {u w : List V} (hP : G.H P = some (.lst u)) (nF : ¬ G.F P) (nf : ∀ i j, G.fp i j ≠ some P) : Con K (G.lay P (.lst w)) σ where
  len := C.len
  get := fun i x e => by
    obtain ⟨v, e1, h⟩ := C.get i x e
    exact ⟨v, e1, Own.loose hP nF (nf i) h⟩
  non := C.non
  sep := C.sep
  nof := C.nof
  fin := fun a f z => by
    have z : upd G.H P (.lst w) a = none := z
    by_cases ha : a = P
    · subst ha; rw [upd_same] at z; cases z
    · rw [upd_ne ha] at z; exact C.fin a f z
theorem Ste.loose (S : Ste G1 G) {P : Addr} {o : HO} (hP : G1.H P = none) : Ste G1 (G.lay P o) where
  sub := S.sub
  keep := fun a u e n => by
    show upd G.H P o a = _
    rw [upd_ne (ne_of_none e hP)]
    exact S.keep a u e n
  dom := fun a e z => by
    have z : upd G.H P o a = none := z
    by_cases ha : a = P
    · subst ha; rw [upd_same] at z; cases z
    · rw [upd_ne ha] at z; exact S.dom a e z
  fps := S.fps
  fnew := S.fnew
  deal := S.deal
  len := S.len
/-- slots forgotten, in the frame too -/
def Gh.wipe (G : Gh) : List Nat → Gh
  | [] => G
  | v :: vs => (G.wipe vs).kill v
theorem wipe_Γ (G : Gh) : ∀ vs : List Nat, (G.wipe vs).Γ = wipeΓ vs G.Γ ∧ (G.wipe vs).H = G.H ∧ (G.wipe vs).F = G.F ∧ ∀ i j a, (G.wipe vs).fp i j = some a → G.fp i j = some a
  | [] => ⟨rfl, rfl, rfl, fun _ _ _ h => h⟩
  | v :: vs => by
    obtain ⟨a, b, c, d⟩ := wipe_Γ G vs
    refine ⟨?_, b, c, fun i j x e => ?_⟩
    · show ((G.wipe vs).Γ.set v none) = _
      rw [a]; rfl
    · have e : (if i = v then fun _ => none else (G.wipe vs).fp i) j = some x := e
      by_cases hi : i = v
      · rw [if_pos hi] at e; cases e
      · rw [if_neg hi] at e; exact d i j x e
theorem Con.kill2 (C : Con K G σ) (i : Nat) : Con K (G.kill i) (σ.set i none) := by
  have fi : (G.kill i).fp i = fun _ => none := by show (if i = i then _ else _) = _; rw [if_pos rfl]
  have fk : ∀ k, k ≠ i → (G.kill i).fp k = G.fp k := fun k hk => by show (if k = i then _ else _) = _; rw [if_neg hk]
  exact C.slot i none rfl (by rw [List.length_set]) (fun k hk => List.getElem?_set_ne (Ne.symm hk)) fk (fun o z => by cases z) (fun _ j => by rw [fi]) (fun j j' a e => by rw [fi] at e; cases e) (fun j a e => by rw [fi] at e; cases e) (fun j a e => by rw [fi] at e; cases e) (fun k j a _ e => C.nof k j a e) C.fin (fun k o v _ h => h)
theorem Con.wipe (C : Con K G σ) : ∀ vs : List Nat, Con K (G.wipe vs) (L2.wipe σ vs)
  | [] => C
  | v :: vs => (C.wipe vs).kill2 v
theorem plain_deal {x : Option (Option O)} (h : plainO x = true) : isDeal x = false := by
  unfold plainO at h
  split at h <;> first | cases h | skip
  rename_i h1 h2
  unfold isDeal
  split
  · rename_i ds m
    exact absurd rfl (h2 ds m)
  · rfl
theorem wipe_get (G : Gh) {k : Nat} (h : isDeal G.Γ[k]? = false) : ∀ vs : List Nat, isDeal (G.wipe vs).Γ[k]? = false
  | [] => h
  | v :: vs => by
    show isDeal ((G.wipe vs).Γ.set v none)[k]? = false
    by_cases hk : k = v
    · subst hk
      rw [List.getElem?_set]
      split
      · split <;> rfl
      · contradiction
    · rw [isDeal_set hk]; exact wipe_get G h vs
theorem Ste.wipe (G : Gh) : ∀ {vs : List Nat}, (∀ v ∈ vs, plainO G.Γ[v]? = true) → Ste G (G.wipe vs)
  | [], _ => .refl G
  | v :: vs, h => (Ste.wipe G fun x hx => h x (List.mem_cons_of_mem _ hx)).trans (Ste.kill _ v (wipe_get G (plain_deal (h v List.mem_cons_self)) vs))
theorem wipe_out' {σ : L2.St} {i : Nat} : ∀ {vs : List Nat}, i ∉ vs → (L2.wipe σ vs)[i]? = σ[i]?
  | [], _ => rfl
  | v :: vs, h => by
    show ((L2.wipe σ vs).set v none)[i]? = _
    rw [List.getElem?_set_ne (fun z => h (by rw [z]; exact List.mem_cons_self))]
    exact wipe_out' fun z => h (List.mem_cons_of_mem _ z)
theorem wipe_in {σ : L2.St} {i : Nat} : ∀ {vs : List Nat}, i ∈ vs → ∀ v, (L2.wipe σ vs)[i]? ≠ some (some v)
  | w :: vs, h, v => by
    intro e
    have e : ((L2.wipe σ vs).set w none)[i]? = some (some v) := e
    rcases get_set e with ⟨_, z, _⟩ | ⟨hk, e⟩
    · cases z
    · rcases List.mem_cons.mp h with z | z
      · exact hk z
      · exact wipe_in z v e
theorem wipe_diff {σ σ' : L2.St} {sl vs : List Nat} (h : Diff sl (L2.wipe σ vs) σ') (hs : ∀ i ∈ sl, i ∈ vs) : L2.wipe σ' vs = L2.wipe σ vs := by
  have len : (L2.wipe σ' vs).length = (L2.wipe σ vs).length := by rw [L2.wipe_length, h.1]
  refine List.ext_getElem? fun i => ?_
  by_cases hi : i ∈ vs
  · cases q : (L2.wipe σ vs)[i]? with
    | none =>
      rw [List.getElem?_eq_none_iff] at q ⊢
      rw [len]; exact q
    | some x =>
      cases x with
      | some v => exact absurd q (wipe_in hi v)
      | none =>
        have hl : i < (L2.wipe σ' vs).length := by rw [len]; exact (List.getElem?_eq_some_iff.mp q).1
        cases q' : (L2.wipe σ' vs)[i]? with
        | none => rw [List.getElem?_eq_none_iff] at q'; omega
        | some y =>
          cases y with
          | none => rfl
          | some v => exact absurd q' (wipe_in hi v)
  · rw [wipe_out' hi, h.2 i fun z => hi (hs i z)]
/-- the slots that a comprehension hid come back -/
theorem back_ok (C1 : Con K G1 σ) : ∀ {vs : List Nat} {G' : Gh}, vs.Nodup → Ste G1 G' → Con K G' (L2.wipe σ vs) →
    ∃ G2 : Gh, G2.Γ = backΓ G1.Γ vs G'.Γ ∧ G2.H = G'.H ∧ G2.F = G'.F ∧ (∀ i j a, G2.fp i j = some a → G'.fp i j = some a) ∧ Con K G2 σ ∧ Ste G1 G2
  | [], G', _, S, C => ⟨G', rfl, rfl, rfl, fun _ _ _ h => h, C, S⟩
  | v :: vs, G', nd, S, C => by
    obtain ⟨n1, n2⟩ := List.nodup_cons.mp nd
    have hdead : isDeal G'.Γ[v]? = false := by
      cases q : G'.Γ[v]? with
      | none => rfl
      | some x =>
        cases x with
        | none => rfl
        | some o =>
          obtain ⟨w, e, _⟩ := C.get v o q
          exact absurd e (wipe_in List.mem_cons_self w)
    have hlen : (L2.wipe σ vs).length = (L2.wipe σ (v :: vs)).length := by rw [L2.wipe_length, L2.wipe_length]
    let G2 : Gh := { G' with fp := fun k => if k = v then fun _ => none else G'.fp k, Γ := G'.Γ.set v (datO G1.Γ[v]?) }
    have fi : G2.fp v = fun _ => none := by show (if v = v then _ else _) = _; rw [if_pos rfl]
    have fk : ∀ k, k ≠ v → G2.fp k = G'.fp k := fun k hk => by show (if k = v then _ else _) = _; rw [if_neg hk]
    have S2 : Ste G' G2 := by
      refine ⟨fun _ h => h, fun _ _ h _ => h, fun _ h => h, fun k j a e => ?_, fun _ h => .inl h, fun k hd => ?_, by show (G'.Γ.set v _).length = _; rw [List.length_set]⟩
      · by_cases hk : k = v
        · subst hk; rw [fi] at e; cases e
        · rw [fk k hk] at e; exact .inl ⟨k, j, e⟩
      · have hk : k ≠ v := fun z => by subst z; rw [hdead] at hd; cases hd
        refine ⟨?_, fk k hk⟩
        show isDeal (G'.Γ.set v _)[k]? = true
        rw [isDeal_set hk]; exact hd
    have C2 : Con K G2 (L2.wipe σ vs) := by
      refine C.slot v (datO G1.Γ[v]?) rfl hlen (fun k hk => ?_) fk (fun o e hl => ?_) (fun _ j => by rw [fi]) (fun j j' a e => by rw [fi] at e; cases e) (fun j a e => by rw [fi] at e; cases e) (fun j a e => by rw [fi] at e; cases e) (fun k j a _ e => C.nof k j a e) C.fin (fun k o v _ h => h)
      · show _ = ((L2.wipe σ vs).set v none)[k]?
        rw [List.getElem?_set_ne (Ne.symm hk)]
      · unfold datO at e
        split at e
        · rename_i d q
          cases e
          obtain ⟨w, e1, own⟩ := C1.get v _ q
          refine ⟨w, by rw [wipe_out' n1]; exact e1, ?_⟩
          rw [fi]
          exact ⟨Rep.step C1 S _ _ own.1, fun _ => rfl⟩
        · cases e
    obtain ⟨G3, a, b, c, d, e, f⟩ := back_ok C1 n2 (S.trans S2) C2
    refine ⟨G3, a, b, c, fun i j x z => ?_, e, f⟩
    have z := d i j x z
    by_cases hi : i = v
    · subst hi; rw [fi] at z; cases z
    · rw [fk i hi] at z; exact z
end
section
variable {K : PySem.W.Frag} {own sl : List Nat} {it : Act (List D)} {tg : D → Ga → Option Ga} {cond : Act Bool} {elt : Act R} {σ : L2.St} {H : Hp} {Q : VK}
theorem t_lc (nd : own.Nodup) (hs : ∀ i ∈ sl, i ∈ own) (h : tOf K (aLc own it tg cond elt) σ H Q) : tLc (iOf K it) (gOf K sl tg) (tOfT K cond) (tOf K elt) own σ H Q := by
  obtain ⟨G, rfl, C, rr, Γ', e, k⟩ := h
  unfold aLc at e
  split at e
  · cases e
  · rename_i ds Γ1 e1
    split at e
    · rename_i hpl
      split at e
      · cases e
      · rename_i accE Γ2 e2
        cases e
        refine ⟨G, rfl, C, ds, Γ1, e1, fun G1 J g1 C1 S1 JO P hP => ?_⟩
        subst g1
        have pl : ∀ Γ : Ga, plains own Γ = true → ∀ v ∈ own, plainO Γ[v]? = true := fun Γ h v hv => List.all_eq_true.mp h v hv
        have Sw : Ste G1 (G1.wipe own) := Ste.wipe G1 (pl _ hpl)
        have Cw := C1.wipe own
        obtain ⟨wΓ, wH, wF, wfp⟩ := wipe_Γ G1 own
        have hPw : (G1.wipe own).H P = none := by rw [wH]; exact hP
        refine ⟨fun i m H => ∃ (G' : Gh) (acc : List D) (us : List V), G'.H = H ∧ Con K G' (L2.wipe σ own) ∧ Ste G1 G' ∧ H P = some (.lst us) ∧ Reps K G'.F G'.H acc us ∧ (¬ G'.F P ∧ ∀ k j, G'.fp k j ≠ some P) ∧ m = ds.length - i ∧ i ≤ ds.length ∧ lcL own tg cond elt (ds.drop i) G'.Γ acc = some (accE, Γ2),
          ⟨ds.length, (G1.wipe own).lay P (.lst []), [], [], ?_, Cw.lay hPw, Sw.trans (Ste.lay _ hPw), upd_same, rfl, Cw.fresh hPw, by simp, Nat.zero_le _, ?_⟩, ?_⟩
        · show upd (G1.wipe own).H P _ = _
          rw [wH]
        · show lcL own tg cond elt (ds.drop 0) (G1.wipe own).Γ [] = _
          rw [List.drop_zero, wΓ]; exact e2
        rintro i m H ⟨G', acc, us, rfl, C', S', hu, rr, nP, rfl, hi, el⟩
        cases hd : ds[i]? with
        | none =>
          have hi' : ds.length ≤ i := List.getElem?_eq_none_iff.mp hd
          have e0 : ds.drop i = [] := List.drop_eq_nil_of_le hi'
          rw [e0] at el
          have el : some (acc, G'.Γ) = some (accE, Γ2) := el
          cases el
          refine .inl ⟨JO.stop G' _ C' S' i hi', ?_⟩
          obtain ⟨G3, a, b, c, d, C3, S3⟩ := back_ok C1 nd S' C'
          rw [← b]
          refine k G3 (.ref P) a C3 (S1.trans S3) ⟨P, us, rfl, S1.nn hP, by rw [b]; exact hu, by rw [b, c]; exact rr, by rw [c]; exact nP.1, fun x y z => nP.2 x y (d x y P z)⟩
        | some dd =>
          obtain ⟨hl, hdd⟩ := List.getElem?_eq_some_iff.mp hd
          obtain ⟨jg, jy⟩ := JO.go G' _ C' S' i dd hd
          refine .inr ⟨jg, fun H' => ∃ (G' : Gh) (acc : List D) (us : List V), G'.H = H' ∧ Con K G' (L2.wipe σ own) ∧ Ste G1 G' ∧ H' P = some (.lst us) ∧ Reps K G'.F G'.H acc us ∧ (¬ G'.F P ∧ ∀ k j, G'.fp k j ≠ some P) ∧ lcL own tg cond elt (ds.drop (i + 1)) G'.Γ acc = some (accE, Γ2),
            fun H' ⟨G5, acc5, us5, a1, a2, a3, a4, a5, a6, a7⟩ => ⟨ds.length - (i + 1), by omega, G5, acc5, us5, a1, a2, a3, a4, a5, a6, rfl, by omega, a7⟩, fun x H' y => ?_⟩
          obtain ⟨rfl, Rx⟩ := jy x H' y
          have ed : ds.drop i = dd :: ds.drop (i + 1) := by rw [List.drop_eq_getElem_cons hl, hdd]
          rw [ed] at el
          unfold lcL at el
          split at el
          · cases el
          · rename_i Γa ea
            refine ⟨G', dd, rfl, C', Rx, Γa, ea, fun Ga1 σ2 ga Ca Sa ha df => ⟨wipe_diff df hs, ?_⟩⟩
            have wd := wipe_diff df hs
            subst ga
            have again : ∀ (G6 : Gh) (acc6 : List D) (us6 : List V), Con K G6 σ2 → Ste G1 G6 → G6.H P = some (.lst us6) → Reps K G6.F G6.H acc6 us6 → (¬ G6.F P ∧ ∀ k j, G6.fp k j ≠ some P) → plains own G6.Γ = true → lcL own tg cond elt (ds.drop (i + 1)) (wipeΓ own G6.Γ) acc6 = some (accE, Γ2) →
                ∃ (G' : Gh) (acc : List D) (us : List V), G'.H = G6.H ∧ Con K G' (L2.wipe σ own) ∧ Ste G1 G' ∧ G6.H P = some (.lst us) ∧ Reps K G'.F G'.H acc us ∧ (¬ G'.F P ∧ ∀ k j, G'.fp k j ≠ some P) ∧ lcL own tg cond elt (ds.drop (i + 1)) G'.Γ acc = some (accE, Γ2) := by
              intro G6 acc6 us6 C6 S6 h6 r6 n6 p6 l6
              obtain ⟨vΓ, vH, vF, vfp⟩ := wipe_Γ G6 own
              have Cv := C6.wipe own
              rw [wd] at Cv
              exact ⟨G6.wipe own, acc6, us6, vH, Cv, S6.trans (Ste.wipe G6 (pl _ p6)), h6, by rw [vF, vH]; exact r6, ⟨by rw [vF]; exact n6.1, fun x y z => n6.2 x y (vfp x y P z)⟩, by rw [vΓ]; exact l6⟩
            split at el
            · cases el
            · rename_i Γb eb
              split at el
              · rename_i pb
                refine ⟨Ga1, rfl, Ca, false, Γb, eb, fun G3 g3 C3 S3 => ?_⟩
                subst g3
                rw [if_neg Bool.false_ne_true]
                obtain ⟨h3, n3⟩ := (Sa.trans S3).new hu nP
                exact again G3 acc us C3 ((S'.trans Sa).trans S3) h3 (Reps.step C' (Sa.trans S3) _ _ rr) n3 pb el
              · cases el
            · rename_i Γb eb
              split at el
              · cases el
              · rename_i r Γc ec
                split at el
                · cases el
                · rename_i yy Γd em
                  split at el
                  · rename_i pb
                    refine ⟨Ga1, rfl, Ca, true, Γb, eb, fun G3 g3 C3 S3 => ?_⟩
                    subst g3
                    rw [if_pos rfl]
                    refine ⟨G3, rfl, C3, r, Γc, ec, fun G4 y g4 C4 S4 R4 => ?_⟩
                    subst g4
                    obtain ⟨G5, g5, h5, F5, C5, S5, R5⟩ := mv_ok C4 S4 R4 em
                    subst g5
                    have S05 := (Sa.trans S3).trans S5
                    obtain ⟨h6, n6⟩ := S05.new hu nP
                    have r6 := Reps.step C' S05 _ _ rr
                    refine ⟨us, by rw [← h5]; exact h6, by rw [rr.length, line_eq]; exact pb.2, ?_⟩
                    have C6 := C5.loose (w := us ++ [y]) h6 n6.1 n6.2
                    have S6 : Ste G1 (G5.lay P (.lst (us ++ [y]))) := (S'.trans S05).loose hP
                    have := again (G5.lay P (.lst (us ++ [y]))) (acc ++ [yy]) (us ++ [y]) C6 S6 upd_same (Reps.loose h6 n6.1 _ _ (r6.append (Reps.one R5))) n6 pb.1 el
                    show ∃ (G' : Gh) (acc : List D) (us_1 : List V), G'.H = upd G4.H P (.lst (us ++ [y])) ∧ _
                    rw [← h5]
                    exact this
                  · cases el
    · cases e
end
section
variable {X : Cx} {tg iter elt : Expr} {ifs : List Expr} {scope : Scope} {pos : Pos} {own : List (Str × Nat)} {sl : List Nat} {fi : Act (List D)} {ft : D → Ga → Option Ga} {fc : Act Bool} {fe : Act R}
theorem pe_aLc (hc : X.calm = true) (hN : X.N.Nodup) (hi : PI X tg iter (iOf X.K fi)) (ok : BlkOk X.N X.env.scope scope own) (nd : (own.map (·.2)).Nodup) (hs : ∀ i ∈ sl, i ∈ own.map (·.2))
    (hg : ∀ (s : Shared) (H : Hp) (C : Addr) (cl : List (Str × Addr)) (fp : List Addr), PG (X.blk s H scope (compEnvC scope cl C X.env) fp) tg (gOf X.K sl ft)) (ht : ∀ (s : Shared) (H : Hp) (C : Addr) (cl : List (Str × Addr)) (fp : List Addr), PTs (X.blk s H scope (compEnvC scope cl C X.env) fp) ifs (tOfT X.K fc))
    (he : ∀ (s : Shared) (H : Hp) (C : Addr) (cl : List (Str × Addr)) (fp : List Addr), PE (X.blk s H scope (compEnvC scope cl C X.env) fp) elt (tOf X.K fe)) (hf : ∀ x, foldedSetIterable iter X.env x = pure x) :
    PE X (.ListComp elt [⟨tg, iter, ifs, 0⟩] scope pos) (tOf X.K (aLc (own.map (·.2)) fi ft fc fe)) :=
  pe_imp (pe_lc hc hN hi ok hg ht he hf) fun _ _ _ => t_lc nd hs
def aYes : Act Bool := fun Γ => some (true, Γ)
theorem pts_aYes : PTs X [] (tOfT X.K aYes) := ⟨fun pins s σ H Q I ⟨G, g, C, b, Γ', e, k⟩ => by
  cases e
  subst g
  exact pts_nil.run pins s σ G.H Q I (k G rfl C (.refl G))⟩
end
end Z

set_option Elab.async false
set_option linter.all false
set_option maxRecDepth 100000
set_option maxHeartbeats 4000000
/-! Z10: statements -/
namespace Z
open PySem L2 PyProof.Rows

inductive Fl where
  | nx | bk | ct | rt (r : Rt)
abbrev ActS := Act Fl
def FlOk (K : PySem.W.Frag) (H0 : Hp) (G' : Gh) (σ' : L2.St) (D : Ends) : Fl → Prop
  | .nx => D.nx σ' G'.H
  | .bk => D.bk σ' G'.H
  | .ct => D.ct σ' G'.H
  | .rt r => ∀ v, RepR K H0 G' σ' r.r v → D.rt v G'.H
def tOfS (K : PySem.W.Frag) (f : ActS) : TS := fun D σ H => ∃ G : Gh, G.H = H ∧ Con K G σ ∧ ∃ fl Γ', f G.Γ = some (fl, Γ') ∧ ∀ G' σ', G'.Γ = Γ' → Con K G' σ' → Ste G G' → FlOk K G.H G' σ' D fl
theorem pss_imp {X : Cx} {e : List Stmt} {t t' : TS} (h : PSs X e t) (i : ∀ D σ H, t' D σ H → t D σ H) : PSs X e t' := ⟨fun pins s σ H D I q => h.run pins s σ H D I (i D σ H q)⟩

/-! ### blocks -/
def aNx : ActS := fun Γ => some (.nx, Γ)
def aThen (f g : ActS) : ActS := fun Γ => match f Γ with
  | none => none
  | some (.nx, Γ1) => g Γ1
  | some (fl, Γ1) => some (fl, Γ1)
def frzO (i : Nat) (Γ : Ga) : Option (Option O) → Option Ga
  | some (some (.own ds)) => some (Γ.set i (some (.dat (.lst ds))))
  | _ => none
/-- a slot's own list is frozen where it stands; slots are forgotten -/
def aFrz (i : Nat) : ActS := fun Γ => match frzO i Γ Γ[i]? with
  | some Γ1 => some (.nx, Γ1)
  | none => none
def forget : List Nat → Ga → Ga
  | [], Γ => Γ
  | v :: vs, Γ => forget vs (match isDeal Γ[v]? with | true => Γ | false => Γ.set v none)
section
variable {K : PySem.W.Frag} {G G' : Gh} {σ : L2.St}
theorem frz_ok (C : Con K G σ) {i : Nat} {Γ' : Ga} (e : frzO i G.Γ G.Γ[i]? = some Γ') : ∃ G' : Gh, G'.Γ = Γ' ∧ G'.H = G.H ∧ Con K G' σ ∧ Ste G G' := by
  unfold frzO at e
  split at e
  · rename_i ds q
    cases e
    obtain ⟨v, e1, a, vs, rfl, f0, f1, q', r⟩ := C.get i _ q
    have hd : isDeal G.Γ[i]? = false := by rw [q]; rfl
    let G2 : Gh := { F := fun b => G.F b ∨ b = a, H := G.H, fp := fun k => if k = i then fun _ => none else G.fp k, Γ := G.Γ.set i (some (.dat (.lst ds))) }
    have fi : G2.fp i = fun _ => none := by show (if i = i then _ else _) = _; rw [if_pos rfl]
    have fk : ∀ k, k ≠ i → G2.fp k = G.fp k := fun k hk => by show (if k = i then _ else _) = _; rw [if_neg hk]
    refine ⟨G2, rfl, rfl, ?_, ?_⟩
    · refine C.slot i (some (.dat (.lst ds))) rfl rfl (fun _ _ => rfl) fk (fun o e hl => ?_) (fun _ j => by rw [fi]) (fun j j' a e => by rw [fi] at e; cases e) (fun j a e => by rw [fi] at e; cases e) (fun j a e => by rw [fi] at e; cases e) (fun k j b hk e f => ?_) (fun b f => ?_) (fun k o v _ h => Own.mono (fun _ h => .inl h) h)
      · cases e
        refine ⟨.ref a, e1, ?_⟩
        rw [fi]
        exact ⟨⟨a, vs, rfl, .inr rfl, q', Reps.mono (fun _ h => .inl h) _ _ r⟩, fun _ => rfl⟩
      · rcases f with f | f
        · exact C.nof k j b e f
        · subst f; exact hk (C.sep k j i 0 b e f0).1
      · rcases f with f | f
        · exact C.fin b f
        · subst f; show G.H b ≠ none; rw [q']; simp
    · refine ⟨fun _ h => .inl h, fun _ _ h _ => h, fun _ h => h, fun k j b e => ?_, fun b f => ?_, fun k hk => ?_, by show (G.Γ.set i _).length = _; rw [List.length_set]⟩
      · by_cases hk : k = i
        · subst hk; rw [fi] at e; cases e
        · rw [fk k hk] at e; exact .inl ⟨k, j, e⟩
      · rcases f with f | f
        · exact .inl f
        · subst f; exact .inr (.inl ⟨i, 0, f0⟩)
      · have hki : k ≠ i := fun z => by subst z; rw [hd] at hk; cases hk
        refine ⟨?_, fk k hki⟩
        show isDeal (G.Γ.set i _)[k]? = true
        rw [isDeal_set hki]; exact hk
  · cases e
theorem forget_ok : ∀ (vs : List Nat) {G : Gh}, Con K G σ → ∃ G' : Gh, G'.Γ = forget vs G.Γ ∧ G'.H = G.H ∧ Con K G' σ ∧ Ste G G'
  | [], G, C => ⟨G, rfl, rfl, C, .refl G⟩
  | v :: vs, G, C => by
    cases hd : isDeal G.Γ[v]? with
    | true =>
      obtain ⟨G2, a, b, c, d⟩ := forget_ok vs C
      refine ⟨G2, ?_, b, c, d⟩
      show _ = forget vs (match isDeal G.Γ[v]? with | true => G.Γ | false => G.Γ.set v none)
      rw [hd]; exact a
    | false =>
      obtain ⟨G2, a, b, c, d⟩ := forget_ok vs (C.kill v)
      refine ⟨G2, ?_, b, c, (Ste.kill G v hd).trans d⟩
      show _ = forget vs (match isDeal G.Γ[v]? with | true => G.Γ | false => G.Γ.set v none)
      rw [hd]; exact a
theorem FlOk.base {H1 H0 : Hp} {D : Ends} (hb : ∀ a, H1 a = none → H0 a = none) : ∀ {fl : Fl}, FlOk K H0 G σ D fl → FlOk K H1 G σ D fl
  | .nx, h => h
  | .bk, h => h
  | .ct, h => h
  | .rt r, h => fun v q => h v (RepR.base hb q)
end
section
variable {X : Cx}
theorem pss_aNil : PSs X [] (tOfS X.K aNx) := pss_imp pss_nil fun D σ H ⟨G, g, C, fl, Γ', e, k⟩ => by
  cases e
  subst g
  exact k G σ rfl C (.refl G)
theorem t_then {K : PySem.W.Frag} {f g : ActS} {D : Ends} {σ : L2.St} {H : Hp} (h : tOfS K (aThen f g) D σ H) : tSeq (tOfS K f) (tOfS K g) D σ H := by
  obtain ⟨G, rfl, C, fl, Γ', e, k⟩ := h
  unfold aThen at e
  split at e
  · cases e
  · rename_i Γ1 e1
    refine ⟨G, rfl, C, .nx, Γ1, e1, fun G1 σ1 g1 C1 S1 => ?_⟩
    subst g1
    exact ⟨G1, rfl, C1, fl, Γ', e, fun G2 σ2 g2 C2 S2 => (k G2 σ2 g2 C2 (S1.trans S2)).base fun a z => S1.nn z⟩
  · rename_i fl' Γ1 hne e1
    cases e
    refine ⟨G, rfl, C, fl, _, e1, fun G1 σ1 g1 C1 S1 => ?_⟩
    have := k G1 σ1 g1 C1 S1
    cases fl with
    | nx => exact absurd rfl (hne)
    | bk => exact this
    | ct => exact this
    | rt r => exact this
theorem pss_aCons {st : Stmt} {sts : List Stmt} {f g : ActS} (h1 : PS X st (tOfS X.K f)) (h2 : PSs X sts (tOfS X.K g)) : PSs X (st :: sts) (tOfS X.K (aThen f g)) := pss_imp (pss_cons h1 h2) fun _ _ _ => t_then
theorem pss_aFrz {sts : List Stmt} {i : Nat} {g : ActS} (h : PSs X sts (tOfS X.K g)) : PSs X sts (tOfS X.K (aThen (aFrz i) g)) := pss_imp h fun D σ H ⟨G, gh, C, fl, Γ', e, k⟩ => by
  subst gh
  unfold aThen aFrz at e
  cases q : frzO i G.Γ G.Γ[i]? with
  | none => rw [q] at e; cases e
  | some Γ1 =>
    rw [q] at e
    obtain ⟨G2, a, b, C2, S2⟩ := frz_ok C q
    exact ⟨G2, b, C2, fl, Γ', by rw [a]; exact e, fun G3 σ3 g3 C3 S3 => (k G3 σ3 g3 C3 (S2.trans S3)).base fun a z => S2.nn z⟩
def aFgt (vs : List Nat) : ActS := fun Γ => some (.nx, forget vs Γ)
theorem pss_aFgt {sts : List Stmt} {vs : List Nat} {g : ActS} (h : PSs X sts (tOfS X.K g)) : PSs X sts (tOfS X.K (aThen (aFgt vs) g)) := pss_imp h fun D σ H ⟨G, gh, C, fl, Γ', e, k⟩ => by
  subst gh
  have e : g (forget vs G.Γ) = some (fl, Γ') := e
  obtain ⟨G2, a, b, C2, S2⟩ := forget_ok vs C
  exact ⟨G2, b, C2, fl, Γ', by rw [a]; exact e, fun G3 σ3 g3 C3 S3 => (k G3 σ3 g3 C3 (S2.trans S3)).base fun a z => S2.nn z⟩

/-! ### simple statements -/
def aDrop (f : Act R) : ActS := fun Γ => match f Γ with
  | none => none
  | some (_, Γ1) => some (.nx, Γ1)
theorem noSwap {e : Expr} (h : (match e with | .ListComp .. => false | .SetComp .. => false | .DictComp .. => false | _ => true) = true) (t : Option Expr) (l : Nat) (env : Env) : swapsWith e t l env = pure false := by
  cases e <;> first | rfl | cases h
def noComp : Expr → Bool
  | .ListComp .. => false
  | .SetComp .. => false
  | .DictComp .. => false
  | _ => true
theorem noSwap' {e : Expr} (h : noComp e = true) (t : Option Expr) (l : Nat) (env : Env) : swapsWith e t l env = pure false := by
  cases e <;> first | rfl | cases h
theorem ps_aDrop {e : Expr} {pos : Pos} {f : Act R} (he : PE X e (tOf X.K f)) (hs : noComp e = true) : PS X (.Expr e pos) (tOfS X.K (aDrop f)) :=
  ps_imp (ps_expr he (noSwap' hs _ _ _)) fun D σ H ⟨G, gh, C, fl, Γ', e, k⟩ => by
    subst gh
    unfold aDrop at e
    split at e
    · cases e
    · rename_i r Γ1 e1
      cases e
      exact ⟨G, rfl, C, r, _, e1, fun G1 v g1 C1 S1 R1 => k G1 σ g1 C1 S1⟩
def aPure (fl : Fl) : ActS := fun Γ => some (fl, Γ)
theorem ps_aPass {pos : Pos} : PS X (.Pass pos) (tOfS X.K (aPure .nx)) := ps_imp ps_pass fun D σ H ⟨G, gh, C, fl, Γ', e, k⟩ => by cases e; subst gh; exact k G σ rfl C (.refl G)
theorem ps_aBreak {pos : Pos} : PS X (.Break pos) (tOfS X.K (aPure .bk)) := ps_imp ps_break fun D σ H ⟨G, gh, C, fl, Γ', e, k⟩ => by cases e; subst gh; exact k G σ rfl C (.refl G)
theorem ps_aCont {pos : Pos} : PS X (.Continue pos) (tOfS X.K (aPure .ct)) := ps_imp ps_continue fun D σ H ⟨G, gh, C, fl, Γ', e, k⟩ => by cases e; subst gh; exact k G σ rfl C (.refl G)
theorem ps_aRetN {pos : Pos} : PS X (.Return none pos) (tOfS X.K (aPure (.rt (.dat .non)))) := ps_imp ps_retN fun D σ H ⟨G, gh, C, fl, Γ', e, k⟩ => by cases e; subst gh; exact k G σ rfl C (.refl G) .non rfl
def retR (Γ : Ga) : R → Option (Rt × Ga)
  | .newD ds m => some (.deal ds m, Γ)
  | r => match mv Γ r with
    | some (d, Γ') => some (.dat d, Γ')
    | none => none
def aRet (f : Act R) : ActS := fun Γ => match f Γ with
  | none => none
  | some (r, Γ1) => match retR Γ1 r with
    | none => none
    | some (rt, Γ2) => some (.rt rt, Γ2)
theorem retR_ok {K : PySem.W.Frag} {G0 G : Gh} {σ : L2.St} (C : Con K G σ) (S : Ste G0 G) {r : R} {v : V} {rt : Rt} {Γ' : Ga} (h : RepR K G0.H G σ r v) (e : retR G.Γ r = some (rt, Γ')) : ∃ G' : Gh, G'.Γ = Γ' ∧ G'.H = G.H ∧ Con K G' σ ∧ Ste G0 G' ∧ RepR K G0.H G' σ rt.r v := by
  have plain : (match mv G.Γ r with
      | some (d, Γ') => some (Rt.dat d, Γ')
      | none => none) = some (rt, Γ') → ∃ G' : Gh, G'.Γ = Γ' ∧ G'.H = G.H ∧ Con K G' σ ∧ Ste G0 G' ∧ RepR K G0.H G' σ rt.r v := by
    intro q
    split at q
    · rename_i d Γ1 q1
      cases q
      obtain ⟨G', g, hh, _, C', S', R'⟩ := mv_ok C S h q1
      exact ⟨G', g, hh, C', S', R'⟩
    · cases q
  cases r with
  | newD ds m => cases e; exact ⟨G, rfl, rfl, C, S, h⟩
  | val d => exact plain e
  | new ds => exact plain e
  | «at» i => exact plain e
  | at1 i => exact plain e
theorem ps_aRet {e : Expr} {pos : Pos} {f : Act R} (he : PE X e (tOf X.K f)) : PS X (.Return (some e) pos) (tOfS X.K (aRet f)) :=
  ps_imp (ps_ret he) fun D σ H ⟨G, gh, C, fl, Γ', e, k⟩ => by
    subst gh
    unfold aRet at e
    split at e
    · cases e
    · rename_i r Γ1 e1
      split at e
      · cases e
      · rename_i rt Γ2 e2
        cases e
        refine ⟨G, rfl, C, r, Γ1, e1, fun G1 v g1 C1 S1 R1 => ?_⟩
        subst g1
        obtain ⟨G2, g2, h2, C2, S2, R2⟩ := retR_ok C1 S1 R1 e2
        rw [← h2]
        exact k G2 σ g2 C2 S2 v R2
def aIf (c : Act Bool) (f g : ActS) : ActS := fun Γ => match c Γ with
  | none => none
  | some (true, Γ1) => f Γ1
  | some (false, Γ1) => g Γ1
theorem ps_aIf {c : Expr} {a b : List Stmt} {pos : Pos} {fc : Act Bool} {f g : ActS} (hc : PT X c (tOfT X.K fc)) (ha : PSs X a (tOfS X.K f)) (hb : PSs X b (tOfS X.K g)) : PS X (.If c a b pos) (tOfS X.K (aIf fc f g)) :=
  ps_imp (ps_if hc ha hb) fun D σ H ⟨G, gh, C, fl, Γ', e, k⟩ => by
    subst gh
    unfold aIf at e
    split at e
    · cases e
    · rename_i Γ1 e1
      refine ⟨G, rfl, C, true, Γ1, e1, fun G1 g1 C1 S1 => iteT ?_⟩
      subst g1
      exact ⟨G1, rfl, C1, fl, Γ', e, fun G2 σ2 g2 C2 S2 => (k G2 σ2 g2 C2 (S1.trans S2)).base fun a z => S1.nn z⟩
    · rename_i Γ1 e1
      refine ⟨G, rfl, C, false, Γ1, e1, fun G1 g1 C1 S1 => iteF ?_⟩
      subst g1
      exact ⟨G1, rfl, C1, fl, Γ', e, fun G2 σ2 g2 C2 S2 => (k G2 σ2 g2 C2 (S1.trans S2)).base fun a z => S1.nn z⟩
def aIte (c : Act Bool) (f g : Act R) : Act R := fun Γ => match c Γ with
  | none => none
  | some (true, Γ1) => f Γ1
  | some (false, Γ1) => g Γ1
theorem pe_aIte {c a b : Expr} {pos : Pos} {fc : Act Bool} {f g : Act R} (hc : PT X c (tOfT X.K fc)) (ha : PE X a (tOf X.K f)) (hb : PE X b (tOf X.K g)) : PE X (.IfExp c a b pos) (tOf X.K (aIte fc f g)) :=
  pe_imp (pe_ifExp hc ha hb) fun σ H Q ⟨G, gh, C, r, Γ', e, k⟩ => by
    subst gh
    unfold aIte at e
    split at e
    · cases e
    · rename_i Γ1 e1
      refine ⟨G, rfl, C, true, Γ1, e1, fun G1 g1 C1 S1 => iteT ?_⟩
      subst g1
      exact ⟨G1, rfl, C1, r, Γ', e, fun G2 v g2 C2 S2 R2 => k G2 v g2 C2 (S1.trans S2) (RepR.base (fun a z => S1.nn z) R2)⟩
    · rename_i Γ1 e1
      refine ⟨G, rfl, C, false, Γ1, e1, fun G1 g1 C1 S1 => iteF ?_⟩
      subst g1
      exact ⟨G1, rfl, C1, r, Γ', e, fun G2 v g2 C2 S2 R2 => k G2 v g2 C2 (S1.trans S2) (RepR.base (fun a z => S1.nn z) R2)⟩
end

/-! ### loops -/
def forL (ws : List Nat) (tg : D → Ga → Option Ga) (b : ActS) : List D → ActS
  | [], Γ => some (.nx, Γ)
  | d :: ds, Γ => match tg d Γ with
    | none => none
    | some Γ1 => match b Γ1 with
      | none => none
      | some (.nx, Γ2) => forL ws tg b ds (forget ws Γ2)
      | some (.ct, Γ2) => forL ws tg b ds (forget ws Γ2)
      | some (.bk, Γ2) => some (.nx, Γ2)
      | some (.rt r, Γ2) => some (.rt r, Γ2)
def aFor (ws : List Nat) (it : Act (List D)) (tg : D → Ga → Option Ga) (b : ActS) : ActS := fun Γ => match it Γ with
  | none => none
  | some (ds, Γ1) => forL ws tg b ds Γ1
def whN (ws : List Nat) (c : Act Bool) (b : ActS) : Nat → ActS
  | 0, _ => none
  | n + 1, Γ => match c Γ with
    | none => none
    | some (false, Γ1) => some (.nx, Γ1)
    | some (true, Γ1) => match b Γ1 with
      | none => none
      | some (.nx, Γ2) => whN ws c b n (forget ws Γ2)
      | some (.ct, Γ2) => whN ws c b n (forget ws Γ2)
      | some (.bk, Γ2) => some (.nx, Γ2)
      | some (.rt r, Γ2) => some (.rt r, Γ2)
theorem whN_mono {ws : List Nat} {c : Act Bool} {b : ActS} : ∀ {n m : Nat} {Γ : Ga} {x : Fl × Ga}, n ≤ m → whN ws c b n Γ = some x → whN ws c b m Γ = some x
  | 0, _, _, _, _, e => by cases e
  | n + 1, 0, _, _, h, _ => by omega
  | n + 1, m + 1, Γ, x, h, e => by
    unfold whN at e ⊢
    split at e
    · cases e
    · exact e
    · rename_i Γ1 e1
      split at e
      · cases e
      · rename_i Γ2 e2; first | exact whN_mono (by omega) e | (simp only [e2]; exact whN_mono (by omega) e)
      · rename_i Γ2 e2; first | exact whN_mono (by omega) e | (simp only [e2]; exact whN_mono (by omega) e)
      · rename_i Γ2 e2; first | exact e | (simp only [e2]; exact e)
      · rename_i r Γ2 e2; first | exact e | (simp only [e2]; exact e)
open Classical in
noncomputable def aWh (ws : List Nat) (c : Act Bool) (b : ActS) : ActS := fun Γ => if h : ∃ n x, whN ws c b n Γ = some x then whN ws c b (Classical.choose h) Γ else none
theorem aWh_of {ws : List Nat} {c : Act Bool} {b : ActS} {n : Nat} {Γ : Ga} {x : Fl × Ga} (e : whN ws c b n Γ = some x) : aWh ws c b Γ = some x := by
  have h : ∃ n x, whN ws c b n Γ = some x := ⟨n, x, e⟩
  unfold aWh
  rw [dif_pos h]
  obtain ⟨y, ey⟩ := Classical.choose_spec h
  rcases Nat.le_total n (Classical.choose h) with l | l
  · exact whN_mono l e
  · have := whN_mono l ey
    rw [e] at this
    rw [ey, this]
theorem aWh_ex {ws : List Nat} {c : Act Bool} {b : ActS} {Γ : Ga} {x : Fl × Ga} (e : aWh ws c b Γ = some x) : ∃ n, whN ws c b n Γ = some x := by
  unfold aWh at e
  split at e
  · exact ⟨_, e⟩
  · cases e
section
variable {X : Cx}
theorem ps_aWh {c : Expr} {body : List Stmt} {pos : Pos} {ws : List Nat} {fc : Act Bool} {fb : ActS} (hp : PassesOwn (model X.prog X.w) X.A X.env X.xe) (hc : PT X c (tOfT X.K fc)) (hb : PSs X body (tOfS X.K fb)) : PS X (.While c body [] pos) (tOfS X.K (aWh ws fc fb)) :=
  ps_imp (ps_while hp hc hb) fun D σ H ⟨G, gh, C, fl, Γ', e, k⟩ => by
    subst gh
    obtain ⟨n, e⟩ := aWh_ex e
    refine ⟨fun m σ' H' => ∃ G' : Gh, G'.H = H' ∧ Con X.K G' σ' ∧ Ste G G' ∧ whN ws fc fb m G'.Γ = some (fl, Γ'), ⟨n, G, rfl, C, .refl G, e⟩, ?_⟩
    rintro m σ1 H1 ⟨G1, rfl, C1, S1, e1⟩
    cases m with
    | zero => cases e1
    | succ m =>
      unfold whN at e1
      split at e1
      · cases e1
      · rename_i Γ2 e2
        cases e1
        refine ⟨G1, rfl, C1, false, _, e2, fun G2 g2 C2 S2 => iteF ?_⟩
        exact k G2 σ1 g2 C2 (S1.trans S2)
      · rename_i Γ2 e2
        refine ⟨G1, rfl, C1, true, Γ2, e2, fun G2 g2 C2 S2 => iteT ?_⟩
        subst g2
        refine ⟨fun σ' H' => ∃ G' : Gh, G'.H = H' ∧ Con X.K G' σ' ∧ Ste G G' ∧ whN ws fc fb m G'.Γ = some (fl, Γ'), fun σ' H' q => ⟨m, by omega, q⟩, G2, rfl, C2, ?_⟩
        have S12 := S1.trans S2
        have again : ∀ {Γ3 : Ga}, whN ws fc fb m (forget ws Γ3) = some (fl, Γ') → ∀ G3 σ3, G3.Γ = Γ3 → Con X.K G3 σ3 → Ste G2 G3 → ∃ G' : Gh, G'.H = G3.H ∧ Con X.K G' σ3 ∧ Ste G G' ∧ whN ws fc fb m G'.Γ = some (fl, Γ') := by
          intro Γ3 e3 G3 σ3 g3 C3 S3
          subst g3
          obtain ⟨G4, a, b, C4, S4⟩ := forget_ok ws C3
          exact ⟨G4, b, C4, (S12.trans S3).trans S4, by rw [a]; exact e3⟩
        split at e1
        · cases e1
        · rename_i Γ3 e3
          exact ⟨.nx, Γ3, e3, fun G3 σ3 g3 C3 S3 => again e1 G3 σ3 g3 C3 S3⟩
        · rename_i Γ3 e3
          exact ⟨.ct, Γ3, e3, fun G3 σ3 g3 C3 S3 => again e1 G3 σ3 g3 C3 S3⟩
        · rename_i Γ3 e3
          cases e1
          exact ⟨.bk, _, e3, fun G3 σ3 g3 C3 S3 => k G3 σ3 g3 C3 (S12.trans S3)⟩
        · rename_i r Γ3 e3
          cases e1
          exact ⟨.rt r, _, e3, fun G3 σ3 g3 C3 S3 v q => k G3 σ3 g3 C3 (S12.trans S3) v (RepR.base (fun a z => S12.nn z) q)⟩
theorem ps_aFor {tg iter : Expr} {body : List Stmt} {pos : Pos} {ws sl : List Nat} {fi : Act (List D)} {ft : D → Ga → Option Ga} {fb : ActS} (hp : PassesOwn (model X.prog X.w) X.A X.env X.xe) (hc : X.calm = true) (hi : PI X tg iter (iOf X.K fi)) (hg : PG X tg (gOf X.K sl ft)) (hb : PSs X body (tOfS X.K fb))
    (hs : ∀ x, foldedSetIterable iter X.env x = pure x) : PS X (.For tg iter body [] pos) (tOfS X.K (aFor ws fi ft fb)) :=
  ps_imp (ps_for hp hc hi hg hb hs) fun D σ H ⟨G, gh, C, fl, Γ', e, k⟩ => by
    subst gh
    unfold aFor at e
    split at e
    · cases e
    · rename_i ds Γ1 e1
      refine ⟨G, rfl, C, ds, Γ1, e1, fun G1 J g1 C1 S1 JO => ?_⟩
      subst g1
      refine ⟨fun i m σ' H' => ∃ G' : Gh, G'.H = H' ∧ Con X.K G' σ' ∧ Ste G1 G' ∧ m = ds.length - i ∧ i ≤ ds.length ∧ forL ws ft fb (ds.drop i) G'.Γ = some (fl, Γ'), ⟨ds.length, G1, rfl, C1, .refl G1, by simp, Nat.zero_le _, e⟩, ?_⟩
      rintro i m σ2 H2 ⟨G2, rfl, C2, S2, rfl, hi, e2⟩
      cases hd : ds[i]? with
      | none =>
        have hi' : ds.length ≤ i := List.getElem?_eq_none_iff.mp hd
        rw [List.drop_eq_nil_of_le hi'] at e2
        have e2 : some (Fl.nx, G2.Γ) = some (fl, Γ') := e2
        cases e2
        exact .inl ⟨JO.stop G2 _ C2 S2 i hi', k G2 σ2 rfl C2 (S1.trans S2)⟩
      | some dd =>
        obtain ⟨hl, hdd⟩ := List.getElem?_eq_some_iff.mp hd
        obtain ⟨jg, jy⟩ := JO.go G2 _ C2 S2 i dd hd
        rw [List.drop_eq_getElem_cons hl, hdd] at e2
        unfold forL at e2
        refine .inr ⟨jg, fun σ' H' => ∃ G' : Gh, G'.H = H' ∧ Con X.K G' σ' ∧ Ste G1 G' ∧ forL ws ft fb (ds.drop (i + 1)) G'.Γ = some (fl, Γ'), fun σ' H' ⟨G', a, b, c, d⟩ => ⟨ds.length - (i + 1), by omega, G', a, b, c, rfl, by omega, d⟩, fun x H' y => ?_⟩
        obtain ⟨rfl, Rx⟩ := jy x H' y
        split at e2
        · cases e2
        · rename_i Γ3 e3
          refine ⟨G2, dd, rfl, C2, Rx, Γ3, e3, fun G3 σ3 g3 C3 S3 h3 df => ?_⟩
          subst g3
          refine ⟨G3, rfl, C3, ?_⟩
          have S13 := S2.trans S3
          have again : ∀ {Γ4 : Ga}, forL ws ft fb (ds.drop (i + 1)) (forget ws Γ4) = some (fl, Γ') → ∀ G4 σ4, G4.Γ = Γ4 → Con X.K G4 σ4 → Ste G3 G4 → ∃ G' : Gh, G'.H = G4.H ∧ Con X.K G' σ4 ∧ Ste G1 G' ∧ forL ws ft fb (ds.drop (i + 1)) G'.Γ = some (fl, Γ') := by
            intro Γ4 e4 G4 σ4 g4 C4 S4
            subst g4
            obtain ⟨G5, a, b, C5, S5⟩ := forget_ok ws C4
            exact ⟨G5, b, C5, (S13.trans S4).trans S5, by rw [a]; exact e4⟩
          split at e2
          · cases e2
          · rename_i Γ4 e4
            exact ⟨.nx, Γ4, e4, fun G4 σ4 g4 C4 S4 => again e2 G4 σ4 g4 C4 S4⟩
          · rename_i Γ4 e4
            exact ⟨.ct, Γ4, e4, fun G4 σ4 g4 C4 S4 => again e2 G4 σ4 g4 C4 S4⟩
          · rename_i Γ4 e4
            cases e2
            exact ⟨.bk, _, e4, fun G4 σ4 g4 C4 S4 => k G4 σ4 g4 C4 (S1.trans (S13.trans S4))⟩
          · rename_i r Γ4 e4
            cases e2
            exact ⟨.rt r, _, e4, fun G4 σ4 g4 C4 S4 v q => k G4 σ4 g4 C4 (S1.trans (S13.trans S4)) v (RepR.base (fun a z => (S1.trans S13).nn z) q)⟩
end
end Z

set_option Elab.async false
set_option linter.all false
set_option maxRecDepth 100000
set_option maxHeartbeats 4000000
/-! Z11: stores -/
namespace Z
open PySem L2 PyProof.Rows

/-- what is to be stored: data, a new list to be owned, a new deal -/
inductive Itm where
  | d (d : D) | n (ds : List D) | q (ds : List D) (m : D)
def Itm.o : Itm → O
  | .d x => .dat x
  | .n xs => .own xs
  | .q xs m => .deal xs m
def toItm (ow : Bool) (Γ : Ga) (r : R) : Option (Itm × Ga) := match ow with
  | false => (match mv Γ r with
    | some (d, Γ') => some (.d d, Γ')
    | none => none)
  | true => (match r with
    | .new ds => some (.n ds, Γ)
    | .newD ds m => some (.q ds m, Γ)
    | _ => none)
def RepI (K : PySem.W.Frag) (H0 : Hp) (G : Gh) : Itm → V → List Addr → Prop
  | .d x, v, as => as = [] ∧ Rep K G.F G.H x v
  | .n ds, v, as => ∃ a vs, as = [a] ∧ v = .ref a ∧ H0 a = none ∧ G.H a = some (.lst vs) ∧ Reps K G.F G.H ds vs ∧ ¬ G.F a ∧ ∀ i j, G.fp i j ≠ some a
  | .q ds m, v, as => ∃ a b vs w, as = [a, b] ∧ v = .ref a ∧ H0 a = none ∧ H0 b = none ∧ a ≠ b ∧ G.H a = some (.lst [.ref b, w]) ∧ G.H b = some (.lst vs) ∧ Reps K G.F G.H ds vs ∧ Rep K G.F G.H m w ∧ (¬ G.F a ∧ ∀ i j, G.fp i j ≠ some a) ∧ (¬ G.F b ∧ ∀ i j, G.fp i j ≠ some b)
def RepIs (K : PySem.W.Frag) (H0 : Hp) (G : Gh) : List Itm → List V → List Addr → Prop
  | [], vs, as => vs = [] ∧ as = []
  | r :: rs, vs, as => ∃ v w a1 a2, vs = v :: w ∧ as = a1 ++ a2 ∧ RepI K H0 G r v a1 ∧ RepIs K H0 G rs w a2 ∧ ∀ a ∈ a1, a ∉ a2
section
variable {K : PySem.W.Frag} {H0 : Hp} {G G' : Gh} {σ : L2.St}
theorem RepI.step (C : Con K G σ) (S : Ste G G') : ∀ {r : Itm} {v : V} {as : List Addr}, RepI K H0 G r v as → RepI K H0 G' r v as
  | .d x, v, _, h => ⟨h.1, Rep.step C S _ _ h.2⟩
  | .n ds, v, _, h => by
    obtain ⟨a, vs, ea, e, z, q, r, n⟩ := h
    obtain ⟨q', n'⟩ := S.new q n
    exact ⟨a, vs, ea, e, z, q', Reps.step C S _ _ r, n'⟩
  | .q ds m, v, _, h => by
    obtain ⟨a, b, vs, w, ea, e, z, z', ne, q, q', r, r', n, n'⟩ := h
    obtain ⟨q1, n1⟩ := S.new q n
    obtain ⟨q2, n2⟩ := S.new q' n'
    exact ⟨a, b, vs, w, ea, e, z, z', ne, q1, q2, Reps.step C S _ _ r, Rep.step C S _ _ r', n1, n2⟩
theorem RepIs.step (C : Con K G σ) (S : Ste G G') : ∀ {rs : List Itm} {vs : List V} {as : List Addr}, RepIs K H0 G rs vs as → RepIs K H0 G' rs vs as
  | [], _, _, h => h
  | r :: rs, _, _, h => by
    obtain ⟨v, w, a1, a2, e, e', h1, h2, d⟩ := h
    exact ⟨v, w, a1, a2, e, e', RepI.step C S h1, RepIs.step C S h2, d⟩
theorem RepI.base {H1 : Hp} (hb : ∀ a, H1 a = none → H0 a = none) : ∀ {r : Itm} {v : V} {as : List Addr}, RepI K H1 G r v as → RepI K H0 G r v as
  | .d x, v, _, h => h
  | .n ds, v, _, h => by
    obtain ⟨a, vs, ea, e, z, h⟩ := h
    exact ⟨a, vs, ea, e, hb a z, h⟩
  | .q ds m, v, _, h => by
    obtain ⟨a, b, vs, w, ea, e, z, z', h⟩ := h
    exact ⟨a, b, vs, w, ea, e, hb a z, hb b z', h⟩
theorem RepIs.base {H1 : Hp} (hb : ∀ a, H1 a = none → H0 a = none) : ∀ {rs : List Itm} {vs : List V} {as : List Addr}, RepIs K H1 G rs vs as → RepIs K H0 G rs vs as
  | [], _, _, h => h
  | r :: rs, _, _, h => by
    obtain ⟨v, w, a1, a2, e, e', h1, h2, d⟩ := h
    exact ⟨v, w, a1, a2, e, e', RepI.base hb h1, RepIs.base hb h2, d⟩
theorem RepI.at : ∀ {r : Itm} {v : V} {as : List Addr}, RepI K H0 G r v as → ∀ a ∈ as, H0 a = none ∧ G.H a ≠ none
  | .d x, v, _, h, a, ha => by rw [h.1] at ha; cases ha
  | .n ds, v, _, h, a, ha => by
    obtain ⟨b, vs, ea, e, z, q, _⟩ := h
    rw [ea] at ha
    cases List.mem_singleton.mp ha
    exact ⟨z, by rw [q]; simp⟩
  | .q ds m, v, _, h, a, ha => by
    obtain ⟨b, c, vs, w, ea, e, z, z', _, q, q', _⟩ := h
    rw [ea] at ha
    rcases List.mem_cons.mp ha with rfl | ha
    · exact ⟨z, by rw [q]; simp⟩
    · cases List.mem_singleton.mp ha
      exact ⟨z', by rw [q']; simp⟩
theorem RepIs.at : ∀ {rs : List Itm} {vs : List V} {as : List Addr}, RepIs K H0 G rs vs as → ∀ a ∈ as, H0 a = none
  | [], _, _, h, a, ha => by rw [h.2] at ha; cases ha
  | r :: rs, _, _, h, a, ha => by
    obtain ⟨v, w, a1, a2, e, e', h1, h2, d⟩ := h
    rw [e'] at ha
    rcases List.mem_append.mp ha with ha | ha
    · exact (h1.at a ha).1
    · exact h2.at a ha
theorem toItm_ok {G0 : Gh} (C : Con K G σ) (S : Ste G0 G) {ow : Bool} {r : R} {v : V} {it : Itm} {Γ' : Ga} (h : RepR K G0.H G σ r v) (e : toItm ow G.Γ r = some (it, Γ')) :
    ∃ (G' : Gh) (as : List Addr), G'.Γ = Γ' ∧ G'.H = G.H ∧ Con K G' σ ∧ Ste G0 G' ∧ RepI K G0.H G' it v as := by
  cases ow with
  | false =>
    have e : (match mv G.Γ r with
      | some (d, Γ') => some (Itm.d d, Γ')
      | none => none) = some (it, Γ') := e
    split at e
    · rename_i d Γ1 q
      cases e
      obtain ⟨G', g, hh, _, C', S', R'⟩ := mv_ok C S h q
      exact ⟨G', [], g, hh, C', S', rfl, R'⟩
    · cases e
  | true =>
    cases r with
    | new ds =>
      cases e
      obtain ⟨a, vs, rfl, h⟩ := h
      exact ⟨G, [a], rfl, rfl, C, S, a, vs, rfl, rfl, h⟩
    | newD ds m =>
      cases e
      obtain ⟨a, b, vs, w, rfl, h⟩ := h
      exact ⟨G, [a, b], rfl, rfl, C, S, a, b, vs, w, rfl, rfl, h⟩
    | val d => cases e
    | «at» i => cases e
    | at1 i => cases e
/-- a store into a slot that holds no deal -/
theorem putI_ok {G0 : Gh} (C : Con K G σ) (S : Ste G0 G) {i : Nat} {it : Itm} {v : V} {as : List Addr} (h : RepI K G0.H G it v as) (hd : isDeal G.Γ[i]? = false) :
    ∃ G' : Gh, G'.Γ = G.Γ.set i (some it.o) ∧ G'.H = G.H ∧ G'.F = G.F ∧ Con K G' (σ.set i (some v)) ∧ Ste G0 G' ∧ ∀ k j a, G'.fp k j = some a → G.fp k j = some a ∨ a ∈ as := by
  have key : ∀ f : Nat → Option Addr, (∀ j a, f j = some a → a ∈ as) → (∀ j j' a, f j = some a → f j' = some a → j = j') → Own K G.F G.H f it.o v → (∀ a ∈ as, ¬ G.F a ∧ ∀ i j, G.fp i j ≠ some a) →
      ∃ G' : Gh, G'.Γ = G.Γ.set i (some it.o) ∧ G'.H = G.H ∧ G'.F = G.F ∧ Con K G' (σ.set i (some v)) ∧ Ste G0 G' ∧ ∀ k j a, G'.fp k j = some a → G.fp k j = some a ∨ a ∈ as := by
    intro f hf inj own fr
    let f' : Nat → Option Addr := if i < G.Γ.length then f else fun _ => none
    have hf' : ∀ j a, f' j = some a → f j = some a := fun j a e => by
      by_cases hl : i < G.Γ.length
      · have e : (if i < G.Γ.length then f else fun _ => none) j = some a := e
        rw [if_pos hl] at e; exact e
      · have e : (if i < G.Γ.length then f else fun _ => none) j = some a := e
        rw [if_neg hl] at e; cases e
    let G2 : Gh := { G with fp := fun k => if k = i then f' else G.fp k, Γ := G.Γ.set i (some it.o) }
    have fi : G2.fp i = f' := by show (if i = i then _ else _) = _; rw [if_pos rfl]
    have fk : ∀ k, k ≠ i → G2.fp k = G.fp k := fun k hk => by show (if k = i then _ else _) = _; rw [if_neg hk]
    refine ⟨G2, rfl, rfl, rfl, ?_, ?_, fun k j a e => ?_⟩
    · refine C.slot i (some it.o) rfl (by rw [List.length_set]) (fun k hk => List.getElem?_set_ne (Ne.symm hk)) fk (fun o e hl => ?_) (fun h j => ?_) (fun j j' a e e' => ?_) (fun j a e k j' hk z => ?_) (fun j a e => ?_) (fun k j a _ e => C.nof k j a e) C.fin (fun k o v _ h => h)
      · cases e
        refine ⟨v, List.getElem?_set_self (by rw [← C.len]; exact hl), ?_⟩
        rw [fi]
        show Own K G.F G.H (if i < G.Γ.length then f else fun _ => none) it.o v
        rw [if_pos hl]; exact own
      · rcases h with h | h
        · cases h
        · rw [fi]
          show (if i < G.Γ.length then f else fun _ => none) j = none
          rw [if_neg (Nat.not_lt.mpr h)]
      · rw [fi] at e e'; exact inj j j' a (hf' j a e) (hf' j' a e')
      · rw [fi] at e; exact (fr a (hf j a (hf' j a e))).2 k j' z
      · rw [fi] at e; exact (fr a (hf j a (hf' j a e))).1
    · refine ⟨S.sub, S.keep, S.dom, fun k j a e => ?_, S.fnew, fun k hk => ?_, by show (G.Γ.set i _).length = _; rw [List.length_set]; exact S.len⟩
      · by_cases hk : k = i
        · subst hk
          rw [fi] at e
          exact .inr (h.at a (hf j a (hf' j a e))).1
        · rw [fk k hk] at e; exact S.fps k j a e
      · obtain ⟨d1, d2⟩ := S.deal k hk
        have hki : k ≠ i := fun z => by subst z; rw [hd] at d1; cases d1
        refine ⟨?_, (fk k hki).trans d2⟩
        show isDeal (G.Γ.set i _)[k]? = true
        rw [isDeal_set hki]; exact d1
    · by_cases hk : k = i
      · subst hk; rw [fi] at e; exact .inr (hf j a (hf' j a e))
      · rw [fk k hk] at e; exact .inl e
  cases it with
  | d d => exact key (fun _ => none) (fun j a e => by cases e) (fun j j' a e => by cases e) ⟨h.2, fun _ => rfl⟩ (fun a ha => by rw [h.1] at ha; cases ha)
  | n ds =>
    obtain ⟨a, vs, rfl, rfl, z, q, r, n⟩ := id h
    refine key (fun j => if j = 0 then some a else none) (fun j b e => ?_) (fun j j' b e e' => ?_) ⟨a, vs, rfl, rfl, fun j => rfl, q, r⟩ (fun b hb => by cases List.mem_singleton.mp hb; exact n)
    · by_cases hj : j = 0
      · simp only [hj, if_true] at e; cases e; exact List.mem_singleton_self _
      · simp only [hj, if_false] at e; cases e
    · by_cases hj : j = 0
      · by_cases hj' : j' = 0
        · rw [hj, hj']
        · simp only [hj', if_false] at e'; cases e'
      · simp only [hj, if_false] at e; cases e
  | q ds m =>
    obtain ⟨a, b, vs, w, rfl, rfl, z, z', ne, q, q', r, r', n, n'⟩ := id h
    refine key (fun j => if j = 0 then some a else if j = 1 then some b else none) (fun j c e => ?_) (fun j j' c e e' => ?_) ⟨a, b, vs, w, rfl, rfl, rfl, fun j => rfl, q, q', r, r'⟩ (fun c hc => ?_)
    · by_cases hj : j = 0
      · simp only [hj, if_true] at e; cases e; exact List.mem_cons_self
      · by_cases hj1 : j = 1
        · simp only [hj1] at e; cases e; exact List.mem_cons_of_mem _ (List.mem_singleton_self _)
        · simp only [hj, hj1, if_false] at e; cases e
    · by_cases hj : j = 0
      · simp only [hj, if_true] at e; cases e
        by_cases hj' : j' = 0
        · rw [hj, hj']
        · by_cases hj1 : j' = 1
          · simp only [hj1] at e'; cases e'; exact absurd rfl ne
          · simp only [hj', hj1, if_false] at e'; cases e'
      · by_cases hj1 : j = 1
        · simp only [hj1] at e; cases e
          by_cases hj' : j' = 0
          · simp only [hj', if_true] at e'; cases e'; exact absurd rfl ne
          · by_cases hj2 : j' = 1
            · rw [hj1, hj2]
            · simp only [hj', hj2, if_false] at e'; cases e'
        · simp only [hj, hj1, if_false] at e; cases e
    · rcases List.mem_cons.mp hc with rfl | hc
      · exact n
      · cases List.mem_singleton.mp hc; exact n'
end
/-- x = e -/
def setI (i : Nat) (it : Itm) (Γ : Ga) : Option Ga := match isDeal Γ[i]? with
  | true => none
  | false => some (Γ.set i (some it.o))
def aAsg (ow : Bool) (i : Nat) (f : Act R) : ActS := fun Γ => match f Γ with
  | none => none
  | some (r, Γ1) => match toItm ow Γ1 r with
    | none => none
    | some (it, Γ2) => match setI i it Γ2 with
      | none => none
      | some Γ3 => some (.nx, Γ3)
theorem setI_eq {i : Nat} {it : Itm} {Γ Γ' : Ga} (e : setI i it Γ = some Γ') : isDeal Γ[i]? = false ∧ Γ' = Γ.set i (some it.o) := by
  unfold setI at e
  split at e
  · cases e
  · rename_i h
    cases e
    exact ⟨h, rfl⟩
section
variable {X : Cx}
theorem t_asg {K : PySem.W.Frag} {ow : Bool} {i : Nat} {f : Act R} {D : Ends} {σ : L2.St} {H : Hp} (h : tOfS K (aAsg ow i f) D σ H) : tAsg (tOf K f) (gName i) D σ H := by
  obtain ⟨G, rfl, C, fl, Γ', e, k⟩ := h
  unfold aAsg at e
  split at e
  · cases e
  · rename_i r Γ1 e1
    split at e
    · cases e
    · rename_i it Γ2 e2
      split at e
      · cases e
      · rename_i Γ3 e3
        cases e
        refine ⟨G, rfl, C, r, Γ1, e1, fun G1 v g1 C1 S1 R1 => ?_⟩
        subst g1
        obtain ⟨G2, as, g2, h2, C2, S2, R2⟩ := toItm_ok C1 S1 R1 e2
        subst g2
        obtain ⟨hd, e3⟩ := setI_eq e3
        obtain ⟨G3, g3, h3, _, C3, S3, _⟩ := putI_ok C2 S2 R2 hd
        show D.nx (σ.set i (some v)) G1.H
        rw [← h2, ← h3]
        exact k G3 _ (g3.trans e3.symm) C3 S3
theorem ps_aAsg {i : Nat} {x : Str} {e : Expr} {pos pos' : Pos} {ow : Bool} {f : Act R} (hN : X.N.Nodup) (hi : X.N[i]? = some x) (hx : Loc X.env.scope x) (hf : X.fn x = true ∨ X.env.scope.names.lookup x = some .local) (he : PE X e (tOf X.K f)) (hs : swapsWith e (some (.Name x pos')) pos.line X.env = pure false) :
    PS X (.Assign [.Name x pos'] e pos) (tOfS X.K (aAsg ow i f)) := ps_imp (ps_set hN hi hx he hs hf) fun _ _ _ => t_asg
theorem ps_aSetLc {i : Nat} {y : Str} {py pos spos : Pos} {tg iter elt : Expr} {ifs : List Expr} {scope : Scope} {own : List (Str × Nat)} {sl : List Nat} {fi : Act (List D)} {ft : D → Ga → Option Ga} {fc : Act Bool} {fe : Act R} {ow : Bool}
    (hc : X.calm = true) (hN : X.N.Nodup) (hy : X.N[i]? = some y) (hyl : X.env.scope.names.lookup y = some .local) (hsw : swapsWith (.ListComp elt [⟨tg, iter, ifs, 0⟩] scope pos) (some (.Name y py)) spos.line X.env = pure true)
    (hi : PI X tg iter (iOf X.K fi)) (ok : BlkOk X.N X.env.scope scope own) (nd : (own.map (·.2)).Nodup) (hs : ∀ i ∈ sl, i ∈ own.map (·.2))
    (hg : ∀ (s : Shared) (H : Hp) (C : Addr) (cl : List (Str × Addr)) (fp : List Addr), PG (X.blk s H scope (compEnvC scope cl C X.env) fp) tg (gOf X.K sl ft)) (ht : ∀ (s : Shared) (H : Hp) (C : Addr) (cl : List (Str × Addr)) (fp : List Addr), PTs (X.blk s H scope (compEnvC scope cl C X.env) fp) ifs (tOfT X.K fc))
    (he : ∀ (s : Shared) (H : Hp) (C : Addr) (cl : List (Str × Addr)) (fp : List Addr), PE (X.blk s H scope (compEnvC scope cl C X.env) fp) elt (tOf X.K fe)) (hf : ∀ x, foldedSetIterable iter X.env x = pure x) :
    PS X (.Assign [.Name y py] (.ListComp elt [⟨tg, iter, ifs, 0⟩] scope pos) spos) (tOfS X.K (aAsg ow i (aLc (own.map (·.2)) fi ft fc fe))) :=
  ps_imp (ps_setLc hc hN hy hyl hsw hi ok hg ht he hf) fun D σ H h => by
    have h := t_asg h
    exact t_lc (Q := fun x H1 => gName i x σ H1 D.nx) nd hs h

/-! ### a, b = x, y -/
def aConsI (ow : Bool) (f : Act R) (g : Act (List Itm)) : Act (List Itm) := fun Γ => match f Γ with
  | none => none
  | some (r, Γ1) => match toItm ow Γ1 r with
    | none => none
    | some (it, Γ2) => match g Γ2 with
      | none => none
      | some (its, Γ3) => some (it :: its, Γ3)
def tOfI (K : PySem.W.Frag) (f : Act (List Itm)) : TA := fun σ H Q => ∃ G : Gh, G.H = H ∧ Con K G σ ∧ ∃ its Γ', f G.Γ = some (its, Γ') ∧ ∀ G' vs as, G'.Γ = Γ' → Con K G' σ → Ste G G' → RepIs K G.H G' its vs as → Q vs G'.H
theorem pa_aNilI : PA X [] (tOfI X.K aNil) := pa_imp pa_nil fun σ H Q ⟨G, g, C, rs, Γ', e, k⟩ => by
  cases e
  subst g
  exact k G [] [] rfl C (.refl G) ⟨rfl, rfl⟩
theorem pa_aConsI {e : Expr} {es : List Expr} {ow : Bool} {f : Act R} {g : Act (List Itm)} (he : PE X e (tOf X.K f)) (hs : PA X es (tOfI X.K g)) (ns : noStar e = true) : PA X (e :: es) (tOfI X.K (aConsI ow f g)) :=
  pa_imp (pa_cons he hs (starEach_of ns es _)) fun σ H Q ⟨G, gh, C, rs, Γ', e, k⟩ => by
    subst gh
    unfold aConsI at e
    split at e
    · cases e
    · rename_i r Γ1 e1
      split at e
      · cases e
      · rename_i it Γ2 e2
        split at e
        · cases e
        · rename_i its Γ3 e3
          cases e
          refine ⟨G, rfl, C, r, Γ1, e1, fun G1 v1 g1 C1 S1 R1 => ?_⟩
          subst g1
          obtain ⟨G2, as, g2, hh, C2, S2, R2⟩ := toItm_ok C1 S1 R1 e2
          refine ⟨G2, hh, C2, its, _, by rw [g2]; exact e3, fun G3 vs as' g3 C3 S3 R3 => ?_⟩
          exact k G3 (v1 :: vs) (as ++ as') g3 C3 (S2.trans S3) ⟨v1, vs, as, as', rfl, rfl, RepI.step C2 S3 R2, RepIs.base (fun a z => S2.nn z) R3, fun a ha ha' => (R2.at a ha).2 (R3.at a ha')⟩
def setIs : List Nat → List Itm → Ga → Option Ga
  | [], [], Γ => some Γ
  | i :: is, it :: its, Γ => match setI i it Γ with
    | none => none
    | some Γ1 => setIs is its Γ1
  | _, _, _ => none
def setVs : List Nat → List V → L2.St → L2.St
  | i :: is, v :: vs, σ => setVs is vs (σ.set i (some v))
  | _, _, σ => σ
theorem setIs_ok {K : PySem.W.Frag} {G0 : Gh} : ∀ {is : List Nat} {its : List Itm} {vs : List V} {as : List Addr} {G : Gh} {σ : L2.St} {Γ' : Ga}, Con K G σ → Ste G0 G → RepIs K G0.H G its vs as → setIs is its G.Γ = some Γ' →
    is.length = vs.length ∧ ∃ G' : Gh, G'.Γ = Γ' ∧ G'.H = G.H ∧ Con K G' (setVs is vs σ) ∧ Ste G0 G'
  | [], [], _, _, G, σ, _, C, S, R, e => by cases e; obtain ⟨rfl, _⟩ := R; exact ⟨rfl, G, rfl, rfl, C, S⟩
  | i :: is, it :: its, _, _, G, σ, Γ', C, S, R, e => by
    obtain ⟨v, w, a1, a2, rfl, rfl, R1, R2, dj⟩ := R
    have e : (match setI i it G.Γ with
      | none => none
      | some Γ1 => setIs is its Γ1) = some Γ' := e
    split at e
    · cases e
    · rename_i Γ1 e1
      obtain ⟨hd, rfl⟩ := setI_eq e1
      obtain ⟨G2, g2, h2, F2, C2, S2, nw⟩ := putI_ok C S R1 hd
      have one : ∀ {r : Itm} {v : V} {as : List Addr}, RepI K G0.H G r v as → (∀ a ∈ as, a ∉ a1) → RepI K G0.H G2 r v as := by
        intro r v as h dis
        have fr : ∀ a, a ∈ as → (¬ G.F a ∧ ∀ i j, G.fp i j ≠ some a) → ¬ G2.F a ∧ ∀ i j, G2.fp i j ≠ some a := fun a ha n => ⟨by rw [F2]; exact n.1, fun x y z => by
          rcases nw x y a z with z | z
          · exact n.2 x y z
          · exact dis a ha z⟩
        cases r with
        | d d => exact ⟨h.1, by rw [F2, h2]; exact h.2⟩
        | n ds =>
          obtain ⟨a, us, rfl, rfl, z, q, r, n⟩ := h
          exact ⟨a, us, rfl, rfl, z, by rw [h2]; exact q, by rw [F2, h2]; exact r, fr a (List.mem_singleton_self _) n⟩
        | q ds m =>
          obtain ⟨a, b, us, y, rfl, rfl, z, z', ne, q, q', r, r', n, n'⟩ := h
          exact ⟨a, b, us, y, rfl, rfl, z, z', ne, by rw [h2]; exact q, by rw [h2]; exact q', by rw [F2, h2]; exact r, by rw [F2, h2]; exact r', fr a List.mem_cons_self n, fr b (List.mem_cons_of_mem _ (List.mem_singleton_self _)) n'⟩
      have all : ∀ {rs : List Itm} {vs : List V} {as : List Addr}, RepIs K G0.H G rs vs as → (∀ a ∈ as, a ∉ a1) → RepIs K G0.H G2 rs vs as := by
        intro rs
        induction rs with
        | nil => intro vs as h _; exact h
        | cons r rs ih =>
          intro vs as h dis
          obtain ⟨v, w, b1, b2, e, e', h1, h2, d⟩ := h
          refine ⟨v, w, b1, b2, e, e', one h1 fun a ha => dis a ?_, ih h2 fun a ha => dis a ?_, d⟩
          · rw [e']; exact List.mem_append_left _ ha
          · rw [e']; exact List.mem_append_right _ ha
      obtain ⟨l, G3, g3, h3, C3, S3⟩ := setIs_ok C2 S2 (all R2 fun a ha hb => dj a hb ha) (by rw [g2]; exact e)
      exact ⟨congrArg (· + 1) l, G3, g3, h3.trans h2, C3, S3⟩
  | [], _ :: _, _, _, _, _, _, _, _, _, e => by cases e
  | _ :: _, [], _, _, _, _, _, _, _, _, e => by cases e
def aPar (is : List Nat) (g : Act (List Itm)) : ActS := fun Γ => match g Γ with
  | none => none
  | some (its, Γ1) => match setIs is its Γ1 with
    | none => none
    | some Γ2 => some (.nx, Γ2)
theorem t_par {K : PySem.W.Frag} {is : List Nat} {g : Act (List Itm)} {D : Ends} {σ : L2.St} {H : Hp} (h : tOfS K (aPar is g) D σ H) : tOfI K g σ H fun vs H1 => is.length = vs.length ∧ D.nx (setVs is vs σ) H1 ∧ ∀ p o, H1 p = none → D.nx (setVs is vs σ) (upd H1 p o) := by
  obtain ⟨G, rfl, C, fl, Γ', e, k⟩ := h
  unfold aPar at e
  split at e
  · cases e
  · rename_i its Γ1 e1
    split at e
    · cases e
    · rename_i Γ2 e2
      cases e
      refine ⟨G, rfl, C, its, Γ1, e1, fun G1 vs as g1 C1 S1 R1 => ?_⟩
      subst g1
      obtain ⟨l, G2, g2, h2, C2, S2⟩ := setIs_ok C1 S1 R1 e2
      refine ⟨l, ?_, fun p o hp => ?_⟩
      · rw [← h2]; exact k G2 _ g2 C2 S2
      · have hp2 : G2.H p = none := by rw [h2]; exact hp
        have := k (G2.lay p o) _ g2 (C2.lay hp2) (S2.trans (Ste.lay G2 hp2))
        show D.nx _ (upd G1.H p o)
        rw [← h2]
        exact this
theorem ti_mono {K : PySem.W.Frag} {g : Act (List Itm)} {σ : L2.St} {H : Hp} {Q Q' : List V → Hp → Prop} (h : tOfI K g σ H Q) (i : ∀ vs H, Q vs H → Q' vs H) : tOfI K g σ H Q' := by
  obtain ⟨G, e, C, rs, Γ', e1, k⟩ := h
  exact ⟨G, e, C, rs, Γ', e1, fun G' vs as a b c d => i _ _ (k G' vs as a b c d)⟩
theorem ps_aPar2 {i j : Nat} {x y : Str} {a b : Expr} {g : Act (List Itm)} {px py pt pos : Pos} {kt k2 pt2} (hc : X.calm = true) (hN : X.N.Nodup) (hi : X.N[i]? = some x) (hj : X.N[j]? = some y) (hij : i ≠ j)
    (hx : X.env.scope.names.lookup x = some .local) (hy : X.env.scope.names.lookup y = some .local) (ha : PA X [a, b] (tOfI X.K g)) (hw : swappedStores [.Tuple [.Name x px, .Name y py] kt pt] (.Tuple [a, b] k2 pt2) X.env = pure (some [x, y])) :
    PS X (.Assign [.Tuple [.Name x px, .Name y py] kt pt] (.Tuple [a, b] k2 pt2) pos) (tOfS X.K (aPar [i, j] g)) :=
  ps_imp (ps_par hc hN hi hj hij hx hy ha hw rfl) fun D σ H h => ti_mono (t_par h) fun vs H1 ⟨l, q, _⟩ => by
    match vs, l with
    | [v, w], _ => exact ⟨v, w, rfl, q⟩
theorem ps_aPar3 {i j l : Nat} {x y z : Str} {a b c : Expr} {g : Act (List Itm)} {px py pz pt pos : Pos} {kt k2 pt2} (hc : X.calm = true) (hN : X.N.Nodup) (hi : X.N[i]? = some x) (hj : X.N[j]? = some y) (hl : X.N[l]? = some z) (hij : i ≠ j) (hil : i ≠ l) (hjl : j ≠ l)
    (hx : X.env.scope.names.lookup x = some .local) (hy : X.env.scope.names.lookup y = some .local) (hz : X.env.scope.names.lookup z = some .local) (ha : PA X [a, b, c] (tOfI X.K g)) (hw : swappedStores [.Tuple [.Name x px, .Name y py, .Name z pz] kt pt] (.Tuple [a, b, c] k2 pt2) X.env = pure (some [x, y, z])) :
    PS X (.Assign [.Tuple [.Name x px, .Name y py, .Name z pz] kt pt] (.Tuple [a, b, c] k2 pt2) pos) (tOfS X.K (aPar [i, j, l] g)) :=
  ps_imp (ps_par3 hc hN hi hj hl hij hil hjl hx hy hz ha hw rfl) fun D σ H h => ti_mono (t_par h) fun vs H1 ⟨l, q, _⟩ => by
    match vs, l with
    | [v, w, u], _ => exact ⟨v, w, u, rfl, q⟩
/-- names alone as targets -/
inductive PNs (X : Cx) : List Expr → List Nat → Prop where
  | nil : PNs X [] []
  | cons {x : Str} {p : Pos} {es : List Expr} {i : Nat} {is : List Nat} (hi : X.N[i]? = some x) (hx : Loc X.env.scope x) (hf : X.fn x = true ∨ X.env.scope.names.lookup x = some .local) (h : PNs X es is) : PNs X (.Name x p :: es) (i :: is)
def gSets (is : List Nat) : TGs := fun vs σ H Q => is.length = vs.length ∧ Q (setVs is vs σ) H
theorem pgs_names (hN : X.N.Nodup) : ∀ {es : List Expr} {is : List Nat}, PNs X es is → PGs X es (gSets is) ∧ noStars es = true ∧ es.length = is.length
  | _, _, .nil => ⟨pgs_imp pgs_nil fun vs σ H Q ⟨l, q⟩ => by
      cases vs with
      | nil => exact ⟨rfl, q⟩
      | cons v vs => (cases l), rfl, rfl⟩
  | _, _, .cons hi hx hf h => by
    obtain ⟨a, b, c⟩ := pgs_names hN h
    refine ⟨pgs_imp (pgs_cons (pg_name hN hi hx hf) a (by rfl)) fun vs σ H Q ⟨l, q⟩ => ?_, b, congrArg (· + 1) c⟩
    cases vs with
    | nil => cases l
    | cons v vs => exact ⟨v, vs, rfl, Nat.succ.inj l, q⟩
def notName : Expr → Bool
  | .Name .. => false
  | _ => true
theorem swapSole {tg e : Expr} (ht : notName tg = true) (l : Nat) (env : Env) : swapsWithSole [tg] e l env = pure false := by
  cases tg <;> first | (cases e <;> rfl) | (cases ht)
theorem ps_aParT {ts es : List Expr} {is : List Nat} {g : Act (List Itm)} {kt k2 : Nat} {pt pt2 pos : Pos} (hc : X.calm = true) (hN : X.N.Nodup) (hn : PNs X ts is) (ha : PA X es (tOfI X.K g)) (hl : is.length ≤ 100) (hw : swappedStores [.Tuple ts kt pt] (.Tuple es k2 pt2) X.env = pure none) :
    PS X (.Assign [.Tuple ts kt pt] (.Tuple es k2 pt2) pos) (tOfS X.K (aPar is g)) := by
  obtain ⟨a, b, c⟩ := pgs_names hN hn
  refine ps_imp (ps_asg (pe_tup ha) (pg_tup hc a (noStars_len b).1 (noStars_len b).2) (swapSole rfl _ _) hw rfl) fun D σ H h => ?_
  show tOfI X.K g σ H fun vs H1 => vs.length ≤ sizeLine ∧ ∀ p, H1 p = none → gTup X.K ts.length (gSets is) (.ref p) σ (upd H1 p (.tup vs)) D.nx
  refine ti_mono (t_par h) fun vs H1 ⟨l, _, q⟩ => ?_
  exact ⟨by rw [← l, line_eq]; omega, fun p hp => ⟨p, vs, rfl, SqT.of upd_same, by rw [← l, c], l, q p _ hp⟩⟩

/-! ### a, (b, c) = e; x[i] = e; x += e -/
def aUnp (tg : D → Ga → Option Ga) (f : Act R) : ActS := fun Γ => match f Γ with
  | none => none
  | some (r, Γ1) => match mv Γ1 r with
    | none => none
    | some (d, Γ2) => match tg d Γ2 with
      | none => none
      | some Γ3 => some (.nx, Γ3)
theorem ps_aUnp {tg e : Expr} {pos : Pos} {sl : List Nat} {ft : D → Ga → Option Ga} {f : Act R} (he : PE X e (tOf X.K f)) (hg : PG X tg (gOf X.K sl ft)) (ht : notName tg = true) (ns : noStar tg = true) (hw : swappedStores [tg] e X.env = pure none) : PS X (.Assign [tg] e pos) (tOfS X.K (aUnp ft f)) :=
  ps_imp (ps_asg he hg (swapSole ht _ _) hw (by rw [assignEach_of ns]; rfl)) fun D σ H ⟨G, gh, C, fl, Γ', e, k⟩ => by
    subst gh
    unfold aUnp at e
    split at e
    · cases e
    · rename_i r Γ1 e1
      split at e
      · cases e
      · rename_i d Γ2 e2
        split at e
        · cases e
        · rename_i Γ3 e3
          cases e
          refine ⟨G, rfl, C, r, Γ1, e1, fun G1 v g1 C1 S1 R1 => ?_⟩
          subst g1
          obtain ⟨G2, g2, h2, _, C2, S2, R2⟩ := mv_ok C1 S1 R1 e2
          subst g2
          exact ⟨G2, d, h2, C2, R2, _, e3, fun G3 σ3 g3 C3 S3 h3 _ => k G3 σ3 g3 C3 (S2.trans S3)⟩
def stR (Γ : Ga) (d : D) (j : Int) : R → Option Ga
  | .at i => (match Γ[i]? with
    | some (some (.deal ds _)) => if j = 1 then some (Γ.set i (some (.deal ds d))) else none
    | some (some (.own ds)) => (match ixN ds.length j with
      | some k => some (Γ.set i (some (.own (ds.set k d))))
      | none => none)
    | _ => none)
  | .at1 i => (match Γ[i]? with
    | some (some (.deal ds m)) => (match ixN ds.length j with
      | some k => some (Γ.set i (some (.deal (ds.set k d) m)))
      | none => none)
    | _ => none)
  | _ => none
def aSub (fe fo fi : Act R) : ActS := fun Γ => match fe Γ with
  | none => none
  | some (r, Γ1) => match mv Γ1 r with
    | none => none
    | some (d, Γ2) => match fo Γ2 with
      | none => none
      | some (ro, Γ3) => match fi Γ3 with
        | none => none
        | some (ri, Γ4) => match dr Γ4 ri with
          | some (.int j) => (match stR Γ4 d j ro with
            | none => none
            | some Γ5 => some (.nx, Γ5))
          | _ => none
theorem ps_aSub {e o i : Expr} {pos tpos : Pos} {fe fo fi : Act R} (he : PE X e (tOf X.K fe)) (ho : PE X o (tOf X.K fo)) (hi : PE X i (tOf X.K fi)) (ha : ∀ v, assign (.Subscript o i tpos) X.env v = (do
      let ov ← holding [v] (eval o X.env)
      let iv ← holding [v, ov] (eval i X.env)
      standAt tpos
      holding [v, ov, iv] (setItem ov iv v)
      release [v, ov, iv] [])) : PS X (.Assign [.Subscript o i tpos] e pos) (tOfS X.K (aSub fe fo fi)) :=
  ps_imp (ps_asg he (pg_sub ho hi set_list ha) (swapSole rfl _ _) (by cases e <;> rfl) rfl) fun D σ H ⟨G, gh, C, fl, Γ', e, k⟩ => by
    subst gh
    unfold aSub at e
    split at e
    · cases e
    · rename_i r Γ1 e1
      split at e
      · cases e
      · rename_i d Γ2 e2
        split at e
        · cases e
        · rename_i ro Γ3 e3
          split at e
          · cases e
          · rename_i ri Γ4 e4
            split at e
            · rename_i j q
              split at e
              · cases e
              · rename_i Γ5 e5
                cases e
                refine ⟨G, rfl, C, r, Γ1, e1, fun G1 v g1 C1 S1 R1 => ?_⟩
                subst g1
                obtain ⟨G2, g2, h2, _, C2, S2, R2⟩ := mv_ok C1 S1 R1 e2
                subst g2
                refine ⟨G2, h2, C2, ro, Γ3, e3, fun G3 v3 g3 C3 S3 R3 => ⟨G3, rfl, C3, ri, Γ4, by rw [g3]; exact e4, fun G4 v4 g4 C4 S4 R4 => ?_⟩⟩
                subst g4
                have S04 := (S2.trans S3).trans S4
                have Rd := Rep.step C2 (S3.trans S4) _ _ R2
                have Ro := RepR.step C3 S4 R3
                cases (show v4 = .int j from dr_ok C4 R4 q)
                unfold stR at e5
                split at e5
                · rename_i i
                  split at e5
                  · rename_i ds m hΓ
                    split at e5
                    · rename_i hj
                      cases e5
                      subst hj
                      obtain ⟨v', w1, a, b, vs, w, rfl, f0, f1, f2, q1, q2, r1, r2⟩ := C4.get i _ hΓ
                      rw [show σ[i]? = some (some v3) from Ro] at w1
                      cases w1
                      have hS := Ste.mut (vs := [.ref b, v]) (x := .deal ds d) C4 hΓ f0 (fun _ => rfl)
                      have ne : b ≠ a := fun z => by
                        have := (C4.sep i 0 i 1 a f0 (by rw [← z]; exact f1)).2
                        omega
                      have hC := C4.mut (vs := [.ref b, v]) (x := .deal ds d) hΓ f0 (fun _ => rfl) Ro ⟨a, b, vs, v, rfl, f0, f1, f2, upd_same, by rw [upd_ne ne]; exact q2, Reps.step C4 hS _ _ r1, Rep.step C4 hS _ _ Rd⟩
                      exact ⟨a, _, 1, 1, rfl, rfl, q1, rfl, k _ σ rfl hC (S04.trans hS)⟩
                    · cases e5
                  · rename_i ds hΓ
                    split at e5
                    · rename_i kk hk
                      cases e5
                      obtain ⟨v', w1, a, vs, rfl, f0, f1, q1, r1⟩ := C4.get i _ hΓ
                      rw [show σ[i]? = some (some v3) from Ro] at w1
                      cases w1
                      have hS := Ste.mut (vs := vs.set kk v) (x := .own (ds.set kk d)) C4 hΓ f0 (fun z => by cases z)
                      have hC := C4.mut (vs := vs.set kk v) (x := .own (ds.set kk d)) hΓ f0 (fun z => by cases z) Ro ⟨a, _, rfl, f0, f1, upd_same, Reps.step C4 hS _ _ (r1.set kk Rd)⟩
                      exact ⟨a, vs, j, kk, rfl, rfl, q1, by rw [r1.length]; exact hk, k _ σ rfl hC (S04.trans hS)⟩
                    · cases e5
                  · cases e5
                · rename_i i
                  split at e5
                  · rename_i ds m hΓ
                    split at e5
                    · rename_i kk hk
                      cases e5
                      obtain ⟨_, b, fb, rfl⟩ := Ro
                      obtain ⟨v', w1, a, b', vs, w, rfl, f0, f1, f2, q1, q2, r1, r2⟩ := C4.get i _ hΓ
                      rw [fb] at f1
                      cases f1
                      have hS := Ste.mut (vs := vs.set kk v) (x := .deal (ds.set kk d) m) C4 hΓ fb (fun _ => rfl)
                      have ne : a ≠ b := fun z => by
                        have := (C4.sep i 0 i 1 a f0 (by rw [z]; exact fb)).2
                        omega
                      have hC := C4.mut (vs := vs.set kk v) (x := .deal (ds.set kk d) m) hΓ fb (fun _ => rfl) w1 ⟨a, b, _, w, rfl, f0, fb, f2, by rw [upd_ne ne]; exact q1, upd_same, Reps.step C4 hS _ _ (r1.set kk Rd), Rep.step C4 hS _ _ r2⟩
                      exact ⟨b, vs, j, kk, rfl, rfl, q2, by rw [r1.length]; exact hk, k _ σ rfl hC (S04.trans hS)⟩
                    · cases e5
                  · cases e5
                · cases e5
            · cases e
def aAug (p : D → D → Option PR) (i : Nat) (f : Act R) : ActS := fun Γ => match Γ[i]? with
  | some (some (.dat d1)) => (match f Γ with
    | none => none
    | some (r, Γ1) => match dr Γ1 r with
      | none => none
      | some d2 => match p d1 d2 with
        | some (.v d) => (match setI i (.d d) Γ1 with
          | some Γ2 => some (.nx, Γ2)
          | none => none)
        | _ => none)
  | _ => none
theorem ps_aAug {i : Nat} {x : Str} {e : Expr} {op : Operator} {r : R2} {p : D → D → Option PR} {pos pos' : Pos} {f : Act R} (hN : X.N.Nodup) (hi : X.N[i]? = some x) (hx : Loc X.env.scope x) (hf : X.fn x = true ∨ X.env.scope.names.lookup x = some .local) (he : PE X e (tOf X.K f)) (ho : OpR X (inplaceOp op) r) (o : OpA X.K r p) :
    PS X (.AugAssign (.Name x pos') op e pos) (tOfS X.K (aAug p i f)) :=
  ps_imp (ps_aug hN hi hx he (ti := r) ho hf) fun D σ H ⟨G, gh, C, fl, Γ', e, k⟩ => by
    subst gh
    unfold aAug at e
    split at e
    · rename_i d1 q1
      split at e
      · cases e
      · rename_i r1 Γ1 e1
        split at e
        · cases e
        · rename_i d2 q2
          split at e
          · rename_i d qp
            split at e
            · rename_i Γ2 e2
              cases e
              obtain ⟨v1, w1, own⟩ := C.get i _ q1
              refine ⟨v1, w1, G, rfl, C, r1, Γ1, e1, fun G1 v2 g1 C1 S1 R1 => ?_⟩
              subst g1
              have R0 := Rep.step C S1 _ _ own.1
              refine o G1.F G1.H v1 v2 d1 d2 (.v d) _ (.of R0) (dr_ok C1 R1 q2) qp fun z rz => ?_
              obtain ⟨hd, e2⟩ := setI_eq e2
              obtain ⟨G3, g3, h3, _, C3, S3, _⟩ := putI_ok (as := []) C1 S1 (show RepI X.K G.H G1 (.d d) z [] from ⟨rfl, rz⟩) hd
              rw [← h3]
              exact k G3 _ (g3.trans e2.symm) C3 S3
            · cases e
          · cases e
    · cases e
end
end Z

set_option Elab.async false
set_option linter.all false
set_option maxRecDepth 100000
set_option maxHeartbeats 4000000
/-! Z11k: calls by keywords alone -/
namespace Z
open PySem L2 PyProof.Rows
def prm {α : Type} (z : α) (perm : List Nat) (xs : List α) : List α := perm.map fun i => xs.getD i z
structure HasKw (X : Cx) (x : Str) (n : Nat) (g : Sm) (ks : List Str) (perm : List Nat) : Prop where
  ex : ∃ k f fd ps, FnOk X.prog X.w X.K X.mg X.base CX0 k f fd ps (spOf X.K n g) ∧ Room k X.A ∧ X.mg x = some (.ref f) ∧ PySem.W.keepIn X.K (.ref f) = true ∧ KBn X.K fd ps 0 ks (fun _ ws => prm Value.none perm ws) (fun _ zs => prm V.non perm zs)
def aPrm (perm : List Nat) (g : Act (List Arg)) : Act (List Arg) := fun Γ => match g Γ with
  | none => none
  | some (as, Γ1) => match argD as with
    | some ds => some ((prm D.non perm ds).map Arg.d, Γ1)
    | none => none
theorem Reps.getD {K : PySem.W.Frag} {F : Addr → Prop} {H : Hp} {ds : List D} {vs : List V} (r : Reps K F H ds vs) (i : Nat) : Rep K F H (ds.getD i .non) (vs.getD i .non) := by
  rw [List.getD_eq_getElem?_getD, List.getD_eq_getElem?_getD]
  cases q : ds[i]? with
  | none =>
    have : vs[i]? = none := by
      rw [List.getElem?_eq_none_iff] at q ⊢
      rw [r.length]; exact q
    rw [this]
    exact rfl
  | some d =>
    obtain ⟨v, h1, h2⟩ := r.get q
    rw [h1]
    exact h2
theorem repAs_d {K : PySem.W.Frag} {G : Gh} {σ : L2.St} : ∀ {ds : List D} {vs : List V}, Reps K G.F G.H ds vs → RepAs K G σ (ds.map Arg.d) vs := by
  intro ds
  induction ds with
  | nil => intro vs h; cases h; exact rfl
  | cons d ds ih =>
    intro vs h
    obtain ⟨v, w, rfl, h1, h2⟩ := h
    exact ⟨v, w, rfl, h1, ih h2⟩
theorem Reps.prm {K : PySem.W.Frag} {F : Addr → Prop} {H : Hp} {ds : List D} {vs : List V} (r : Reps K F H ds vs) : ∀ perm : List Nat, Reps K F H (Z.prm D.non perm ds) (Z.prm V.non perm vs)
  | [] => rfl
  | i :: perm => ⟨_, _, rfl, r.getD i, Reps.prm r perm⟩
theorem t_prm {K : PySem.W.Frag} {perm : List Nat} {g : Act (List Arg)} {σ : L2.St} {H : Hp} {Q : List V → Hp → Prop} (h : tOfA K (aPrm perm g) σ H Q) : tOfA K g σ H fun zs H1 => Q (prm V.non perm zs) H1 := by
  obtain ⟨G, rfl, C, as, Γ', e, k⟩ := h
  unfold aPrm at e
  split at e
  · cases e
  · rename_i as1 Γ1 e1
    split at e
    · rename_i ds q
      cases e
      exact ⟨G, rfl, C, as1, _, e1, fun G' vs g' C' S' R' => k G' _ g' C' S' (repAs_d ((argD_ok R' q).prm perm))⟩
    · cases e
section
variable {X : Cx}
theorem pk_aNilA : PK X [] (tOfA X.K aNil) := ⟨fun pos pins s σ H Q I q => pk_nil.run pos pins s σ H Q I (by
  obtain ⟨G, g, C, rs, Γ', e, k⟩ := q
  cases e
  subst g
  exact k G [] rfl C (.refl G) rfl)⟩
theorem pk_aConsA {e : Expr} {nm : Option Str} {kp : Pos} {es : List Keyword} {f : Act R} {g : Act (List Arg)} (he : PE X e (tOf X.K f)) (hs : PK X es (tOfA X.K g)) : PK X (⟨nm, e, kp⟩ :: es) (tOfA X.K (aConsA f g)) :=
  ⟨fun pos pins s σ H Q I q => (pk_cons he hs).run pos pins s σ H Q I (by
    obtain ⟨G, gh, C, rs, Γ', e, k⟩ := q
    subst gh
    unfold aConsA at e
    split at e
    · cases e
    · rename_i r Γ1 e1
      split at e
      · cases e
      · rename_i a Γ2 e2
        split at e
        · cases e
        · rename_i as Γ3 e3
          cases e
          refine ⟨G, rfl, C, r, Γ1, e1, fun G1 v1 g1 C1 S1 R1 => ?_⟩
          subst g1
          obtain ⟨G2, g2, hh, C2, S2, R2⟩ := mvA_ok C1 S1 R1 e2
          refine ⟨G2, hh, C2, as, _, by rw [g2]; exact e3, fun G3 vs g3 C3 S3 R3 => ?_⟩
          exact k G3 (v1 :: vs) g3 C3 (S2.trans S3) ⟨v1, vs, rfl, RepA.step C2 S3 R2, R3⟩)⟩
theorem ta_len {K : PySem.W.Frag} {m : Nat} {g : Act (List Arg)} {σ : L2.St} {H : Hp} {Q : List V → Hp → Prop} (hl : ∀ G as G1, g G = some (as, G1) → as.length = m) (h : tOfA K g σ H Q) : tOfA K g σ H fun zs H1 => zs.length = m ∧ Q zs H1 := by
  obtain ⟨G, e, C, as, Γ', e1, k⟩ := h
  exact ⟨G, e, C, as, Γ', e1, fun G' vs a b c d => ⟨(repAs_len d).trans (hl _ _ _ e1), k G' vs a b c d⟩⟩
def kwsC : List Keyword → List Str → Bool
  | [], [] => true
  | ⟨some x, _, _⟩ :: ks, y :: ys => decide (x = y) && kwsC ks ys
  | _, _ => false
theorem kwsC_ok {pos : Pos} {env : Env} : ∀ {kws : List Keyword} {ks : List Str}, kwsC kws ks = true → (backToKw pos (keywordEach kws env)).all (·.1.isSome) = true ∧ (backToKw pos (keywordEach kws env)).filterMap (·.1) = ks ∧ (backToKw pos (keywordEach kws env)).any (·.1.isNone) = false ∧ kws.length = ks.length := by
  intro kws
  induction kws with
  | nil =>
    intro ks h
    cases ks with
    | nil => exact ⟨rfl, rfl, rfl, rfl⟩
    | cons k ks => cases h
  | cons kw kws ih =>
    intro ks h
    cases ks with
    | nil =>
      obtain ⟨nm, e, p⟩ := kw
      cases nm <;> cases h
    | cons k ks =>
      obtain ⟨nm, e, p⟩ := kw
      cases nm with
      | none => cases h
      | some x =>
        have h : (decide (x = k) && kwsC kws ks) = true := h
        rw [Bool.and_eq_true, decide_eq_true_eq] at h
        obtain ⟨hx, h2⟩ := h
        subst hx
        obtain ⟨a, b, c, d⟩ := ih h2
        refine ⟨?_, ?_, ?_, congrArg (· + 1) d⟩
        · show (true && (backToKw pos (keywordEach kws env)).all (·.1.isSome)) = true
          rw [a]; rfl
        · show x :: (backToKw pos (keywordEach kws env)).filterMap (·.1) = _
          rw [b]
        · show (false || (backToKw pos (keywordEach kws env)).any (·.1.isNone)) = false
          rw [c]; rfl
theorem pe_aCallK {x : Str} {n : Nat} {g : Sm} {ks : List Str} {perm : List Nat} {kws : List Keyword} {p pos : Pos} {args : Act (List Arg)} (F : HasKw X x n g ks perm) (hg : Gl X x) (hd : (x == ("__debug__" : Str)) = false) (hk : kwsC kws ks = true) (ha : PK X kws (tOfA X.K args)) (hl : ∀ G as G1, args G = some (as, G1) → as.length = kws.length) :
    PE X (.Call (.Name x p) [] kws pos) (tOf X.K (aCall n g (aPrm perm args))) := by
  obtain ⟨k, f, fd, ps, F, hr, hm, hkp, hb⟩ := F.ex
  obtain ⟨k1, k2, k3, k4⟩ := kwsC_ok (pos := pos) (env := X.env) hk
  refine ⟨fun pins s σ H Q I h => ?_⟩
  refine wpAny_Call_Name_kw (ld_glob I hg hm ?_ hd)
  refine PySem.W.callWith_KW0 (h₀ := X.base) I.ok.mod.kin hkp k1 ?_ (by rw [k3]; rfl)
  have h1 := ta_len hl (t_prm (t_call (E := E0) h))
  refine thn (ha.run pos pins s σ H _ I h1) fun ws s2 ⟨zs, H2, I2, rz, l2, q2⟩ => ⟨I2.kIn, ?_⟩
  rw [k2]
  exact run_fnN (us := []) (vs := []) F hr hb pass0 I2 .nil rz rfl (l2.trans k4) q2
end
end Z

set_option Elab.async false
set_option linter.all false
set_option maxRecDepth 100000
set_option maxHeartbeats 4000000
/-! Z11m: chained comparisons, list(range(n)) -/
namespace Z
open PySem L2 PyProof.Rows
def aChn (p p' : D → D → Option PR) (fa fb fc : Act R) : Act R := fun Γ => match fa Γ with
  | none => none
  | some (r1, Γ1) => match fb Γ1 with
    | none => none
    | some (r2, Γ2) => match dr Γ2 r1, dr Γ2 r2 with
      | some d1, some d2 => (match p d1 d2 with
        | some (.v (.bl true)) => (match fc Γ2 with
          | none => none
          | some (r3, Γ3) => match dr Γ3 r2, dr Γ3 r3 with
            | some d2, some d3 => (match p' d2 d3 with
              | some pr => some (pr.r, Γ3)
              | none => none)
            | _, _ => none)
        | some (.v (.bl false)) => some (.val (.bl false), Γ2)
        | _ => none)
      | _, _ => none
theorem t_chn {K : PySem.W.Frag} {r r' : R2} {p p' : D → D → Option PR} (o : OpA K r p) (o' : OpA K r' p') {fa fb fc : Act R} {σ : L2.St} {H : Hp} {Q : VK} (h : tOf K (aChn p p' fa fb fc) σ H Q) : tChain r r' (tOf K fa) (tOf K fb) (tOf K fc) σ H Q := by
  obtain ⟨G, rfl, C, rr, Γ', e, k⟩ := h
  unfold aChn at e
  split at e
  · cases e
  · rename_i r1 Γ1 e1
    split at e
    · cases e
    · rename_i r2 Γ2 e2
      split at e
      · rename_i d1 d2 q1 q2
        refine ⟨G, rfl, C, r1, Γ1, e1, fun G1 v1 g1 C1 S1 R1 => ⟨G1, rfl, C1, r2, Γ2, by rw [g1]; exact e2, fun G2 v2 g2 C2 S2 R2 => ?_⟩⟩
        subst g2
        have R1' := RepR.step C1 S2 R1
        split at e
        · rename_i q
          refine o G2.F G2.H v1 v2 d1 d2 _ _ (dr_ok C2 R1' q1) (dr_ok C2 R2 q2) q fun z hz => ⟨true, hz, iteT ?_⟩
          split at e
          · cases e
          · rename_i r3 Γ3 e3
            split at e
            · rename_i d2' d3 q3 q4
              split at e
              · rename_i pr q5
                cases e
                refine ⟨G2, rfl, C2, r3, _, e3, fun G3 v3 g3 C3 S3 R3 => ?_⟩
                subst g3
                exact o' G3.F G3.H v2 v3 d2' d3 pr Q (dr_ok C3 (RepR.step C2 S3 R2) q3) (dr_ok C3 R3 q4) q5 (pr_ok C3 ((S1.trans S2).trans S3) k)
              · cases e
            · cases e
        · rename_i q
          cases e
          refine o G2.F G2.H v1 v2 d1 d2 _ _ (dr_ok C2 R1' q1) (dr_ok C2 R2 q2) q fun z hz => ⟨false, hz, iteF ?_⟩
          exact k G2 (.bl false) rfl C2 (S1.trans S2) rfl
        · cases e
      · cases e
def aLrg (f : Act R) : Act R := fun Γ => match f Γ with
  | none => none
  | some (r, Γ1) => match dr Γ1 r with
    | some (.int j) => if j ≤ 16777216 ∧ -16777216 ≤ j then some (.new ((List.range j.toNat).map fun k => .int (k : Nat)), Γ1) else none
    | _ => none
theorem reps_rg {K : PySem.W.Frag} {F : Addr → Prop} {H : Hp} : ∀ l : List Nat, Reps K F H (l.map fun k => D.int (k : Nat)) (l.map fun k => V.int (0 + (k : Nat)))
  | [] => rfl
  | k :: l => ⟨_, _, rfl, by show V.int (0 + (k : Nat)) = V.int (k : Nat); rw [Int.zero_add], reps_rg l⟩
section
variable {X : Cx}
theorem pe_aLrg {e : Expr} {p p2 pos p3 : Pos} {f : Act R} (hc : X.calm = true) (hg : Gl X "list") (hm : X.mg "list" = none) (hg2 : Gl X "range") (hm2 : X.mg "range" = none) (he : PE X e (tOf X.K f)) (ns : noStar e = true) :
    PE X (.Call (.Name "list" p) [.Call (.Name "range" p2) [e] [] p3] [] pos) (tOf X.K (aLrg f)) := by
  refine pe_imp (pe_listRg hc hg hm (prg_1 hg2 hm2 he (starEach_of ns _ _))) fun σ H Q h => ?_
  obtain ⟨G, rfl, C, rr, Γ', e, k⟩ := h
  unfold aLrg at e
  split at e
  · cases e
  · rename_i r Γ1 e1
    split at e
    · rename_i j q
      split at e
      · rename_i hj
        cases e
        refine ⟨G, rfl, C, r, _, e1, fun G1 v g1 C1 S1 R1 => ?_⟩
        subst g1
        cases (show v = .int j from dr_ok C1 R1 q)
        refine ⟨j, rfl, ⟨by omega, by omega, by omega, by omega, by omega⟩, fun a ha => ?_⟩
        refine pr_ok (pr := .l ((List.range j.toNat).map fun k => .int (k : Nat))) C1 S1 k a _ ha ?_
        unfold rgV
        rw [Int.sub_zero]
        exact reps_rg _
      · cases e
    · cases e
end
end Z

set_option Elab.async false
set_option linter.all false
set_option maxRecDepth 100000
set_option maxHeartbeats 4000000
/-! Z12: a slim text, what it does, a look whether it is the program's -/
namespace Z
open PySem L2 PyProof.Rows

inductive BO where
  | add | sub | mul | div | mod | pow | band
inductive CO where
  | eq | ne | lt | le | gt | ge | is | isn | inn | nin
def BO.op : BO → Operator
  | .add => .Add | .sub => .Sub | .mul => .Mult | .div => .FloorDiv | .mod => .Mod | .pow => .Pow | .band => .BitAnd
def CO.op : CO → CmpOp
  | .eq => .Eq | .ne => .NotEq | .lt => .Lt | .le => .LtE | .gt => .Gt | .ge => .GtE | .is => .Is | .isn => .IsNot | .inn => .In | .nin => .NotIn
def BO.p : BO → D → D → Option PR
  | .add => addP | .sub => subP | .mul => mulP | .div => divP | .mod => modP | .pow => powP | .band => bandP
def CO.p : CO → D → D → Option PR
  | .eq => eqP | .ne => neP | .lt => ltP | .le => leP | .gt => gtP | .ge => geP | .is => isP | .isn => isnP | .inn => inP | .nin => ninP
def addI : D → D → Option PR
  | .int i, .int j => some (.v (.int (i + j)))
  | _, _ => none
def BO.ap : BO → D → D → Option PR
  | .add => addI | .sub => subP | .div => divP | .mod => modP | _ => fun _ _ => none
/-- targets -/
inductive Tg where
  | nm (i : Nat) | tp (l : Tg) | nil | cons (a l : Tg)
structure Tv where
  t : D → Ga → Option Ga
  l : List (D → Ga → Option Ga)
  s : List Nat
def tv : Tg → Tv
  | .nm i => ⟨setD i, [], [i]⟩
  | .tp l => ⟨setT (tv l).l, [], (tv l).s⟩
  | .nil => ⟨fun _ _ => none, [], []⟩
  | .cons a l => ⟨fun _ _ => none, (tv a).t :: (tv l).l, (tv a).s ++ (tv l).s⟩
/-- expressions, lists of them -/
inductive Ex where
  | nop | var (i : Nat) | lit (d : D) | con (d : D) | bin (o : BO) (a b : Ex) | cmp (o : CO) (a b : Ex) | chn (o o' : CO) (a b c : Ex) | lrg (a : Ex) | ix (a b : Ex) | sl (a lo hi : Ex) | rev (a : Ex) | neg (a : Ex)
  | nil | cons (a l : Ex) | conw (a l : Ex) | tup (l : Ex) | lst (l : Ex) | deal (a b : Ex) | blt (b : Blt) (l : Ex) | isi (ts : List Ty) (a : Ex) | call (f n : Nat) (l : Ex) | kall (f n : Nat) (ks : List Str) (perm : List Nat) (l : Ex) | ite (t a b : Ex)
  | lc (own : List Nat) (it : Ex) (tg : Tg) (c e : Ex) | rng (n : Nat) (l : Ex) | app (o l : Ex) | ext (o l : Ex) | pop (o : Ex) | popAt (o l : Ex) | join (z : Str) (e : Ex) | not (a : Ex) | and (a b : Ex) | or (a b : Ex)
/-- its five readings: value, test, walked, arguments (data; data and the deal), things stored -/
structure Ev where
  e : Act R
  t : Act Bool
  i : Act (List D)
  r : Act (List R)
  a : Act (List Arg)
  m : Act (List Itm)
abbrev nA {α : Type} : Act α := fun _ => none
abbrev Ev.ofE (f : Act R) : Ev := ⟨f, aT f, aSeq f, nA, nA, nA⟩
abbrev Ev.ofL (r : Act (List R)) (a : Act (List Arg)) (m : Act (List Itm)) : Ev := ⟨nA, nA, nA, r, a, m⟩
def isNop : Ex → Bool
  | .nop => true
  | _ => false
def ev (cal : Nat → Sm) : Ex → Ev
  | .nop => .ofE nA
  | .var i => .ofE (aVar i)
  | .lit d => .ofE (aVal d)
  | .con d => .ofE (aVal d)
  | .bin o a b => .ofE (aBin o.p (ev cal a).e (ev cal b).e)
  | .cmp o a b => .ofE (aBin o.p (ev cal a).e (ev cal b).e)
  | .chn o o' a b c => .ofE (aChn o.p o'.p (ev cal a).e (ev cal b).e (ev cal c).e)
  | .lrg a => .ofE (aLrg (ev cal a).e)
  | .ix a b => .ofE (aIx (ev cal a).e (ev cal b).e)
  | .sl a lo hi => .ofE (aSl (ev cal a).e (if isNop lo then none else some (ev cal lo).e) (if isNop hi then none else some (ev cal hi).e))
  | .rev a => .ofE (aUn revP (ev cal a).e)
  | .neg a => .ofE (aUn negP (ev cal a).e)
  | .nil => .ofL aNil aNil aNil
  | .cons a l => .ofL (aCons (ev cal a).e (ev cal l).r) (aConsA (ev cal a).e (ev cal l).a) (aConsI false (ev cal a).e (ev cal l).m)
  | .conw a l => .ofL nA nA (aConsI true (ev cal a).e (ev cal l).m)
  | .tup l => .ofE (aDisp .t (ev cal l).a)
  | .lst l => .ofE (aDisp .l (ev cal l).a)
  | .deal a b => .ofE (aDeal (ev cal a).e (ev cal b).e)
  | .blt b l => .ofE (aBlt b.p (ev cal l).r)
  | .isi ts a => .ofE (aIsi ts (ev cal a).e)
  | .call f n l => .ofE (aCall n (cal f) (ev cal l).a)
  | .kall f n ks perm l => .ofE (aCall n (cal f) (aPrm perm (ev cal l).a))
  | .ite t a b => .ofE (aIte (ev cal t).t (ev cal a).e (ev cal b).e)
  | .lc own it tg c e => .ofE (aLc own (ev cal it).i (tv tg).t (if isNop c then aYes else (ev cal c).t) (ev cal e).e)
  | .rng n l => ⟨nA, nA, aRng n (ev cal l).r, nA, nA, nA⟩
  | .app o l => .ofE (aApp (ev cal o).e (ev cal l).a)
  | .ext o l => .ofE (aExt (ev cal o).e (ev cal l).r)
  | .pop o => .ofE (aPop (ev cal o).e)
  | .popAt o l => .ofE (aPopAt (ev cal o).e (ev cal l).r)
  | .join z e => .ofE (aBin joinP (aVal (.str z)) (ev cal e).e)
  | .not a => ⟨aB (aNot (aT (ev cal a).e)), aNot (ev cal a).t, nA, nA, nA, nA⟩
  | .and a b => ⟨aB (aAnd (aT (ev cal a).e) (aT (ev cal b).e)), aAnd (ev cal a).t (ev cal b).t, nA, nA, nA, nA⟩
  | .or a b => ⟨aB (aOr (aT (ev cal a).e) (aT (ev cal b).e)), aOr (ev cal a).t (ev cal b).t, nA, nA, nA, nA⟩
/-- statements; blocks are next-chains that end by nil -/
inductive St where
  | nil | next (a r : St) | frz (i : Nat) (r : St) | fgt (vs : List Nat) (r : St)
  | asg (ow : Bool) (i : Nat) (e : Ex) | par (is : List Nat) (l : Ex) | unp (tg : Tg) (e : Ex) | sub (o i e : Ex) | aug (o : BO) (i : Nat) (e : Ex) | drop (e : Ex)
  | pass | brk | cnt | retN | ret (e : Ex) | iff (c : Ex) (a b : St) | whl (ws : List Nat) (c : Ex) (b : St) | loop (ws : List Nat) (tg : Tg) (it : Ex) (b : St)
noncomputable def sv (cal : Nat → Sm) : St → ActS
  | .nil => aNx
  | .next a r => aThen (sv cal a) (sv cal r)
  | .frz i r => aThen (aFrz i) (sv cal r)
  | .fgt vs r => aThen (aFgt vs) (sv cal r)
  | .asg ow i e => aAsg ow i (ev cal e).e
  | .par is l => aPar is (ev cal l).m
  | .unp tg e => aUnp (tv tg).t (ev cal e).e
  | .sub o i e => aSub (ev cal e).e (ev cal o).e (ev cal i).e
  | .aug o i e => aAug o.ap i (ev cal e).e
  | .drop e => aDrop (ev cal e).e
  | .pass => aPure .nx
  | .brk => aPure .bk
  | .cnt => aPure .ct
  | .retN => aPure (.rt (.dat .non))
  | .ret e => aRet (ev cal e).e
  | .iff c a b => aIf (ev cal c).t (sv cal a) (sv cal b)
  | .whl ws c b => aWh ws (ev cal c).t (sv cal b)
  | .loop ws tg it b => aFor ws (ev cal it).i (tv tg).t (sv cal b)

/-! ### the look -/
structure Pg where
  fns : List (Str × Nat)
  cons : List (Str × D)
  free : List Str
  kw : List (Nat × List Str × List Nat)
structure Sc where
  N : List Str
  sc : Scope
  own : List Str
def visC (sc : Scope) (x : Str) : Bool := match sc.names.lookup x with | some .local => true | some .cell => true | some .free => true | _ => false
def locC (sc : Scope) (x : Str) : Bool := match sc.names.lookup x with | some .local => true | some .cell => true | _ => false
def lcl (sc : Scope) (x : Str) : Bool := match sc.names.lookup x with | some .local => true | _ => false
def glC (sc : Scope) (x : Str) : Bool := match sc.names.lookup x with | some .globalImplicit => true | _ => false
def litEq : D → D → Bool
  | .int a, .int b => decide (a = b)
  | .str a, .str b => decide (a = b)
  | .bl a, .bl b => decide (a = b)
  | .non, .non => true
  | _, _ => false
def constOk : D → Const → Bool
  | .int a, .int b => decide (a = b)
  | .str a, .str b => decide (a = b)
  | .bl a, .bool b => decide (a = b)
  | .non, .none => true
  | _, _ => false
def bltC (p : Pg) (sc : Scope) (x : Str) : Bool := glC sc x && decide (x ∈ p.free)
def stC (S : Sc) (x : Str) : Bool := locC S.sc x && (decide (x ∈ S.own) || lcl S.sc x)
structure Tc where
  e : Expr → Bool
  l : List Expr → Bool
def ckG (S : Sc) : Tg → Tc
  | .nm i => ⟨fun e => match e with | .Name x _ => decide (S.N[i]? = some x) && stC S x | _ => false, fun _ => false⟩
  | .tp l => ⟨fun e => match e with | .Tuple es _ _ => (ckG S l).l es | _ => false, fun _ => false⟩
  | .nil => ⟨fun _ => false, fun es => match es with | [] => true | _ => false⟩
  | .cons a l => ⟨fun _ => false, fun es => match es with | e :: es => noStar e && (ckG S a).e e && (ckG S l).l es | [] => false⟩
structure Ck where
  e : Expr → Bool
  t : Expr → Bool
  i : Expr → Bool
  l : List Expr → Bool
  m : List Expr → Bool
  wt : BoolOp → List Expr → Bool
  we : BoolOp → List Expr → Bool
def plainT : Expr → Bool
  | .Call .. => true
  | .Name .. => true
  | .Subscript .. => true
  | _ => false
def one (f : Expr → Bool) : BoolOp → List Expr → Bool := fun _ es => match es with
  | [e] => f e
  | _ => false
abbrev Ck.ofET (f : Expr → Bool) (t : Expr → Bool) : Ck := ⟨f, t, f, fun _ => false, fun _ => false, one t, one f⟩
abbrev Ck.ofE (f : Expr → Bool) : Ck := .ofET f fun e => plainT e && f e
abbrev Ck.ofL (l : List Expr → Bool) (m : List Expr → Bool) : Ck := ⟨fun _ => false, fun _ => false, fun _ => false, l, m, fun _ _ => false, fun _ _ => false⟩
def plainIx : Expr → Bool
  | .Slice .. => false
  | _ => true
def optC (x : Ex) (f : Expr → Bool) : Option Expr → Bool
  | none => isNop x
  | some e => !isNop x && f e
def relSc (S : Sc) (scope : Scope) : Sc := ⟨S.N, relS scope S.sc, scope.names.filterMap fun y => match scope.names.lookup y.1 with | some .cell => some y.1 | _ => none⟩
def ownS (N : List Str) (own : List Nat) : List (Str × Nat) := own.map fun i => (N.getD i ("" : Str), i)
def tyC (p : Pg) (sc : Scope) : List Expr → List Ty → Bool
  | [], [] => true
  | .Name x _ :: es, t :: ts => decide (x = Str.ofString t.name) && bltC p sc x && tyC p sc es ts
  | _, _ => false
def neg1 : Expr → Bool
  | .UnaryOp .USub (.Constant (.int 1) _ _) _ => true
  | _ => false
def noSet : Expr → Bool
  | .Set .. => false
  | _ => true
def isNil : Ex → Bool
  | .nil => true
  | _ => false
def ifsC (c : Ex) (f : Expr → Bool) : List Expr → Bool
  | [] => isNop c
  | [y] => !isNop c && f y
  | _ => false
def ck (p : Pg) : Ex → Sc → Ck
  | .nop, S => .ofE fun _ => false
  | .var i, S => .ofE fun e => match e with
    | .Name x _ => decide (S.N[i]? = some x) && visC S.sc x && !(x == ("__debug__" : Str)) && !(x == ("__classdict__" : Str))
    | _ => false
  | .lit d, S => .ofE fun e => match e with
    | .Constant c _ _ => constOk d c
    | _ => false
  | .con d, S => .ofE fun e => match e with
    | .Name x _ => glC S.sc x && !(x == ("__debug__" : Str)) && (match p.cons.lookup x with | some d' => litEq d d' | none => false)
    | _ => false
  | .bin o a b, S => .ofE fun e => match e with
    | .BinOp x op y _ => decide (op = o.op) && (ck p a S).e x && (ck p b S).e y
    | _ => false
  | .cmp o a b, S =>
    let f := fun e => match e with
      | .Compare x [op] [y] _ => decide (op = o.op) && !behindInMarks op y && (ck p a S).e x && (ck p b S).e y
      | _ => false
    .ofET f f
  | .chn o o' a b c, S =>
    let f := fun e => match e with
      | .Compare x [op, op'] [y, z] _ => decide (op = o.op) && decide (op' = o'.op) && !behindInMarks op' z && (ck p a S).e x && (ck p b S).e y && (ck p c S).e z
      | _ => false
    .ofET f f
  | .lrg a, S => .ofE fun e => match e with
    | .Call (.Name x _) [.Call (.Name y _) [z] [] _] [] _ => decide (x = ("list" : Str)) && decide (y = ("range" : Str)) && bltC p S.sc x && bltC p S.sc y && noStar z && (ck p a S).e z
    | _ => false
  | .ix a b, S => .ofE fun e => match e with
    | .Subscript x y _ => plainIx y && (ck p a S).e x && (ck p b S).e y
    | _ => false
  | .sl a lo hi, S => .ofE fun e => match e with
    | .Subscript x (.Slice l h none _) _ => (ck p a S).e x && optC lo (ck p lo S).e l && optC hi (ck p hi S).e h
    | _ => false
  | .rev a, S => .ofE fun e => match e with
    | .Subscript x (.Slice none none (some s) _) _ => neg1 s && (ck p a S).e x
    | _ => false
  | .neg a, S => .ofE fun e => match e with
    | .UnaryOp .USub x _ => (ck p a S).e x
    | _ => false
  | .nil, S => .ofL (fun es => es.isEmpty) (fun es => es.isEmpty)
  | .cons a l, S => .ofL (fun es => match es with | e :: es => noStar e && (ck p a S).e e && (ck p l S).l es | [] => false) (fun es => match es with | e :: es => noStar e && (ck p a S).e e && (ck p l S).m es | [] => false)
  | .conw a l, S => .ofL (fun _ => false) (fun es => match es with | e :: es => noStar e && (ck p a S).e e && (ck p l S).m es | [] => false)
  | .tup l, S => .ofE fun e => match e with
    | .Tuple es _ _ => (ck p l S).l es
    | _ => false
  | .lst l, S => .ofE fun e => match e with
    | .List es _ => (ck p l S).l es
    | _ => false
  | .deal a b, S => .ofE fun e => match e with
    | .List [x, y] _ => noStar x && noStar y && (ck p a S).e x && (ck p b S).e y
    | _ => false
  | .blt b l, S => .ofE fun e => match e with
    | .Call (.Name x _) (y :: es) [] _ => decide (x = b.name) && bltC p S.sc x && (ck p l S).l (y :: es)
    | _ => false
  | .isi ts a, S => .ofE fun e => match e with
    | .Call (.Name x _) [y, .Name z p2] [] _ => decide (x = ("isinstance" : Str)) && bltC p S.sc x && noStar y && (ck p a S).e y && tyC p S.sc [.Name z p2] ts
    | .Call (.Name x _) [y, .Tuple es _ _] [] _ => decide (x = ("isinstance" : Str)) && bltC p S.sc x && noStar y && (ck p a S).e y && tyC p S.sc es ts && decide (ts.length ≤ 100)
    | _ => false
  | .call f n l, S => .ofE fun e => match e with
    | .Call (.Name x _) es [] _ => decide (p.fns[f]? = some (x, n)) && glC S.sc x && !(x == ("__debug__" : Str)) && (ck p l S).l es && (!es.isEmpty || (decide (n = 0) && isNil l))
    | _ => false
  | .kall f n ks perm l, S => .ofE fun e => match e with
    | .Call (.Name x _) [] kws _ => decide (p.fns[f]? = some (x, n)) && glC S.sc x && !(x == ("__debug__" : Str)) && decide ((f, ks, perm) ∈ p.kw) && kwsC kws ks && (ck p l S).l (kws.map (·.value))
    | _ => false
  | .ite t a b, S => .ofE fun e => match e with
    | .IfExp c x y _ => (ck p t S).t c && (ck p a S).e x && (ck p b S).e y
    | _ => false
  | .lc own it tg c el, S => .ofE fun e => match e with
    | .ListComp x [⟨t, i, ifs, as⟩] scope _ => decide (as = 0) && (ck p it S).i i && noSet i && blkC S.N S.sc scope (ownS S.N own) && decide own.Nodup && decide (∀ k ∈ (tv tg).s, k ∈ own) && (ckG (relSc S scope) tg).e t && (ck p el (relSc S scope)).e x
        && ifsC c (ck p c (relSc S scope)).t ifs
    | _ => false
  | .rng n l, S => ⟨fun _ => false, fun _ => false, fun e => match e with
    | .Call (.Name x _) es [] _ => decide (x = ("range" : Str)) && bltC p S.sc x && decide (es.length = n) && decide (1 ≤ n) && decide (n ≤ 3) && (ck p l S).l es
    | _ => false, fun _ => false, fun _ => false, fun _ _ => false, fun _ _ => false⟩
  | .app o l, S => .ofE fun e => match e with
    | .Call (.Attribute x y ap) [z] [] cp => decide (y = ("append" : Str)) && (ck p o S).e x && (ck p l S).l [z] && recv x && (ap.endLine == cp.line)
    | _ => false
  | .ext o l, S => .ofE fun e => match e with
    | .Call (.Attribute x y ap) [z] [] cp => decide (y = ("extend" : Str)) && (ck p o S).e x && (ck p l S).l [z] && recv x && (ap.endLine == cp.line)
    | _ => false
  | .pop o, S => .ofE fun e => match e with
    | .Call (.Attribute x y ap) [] [] cp => decide (y = ("pop" : Str)) && (ck p o S).e x && recv x && (ap.endLine == cp.line)
    | _ => false
  | .popAt o l, S => .ofE fun e => match e with
    | .Call (.Attribute x y ap) [z] [] cp => decide (y = ("pop" : Str)) && (ck p o S).e x && (ck p l S).l [z] && recv x && (ap.endLine == cp.line)
    | _ => false
  | .join s el, S => .ofE fun e => match e with
    | .Call (.Attribute (.Constant (.str s') _ _) y ap) [z] [] cp => decide (s' = s) && decide (y = ("join" : Str)) && (ck p el S).e z && noStar z && (ap.endLine == cp.line)
    | _ => false
  | .not a, S => ⟨fun e => match e with | .UnaryOp .Not x _ => (ck p a S).e x | _ => false, fun e => match e with | .UnaryOp .Not x _ => (ck p a S).t x | _ => false, fun _ => false, fun _ => false, fun _ => false,
      one (fun e => match e with | .UnaryOp .Not x _ => (ck p a S).t x | _ => false), one (fun e => match e with | .UnaryOp .Not x _ => (ck p a S).e x | _ => false)⟩
  | .and a b, S => ⟨fun e => match e with | .BoolOp .And (x :: y :: r) _ => (ck p a S).e x && (ck p b S).we .And (y :: r) | _ => false, fun e => match e with | .BoolOp .And (x :: y :: r) _ => (ck p a S).t x && (ck p b S).wt .And (y :: r) | _ => false, fun _ => false, fun _ => false, fun _ => false,
      fun o es => match o, es with | .And, x :: y :: r => (ck p a S).t x && (ck p b S).wt .And (y :: r) | _, [.BoolOp .And (x :: y :: r) _] => (ck p a S).t x && (ck p b S).wt .And (y :: r) | _, _ => false,
      fun o es => match o, es with | .And, x :: y :: r => (ck p a S).e x && (ck p b S).we .And (y :: r) | _, [.BoolOp .And (x :: y :: r) _] => (ck p a S).e x && (ck p b S).we .And (y :: r) | _, _ => false⟩
  | .or a b, S => ⟨fun e => match e with | .BoolOp .Or (x :: y :: r) _ => (ck p a S).e x && (ck p b S).we .Or (y :: r) | _ => false, fun e => match e with | .BoolOp .Or (x :: y :: r) _ => (ck p a S).t x && (ck p b S).wt .Or (y :: r) | _ => false, fun _ => false, fun _ => false, fun _ => false,
      fun o es => match o, es with | .Or, x :: y :: r => (ck p a S).t x && (ck p b S).wt .Or (y :: r) | _, [.BoolOp .Or (x :: y :: r) _] => (ck p a S).t x && (ck p b S).wt .Or (y :: r) | _, _ => false,
      fun o es => match o, es with | .Or, x :: y :: r => (ck p a S).e x && (ck p b S).we .Or (y :: r) | _, [.BoolOp .Or (x :: y :: r) _] => (ck p a S).e x && (ck p b S).we .Or (y :: r) | _, _ => false⟩
/-! ### statements -/
def envS (sc : Scope) : Env := { scope := sc, locals := 0, globals := 0, cells := [] }
def pureB : Sem Bool → Option Bool
  | .pure b => some b
  | _ => none
def pureN : Sem (Option (List Str)) → Option (Option (List Str))
  | .pure b => some b
  | _ => none
def namesC (S : Sc) : List Expr → List Nat → Bool
  | [], [] => true
  | .Name x _ :: es, i :: is => decide (S.N[i]? = some x) && stC S x && namesC S es is
  | _, _ => false
def augO : BO → Bool
  | .add => true
  | .sub => true
  | .div => true
  | .mod => true
  | _ => false
def swpC (S : Sc) (is : List Nat) (ns : List Str) : List Expr → List Expr → Bool
  | [.Name x _, .Name y _], [_, _] => decide (ns = [x, y]) && decide is.Nodup && lcl S.sc x && lcl S.sc y
  | [.Name x _, .Name y _, .Name z _], [_, _, _] => decide (ns = [x, y, z]) && decide is.Nodup && lcl S.sc x && lcl S.sc y && lcl S.sc z
  | _, _ => false
structure Cs where
  s : Stmt → Bool
  l : List Stmt → Bool
abbrev Cs.ofS (f : Stmt → Bool) : Cs := ⟨f, fun _ => false⟩
def aCkT (e : Ex) : Bool := match e with | .lc .. => true | _ => false
def cs (p : Pg) (S : Sc) : St → Cs
  | .nil => ⟨fun _ => false, fun l => l.isEmpty⟩
  | .next a r => ⟨fun _ => false, fun l => match l with | x :: l => (cs p S a).s x && (cs p S r).l l | [] => false⟩
  | .frz i r => ⟨fun _ => false, fun l => (cs p S r).l l⟩
  | .fgt vs r => ⟨fun _ => false, fun l => (cs p S r).l l⟩
  | .asg ow i e => .ofS fun s => match s with
    | .Assign [.Name x px] v pos => decide (S.N[i]? = some x) && stC S x && (ck p e S).e v && (match pureB (swapsWith v (some (.Name x px)) pos.line (envS S.sc)) with
      | some false => true
      | some true => lcl S.sc x && aCkT e
      | none => false)
    | _ => false
  | .par is l => .ofS fun s => match s with
    | .Assign [.Tuple ts k pt] (.Tuple es k2 pt2) pos => namesC S ts is && (ck p l S).m es && (match pureN (swappedStores [.Tuple ts k pt] (.Tuple es k2 pt2) (envS S.sc)) with
      | some none => decide (is.length ≤ 100)
      | some (some ns) => swpC S is ns ts es
      | none => false)
    | _ => false
  | .unp tg e => .ofS fun s => match s with
    | .Assign [t] v pos => notName t && noStar t && (ckG S tg).e t && (ck p e S).e v && (match pureN (swappedStores [t] v (envS S.sc)) with
      | some none => true
      | _ => false)
    | _ => false
  | .sub o i e => .ofS fun s => match s with
    | .Assign [.Subscript x y _] v _ => plainIx y && (ck p e S).e v && (ck p o S).e x && (ck p i S).e y
    | _ => false
  | .aug o i e => .ofS fun s => match s with
    | .AugAssign (.Name x _) op v _ => decide (op = o.op) && augO o && decide (S.N[i]? = some x) && stC S x && (ck p e S).e v
    | _ => false
  | .drop e => .ofS fun s => match s with
    | .Expr v _ => noComp v && (ck p e S).e v
    | _ => false
  | .pass => .ofS fun s => match s with | .Pass _ => true | _ => false
  | .brk => .ofS fun s => match s with | .Break _ => true | _ => false
  | .cnt => .ofS fun s => match s with | .Continue _ => true | _ => false
  | .retN => .ofS fun s => match s with | .Return none _ => true | _ => false
  | .ret e => .ofS fun s => match s with | .Return (some v) _ => (ck p e S).e v | _ => false
  | .iff c a b => .ofS fun s => match s with
    | .If x y z _ => (ck p c S).t x && (cs p S a).l y && (cs p S b).l z
    | _ => false
  | .whl ws c b => .ofS fun s => match s with
    | .While x y [] _ => (ck p c S).t x && (cs p S b).l y
    | _ => false
  | .loop ws tg it b => .ofS fun s => match s with
    | .For t i y [] _ => (ckG S tg).e t && (ck p it S).i i && noSet i && (cs p S b).l y
    | _ => false
end Z

set_option Elab.async false
set_option linter.all false
set_option maxRecDepth 100000
set_option maxHeartbeats 4000000
/-! Z13: what the look sees is so -/
namespace Z
open PySem L2 PyProof.Rows

structure Fits (p : Pg) (cal : Nat → Sm) (S : Sc) (X : Cx) : Prop where
  N : X.N = S.N
  nd : S.N.Nodup
  sc : X.env.scope = S.sc
  kind : S.sc.kind = .function
  calm : X.calm = true
  hu : X.A.units + 64 < cLine
  own : ∀ x ∈ S.own, X.fn x = true
  free : ∀ x ∈ p.free, X.mg x = none
  fns : ∀ i x n, p.fns[i]? = some (x, n) → HasFn X x n (cal i)
  kw : ∀ i ks perm x n, (i, ks, perm) ∈ p.kw → p.fns[i]? = some (x, n) → HasKw X x n (cal i) ks perm
  cons : ∀ x d, p.cons.lookup x = some d → ∃ v u, X.mg x = some u ∧ RelV v u ∧ ∀ F H, Rep X.K F H d v

section
variable {p : Pg} {cal : Nat → Sm} {S : Sc} {X : Cx}
theorem visC_ok {sc : Scope} {x : Str} (h : visC sc x = true) : Vis sc x := by
  unfold visC at h
  split at h <;> first | exact .inl (by assumption) | exact .inr (.inl (by assumption)) | exact .inr (.inr (by assumption)) | cases h
theorem locC_ok {sc : Scope} {x : Str} (h : locC sc x = true) : Loc sc x := by
  unfold locC at h
  split at h <;> first | exact .inl (by assumption) | exact .inr (by assumption) | cases h
theorem lcl_ok {sc : Scope} {x : Str} (h : lcl sc x = true) : sc.names.lookup x = some .local := by
  unfold lcl at h
  split at h <;> first | assumption | cases h
theorem glC_ok (f : Fits p cal S X) {x : Str} (h : glC S.sc x = true) : Gl X x := by
  unfold glC at h
  split at h
  · show X.env.scope.names.lookup x = _
    rw [f.sc]; assumption
  · cases h
theorem bltC_ok (f : Fits p cal S X) {x : Str} (h : bltC p S.sc x = true) : Gl X x ∧ X.mg x = none := by
  unfold bltC at h
  rw [Bool.and_eq_true, decide_eq_true_eq] at h
  exact ⟨glC_ok f h.1, f.free x h.2⟩
theorem stC_ok (f : Fits p cal S X) {x : Str} (h : stC S x = true) : Loc X.env.scope x ∧ (X.fn x = true ∨ X.env.scope.names.lookup x = some .local) := by
  unfold stC at h
  rw [Bool.and_eq_true, Bool.or_eq_true, decide_eq_true_eq] at h
  rw [f.sc]
  refine ⟨locC_ok h.1, h.2.elim (fun h => .inl (f.own x h)) (fun h => .inr (lcl_ok h))⟩
theorem litEq_ok : ∀ {a b : D}, litEq a b = true → a = b := by
  intro a b h
  cases a <;> cases b <;> first | rfl | (cases h; done) | (exact congrArg _ (of_decide_eq_true h))
theorem ckG_ok : ∀ (g : Tg) (f : Fits p cal S X), (∀ e, (ckG S g).e e = true → noStar e = true ∧ PG X e (gOf X.K (tv g).s (tv g).t)) ∧ (∀ es, (ckG S g).l es = true → noStars es = true ∧ (tv g).l.length = es.length ∧ PGs X es (gsOf X.K (tv g).s (tv g).l))
  | .nm i, f => by
    refine ⟨fun e h => ?_, fun es h => by cases h⟩
    cases e with
    | Name x pos =>
      have h : (decide (S.N[i]? = some x) && stC S x) = true := h
      rw [Bool.and_eq_true, decide_eq_true_eq] at h
      obtain ⟨h1, h2⟩ := stC_ok f h.2
      exact ⟨rfl, pg_aName (by rw [f.N]; exact f.nd) (by rw [f.N]; exact h.1) h1 h2⟩
    | _ => cases h
  | .tp l, f => by
    refine ⟨fun e h => ?_, fun es h => by cases h⟩
    cases e with
    | Tuple es k pos =>
      obtain ⟨h1, h2, h3⟩ := (ckG_ok l f).2 es h
      exact ⟨rfl, pg_aTup f.calm h1 h2 h3⟩
    | _ => cases h
  | .nil, f => by
    refine ⟨fun e h => (by cases h), fun es h => ?_⟩
    cases es with
    | nil => exact ⟨rfl, rfl, pgs_aNil⟩
    | cons e es => cases h
  | .cons a l, f => by
    refine ⟨fun e h => (by cases h), fun es h => ?_⟩
    cases es with
    | nil => cases h
    | cons e es =>
      have h : (noStar e && (ckG S a).e e && (ckG S l).l es) = true := h
      rw [Bool.and_eq_true, Bool.and_eq_true] at h
      obtain ⟨h1, h2⟩ := (ckG_ok a f).1 e h.1.2
      obtain ⟨h3, h4, h5⟩ := (ckG_ok l f).2 es h.2
      exact ⟨by show (noStar e && noStars es) = true; rw [h1, h3]; rfl, congrArg (· + 1) h4, pgs_aCons h2 h5 h1⟩
theorem Fits.blk {scope : Scope} {ow : List (Str × Nat)} (f : Fits p cal S X) (ok : BlkOk S.N S.sc scope ow) (s : Shared) (H : Hp) (C : Addr) (cl : List (Str × Addr)) (fp : List Addr) : Fits p cal (relSc S scope) (X.blk s H scope (compEnvC scope cl C X.env) fp) where
  N := f.N
  nd := f.nd
  sc := by show relS scope X.env.scope = _; rw [f.sc]; rfl
  kind := ok.kind
  calm := f.calm
  hu := f.hu
  own := fun x hx => by
    obtain ⟨y, hy, e⟩ := List.mem_filterMap.mp hx
    show (scope.names.lookup x == some .cell) = true
    split at e
    · rename_i q
      cases e
      rw [q]; rfl
    · cases e
  free := f.free
  fns := fun i x n h => ⟨(f.fns i x n h).ex⟩
  kw := fun i ks perm x n h h' => ⟨(f.kw i ks perm x n h h').ex⟩
  cons := f.cons

/-! ### and, or, not of values -/
theorem t_vAnd {K : PySem.W.Frag} {fa fb : Act R} {σ : L2.St} {H : Hp} {Q : VK} (h : tOf K (aB (aAnd (aT fa) (aT fb))) σ H Q) : tAndV (tOf K fa) (tOf K fb) σ H Q := by
  obtain ⟨G, rfl, C, r, Γ', e, k⟩ := h
  unfold aB aAnd at e
  refine t_tB (Q := fun c H1 => if c = true then tOf K fb σ H1 Q else Q (.bl false) H1) (fun _ h => h) ?_
  split at e
  · cases e
  · rename_i b Γ1 e1
    cases e
    split at e1
    · cases e1
    · rename_i Γ2 e2
      refine ⟨G, rfl, C, true, Γ2, e2, fun G1 g1 C1 S1 => iteT ?_⟩
      have e1 : aT fb G1.Γ = some (b, Γ') := by rw [g1]; exact e1
      unfold aT at e1
      split at e1
      · cases e1
      · rename_i r Γ3 e3
        split at e1
        · rename_i b' q
          cases e1
          refine ⟨G1, rfl, C1, r, _, e3, fun G2 v g2 C2 S2 R2 => ?_⟩
          have := k G2 (.bl b) g2 C2 (S1.trans S2) rfl
          rw [toB_rep R2 q]
          exact this
        · cases e1
    · rename_i Γ2 e2
      cases e1
      exact ⟨G, rfl, C, false, _, e2, fun G1 g1 C1 S1 => iteF (k G1 (.bl false) g1 C1 S1 rfl)⟩
theorem t_vOr {K : PySem.W.Frag} {fa fb : Act R} {σ : L2.St} {H : Hp} {Q : VK} (h : tOf K (aB (aOr (aT fa) (aT fb))) σ H Q) : tOrV (tOf K fa) (tOf K fb) σ H Q := by
  obtain ⟨G, rfl, C, r, Γ', e, k⟩ := h
  unfold aB aOr at e
  refine t_tB (Q := fun c H1 => if c = true then Q (.bl true) H1 else tOf K fb σ H1 Q) (fun _ h => h) ?_
  split at e
  · cases e
  · rename_i b Γ1 e1
    cases e
    split at e1
    · cases e1
    · rename_i Γ2 e2
      cases e1
      exact ⟨G, rfl, C, true, _, e2, fun G1 g1 C1 S1 => iteT (k G1 (.bl true) g1 C1 S1 rfl)⟩
    · rename_i Γ2 e2
      refine ⟨G, rfl, C, false, Γ2, e2, fun G1 g1 C1 S1 => iteF ?_⟩
      have e1 : aT fb G1.Γ = some (b, Γ') := by rw [g1]; exact e1
      unfold aT at e1
      split at e1
      · cases e1
      · rename_i r Γ3 e3
        split at e1
        · rename_i b' q
          cases e1
          refine ⟨G1, rfl, C1, r, _, e3, fun G2 v g2 C2 S2 R2 => ?_⟩
          have := k G2 (.bl b) g2 C2 (S1.trans S2) rfl
          rw [toB_rep R2 q]
          exact this
        · cases e1
theorem t_vNot {K : PySem.W.Frag} {fa : Act R} {σ : L2.St} {H : Hp} {Q : VK} (h : tOf K (aB (aNot (aT fa))) σ H Q) : tNotV (tOf K fa) σ H Q := by
  obtain ⟨G, rfl, C, r, Γ', e, k⟩ := h
  unfold aB aNot at e
  refine t_tB (Q := fun c H1 => Q (.bl (!c)) H1) (fun _ h => h) ?_
  split at e
  · cases e
  · rename_i b Γ1 e1
    cases e
    split at e1
    · cases e1
    · rename_i b' Γ2 e2
      cases e1
      exact ⟨G, rfl, C, b', _, e2, fun G1 g1 C1 S1 => k G1 (.bl (!b')) g1 C1 S1 rfl⟩
theorem pt_aT {e : Expr} {f : Act R} (h : PE X e (tOf X.K f)) (hp : plainT e = true) : PT X e (tOfT X.K (aT f)) :=
  pt_imp (pt_val h (by cases e <;> first | (intro _; rfl) | cases hp)) fun σ H Q h => t_tB (fun _ h => h) h
theorem pt_aCmp {op : CmpOp} {r : R2} {q : D → D → Option PR} {a b : Expr} {pos : Pos} {fa fb : Act R} (ho : OpR X (compareOp op) r) (o : OpA X.K r q) (ha : PE X a (tOf X.K fa)) (hb : PE X b (tOf X.K fb)) (hm : behindInMarks op b = false) : PT X (.Compare a [op] [b] pos) (tOfT X.K (aT (aBin q fa fb))) :=
  pt_imp (pt_cmpR ho ha hb hm) fun σ H Q h => t_tB (fun _ h => t_bin o h) h
/-- the rule of a comparison -/
theorem cmp_ok (hu : X.A.units + 64 < cLine) (o : CO) : ∃ r, OpR X (compareOp o.op) r ∧ OpA X.K r o.p := by
  cases o with
  | eq => exact ⟨_, op_eqA hu, opA_eq⟩
  | ne => exact ⟨_, op_neA hu, opA_ne⟩
  | lt => exact ⟨_, op_lt, opA_cmp⟩
  | le => exact ⟨_, op_le, opA_cmp⟩
  | gt => exact ⟨_, op_gt, opA_cmp⟩
  | ge => exact ⟨_, op_ge, opA_cmp⟩
  | is => exact ⟨_, op_isA, opA_is⟩
  | isn => exact ⟨_, op_isnA, opA_isn⟩
  | inn => exact ⟨_, op_in_seq, opA_in⟩
  | nin => exact ⟨_, op_notIn_seq, opA_nin⟩
theorem bin_ok (o : BO) : ∃ r, OpR X (binaryOp o.op) r ∧ OpA X.K r o.p := by
  cases o with
  | add => exact ⟨_, op_addA, opA_add⟩
  | sub => exact ⟨_, op_sub, opA_sub⟩
  | mul => exact ⟨_, op_mulA, opA_mul⟩
  | div => exact ⟨_, op_fdivW, opA_div⟩
  | mod => exact ⟨_, op_mod, opA_mod⟩
  | pow => exact ⟨_, op_pow, opA_pow⟩
  | band => exact ⟨_, op_and, opA_band⟩
theorem opA_addI {K : PySem.W.Frag} : OpA K (rI0 fun i j => .int (i + j)) addI := by
  intro F H x y d1 d2 pr Q h1 h2 e k
  unfold addI at e
  split at e
  · cases e; exact ⟨_, _, h1, h2, k _ rfl⟩
  · cases e
theorem aug_ok {o : BO} (h : augO o = true) : ∃ r, OpR X (inplaceOp o.op) r ∧ OpA X.K r o.ap := by
  cases o with
  | add => exact ⟨_, iop_add, opA_addI⟩
  | sub => exact ⟨_, iop_sub, opA_sub⟩
  | div => exact ⟨_, iop_fdivW, opA_div⟩
  | mod => exact ⟨_, iop_mod, opA_mod⟩
  | _ => cases h
theorem plainIx_ok {b : Expr} (h : plainIx b = true) : PlainIx b := by
  cases b <;> first | (intro o i; rfl) | cases h
theorem noSet_ok {e : Expr} (h : noSet e = true) (env : Env) (x : Value) : foldedSetIterable e env x = pure x := by
  cases e <;> first | rfl | cases h
theorem tyC_ok (f : Fits p cal S X) : ∀ {es : List Expr} {ts : List Ty}, tyC p S.sc es ts = true → tyE X es ts := by
  intro es
  induction es with
  | nil =>
    intro ts h
    cases ts with
    | nil => trivial
    | cons t ts => cases h
  | cons e es ih =>
    intro ts h
    cases ts with
    | nil => cases e <;> cases h
    | cons t ts =>
      cases e with
      | Name x pos =>
        have h : (decide (x = Str.ofString t.name) && bltC p S.sc x && tyC p S.sc es ts) = true := h
        rw [Bool.and_eq_true, Bool.and_eq_true, decide_eq_true_eq] at h
        obtain ⟨h1, h2⟩ := bltC_ok f h.1.2
        exact ⟨h.1.1, h1, h2, ih h.2⟩
      | _ => cases h
theorem constOk_ok {d : D} {c : Const} {j : Nat} {pos : Pos} (h : constOk d c = true) : PE X (.Constant c j pos) (tOf X.K (aVal d)) := by
  cases d <;> cases c <;> first | (cases h; done) | skip
  · exact pe_imp pe_non fun σ H Q h => t_val (K := X.K) (d := .non) (fun _ _ => rfl) h
  · cases of_decide_eq_true h; exact pe_imp pe_bl fun σ H Q h => t_val (K := X.K) (d := .bl _) (fun _ _ => rfl) h
  · cases of_decide_eq_true h; exact pe_imp pe_int fun σ H Q h => t_val (K := X.K) (d := .int _) (fun _ _ => rfl) h
  · cases of_decide_eq_true h; exact pe_imp pe_str fun σ H Q h => t_val (K := X.K) (d := .str _) (fun _ _ => rfl) h
end
end Z
namespace Z
open PySem L2 PyProof.Rows
structure OkC (X : Cx) (c : Ck) (v : Ev) : Prop where
  e : ∀ e, c.e e = true → PE X e (tOf X.K v.e)
  t : ∀ e, c.t e = true → PT X e (tOfT X.K v.t)
  i : ∀ tg e, c.i e = true → PI X tg e (iOf X.K v.i)
  l : ∀ es, c.l es = true → noStars es = true ∧ PA X es (tOfR X.K v.r) ∧ PA X es (tOfA X.K v.a)
  m : ∀ es, c.m es = true → PA X es (tOfI X.K v.m)
  k : ∀ kws : List Keyword, c.l (kws.map (·.value)) = true → PK X kws (tOfA X.K v.a) ∧ ∀ G as G1, v.a G = some (as, G1) → as.length = kws.length
  wt : ∀ o es pos, c.wt o es = true → PW X (.BoolOp o es pos) (tOfT X.K v.t)
  we : ∀ o es pos, c.we o es = true → PE X (.BoolOp o es pos) (tOf X.K v.e)
section
variable {p : Pg} {cal : Nat → Sm} {S : Sc} {X : Cx}
theorem one_t {f : Expr → Bool} {t : TT} (hT : ∀ e, f e = true → PT X e t) (o : BoolOp) (es : List Expr) (pos : Pos) (h : one f o es = true) : PW X (.BoolOp o es pos) t := by
  match es, h with
  | [e], h => cases o with
    | And => exact pw_and1 (hT e h)
    | Or => exact pw_or1 (hT e h)
theorem one_e {f : Expr → Bool} {t : TE} (hE : ∀ e, f e = true → PE X e t) (o : BoolOp) (es : List Expr) (pos : Pos) (h : one f o es = true) : PE X (.BoolOp o es pos) t := by
  match es, h with
  | [e], h => exact pe_one (hE e h)
theorem OkC.ofET {f t : Expr → Bool} {g : Act R} {u : Act Bool} (hE : ∀ e, f e = true → PE X e (tOf X.K g)) (hT : ∀ e, t e = true → PT X e (tOfT X.K u)) : OkC X (.ofET f t) ⟨g, u, aSeq g, nA, nA, nA⟩ where
  e := hE
  t := hT
  i := fun tg e h => pi_aSeq (hE e h)
  l := fun es h => by cases h
  m := fun es h => by cases h
  k := fun es h => by cases h
  wt := one_t hT
  we := one_e hE
theorem OkC.ofE {f : Expr → Bool} {g : Act R} (hE : ∀ e, f e = true → PE X e (tOf X.K g)) : OkC X (.ofE f) (.ofE g) := .ofET hE fun e h => by
  rw [Bool.and_eq_true] at h
  exact pt_aT (hE e h.2) h.1
theorem OkC.ofL {f f' : List Expr → Bool} {r : Act (List R)} {a : Act (List Arg)} {m : Act (List Itm)} (hl : ∀ es, f es = true → noStars es = true ∧ PA X es (tOfR X.K r) ∧ PA X es (tOfA X.K a)) (hm : ∀ es, f' es = true → PA X es (tOfI X.K m)) (hk : ∀ kws : List Keyword, f (kws.map (·.value)) = true → PK X kws (tOfA X.K a) ∧ ∀ G as G1, a G = some (as, G1) → as.length = kws.length) : OkC X (.ofL f f') (.ofL r a m) where
  e := fun es h => by cases h
  t := fun es h => by cases h
  i := fun _ es h => by cases h
  l := hl
  m := hm
  k := hk
  wt := fun _ es _ h => by cases h
  we := fun _ es _ h => by cases h
theorem isNop_eq {x : Ex} (h : isNop x = true) : x = .nop := by
  cases x <;> first | rfl | cases h
theorem opt_ok {x : Ex} {f : Expr → Bool} {e : Option Expr} {g : Act R} (hE : ∀ e, f e = true → PE X e (tOf X.K g)) (h : optC x f e = true) : PO X e (tOpt X.K (if isNop x then none else some g)) := by
  cases e with
  | none =>
    have h : isNop x = true := h
    rw [if_pos h]
    exact po_aOpt trivial
  | some e =>
    have h : (!isNop x && f e) = true := h
    rw [Bool.and_eq_true, Bool.not_eq_true'] at h
    rw [if_neg (by rw [h.1]; decide)]
    exact po_aOpt (hE e h.2)
theorem ev_ok : ∀ (x : Ex) {S : Sc} {X : Cx}, Fits p cal S X → OkC X (ck p x S) (ev cal x)
  | .nop, S, X, f => .ofE fun e h => by cases h
  | .var i, S, X, f => .ofE fun e h => by
    cases e with
    | Name x pos =>
      have h : (decide (S.N[i]? = some x) && visC S.sc x && !(x == ("__debug__" : Str)) && !(x == ("__classdict__" : Str))) = true := h
      simp only [Bool.and_eq_true, decide_eq_true_eq, Bool.not_eq_true'] at h
      exact pe_aVar (by rw [f.N]; exact h.1.1.1) (by rw [f.sc]; exact visC_ok h.1.1.2) h.1.2 h.2
    | _ => cases h
  | .lit d, S, X, f => .ofE fun e h => by
    cases e with
    | Constant c j pos => exact constOk_ok h
    | _ => cases h
  | .con d, S, X, f => .ofE fun e h => by
    cases e with
    | Name x pos =>
      have h : (glC S.sc x && !(x == ("__debug__" : Str)) && (match p.cons.lookup x with | some d' => litEq d d' | none => false)) = true := h
      simp only [Bool.and_eq_true, Bool.not_eq_true'] at h
      obtain ⟨⟨h1, h2⟩, h3⟩ := h
      split at h3
      · rename_i d' q
        cases litEq_ok h3
        obtain ⟨v, u, m, r, k⟩ := f.cons x d q
        exact pe_imp (pe_glob (glC_ok f h1) m r h2) fun σ H Q h => t_val (K := X.K) (d := d) k h
      · cases h3
    | _ => cases h
  | .bin o a b, S, X, f => .ofE fun e h => by
    cases e with
    | BinOp x op y pos =>
      have h : (decide (op = o.op) && (ck p a S).e x && (ck p b S).e y) = true := h
      simp only [Bool.and_eq_true, decide_eq_true_eq] at h
      obtain ⟨⟨rfl, h1⟩, h2⟩ := h
      obtain ⟨r, h3, h4⟩ := bin_ok (X := X) o
      exact pe_aBin h3 h4 ((ev_ok a f).e x h1) ((ev_ok b f).e y h2)
    | _ => cases h
  | .cmp o a b, S, X, f => .ofET (fun e h => by
      cases e with
      | Compare x ops ys pos =>
        match ops, ys, h with
        | [op], [y], h =>
          have h : (decide (op = o.op) && !behindInMarks op y && (ck p a S).e x && (ck p b S).e y) = true := h
          simp only [Bool.and_eq_true, decide_eq_true_eq, Bool.not_eq_true'] at h
          obtain ⟨⟨⟨rfl, h0⟩, h1⟩, h2⟩ := h
          obtain ⟨r, h3, h4⟩ := cmp_ok f.hu o
          exact pe_aCmp h3 h4 ((ev_ok a f).e x h1) ((ev_ok b f).e y h2) h0
      | _ => cases h) (fun e h => by
      cases e with
      | Compare x ops ys pos =>
        match ops, ys, h with
        | [op], [y], h =>
          have h : (decide (op = o.op) && !behindInMarks op y && (ck p a S).e x && (ck p b S).e y) = true := h
          simp only [Bool.and_eq_true, decide_eq_true_eq, Bool.not_eq_true'] at h
          obtain ⟨⟨⟨rfl, h0⟩, h1⟩, h2⟩ := h
          obtain ⟨r, h3, h4⟩ := cmp_ok f.hu o
          exact pt_aCmp h3 h4 ((ev_ok a f).e x h1) ((ev_ok b f).e y h2) h0
      | _ => cases h)
  | .chn o o' a b c, S, X, f => .ofET (fun e h => by
      cases e with
      | Compare x ops ys pos =>
        match ops, ys, h with
        | [op, op'], [y, z], h =>
          have h : (decide (op = o.op) && decide (op' = o'.op) && !behindInMarks op' z && (ck p a S).e x && (ck p b S).e y && (ck p c S).e z) = true := h
          simp only [Bool.and_eq_true, decide_eq_true_eq, Bool.not_eq_true'] at h
          obtain ⟨⟨⟨⟨⟨rfl, rfl⟩, h0⟩, h1⟩, h2⟩, h3⟩ := h
          obtain ⟨r, h4, h5⟩ := cmp_ok f.hu o
          obtain ⟨r', h6, h7⟩ := cmp_ok f.hu o'
          exact pe_imp (pe_chain h4 h6 ((ev_ok a f).e x h1) ((ev_ok b f).e y h2) ((ev_ok c f).e z h3) (by show behindInMarks _ z = false; exact h0)) fun σ H Q h => t_chn h5 h7 h
      | _ => cases h) (fun e h => by
      cases e with
      | Compare x ops ys pos =>
        match ops, ys, h with
        | [op, op'], [y, z], h =>
          have h : (decide (op = o.op) && decide (op' = o'.op) && !behindInMarks op' z && (ck p a S).e x && (ck p b S).e y && (ck p c S).e z) = true := h
          simp only [Bool.and_eq_true, decide_eq_true_eq, Bool.not_eq_true'] at h
          obtain ⟨⟨⟨⟨⟨rfl, rfl⟩, h0⟩, h1⟩, h2⟩, h3⟩ := h
          obtain ⟨r, h4, h5⟩ := cmp_ok f.hu o
          obtain ⟨r', h6, h7⟩ := cmp_ok f.hu o'
          exact pt_imp (pt_chain h4 h6 ((ev_ok a f).e x h1) ((ev_ok b f).e y h2) ((ev_ok c f).e z h3) (by show behindInMarks _ z = false; exact h0)) fun σ H Q h => t_tB (fun _ h => t_chn h5 h7 h) h
      | _ => cases h)
  | .lrg a, S, X, f => .ofE fun e h => by
    match e, h with
    | .Call (.Name x px) [.Call (.Name y py) [z] [] pz] [] pos, h =>
      have h : (decide (x = ("list" : Str)) && decide (y = ("range" : Str)) && bltC p S.sc x && bltC p S.sc y && noStar z && (ck p a S).e z) = true := h
      simp only [Bool.and_eq_true, decide_eq_true_eq] at h
      obtain ⟨⟨⟨⟨⟨rfl, rfl⟩, h1⟩, h2⟩, h3⟩, h4⟩ := h
      obtain ⟨g, m⟩ := bltC_ok f h1
      obtain ⟨g2, m2⟩ := bltC_ok f h2
      exact pe_aLrg f.calm g m g2 m2 ((ev_ok a f).e z h4) h3
  | .ix a b, S, X, f => .ofE fun e h => by
    cases e with
    | Subscript x y pos =>
      have h : (plainIx y && (ck p a S).e x && (ck p b S).e y) = true := h
      simp only [Bool.and_eq_true] at h
      exact pe_aIx ((ev_ok a f).e x h.1.2) ((ev_ok b f).e y h.2) (plainIx_ok h.1.1)
    | _ => cases h
  | .sl a lo hi, S, X, f => .ofE fun e h => by
    cases e with
    | Subscript x y pos =>
      cases y with
      | Slice l hh st p2 =>
        cases st with
        | none =>
          have h : ((ck p a S).e x && optC lo (ck p lo S).e l && optC hi (ck p hi S).e hh) = true := h
          simp only [Bool.and_eq_true] at h
          exact pe_aSl ((ev_ok a f).e x h.1.1) (opt_ok (ev_ok lo f).e h.1.2) (opt_ok (ev_ok hi f).e h.2)
        | some s => cases h
      | _ => cases h
    | _ => cases h
  | .rev a, S, X, f => .ofE fun e h => by
    cases e with
    | Subscript x y pos =>
      match y, h with
      | .Slice none none (some s) p2, h =>
        have h : (neg1 s && (ck p a S).e x) = true := h
        rw [Bool.and_eq_true] at h
        obtain ⟨h1, h2⟩ := h
        unfold neg1 at h1
        split at h1
        · exact pe_aRev ((ev_ok a f).e x h2)
        · cases h1
    | _ => cases h
  | .neg a, S, X, f => .ofE fun e h => by
    cases e with
    | UnaryOp op x pos =>
      cases op with
      | USub => exact pe_aNeg ((ev_ok a f).e x h)
      | _ => cases h
    | _ => cases h
  | .nil, S, X, f => .ofL (fun es h => by
      cases es with
      | nil => exact ⟨rfl, pa_aNilR, pa_aNilA⟩
      | cons e es => cases h) (fun es h => by
      cases es with
      | nil => exact pa_aNilI
      | cons e es => cases h) (fun kws h => by
      cases kws with
      | nil => exact ⟨pk_aNilA, fun G as G1 e => by cases e; rfl⟩
      | cons kw kws => cases h)
  | .cons a l, S, X, f => .ofL (fun es h => by
      cases es with
      | nil => cases h
      | cons e es =>
        have h : (noStar e && (ck p a S).e e && (ck p l S).l es) = true := h
        simp only [Bool.and_eq_true] at h
        have he := (ev_ok a f).e e h.1.2
        obtain ⟨h1, h2, h3⟩ := (ev_ok l f).l es h.2
        exact ⟨by show (noStar e && noStars es) = true; rw [h.1.1, h1]; rfl, pa_aCons he h2 h.1.1, pa_aConsA he h3 h.1.1⟩) (fun es h => by
      cases es with
      | nil => cases h
      | cons e es =>
        have h : (noStar e && (ck p a S).e e && (ck p l S).m es) = true := h
        simp only [Bool.and_eq_true] at h
        exact pa_aConsI ((ev_ok a f).e e h.1.2) ((ev_ok l f).m es h.2) h.1.1) (fun kws h => by
      cases kws with
      | nil => cases h
      | cons kw kws =>
        obtain ⟨nm, e, kp⟩ := kw
        have h : (noStar e && (ck p a S).e e && (ck p l S).l (kws.map (·.value))) = true := h
        simp only [Bool.and_eq_true] at h
        obtain ⟨h1, h2⟩ := (ev_ok l f).k kws h.2
        refine ⟨pk_aConsA ((ev_ok a f).e e h.1.2) h1, fun G as G1 q => ?_⟩
        have q : aConsA (ev cal a).e (ev cal l).a G = some (as, G1) := q
        unfold aConsA at q
        split at q
        · cases q
        · split at q
          · cases q
          · split at q
            · cases q
            · rename_i q3
              cases q
              exact congrArg (· + 1) (h2 _ _ _ q3))
  | .conw a l, S, X, f => .ofL (fun es h => by cases h) (fun es h => by
      cases es with
      | nil => cases h
      | cons e es =>
        have h : (noStar e && (ck p a S).e e && (ck p l S).m es) = true := h
        simp only [Bool.and_eq_true] at h
        exact pa_aConsI ((ev_ok a f).e e h.1.2) ((ev_ok l f).m es h.2) h.1.1) (fun kws h => by cases h)
  | .tup l, S, X, f => .ofE fun e h => by
    cases e with
    | Tuple es k pos => exact pe_aTup ((ev_ok l f).l es h).2.2
    | _ => cases h
  | .lst l, S, X, f => .ofE fun e h => by
    cases e with
    | List es pos => exact pe_aLst ((ev_ok l f).l es h).2.2
    | _ => cases h
  | .deal a b, S, X, f => .ofE fun e h => by
    cases e with
    | List es pos =>
      match es, h with
      | [x, y], h =>
        have h : (noStar x && noStar y && (ck p a S).e x && (ck p b S).e y) = true := h
        simp only [Bool.and_eq_true] at h
        exact pe_aDeal ((ev_ok a f).e x h.1.2) ((ev_ok b f).e y h.2) h.1.1.1 h.1.1.2
    | _ => cases h
  | .blt b l, S, X, f => .ofE fun e h => by
    match e, h with
    | .Call (.Name x px) (y :: es) [] pos, h =>
      have h : (decide (x = b.name) && bltC p S.sc x && (ck p l S).l (y :: es)) = true := h
      simp only [Bool.and_eq_true, decide_eq_true_eq] at h
      obtain ⟨⟨rfl, h1⟩, h2⟩ := h
      obtain ⟨g, m⟩ := bltC_ok f h1
      obtain ⟨h3, h4, _⟩ := (ev_ok l f).l _ h2
      exact pe_aBlt f.calm g m h3 h4
  | .isi ts a, S, X, f => .ofE fun e h => by
    match e, h with
    | .Call (.Name x px) [y, .Name z p2] [] pos, h =>
      have h : (decide (x = ("isinstance" : Str)) && bltC p S.sc x && noStar y && (ck p a S).e y && tyC p S.sc [.Name z p2] ts) = true := h
      simp only [Bool.and_eq_true, decide_eq_true_eq] at h
      obtain ⟨⟨⟨⟨rfl, h1⟩, h2⟩, h3⟩, h4⟩ := h
      obtain ⟨g, m⟩ := bltC_ok f h1
      have h5 := tyC_ok f h4
      match ts, h5 with
      | [t], h5 => exact pe_isi1 g m ((ev_ok a f).e y h3) h2 h5
      | [], h5 => exact h5.elim
      | _ :: _ :: _, h5 => exact h5.2.2.2.elim
    | .Call (.Name x px) [y, .Tuple es k p2] [] pos, h =>
      have h : (decide (x = ("isinstance" : Str)) && bltC p S.sc x && noStar y && (ck p a S).e y && tyC p S.sc es ts && decide (ts.length ≤ 100)) = true := h
      simp only [Bool.and_eq_true, decide_eq_true_eq] at h
      obtain ⟨⟨⟨⟨⟨rfl, h1⟩, h2⟩, h3⟩, h4⟩, h5⟩ := h
      obtain ⟨g, m⟩ := bltC_ok f h1
      exact pe_isiT g m ((ev_ok a f).e y h3) h2 (tyC_ok f h4) h5
  | .call i n l, S, X, f => .ofE fun e h => by
    match e, h with
    | .Call (.Name x px) es [] pos, h =>
      have h : (decide (p.fns[i]? = some (x, n)) && glC S.sc x && !(x == ("__debug__" : Str)) && (ck p l S).l es && (!es.isEmpty || (decide (n = 0) && isNil l))) = true := h
      simp only [Bool.and_eq_true, decide_eq_true_eq, Bool.not_eq_true', Bool.or_eq_true] at h
      obtain ⟨⟨⟨⟨h1, h2⟩, h3⟩, h4⟩, h5⟩ := h
      have F := f.fns i x n h1
      obtain ⟨h6, _, h7⟩ := (ev_ok l f).l _ h4
      cases es with
      | nil =>
        rcases h5 with h5 | h5
        · cases h5
        · obtain ⟨rfl, h5⟩ := h5
          cases l with
          | nil => exact pe_aCall0 F (glC_ok f h2) h3
          | _ => cases h5
      | cons e es => exact pe_aCall F (glC_ok f h2) h3 h6 h7
  | .kall i n ks perm l, S, X, f => .ofE fun e h => by
    match e, h with
    | .Call (.Name x px) [] kws pos, h =>
      have h : (decide (p.fns[i]? = some (x, n)) && glC S.sc x && !(x == ("__debug__" : Str)) && decide ((i, ks, perm) ∈ p.kw) && kwsC kws ks && (ck p l S).l (kws.map (·.value))) = true := h
      simp only [Bool.and_eq_true, decide_eq_true_eq, Bool.not_eq_true'] at h
      obtain ⟨⟨⟨⟨⟨h1, h2⟩, h3⟩, h4⟩, h5⟩, h6⟩ := h
      obtain ⟨h7, h8⟩ := (ev_ok l f).k kws h6
      exact pe_aCallK (f.kw i ks perm x n h4 h1) (glC_ok f h2) h3 h5 h7 h8
  | .ite t a b, S, X, f => .ofE fun e h => by
    cases e with
    | IfExp c x y pos =>
      have h : ((ck p t S).t c && (ck p a S).e x && (ck p b S).e y) = true := h
      simp only [Bool.and_eq_true] at h
      exact pe_aIte ((ev_ok t f).t c h.1.1) ((ev_ok a f).e x h.1.2) ((ev_ok b f).e y h.2)
    | _ => cases h
  | .lc own it tg c el, S, X, f => .ofE fun e h => by
    match e, h with
    | .ListComp x [⟨t, i, ifs, as⟩] scope pos, h =>
      have h : (decide (as = 0) && (ck p it S).i i && noSet i && blkC S.N S.sc scope (ownS S.N own) && decide own.Nodup && decide (∀ k ∈ (tv tg).s, k ∈ own) && (ckG (relSc S scope) tg).e t && (ck p el (relSc S scope)).e x
        && ifsC c (ck p c (relSc S scope)).t ifs) = true := h
      simp only [Bool.and_eq_true, decide_eq_true_eq] at h
      obtain ⟨⟨⟨⟨⟨⟨⟨⟨rfl, h1⟩, h2⟩, h3⟩, h4⟩, h5⟩, h6⟩, h7⟩, h8⟩ := h
      have ok := blkOk_by h3
      have e2 : (ownS S.N own).map (·.2) = own := by
        unfold ownS
        rw [List.map_map]
        exact List.map_id _
      have hb := fun s H C cl fp => f.blk ok s H C cl fp
      have R := pe_aLc (pos := pos) (ifs := ifs) (fc := if isNop c then aYes else (ev cal c).t) f.calm (by rw [f.N]; exact f.nd) ((ev_ok it f).i t i h1) (by rw [f.N, f.sc]; exact ok) (by rw [e2]; exact h4) (by rw [e2]; exact h5)
        (fun s H C cl fp => ((ckG_ok tg (hb s H C cl fp)).1 t h6).2) (fun s H C cl fp => by
          unfold ifsC at h8
          split at h8
          · rw [if_pos h8]; exact pts_aYes
          · rw [Bool.and_eq_true, Bool.not_eq_true'] at h8
            rw [if_neg (by rw [h8.1]; decide)]
            exact pts_one ((ev_ok c (hb s H C cl fp)).t _ h8.2)
          · cases h8) (fun s H C cl fp => (ev_ok el (hb s H C cl fp)).e x h7) (noSet_ok h2 _)
      rw [e2] at R
      exact R
  | .rng n l, S, X, f => {
      e := fun e h => by cases h
      t := fun e h => by cases h
      l := fun e h => by cases h
      m := fun e h => by cases h
      k := fun e h => by cases h
      wt := fun _ e _ h => by cases h
      we := fun _ e _ h => by cases h
      i := fun tg e h => by
        match e, h with
        | .Call (.Name x px) es [] pos, h =>
          have h : (decide (x = ("range" : Str)) && bltC p S.sc x && decide (es.length = n) && decide (1 ≤ n) && decide (n ≤ 3) && (ck p l S).l es) = true := h
          simp only [Bool.and_eq_true, decide_eq_true_eq] at h
          obtain ⟨⟨⟨⟨⟨rfl, h1⟩, h2⟩, h3⟩, h4⟩, h5⟩ := h
          obtain ⟨g, m⟩ := bltC_ok f h1
          obtain ⟨h6, h7, _⟩ := (ev_ok l f).l _ h5
          subst h2
          match es, h3, h4, h6, h7 with
          | [a], _, _, h6, h7 => exact pi_aRng1 g m (by have h6 : (noStar a && true) = true := h6; rw [Bool.and_eq_true] at h6; exact h6.1) h7
          | [a, b], _, _, h6, h7 =>
            have h6 : (noStar a && (noStar b && true)) = true := h6
            rw [Bool.and_eq_true, Bool.and_eq_true] at h6
            exact pi_aRng2 g m h6.1 h6.2.1 h7
          | [a, b, c], _, _, h6, h7 => exact pi_aRng3 g m h6 h7 }
  | .app o l, S, X, f => .ofE fun e h => by
    match e, h with
    | .Call (.Attribute x y ap) [z] [] cp, h =>
      have h : (decide (y = ("append" : Str)) && (ck p o S).e x && (ck p l S).l [z] && recv x && (ap.endLine == cp.line)) = true := h
      simp only [Bool.and_eq_true, decide_eq_true_eq] at h
      obtain ⟨⟨⟨⟨rfl, h1⟩, h2⟩, h3⟩, h4⟩ := h
      obtain ⟨h5, h6, h7⟩ := (ev_ok l f).l _ h2
      have h5 : (noStar z && true) = true := h5
      rw [Bool.and_eq_true] at h5
      exact pe_aApp ((ev_ok o f).e x h1) h7 h3 h5.1 h4
  | .ext o l, S, X, f => .ofE fun e h => by
    match e, h with
    | .Call (.Attribute x y ap) [z] [] cp, h =>
      have h : (decide (y = ("extend" : Str)) && (ck p o S).e x && (ck p l S).l [z] && recv x && (ap.endLine == cp.line)) = true := h
      simp only [Bool.and_eq_true, decide_eq_true_eq] at h
      obtain ⟨⟨⟨⟨rfl, h1⟩, h2⟩, h3⟩, h4⟩ := h
      obtain ⟨h5, h6, h7⟩ := (ev_ok l f).l _ h2
      have h5 : (noStar z && true) = true := h5
      rw [Bool.and_eq_true] at h5
      exact pe_aExt ((ev_ok o f).e x h1) h6 h3 h5.1 h4
  | .pop o, S, X, f => .ofE fun e h => by
    match e, h with
    | .Call (.Attribute x y ap) [] [] cp, h =>
      have h : (decide (y = ("pop" : Str)) && (ck p o S).e x && recv x && (ap.endLine == cp.line)) = true := h
      simp only [Bool.and_eq_true, decide_eq_true_eq] at h
      obtain ⟨⟨⟨rfl, h1⟩, h3⟩, h4⟩ := h
      exact pe_aPop ((ev_ok o f).e x h1) h3 h4
  | .popAt o l, S, X, f => .ofE fun e h => by
    match e, h with
    | .Call (.Attribute x y ap) [z] [] cp, h =>
      have h : (decide (y = ("pop" : Str)) && (ck p o S).e x && (ck p l S).l [z] && recv x && (ap.endLine == cp.line)) = true := h
      simp only [Bool.and_eq_true, decide_eq_true_eq] at h
      obtain ⟨⟨⟨⟨rfl, h1⟩, h2⟩, h3⟩, h4⟩ := h
      obtain ⟨h5, h6, h7⟩ := (ev_ok l f).l _ h2
      have h5 : (noStar z && true) = true := h5
      rw [Bool.and_eq_true] at h5
      exact pe_aPopAt ((ev_ok o f).e x h1) h6 h3 h5.1 h4
  | .join s el, S, X, f => .ofE fun e h => by
    match e, h with
    | .Call (.Attribute (.Constant (.str s') j pc) y ap) [z] [] cp, h =>
      have h : (decide (s' = s) && decide (y = ("join" : Str)) && (ck p el S).e z && noStar z && (ap.endLine == cp.line)) = true := h
      simp only [Bool.and_eq_true, decide_eq_true_eq] at h
      obtain ⟨⟨⟨⟨rfl, rfl⟩, h1⟩, h2⟩, h3⟩ := h
      exact pe_aJoin (constOk_ok (d := .str s') (decide_eq_true rfl)) ((ev_ok el f).e z h1) rfl h2 h3 fun G r G1 e => by cases e; exact ⟨_, rfl⟩
  | .not a, S, X, f =>
    have hE : ∀ e, (match e with | .UnaryOp .Not x _ => (ck p a S).e x | _ => false) = true → PE X e (tOf X.K (aB (aNot (aT (ev cal a).e)))) := fun e h => by
      match e, h with
      | .UnaryOp .Not x pos, h => exact pe_imp (pe_not ((ev_ok a f).e x h)) fun σ H Q h => t_vNot h
    have hT : ∀ e, (match e with | .UnaryOp .Not x _ => (ck p a S).t x | _ => false) = true → PT X e (tOfT X.K (aNot (ev cal a).t)) := fun e h => by
      match e, h with
      | .UnaryOp .Not x pos, h => exact pt_imp (pt_not ((ev_ok a f).t x h)) fun σ H Q h => t_not h
    { e := hE, t := hT, i := fun _ e h => (by cases h), l := fun e h => (by cases h), m := fun e h => (by cases h), k := fun e h => (by cases h), wt := one_t hT, we := one_e hE }
  | .and a b, S, X, f =>
    have hw : ∀ x y r pos, ((ck p a S).t x && (ck p b S).wt .And (y :: r)) = true → PW X (.BoolOp .And (x :: y :: r) pos) (tOfT X.K (aAnd (ev cal a).t (ev cal b).t)) := fun x y r pos h => by
      rw [Bool.and_eq_true] at h
      exact ⟨fun wh pins s σ H Q I q => (pw_and ((ev_ok a f).t x h.1) ((ev_ok b f).wt .And _ pos h.2)).run wh pins s σ H Q I (t_and q)⟩
    have hE : ∀ x y r pos, ((ck p a S).e x && (ck p b S).we .And (y :: r)) = true → PE X (.BoolOp .And (x :: y :: r) pos) (tOf X.K (aB (aAnd (aT (ev cal a).e) (aT (ev cal b).e)))) := fun x y r pos h => by
      rw [Bool.and_eq_true] at h
      exact pe_imp (pe_and ((ev_ok a f).e x h.1) ((ev_ok b f).we .And _ pos h.2)) fun σ H Q h => t_vAnd h
    { e := fun e h => by
        match e, h with
        | .BoolOp .And (x :: y :: r) pos, h => exact hE x y r pos h
      t := fun e h => by
        match e, h with
        | .BoolOp .And (x :: y :: r) pos, h => exact (hw x y r pos h).pt
      i := fun _ e h => (by cases h), l := fun e h => (by cases h), m := fun e h => (by cases h), k := fun e h => (by cases h)
      wt := fun o es pos h => by
        match o, es, h with
        | .And, x :: y :: r, h => exact hw x y r pos h
        | .And, [.BoolOp .And (x :: y :: r) p2], h => exact pw_and1 (hw x y r p2 h).pt
        | .Or, [.BoolOp .And (x :: y :: r) p2], h => exact pw_or1 (hw x y r p2 h).pt
      we := fun o es pos h => by
        match o, es, h with
        | .And, x :: y :: r, h => exact hE x y r pos h
        | .And, [.BoolOp .And (x :: y :: r) p2], h => exact pe_one (hE x y r p2 h)
        | .Or, [.BoolOp .And (x :: y :: r) p2], h => exact pe_one (hE x y r p2 h) }
  | .or a b, S, X, f =>
    have hw : ∀ x y r pos, ((ck p a S).t x && (ck p b S).wt .Or (y :: r)) = true → PW X (.BoolOp .Or (x :: y :: r) pos) (tOfT X.K (aOr (ev cal a).t (ev cal b).t)) := fun x y r pos h => by
      rw [Bool.and_eq_true] at h
      exact ⟨fun wh pins s σ H Q I q => (pw_or ((ev_ok a f).t x h.1) ((ev_ok b f).wt .Or _ pos h.2)).run wh pins s σ H Q I (t_or q)⟩
    have hE : ∀ x y r pos, ((ck p a S).e x && (ck p b S).we .Or (y :: r)) = true → PE X (.BoolOp .Or (x :: y :: r) pos) (tOf X.K (aB (aOr (aT (ev cal a).e) (aT (ev cal b).e)))) := fun x y r pos h => by
      rw [Bool.and_eq_true] at h
      exact pe_imp (L2.pe_or ((ev_ok a f).e x h.1) ((ev_ok b f).we .Or _ pos h.2)) fun σ H Q h => t_vOr h
    { e := fun e h => by
        match e, h with
        | .BoolOp .Or (x :: y :: r) pos, h => exact hE x y r pos h
      t := fun e h => by
        match e, h with
        | .BoolOp .Or (x :: y :: r) pos, h => exact (hw x y r pos h).pt
      i := fun _ e h => (by cases h), l := fun e h => (by cases h), m := fun e h => (by cases h), k := fun e h => (by cases h)
      wt := fun o es pos h => by
        match o, es, h with
        | .Or, x :: y :: r, h => exact hw x y r pos h
        | .And, [.BoolOp .Or (x :: y :: r) p2], h => exact pw_and1 (hw x y r p2 h).pt
        | .Or, [.BoolOp .Or (x :: y :: r) p2], h => exact pw_or1 (hw x y r p2 h).pt
      we := fun o es pos h => by
        match o, es, h with
        | .Or, x :: y :: r, h => exact hE x y r pos h
        | .And, [.BoolOp .Or (x :: y :: r) p2], h => exact pe_one (hE x y r p2 h)
        | .Or, [.BoolOp .Or (x :: y :: r) p2], h => exact pe_one (hE x y r p2 h) }
end
end Z

set_option Elab.async false
set_option linter.all false
set_option maxRecDepth 100000
set_option maxHeartbeats 4000000
/-! Z14: statements, defs -/
namespace Z
open PySem L2 PyProof.Rows
section
variable {p : Pg} {cal : Nat → Sm} {S : Sc} {X : Cx}
theorem pureB_ok {m : Sem Bool} {b : Bool} (h : pureB m = some b) : m = pure b := by
  unfold pureB at h
  split at h
  · cases h; rfl
  · cases h
theorem pureN_ok {m : Sem (Option (List Str))} {b : Option (List Str)} (h : pureN m = some b) : m = pure b := by
  unfold pureN at h
  split at h
  · cases h; rfl
  · cases h
theorem sw_env (e : Expr) (t : Option Expr) (l : Nat) (env : Env) : swapsWith e t l env = swapsWith e t l (envS env.scope) := rfl
theorem st_env (ts : List Expr) (e : Expr) (env : Env) : swappedStores ts e env = swappedStores ts e (envS env.scope) := rfl
theorem namesC_ok (f : Fits p cal S X) : ∀ {es : List Expr} {is : List Nat}, namesC S es is = true → PNs X es is := by
  intro es
  induction es with
  | nil =>
    intro is h
    cases is with
    | nil => exact .nil
    | cons i is => cases h
  | cons e es ih =>
    intro is h
    cases is with
    | nil => cases e <;> cases h
    | cons i is =>
      cases e with
      | Name x pos =>
        have h : (decide (S.N[i]? = some x) && stC S x && namesC S es is) = true := h
        simp only [Bool.and_eq_true, decide_eq_true_eq] at h
        obtain ⟨h1, h2⟩ := stC_ok f h.1.2
        exact .cons (by rw [f.N]; exact h.1.1) h1 h2 (ih h.2)
      | _ => cases h
theorem names_ix (f : Fits p cal S X) {es : List Expr} {is : List Nat} (h : PNs X es is) : is.length = es.length := by
  induction h with
  | nil => rfl
  | cons _ _ _ _ ih => exact congrArg (· + 1) ih
theorem asg_lc {own : List Nat} {it c el : Ex} {tg : Tg} {ow : Bool} {i : Nat} {y : Str} {py pos : Pos} {v : Expr} (f : Fits p cal S X) (hi : S.N[i]? = some y) (hl : lcl S.sc y = true) (h : (ck p (.lc own it tg c el) S).e v = true) (hs : swapsWith v (some (.Name y py)) pos.line X.env = pure true) :
    PS X (.Assign [.Name y py] v pos) (tOfS X.K (aAsg ow i (ev cal (.lc own it tg c el)).e)) := by
  match v, h with
  | .ListComp x [⟨t, ie, ifs, as⟩] scope vp, h =>
    have h : (decide (as = 0) && (ck p it S).i ie && noSet ie && blkC S.N S.sc scope (ownS S.N own) && decide own.Nodup && decide (∀ k ∈ (tv tg).s, k ∈ own) && (ckG (relSc S scope) tg).e t && (ck p el (relSc S scope)).e x
      && ifsC c (ck p c (relSc S scope)).t ifs) = true := h
    simp only [Bool.and_eq_true, decide_eq_true_eq] at h
    obtain ⟨⟨⟨⟨⟨⟨⟨⟨rfl, h1⟩, h2⟩, h3⟩, h4⟩, h5⟩, h6⟩, h7⟩, h8⟩ := h
    have ok := blkOk_by h3
    have e2 : (ownS S.N own).map (·.2) = own := by
      unfold ownS
      rw [List.map_map]
      exact List.map_id _
    have hb := fun s H C cl fp => f.blk ok s H C cl fp
    have R := ps_aSetLc (ow := ow) (fc := if isNop c then aYes else (ev cal c).t) f.calm (by rw [f.N]; exact f.nd) (by rw [f.N]; exact hi) (by rw [f.sc]; exact lcl_ok hl) hs ((ev_ok it f).i t ie h1) (by rw [f.N, f.sc]; exact ok) (by rw [e2]; exact h4) (by rw [e2]; exact h5)
      (fun s H C cl fp => ((ckG_ok tg (hb s H C cl fp)).1 t h6).2) (fun s H C cl fp => by
        unfold ifsC at h8
        split at h8
        · rw [if_pos h8]; exact pts_aYes
        · rw [Bool.and_eq_true, Bool.not_eq_true'] at h8
          rw [if_neg (by rw [h8.1]; decide)]
          exact pts_one ((ev_ok c (hb s H C cl fp)).t _ h8.2)
        · cases h8) (fun s H C cl fp => (ev_ok el (hb s H C cl fp)).e x h7) (noSet_ok h2 _)
    rw [e2] at R
    exact R
theorem sub_assign {o i : Expr} {pos : Pos} (h : plainIx i = true) (env : Env) (v : Value) : assign (.Subscript o i pos) env v = (do
      let ov ← holding [v] (eval o env)
      let iv ← holding [v, ov] (eval i env)
      standAt pos
      holding [v, ov, iv] (setItem ov iv v)
      release [v, ov, iv] []) := by
  cases i <;> first | rfl | cases h
theorem cs_asg (f : Fits p cal S X) {ow : Bool} {i : Nat} {e : Ex} (s : Stmt) (h : (cs p S (.asg ow i e)).s s = true) : PS X s (tOfS X.K (sv cal (.asg ow i e))) := by
  cases s with
  | Assign ts v pos =>
    match ts, h with
    | [.Name x px], h =>
      have h : (decide (S.N[i]? = some x) && stC S x && (ck p e S).e v && (match pureB (swapsWith v (some (.Name x px)) pos.line (envS S.sc)) with
        | some false => true
        | some true => lcl S.sc x && aCkT e
        | none => false)) = true := h
      simp only [Bool.and_eq_true, decide_eq_true_eq] at h
      obtain ⟨⟨⟨h1, h2⟩, h3⟩, h4⟩ := h
      obtain ⟨h5, h6⟩ := stC_ok f h2
      split at h4
      · rename_i q
        exact ps_aAsg (by rw [f.N]; exact f.nd) (by rw [f.N]; exact h1) h5 h6 ((ev_ok e f).e v h3) (by rw [sw_env, f.sc]; exact pureB_ok q)
      · rename_i q
        simp only [Bool.and_eq_true] at h4
        cases e with
        | lc own it tg c el => exact asg_lc f h1 h4.1 h3 (by rw [sw_env, f.sc]; exact pureB_ok q)
        | _ => cases h4.2
      · cases h4
  | _ => cases h
theorem cs_par (f : Fits p cal S X) {is : List Nat} {g : Ex} (s : Stmt) (h : (cs p S (.par is g)).s s = true) : PS X s (tOfS X.K (sv cal (.par is g))) := by
  cases s with
  | Assign tts vv pos =>
    match tts, vv, h with
    | [.Tuple ts k pt], .Tuple es k2 pt2, h =>
      have h : (namesC S ts is && (ck p g S).m es && (match pureN (swappedStores [.Tuple ts k pt] (.Tuple es k2 pt2) (envS S.sc)) with
        | some none => decide (is.length ≤ 100)
        | some (some ns) => swpC S is ns ts es
        | none => false)) = true := h
      simp only [Bool.and_eq_true] at h
      obtain ⟨⟨h1, h2⟩, h3⟩ := h
      have hn := namesC_ok f h1
      have hm := (ev_ok g f).m es h2
      split at h3
      · rename_i q
        exact ps_aParT f.calm (by rw [f.N]; exact f.nd) hn hm (of_decide_eq_true h3) (by rw [st_env, f.sc]; exact pureN_ok q)
      · rename_i ns q
        have q' := pureN_ok q
        rw [← f.sc, ← st_env] at q'
        have hl := names_ix f hn
        unfold swpC at h3
        split at h3
        · rename_i x px y py a b
          simp only [Bool.and_eq_true, decide_eq_true_eq] at h3
          obtain ⟨⟨⟨rfl, nd⟩, l1⟩, l2⟩ := h3
          match is, hl, hn, nd with
          | [i, j], _, .cons i1 _ _ (.cons i2 _ _ .nil), nd => exact ps_aPar2 f.calm (by rw [f.N]; exact f.nd) i1 i2 (by simp at nd; exact nd) (by rw [f.sc]; exact lcl_ok l1) (by rw [f.sc]; exact lcl_ok l2) hm q'
        · rename_i x px y py z pz a b c
          simp only [Bool.and_eq_true, decide_eq_true_eq] at h3
          obtain ⟨⟨⟨⟨rfl, nd⟩, l1⟩, l2⟩, l3⟩ := h3
          match is, hl, hn, nd with
          | [i, j, k], _, .cons i1 _ _ (.cons i2 _ _ (.cons i3 _ _ .nil)), nd =>
            simp at nd
            exact ps_aPar3 f.calm (by rw [f.N]; exact f.nd) i1 i2 i3 nd.1.1 nd.1.2 nd.2 (by rw [f.sc]; exact lcl_ok l1) (by rw [f.sc]; exact lcl_ok l2) (by rw [f.sc]; exact lcl_ok l3) hm q'
        · cases h3
      · cases h3
  | _ => cases h
theorem cs_unp (f : Fits p cal S X) {tg : Tg} {e : Ex} (s : Stmt) (h : (cs p S (.unp tg e)).s s = true) : PS X s (tOfS X.K (sv cal (.unp tg e))) := by
  cases s with
  | Assign tts v pos =>
    match tts, h with
    | [t], h =>
      have h : (notName t && noStar t && (ckG S tg).e t && (ck p e S).e v && (match pureN (swappedStores [t] v (envS S.sc)) with
        | some none => true
        | _ => false)) = true := h
      simp only [Bool.and_eq_true] at h
      obtain ⟨⟨⟨⟨h1, h2⟩, h3⟩, h4⟩, h5⟩ := h
      split at h5
      · rename_i q
        exact ps_aUnp ((ev_ok e f).e v h4) ((ckG_ok tg f).1 t h3).2 h1 h2 (by rw [st_env, f.sc]; exact pureN_ok q)
      · cases h5
  | _ => cases h
theorem cs_sub (f : Fits p cal S X) {o i e : Ex} (s : Stmt) (h : (cs p S (.sub o i e)).s s = true) : PS X s (tOfS X.K (sv cal (.sub o i e))) := by
  cases s with
  | Assign tts v pos =>
    match tts, h with
    | [.Subscript x y px], h =>
      have h : (plainIx y && (ck p e S).e v && (ck p o S).e x && (ck p i S).e y) = true := h
      simp only [Bool.and_eq_true] at h
      exact ps_aSub ((ev_ok e f).e v h.1.1.2) ((ev_ok o f).e x h.1.2) ((ev_ok i f).e y h.2) (sub_assign h.1.1.1 X.env)
  | _ => cases h
theorem cs_aug (f : Fits p cal S X) {o : BO} {i : Nat} {e : Ex} (s : Stmt) (h : (cs p S (.aug o i e)).s s = true) : PS X s (tOfS X.K (sv cal (.aug o i e))) := by
  cases s with
  | AugAssign tt op v pos =>
    match tt, h with
    | .Name x px, h =>
      have h : (decide (op = o.op) && augO o && decide (S.N[i]? = some x) && stC S x && (ck p e S).e v) = true := h
      simp only [Bool.and_eq_true, decide_eq_true_eq] at h
      obtain ⟨⟨⟨⟨rfl, h1⟩, h2⟩, h3⟩, h4⟩ := h
      obtain ⟨h5, h6⟩ := stC_ok f h3
      obtain ⟨r, h7, h8⟩ := aug_ok (X := X) h1
      exact ps_aAug (by rw [f.N]; exact f.nd) (by rw [f.N]; exact h2) h5 h6 ((ev_ok e f).e v h4) h7 h8
  | _ => cases h
theorem cs_drop (f : Fits p cal S X) {e : Ex} (s : Stmt) (h : (cs p S (.drop e)).s s = true) : PS X s (tOfS X.K (sv cal (.drop e))) := by
  cases s with
  | Expr v pos =>
    have h : (noComp v && (ck p e S).e v) = true := h
    rw [Bool.and_eq_true] at h
    exact ps_aDrop ((ev_ok e f).e v h.2) h.1
  | _ => cases h
theorem cs_pass (f : Fits p cal S X)  (s : Stmt) (h : (cs p S .pass).s s = true) : PS X s (tOfS X.K (sv cal .pass)) := by
  cases s with
  | Pass p => exact ps_aPass
  | _ => cases h
theorem cs_brk (f : Fits p cal S X)  (s : Stmt) (h : (cs p S .brk).s s = true) : PS X s (tOfS X.K (sv cal .brk)) := by
  cases s with
  | Break p => exact ps_aBreak
  | _ => cases h
theorem cs_cnt (f : Fits p cal S X)  (s : Stmt) (h : (cs p S .cnt).s s = true) : PS X s (tOfS X.K (sv cal .cnt)) := by
  cases s with
  | Continue p => exact ps_aCont
  | _ => cases h
theorem cs_retN (f : Fits p cal S X)  (s : Stmt) (h : (cs p S .retN).s s = true) : PS X s (tOfS X.K (sv cal .retN)) := by
  cases s with
  | Return vv p =>
    match vv, h with
    | none, h =>exact ps_aRetN
  | _ => cases h
theorem cs_ret (f : Fits p cal S X) {e : Ex} (s : Stmt) (h : (cs p S (.ret e)).s s = true) : PS X s (tOfS X.K (sv cal (.ret e))) := by
  cases s with
  | Return vv p =>
    match vv, h with
    | some v, h =>exact ps_aRet ((ev_ok e f).e v h)
  | _ => cases h
theorem cs_ok (f : Fits p cal S X) (hp : PassesOwn (model X.prog X.w) X.A X.env X.xe) : ∀ (x : St), (∀ s : Stmt, (cs p S x).s s = true → PS X s (tOfS X.K (sv cal x))) ∧ (∀ l : List Stmt, (cs p S x).l l = true → PSs X l (tOfS X.K (sv cal x)))
  | .nil => ⟨fun s h => (by cases h), fun l h => by
      cases l with
      | nil => exact pss_aNil
      | cons s l => cases h⟩
  | .next a r => ⟨fun s h => (by cases h), fun l h => by
      cases l with
      | nil => cases h
      | cons s l =>
        have h : ((cs p S a).s s && (cs p S r).l l) = true := h
        rw [Bool.and_eq_true] at h
        exact pss_aCons ((cs_ok f hp a).1 s h.1) ((cs_ok f hp r).2 l h.2)⟩
  | .frz i r => ⟨fun s h => (by cases h), fun l h => pss_aFrz ((cs_ok f hp r).2 l h)⟩
  | .fgt vs r => ⟨fun s h => (by cases h), fun l h => pss_aFgt ((cs_ok f hp r).2 l h)⟩
  | .asg ow i e => ⟨cs_asg f, fun l h => (by cases h)⟩
  | .par is g => ⟨cs_par f, fun l h => (by cases h)⟩
  | .unp tg e => ⟨cs_unp f, fun l h => (by cases h)⟩
  | .sub o i e => ⟨cs_sub f, fun l h => (by cases h)⟩
  | .aug o i e => ⟨cs_aug f, fun l h => (by cases h)⟩
  | .drop e => ⟨cs_drop f, fun l h => (by cases h)⟩
  | .pass  => ⟨cs_pass f, fun l h => (by cases h)⟩
  | .brk  => ⟨cs_brk f, fun l h => (by cases h)⟩
  | .cnt  => ⟨cs_cnt f, fun l h => (by cases h)⟩
  | .retN  => ⟨cs_retN f, fun l h => (by cases h)⟩
  | .ret e => ⟨cs_ret f, fun l h => (by cases h)⟩
  | .iff c a b => ⟨fun s h => by
      cases s with
      | If x y z _ =>
        have h : ((ck p c S).t x && (cs p S a).l y && (cs p S b).l z) = true := h
        simp only [Bool.and_eq_true] at h
        exact ps_aIf ((ev_ok c f).t x h.1.1) ((cs_ok f hp a).2 y h.1.2) ((cs_ok f hp b).2 z h.2)
      | _ => (cases h), fun l h => (by cases h)⟩
  | .whl ws c b => ⟨fun s h => by
      cases s with
      | While x y el _ =>
       match el, h with
       | [], h =>
        have h : ((ck p c S).t x && (cs p S b).l y) = true := h
        simp only [Bool.and_eq_true] at h
        exact ps_aWh hp ((ev_ok c f).t x h.1) ((cs_ok f hp b).2 y h.2)
      | _ => (cases h), fun l h => (by cases h)⟩
  | .loop ws tg it b => ⟨fun s h => by
      cases s with
      | For t i y el _ =>
       match el, h with
       | [], h =>
        have h : ((ckG S tg).e t && (ck p it S).i i && noSet i && (cs p S b).l y) = true := h
        simp only [Bool.and_eq_true] at h
        exact ps_aFor hp f.calm ((ev_ok it f).i t i h.1.1.2) ((ckG_ok tg f).1 t h.1.1.1).2 ((cs_ok f hp b).2 y h.2) (noSet_ok h.1.2 _)
      | _ => (cases h), fun l h => (by cases h)⟩

/-! ### a def -/
def dealO : Option (Option O) → Option Dl
  | some (some (.deal c m)) => some (some (c, m))
  | _ => none
def exitD (Γ : Ga) : Dl → Option Dl
  | none => some none
  | some _ => dealO Γ[(0 : Nat)]?
@[irreducible] noncomputable def runF (cal : Nat → Sm) (nN : Nat) (b : St) : Sm := fun q ds => match sv cal b (inΓ q ds ++ List.replicate (nN - (inΓ q ds).length) none) with
  | some (.rt rt, Γ') => (match exitD Γ' q with
    | some q' => some (rt, q')
    | none => none)
  | some (.nx, Γ') => (match exitD Γ' q with
    | some q' => some (.dat .non, q')
    | none => none)
  | _ => none
theorem Con.more {K : PySem.W.Frag} {G : Gh} {σ : L2.St} (C : Con K G σ) (k : Nat) : Con K { G with Γ := G.Γ ++ List.replicate k none } (σ ++ List.replicate k none) where
  len := by simp [C.len]
  get := fun i o e => by
    have e : (G.Γ ++ List.replicate k none)[i]? = some (some o) := e
    by_cases hi : i < G.Γ.length
    · rw [List.getElem?_append_left hi] at e
      rw [List.getElem?_append_left (by rw [← C.len]; exact hi)]
      exact C.get i o e
    · rw [List.getElem?_append_right (by omega)] at e
      by_cases hk : i - G.Γ.length < k
      · rw [List.getElem?_replicate_of_lt hk] at e; cases e
      · rw [List.getElem?_eq_none (by simp; omega)] at e; cases e
  non := fun i h j => C.non i (fun o e => h o (by
    have hi : i < G.Γ.length := by
      rcases Nat.lt_or_ge i G.Γ.length with h | h
      · exact h
      · rw [List.getElem?_eq_none h] at e; cases e
    show (G.Γ ++ List.replicate k none)[i]? = _
    rw [List.getElem?_append_left hi]; exact e)) j
  sep := C.sep
  nof := C.nof
  fin := C.fin
theorem inΓ_len (q : Dl) (ds : List D) : (inΓ q ds).length = (dlO q).length + ds.length := by unfold inΓ; simp
theorem exit_ok {K : PySem.W.Frag} {G G2 : Gh} {σ σ2 : L2.St} {q q' : Dl} {ds : List D} {k : Nat} (C : Con K G σ) (g : G.Γ = inΓ q ds) (C2 : Con K G2 σ2) (S2 : Ste { G with Γ := G.Γ ++ List.replicate k none } G2) (x : exitD G2.Γ q = some q') :
    q.isSome = q'.isSome ∧ ∃ G' : Gh, G'.Γ = outΓ q' ds ∧ G'.F = G2.F ∧ G'.H = G2.H ∧ (∀ i j a, G'.fp i j = some a → G2.fp i j = some a) ∧ Con K G' σ ∧ Ste G G' := by
  cases q with
  | none =>
    cases x
    have dat : ∀ i : Nat, isDeal G.Γ[i]? = false := fun i => by
      rw [g]
      show isDeal (([] : Ga) ++ ds.map fun d => some (O.dat d))[i]? = false
      rw [List.nil_append, List.getElem?_map]
      cases ds[i]? <;> rfl
    refine ⟨rfl, ⟨G2.F, G2.H, fun _ _ => none, outΓ none ds⟩, rfl, rfl, rfl, (fun i j a e => by cases e), ?_, ?_⟩
    · refine ⟨?_, fun i o e => ?_, fun _ _ _ => rfl, (fun i j i' j' a e => by cases e), (fun i j a e => by cases e), C2.fin⟩
      · rw [← C.len, g]; simp [inΓ, outΓ, dlO]
      · have e : (([] : Ga) ++ ds.map fun _ => none)[i]? = some (some o) := e
        rw [List.nil_append, List.getElem?_map] at e
        cases q : ds[i]? <;> rw [q] at e <;> cases e
    · refine ⟨S2.sub, S2.keep, S2.dom, (fun i j a e => by cases e), S2.fnew, fun i h => ?_, ?_⟩
      · rw [dat i] at h; cases h
      · rw [g]; simp [inΓ, outΓ, dlO]
  | some cm =>
    obtain ⟨c, m⟩ := cm
    have x : dealO G2.Γ[(0 : Nat)]? = some q' := x
    unfold dealO at x
    split at x
    · rename_i c' m' hx
      cases x
      have g0 : G.Γ[0]? = some (some (.deal c m)) := by rw [g]; rfl
      obtain ⟨d1, d2⟩ := S2.deal 0 (by show isDeal (G.Γ ++ _)[0]? = true; rw [List.getElem?_append_left (by rw [g]; simp [inΓ, dlO]), g0]; rfl)
      have d2 : G2.fp 0 = G.fp 0 := d2
      obtain ⟨v, e1, own⟩ := C.get 0 _ g0
      obtain ⟨v2, e2, own2⟩ := C2.get 0 _ hx
      have ev : v2 = v := by
        obtain ⟨a, b, vs, w, rfl, f0, _⟩ := own
        obtain ⟨a', b', vs', w', rfl, f0', _⟩ := own2
        rw [d2, f0] at f0'
        cases f0'
        rfl
      subst ev
      have dat : ∀ i : Nat, i ≠ 0 → isDeal G.Γ[i]? = false := fun i hi => by
        rw [g]
        obtain ⟨j, rfl⟩ := Nat.exists_eq_succ_of_ne_zero hi
        show isDeal (ds.map fun d => some (O.dat d))[j]? = false
        rw [List.getElem?_map]
        cases ds[j]? <;> rfl
      let fp' : Nat → Nat → Option Addr := fun i => if i = 0 then G2.fp 0 else fun _ => none
      have sub : ∀ i j a, fp' i j = some a → i = 0 ∧ G2.fp 0 j = some a := fun i j a e => by
        by_cases hi : i = 0
        · subst hi; exact ⟨rfl, e⟩
        · have e : (if i = 0 then G2.fp 0 else fun _ => none) j = some a := e
          rw [if_neg hi] at e; cases e
      refine ⟨rfl, ⟨G2.F, G2.H, fp', outΓ (some (c', m')) ds⟩, rfl, rfl, rfl, (fun i j a e => by obtain ⟨rfl, e⟩ := sub i j a e; exact e), ?_, ?_⟩
      · refine ⟨?_, fun i o e => ?_, fun i h j => ?_, fun i j i' j' a e e' => ?_, fun i j a e => ?_, C2.fin⟩
        · rw [← C.len, g]; simp [inΓ, outΓ, dlO]
        · cases i with
          | zero =>
            cases (Option.some.inj (Option.some.inj (show some (some (O.deal c' m')) = some (some o) from e)))
            exact ⟨_, e1, own2⟩
          | succ i =>
            have e : (ds.map fun _ => (none : Option O))[i]? = some (some o) := e
            rw [List.getElem?_map] at e
            cases q : ds[i]? <;> rw [q] at e <;> cases e
        · by_cases hi : i = 0
          · subst hi; exact absurd rfl (h (.deal c' m'))
          · show (if i = 0 then G2.fp 0 else fun _ => none) j = none
            rw [if_neg hi]
        · obtain ⟨rfl, e⟩ := sub _ _ _ e
          obtain ⟨rfl, e'⟩ := sub _ _ _ e'
          exact ⟨rfl, (C2.sep 0 j 0 j' a e e').2⟩
        · obtain ⟨rfl, e⟩ := sub _ _ _ e
          exact C2.nof 0 j a e
      · refine ⟨S2.sub, S2.keep, S2.dom, fun i j a e => ?_, S2.fnew, fun i h => ?_, ?_⟩
        · obtain ⟨rfl, e⟩ := sub _ _ _ e
          exact S2.fps 0 j a e
        · by_cases hi : i = 0
          · subst hi; exact ⟨rfl, d2⟩
          · rw [dat i hi] at h; cases h
        · rw [g]; simp [inΓ, outΓ, dlO]
    · cases x
theorem rt_sub {K : PySem.W.Frag} {H0 : Hp} {G G' : Gh} {σ σ' : L2.St} (hF : G'.F = G.F) (hH : G'.H = G.H) (hf : ∀ i j a, G'.fp i j = some a → G.fp i j = some a) : ∀ {rt : Rt} {v : V}, RepR K H0 G σ rt.r v → RepR K H0 G' σ' rt.r v
  | .dat d, v, h => by
    show Rep K G'.F G'.H d v
    rw [hF, hH]; exact h
  | .deal ds m, v, h => by
    obtain ⟨a, b, vs, w, e, z, z', ne, q, q', r, r', n, n'⟩ := h
    exact ⟨a, b, vs, w, e, z, z', ne, by rw [hH]; exact q, by rw [hH]; exact q', by rw [hF, hH]; exact r, by rw [hF, hH]; exact r', ⟨by rw [hF]; exact n.1, fun i j e => n.2 i j (hf i j a e)⟩, ⟨by rw [hF]; exact n'.1, fun i j e => n'.2 i j (hf i j b e)⟩⟩
/-- a def by its slim text -/
theorem def_ok {P : Program} {w : World} {K : PySem.W.Frag} {mg : Str → Option Value} {base : Heap} {x : Str} {params : Arguments} {body : List Stmt} {scope : Scope} {kws : List (Str × V)} {f : Addr} {fd : FuncData} {N ps : List Str} {k : Nat} {b : St}
    (F : FunD K x x params body scope [] kws f fd) (Sc : FnScope N ps scope) (hck : (cs p ⟨N, scope, N⟩ b).l body = true) (hle : ps.length ≤ N.length)
    (free : ∀ x ∈ p.free, mg x = none) (cons : ∀ x d, p.cons.lookup x = some d → ∃ v u, mg x = some u ∧ RelV v u ∧ ∀ F H, Rep K F H d v)
    (fns : ∀ i x n, p.fns[i]? = some (x, n) → ∃ f fd ps, FnOk P w K mg base CX0 k f fd ps (spOf K n (cal i)) ∧ mg x = some (.ref f) ∧ PySem.W.keepIn K (.ref f) = true ∧ Binds K fd ps [])
    (kw : ∀ i ks perm x n, (i, ks, perm) ∈ p.kw → p.fns[i]? = some (x, n) → ∃ f fd ps, FnOk P w K mg base CX0 k f fd ps (spOf K n (cal i)) ∧ mg x = some (.ref f) ∧ PySem.W.keepIn K (.ref f) = true ∧ KBn K fd ps 0 ks (fun _ ws => prm Value.none perm ws) (fun _ zs => prm V.non perm zs)) :
    FnOk P w K mg base CX0 (k + 1) f fd ps (spOf K ps.length (runF cal N.length b)) := by
  refine F.ok Sc (fun vs H Q E h => h.1) fun cdv A outer s H vs Q E hr hsp => ?_
  have hu := hr.units
  let X := (cxOf CX0 P w K mg base N x scope f cdv A outer s H E).nox
  have ft : Fits p cal ⟨N, scope, N⟩ X := {
    N := rfl
    nd := Sc.nd
    sc := rfl
    kind := Sc.kind
    calm := rfl
    hu := hu
    own := fun _ _ => rfl
    free := free
    fns := fun i x n h => by
      obtain ⟨f, fd, ps, h1, h2, h3, h4⟩ := fns i x n h
      exact ⟨k, f, fd, ps, h1, hr, h2, h3, h4⟩
    kw := fun i ks perm x n h h' => by
      obtain ⟨f, fd, ps, h1, h2, h3, h4⟩ := kw i ks perm x n h h'
      exact ⟨k, f, fd, ps, h1, hr, h2, h3, h4⟩
    cons := cons }
  refine ⟨_, PSs.nox ((cs_ok ft PassesOwn.never b).2 body hck), ?_⟩
  obtain ⟨hl, G, q, ds, gh, gΓ, C, rt, q', e, hq, kk⟩ := hsp
  have lenΓ : (inΓ q ds).length = vs.length := by rw [← gΓ, C.len, List.length_map]
  refine ⟨{ G with Γ := G.Γ ++ List.replicate (N.length - vs.length) none }, gh, C.more _, ?_⟩
  unfold runF at e
  rw [lenΓ] at e
  split at e
  · rename_i rt1 Γ' es
    split at e
    · rename_i q1 ex
      cases e
      refine ⟨.rt rt, Γ', by rw [gΓ]; exact es, fun G2 σ2 g2 C2 S2 v hv => ?_⟩
      obtain ⟨_, G3, a, b1, b2, b3, C3, S3⟩ := exit_ok C gΓ C2 S2 (by rw [g2]; exact ex)
      have := kk G3 v a C3 S3 (rt_sub b1 b2 b3 hv)
      rw [b2] at this
      exact this
    · cases e
  · rename_i Γ' es
    split at e
    · rename_i q1 ex
      cases e
      refine ⟨.nx, Γ', by rw [gΓ]; exact es, fun G2 σ2 g2 C2 S2 => ?_⟩
      obtain ⟨_, G3, a, b1, b2, b3, C3, S3⟩ := exit_ok C gΓ C2 S2 (by rw [g2]; exact ex)
      have := kk G3 .non a C3 S3 rfl
      rw [b2] at this
      exact this
    · cases e
  · cases e
end
end Z

set_option Elab.async false
set_option linter.all false
set_option maxRecDepth 100000
set_option maxHeartbeats 4000000
/-! Z15: a program's defs, the law's end -/
namespace Z
open PySem L2 PyProof.Rows
structure Fn where
  name : Str
  N : List Str
  np : Nat
  kw : List (List Str × List Nat)
  b : St
def Fn.ps (f : Fn) : List Str := f.N.take f.np
noncomputable def run (fs : List Fn) : Nat → Nat → Sm
  | 0, _ => fun _ _ => none
  | k + 1, i => match fs[i]? with
    | some f => runF (run fs k) f.N.length f.b
    | none => fun _ _ => none
def kwAll : List Fn → Nat → List (Nat × List Str × List Nat)
  | [], _ => []
  | f :: fs, i => (f.kw.map fun q => (i, q.1, q.2)) ++ kwAll fs (i + 1)
theorem kwAll_ok : ∀ {fs : List Fn} {j i : Nat} {ks : List Str} {perm : List Nat}, (i, ks, perm) ∈ kwAll fs j → ∃ k f, i = j + k ∧ fs[k]? = some f ∧ (ks, perm) ∈ f.kw
  | [], _, _, _, _, h => by cases h
  | f :: fs, j, i, ks, perm, h => by
    have h : (i, ks, perm) ∈ (f.kw.map fun q => (j, q.1, q.2)) ++ kwAll fs (j + 1) := h
    rcases List.mem_append.mp h with h | h
    · obtain ⟨q, hq, e⟩ := List.mem_map.mp h
      cases e
      exact ⟨0, f, rfl, rfl, hq⟩
    · obtain ⟨k, g, e, h1, h2⟩ := kwAll_ok h
      exact ⟨k + 1, g, by omega, h1, h2⟩
def pgOf (fs : List Fn) (cons : List (Str × D)) (free : List Str) : Pg := ⟨fs.map fun f => (f.name, f.np), cons, free, kwAll fs 0⟩
structure DOk (p : Pg) (f : Fn) (d : He.DefD) : Prop where
  nm : d.name = f.name
  ql : d.qual = f.name
  at_ : d.at_ = (f.name, none)
  df : d.dfl = []
  kd : d.kwd = []
  sc : C8.scC f.N f.ps d.scope = true
  np : f.ps.length = f.np
  ck : (cs p ⟨f.N, d.scope, f.N⟩ f.b).l d.body = true
  bd : ∀ (kV doc pm : Value) (an : Option Addr) (cdv ct : Value) (us : List Value), us.length = f.ps.length → bindArgs (PySem.W.fnOf f.name f.name d.params d.body d.scope .none kV doc pm an cdv ct) ⟨us, []⟩ = pure (f.ps.zip us)
  kw : ∀ q ∈ f.kw, ∀ (kV doc pm : Value) (an : Option Addr) (cdv ct : Value) (ws : List Value), ws.length = q.1.length → bindArgs (PySem.W.fnOf f.name f.name d.params d.body d.scope .none kV doc pm an cdv ct) ⟨[], q.1.zip ws⟩ = pure (f.ps.zip (prm Value.none q.2 ws))
inductive All2 (p : Pg) : List Fn → List He.DefD → Prop where
  | nil : All2 p [] []
  | cons {f : Fn} {d : He.DefD} {fs : List Fn} {ds : List He.DefD} (h : DOk p f d) (t : All2 p fs ds) : All2 p (f :: fs) (d :: ds)
theorem All2.get {p : Pg} : ∀ {fs : List Fn} {ds : List He.DefD} {i : Nat} {f : Fn}, All2 p fs ds → fs[i]? = some f → ∃ d, ds[i]? = some d ∧ DOk p f d
  | _, _, 0, _, .cons h _, e => by cases e; exact ⟨_, rfl, h⟩
  | _, _, i + 1, _, .cons _ t, e => All2.get (i := i) t e
/-- what the head is asked -/
def faOf (fs : List Fn) (cons : List (Str × D)) (free : List Str) : List He.Fa := (fs.map fun f => He.Fa.glo f.name) ++ (free.map He.Fa.free) ++ cons.map fun q => match q.2 with
  | .int i => .int q.1 i
  | .str z => .str q.1 z
  | _ => .free q.1
def consOk (cons : List (Str × D)) : Bool := cons.all fun q => match q.2 with
  | .int _ => true
  | .str _ => true
  | _ => false
theorem lookup_mem {α β : Type} [BEq α] [LawfulBEq α] {a : α} {b : β} : ∀ {l : List (α × β)}, l.lookup a = some b → (a, b) ∈ l
  | [], h => by cases h
  | (x, y) :: l, h => by
    rw [List.lookup_cons] at h
    split at h
    · rename_i q
      cases h
      rw [eq_of_beq q]; exact List.mem_cons_self
    · exact List.mem_cons_of_mem _ (lookup_mem h)
theorem prm_vals {perm : List Nat} {zs : List V} {ws : List Value} (r : Vals zs ws) : Vals (prm V.non perm zs) (prm Value.none perm ws) := by
  unfold prm
  induction perm with
  | nil => exact .nil
  | cons i perm ih =>
    refine .cons ?_ ih
    show RelV (zs.getD i .non) (ws.getD i .none)
    rw [List.getD_eq_getElem?_getD, List.getD_eq_getElem?_getD]
    cases q : zs[i]? with
    | none =>
      have : ws[i]? = none := by
        rw [List.getElem?_eq_none_iff] at q ⊢
        rw [← r.length]; exact q
      rw [this]
      exact (rfl : RelV V.non Value.none)
    | some d =>
      obtain ⟨v, h1, h2⟩ := r.get q
      rw [h1]
      exact h2
section
variable {fs : List Fn} {ds : List He.DefD} {cons : List (Str × D)} {free : List Str} {P : Program} {w : World} {K : PySem.W.Frag} {mg : Str → Option Value} {h : Heap} {base : Heap}
theorem level0 {f : Addr} {fd : FuncData} {n : Nat} {ps : List Str} (hl : ps.length = n) (g : Sm) (hg : ∀ q ds, g q ds = none) : FnOk P w K mg base CX0 0 f fd ps (spOf K n g) :=
  ⟨fun vs H Q E h => h.1.trans hl.symm, fun A outer s H args us vs Q E _ _ _ _ h => by
    obtain ⟨_, G, q, ds, _, _, _, rt, q', e, _⟩ := h
    rw [hg] at e; cases e⟩
theorem all_ok (hA : All2 (pgOf fs cons free) fs ds) (c : He.SaysD (faOf fs cons free) ds K) (X : K.In h) (G : h.Ns mainGlobals mg) (hc : consOk cons = true) :
    ∀ (k i : Nat) (f : Fn), fs[i]? = some f → ∃ d fd, ds[i]? = some d ∧ DOk (pgOf fs cons free) f d ∧ FunD K f.name f.name d.params d.body d.scope [] [] (He.ga K f.name) fd ∧ FnOk P w K mg base CX0 k (He.ga K f.name) fd f.ps (spOf K f.np (run fs k i)) ∧ mg f.name = some (.ref (He.ga K f.name)) ∧
      PySem.W.keepIn K (.ref (He.ga K f.name)) = true ∧ Binds K fd f.ps [] ∧ ∀ q ∈ f.kw, KBn K fd f.ps 0 q.1 (fun _ ws => prm Value.none q.2 ws) (fun _ zs => prm V.non q.2 zs) := by
  have stat : ∀ (i : Nat) (f : Fn), fs[i]? = some f → ∃ d fd, ds[i]? = some d ∧ DOk (pgOf fs cons free) f d ∧ FunD K f.name f.name d.params d.body d.scope [] [] (He.ga K f.name) fd ∧ mg f.name = some (.ref (He.ga K f.name)) ∧
      PySem.W.keepIn K (.ref (He.ga K f.name)) = true ∧ Binds K fd f.ps [] ∧ ∀ q ∈ f.kw, KBn K fd f.ps 0 q.1 (fun _ ws => prm Value.none q.2 ws) (fun _ zs => prm V.non q.2 zs) := fun i f hf => by
    obtain ⟨d, hd, ok⟩ := hA.get hf
    obtain ⟨fd, F⟩ := c.def_ i hd
    have hm := He.glo_ok X G (c.facts (f := .glo f.name) (by
      unfold faOf
      exact List.mem_append_left _ (List.mem_append_left _ (List.mem_map.mpr ⟨f, List.mem_of_getElem? hf, rfl⟩))))
    have e1 : d.dvs K = [] := by unfold He.DefD.dvs; rw [ok.df]; rfl
    have e2 : d.kws K = [] := by unfold He.DefD.kws; rw [ok.kd]; rfl
    have e3 : He.fAd K d.at_ = He.ga K f.name := by rw [ok.at_]; rfl
    rw [e1, e2, e3, ok.nm, ok.ql] at F
    refine ⟨d, fd, hd, ok, F, hm, F.kp, F.bindsN ok.bd, fun q hq => ⟨fun s us ws _ hu hw => ?_, fun _ r => prm_vals r⟩⟩
    obtain ⟨oc, od, dV, kV, doc, pm, an, cdv, ct, osl, rfl, lk, hcd, hD, hK⟩ := F.ex
    rcases hD with ⟨_, rfl⟩ | ⟨e, _⟩
    · have : us = [] := List.length_eq_zero_iff.mp hu
      subst this
      exact .of_eq (ok.kw q hq kV doc pm an cdv ct ws hw)
    · exact absurd rfl e
  have hfree : ∀ x ∈ free, mg x = none := fun x hx => He.free_ok X G (c.facts (f := .free x) (by
    unfold faOf
    exact List.mem_append_left _ (List.mem_append_right _ (List.mem_map.mpr ⟨x, hx, rfl⟩))))
  have hcons : ∀ x d, cons.lookup x = some d → ∃ v u, mg x = some u ∧ RelV v u ∧ ∀ F H, Rep K F H d v := fun x d e => by
    have hm := lookup_mem e
    have ho := List.all_eq_true.mp hc _ hm
    cases d with
    | int i =>
      obtain ⟨t, e⟩ := He.int_ok X G (c.facts (f := .int x i) (by
        unfold faOf
        exact List.mem_append_right _ (List.mem_map.mpr ⟨_, hm, rfl⟩)))
      exact ⟨.int i, _, e, ⟨t, rfl⟩, fun _ _ => rfl⟩
    | str z =>
      obtain ⟨t, e⟩ := He.str_ok X G (c.facts (f := .str x z) (by
        unfold faOf
        exact List.mem_append_right _ (List.mem_map.mpr ⟨_, hm, rfl⟩)))
      exact ⟨.str z, _, e, ⟨t, rfl⟩, fun _ _ => rfl⟩
    | _ => cases ho
  intro k
  induction k with
  | zero =>
    intro i f hf
    obtain ⟨d, fd, h1, h2, h3, h4, h5, h6, h7⟩ := stat i f hf
    exact ⟨d, fd, h1, h2, h3, level0 h2.np _ (fun _ _ => rfl), h4, h5, h6, h7⟩
  | succ k ih =>
    intro i f hf
    obtain ⟨d, fd, h1, h2, h3, h4, h5, h6, h7⟩ := stat i f hf
    refine ⟨d, fd, h1, h2, h3, ?_, h4, h5, h6, h7⟩
    have R := def_ok (p := pgOf fs cons free) (P := P) (w := w) (K := K) (mg := mg) (base := base) (k := k) (cal := run fs k) h3 (C8.fnScope_by h2.sc) h2.ck (by unfold Fn.ps; rw [List.length_take]; omega) hfree hcons (fun j x n e => by
      have e : (fs.map fun f => (f.name, f.np))[j]? = some (x, n) := e
      rw [List.getElem?_map] at e
      cases q : fs[j]? with
      | none => rw [q] at e; cases e
      | some g =>
        rw [q] at e
        cases e
        obtain ⟨d, fd, _, _, _, a, b, c, e, _⟩ := ih j g q
        exact ⟨_, fd, _, a, b, c, e⟩) (fun j ks perm x n hj e => by
      obtain ⟨j', g', hj1, hj2, hj3⟩ := kwAll_ok hj
      have hj0 : j = j' := by omega
      subst hj0
      have e : (fs.map fun f => (f.name, f.np))[j]? = some (x, n) := e
      rw [List.getElem?_map] at e
      rw [hj2] at e
      cases e
      obtain ⟨d, fd, _, _, _, a, b, c, e, e'⟩ := ih j g' hj2
      exact ⟨_, fd, _, a, b, c, e' _ hj3⟩)
    have er : run fs (k + 1) i = runF (run fs k) f.N.length f.b := by
      show (match fs[i]? with
        | some f => runF (run fs k) f.N.length f.b
        | none => fun _ _ => none) = _
      rw [hf]
    rw [er, ← h2.np]
    exact R
/-- the law: told true of every script of 63 ints at most -/
theorem law_end {k i : Nat} {f : Fn} {x : Str} (hA : All2 (pgOf fs cons free) fs ds) (hf : fs[i]? = some f) (hn : f.name = "law") (hps : f.ps = [x]) (hc : consOk cons = true)
    (T : ∀ ns : List Int, ns.length ≤ 63 → run fs k i none [.scr ns] = some (.dat (.bl true), none)) {fa : Addr} (X : K.In h) (G : h.Ns mainGlobals mg) (hfa : mg ("law" : Str) = some (.ref fa)) (c : He.SaysD (faOf fs cons free) ds K) :
    ∃ (fd : FuncData) (sp : Sp), (∀ (s : Shared) (u : Value), BindsTo s fd ⟨[u], []⟩ [(x, u)]) ∧
      (∀ (H : Hp) (a : Addr) (ns : List Int), ns.length ≤ 63 → Only H → SqL K H a (ns.map V.int) → sp [.ref a] H (fun v _ => v = .bl true) fun _ _ _ => False) ∧
      ∀ base : Heap, K.In base → base.Ns mainGlobals mg → FnOk P w K mg base CX0 k fa fd [x] sp := by
  obtain ⟨d, fd, h1, h2, h3, _, h4, h5, h6, h7⟩ := all_ok (P := P) (w := w) (base := h) hA c X G hc k i f hf
  rw [hn] at h4
  have e := hfa.symm.trans h4
  cases e
  refine ⟨fd, spOf K f.np (run fs k i), fun s u => ?_, fun H a ns hl hO hS => ?_, fun base' KB GB => ?_⟩
  · have := FunD.bindsA h3 h2.bd s [u] (by rw [hps]; rfl)
    rw [hps] at this
    exact this
  · have hnp : f.np = 1 := by rw [← h2.np, hps]; rfl
    have hs : Rep K (fun _ => False) H (.scr ns) (.ref a) := by
      refine ⟨a, rfl, ?_⟩
      rcases hS with (hS | ⟨o, hS⟩) | hS
      · rcases hO a with e | ⟨o, xs, e⟩
        · rw [e] at hS; cases hS
        · rw [e] at hS; cases hS
      · exact .inl ⟨o, hS⟩
      · exact .inr (.inr hS)
    refine ⟨hnp.symm, ⟨fun _ => False, H, fun _ _ => none, [some (.dat (.scr ns))]⟩, none, [.scr ns], rfl, rfl, con_data (fun _ => False) H (fun _ h => h.elim) (ds := [.scr ns]) (vs := [.ref a]) ⟨_, _, rfl, hs, rfl⟩, .dat (.bl true), none, T ns hl, rfl, fun G' v _ _ _ hv => hv⟩
  · obtain ⟨d', fd', g1, g2, g3, g4, g5, _⟩ := all_ok (P := P) (w := w) (base := base') hA c X G hc k i f hf
    rw [h1] at g1
    cases g1
    have : fd' = fd := by
      obtain ⟨oc, od, dV, kV, doc, pm, an, cdv, ct, osl, rfl, lk, _⟩ := h3.ex
      obtain ⟨oc', od', dV', kV', doc', pm', an', cdv', ct', osl', rfl, lk', _⟩ := g3.ex
      rw [lk] at lk'
      cases lk'
      rfl
    subst this
    rw [hn, hps] at g4
    exact g4
end
end Z

set_option Elab.async false
set_option linter.all false
set_option maxRecDepth 100000
set_option maxHeartbeats 4000000
/-! Z16: plain rules: what the slim text does, forwards -/
namespace Z
open PySem L2 PyProof.Rows
def wO {α β : Type} : Option (α × β) → (α → β → Prop) → Prop
  | none, _ => False
  | some (r, Γ), Q => Q r Γ
def wD {α : Type} : Option α → (α → Prop) → Prop
  | none, _ => False
  | some r, Q => Q r
def W {α : Type} (f : Act α) (Γ : Ga) (Q : α → Ga → Prop) : Prop := wO (f Γ) Q
theorem W_ex {α : Type} {f : Act α} {Γ : Ga} {Q : α → Ga → Prop} : W f Γ Q ↔ ∃ r Γ', f Γ = some (r, Γ') ∧ Q r Γ' := by
  unfold W
  cases f Γ with
  | none => exact ⟨fun h => h.elim, fun ⟨_, _, h, _⟩ => by cases h⟩
  | some x => exact ⟨fun h => ⟨x.1, x.2, rfl, h⟩, fun ⟨_, _, h, q⟩ => by cases h; exact q⟩
theorem W.mono {α : Type} {f : Act α} {Γ : Ga} {Q Q' : α → Ga → Prop} (h : W f Γ Q) (i : ∀ r Γ', Q r Γ' → Q' r Γ') : W f Γ Q' := by
  rw [W_ex] at h ⊢
  obtain ⟨r, Γ', e, q⟩ := h
  exact ⟨r, Γ', e, i _ _ q⟩
theorem W.eq {α : Type} {f : Act α} {Γ Γ' : Ga} {r : α} (h : W f Γ fun a b => a = r ∧ b = Γ') : f Γ = some (r, Γ') := by
  rw [W_ex] at h
  obtain ⟨_, _, e, rfl, rfl⟩ := h
  exact e
theorem wO_some {α β : Type} {r : α} {Γ : β} {Q : α → β → Prop} : wO (some (r, Γ)) Q = Q r Γ := rfl
theorem wD_some {α : Type} {r : α} {Q : α → Prop} : wD (some r) Q = Q r := rfl
theorem wD_if {α : Type} {c : Prop} [Decidable c] {r : α} {Q : α → Prop} : wD (if c then some r else none) Q = (c ∧ Q r) := by
  by_cases h : c
  · rw [if_pos h]; simp [wD, h]
  · rw [if_neg h]; simp [wD, h]
section
variable {Γ : Ga} {Q : R → Ga → Prop} {i : Nat} {d : D} {p p' : D → D → Option PR} {fa fb fc f : Act R}
theorem W_var : W (aVar i) Γ Q = wO (rdO i Γ Γ[i]?) Q := rfl
theorem W_val : W (aVal d) Γ Q = Q (.val d) Γ := rfl
theorem W_bin : W (aBin p fa fb) Γ Q = W fa Γ fun r1 Γ1 => W fb Γ1 fun r2 Γ2 => wD (dr Γ2 r1) fun d1 => wD (dr Γ2 r2) fun d2 => wD (p d1 d2) fun pr => Q pr.r Γ2 := by
  unfold W aBin
  cases fa Γ with
  | none => rfl
  | some x =>
    obtain ⟨r1, Γ1⟩ := x
    simp only [wO_some]
    cases fb Γ1 with
    | none => rfl
    | some x =>
      obtain ⟨r2, Γ2⟩ := x
      simp only [wO_some]
      cases dr Γ2 r1 with
      | none => rfl
      | some d1 =>
        cases dr Γ2 r2 with
        | none => rfl
        | some d2 =>
          simp only [wD_some]
          cases p d1 d2 <;> rfl
theorem W_chn : W (aChn p p' fa fb fc) Γ Q = W fa Γ fun r1 Γ1 => W fb Γ1 fun r2 Γ2 => wD (dr Γ2 r1) fun d1 => wD (dr Γ2 r2) fun d2 => wD (p d1 d2) fun pr => match pr with
    | .v (.bl true) => W fc Γ2 fun r3 Γ3 => wD (dr Γ3 r2) fun d2 => wD (dr Γ3 r3) fun d3 => wD (p' d2 d3) fun pr => Q pr.r Γ3
    | .v (.bl false) => Q (.val (.bl false)) Γ2
    | _ => False := by
  unfold W aChn
  cases fa Γ with
  | none => rfl
  | some x =>
    obtain ⟨r1, Γ1⟩ := x
    simp only [wO_some]
    cases fb Γ1 with
    | none => rfl
    | some x =>
      obtain ⟨r2, Γ2⟩ := x
      simp only [wO_some]
      cases dr Γ2 r1 with
      | none => rfl
      | some d1 =>
        cases h2 : dr Γ2 r2 with
        | none => rfl
        | some d2 =>
          simp only [wD_some]
          cases p d1 d2 with
          | none => rfl
          | some pr =>
            simp only [wD_some]
            split
            · rename_i hq
              cases hq
              simp only
              cases fc Γ2 with
              | none => rfl
              | some x =>
                obtain ⟨r3, Γ3⟩ := x
                simp only [wO_some]
                cases dr Γ3 r2 with
                | none => rfl
                | some d2 =>
                  cases dr Γ3 r3 with
                  | none => rfl
                  | some d3 =>
                    simp only [wD_some]
                    cases p' d2 d3 <;> rfl
            · rename_i hq
              cases hq
              rfl
            · rename_i h1 h2
              split
              · exact (h1 rfl).elim
              · exact (h2 rfl).elim
              · rfl
theorem W_ix : W (aIx fa fb) Γ Q = W fa Γ fun r1 Γ1 => W fb Γ1 fun r2 Γ2 => wD (dr Γ2 r2) fun d2 => wD (ixR Γ2 r1 d2) fun r => Q r Γ2 := by
  unfold W aIx
  cases fa Γ with
  | none => rfl
  | some x =>
    obtain ⟨r1, Γ1⟩ := x
    simp only [wO_some]
    cases fb Γ1 with
    | none => rfl
    | some x =>
      obtain ⟨r2, Γ2⟩ := x
      simp only [wO_some]
      cases dr Γ2 r2 with
      | none => rfl
      | some d1 =>
        simp only [wD_some]
        cases ixR Γ2 r1 d1 <;> rfl
theorem W_un {p : D → Option PR} : W (aUn p fa) Γ Q = W fa Γ fun r1 Γ1 => wD (dr Γ1 r1) fun d1 => wD (p d1) fun pr => Q pr.r Γ1 := by
  unfold W aUn
  cases fa Γ with
  | none => rfl
  | some x =>
    obtain ⟨r1, Γ1⟩ := x
    simp only [wO_some]
    cases dr Γ1 r1 with
    | none => rfl
    | some d1 =>
      simp only [wD_some]
      cases p d1 <;> rfl
def intO {β : Type} : R → β → (Option Int → β → Prop) → Prop
  | .val (.int i), Γ, Q => Q (some i) Γ
  | _, _, _ => False
theorem W_optN {Q : Option Int → Ga → Prop} : W (aOpt none) Γ Q = Q none Γ := rfl
theorem W_optS {Q : Option Int → Ga → Prop} : W (aOpt (some f)) Γ Q = W f Γ fun r Γ1 => intO r Γ1 Q := by
  show wO (match f Γ with
    | some (.val (.int i), Γ1) => some (some i, Γ1)
    | _ => none) Q = wO (f Γ) _
  cases f Γ with
  | none => rfl
  | some x =>
    obtain ⟨r, Γ1⟩ := x
    cases r with
    | val d => cases d <;> rfl
    | _ => rfl
theorem W_sl {l h : Option (Act R)} : W (aSl fa l h) Γ Q = W fa Γ fun r1 Γ1 => W (aOpt l) Γ1 fun l Γ2 => W (aOpt h) Γ2 fun h Γ3 => wD (dr Γ3 r1) fun d => wD (slP d l h) fun pr => Q pr.r Γ3 := by
  unfold W aSl
  cases fa Γ with
  | none => rfl
  | some x =>
    obtain ⟨r1, Γ1⟩ := x
    simp only [wO_some]
    cases aOpt l Γ1 with
    | none => rfl
    | some x =>
      obtain ⟨r2, Γ2⟩ := x
      simp only [wO_some]
      cases aOpt h Γ2 with
      | none => rfl
      | some x =>
        obtain ⟨r3, Γ3⟩ := x
        simp only [wO_some]
        cases dr Γ3 r1 with
        | none => rfl
        | some d =>
          simp only [wD_some]
          cases slP d r2 r3 <;> rfl
theorem W_nil {α : Type} {Q : List α → Ga → Prop} : W aNil Γ Q = Q [] Γ := rfl
theorem W_cons {g : Act (List R)} {Q : List R → Ga → Prop} : W (aCons f g) Γ Q = W f Γ fun r Γ1 => W g Γ1 fun rs Γ2 => Q (r :: rs) Γ2 := by
  unfold W aCons
  cases f Γ with
  | none => rfl
  | some x =>
    obtain ⟨r1, Γ1⟩ := x
    simp only [wO_some]
    cases g Γ1 <;> rfl
theorem W_consA {g : Act (List Arg)} {Q : List Arg → Ga → Prop} : W (aConsA f g) Γ Q = W f Γ fun r Γ1 => wO (mvA Γ1 r) fun a Γ2 => W g Γ2 fun as Γ3 => Q (a :: as) Γ3 := by
  unfold W aConsA
  cases f Γ with
  | none => rfl
  | some x =>
    obtain ⟨r1, Γ1⟩ := x
    simp only [wO_some]
    cases mvA Γ1 r1 with
    | none => rfl
    | some x =>
      obtain ⟨a, Γ2⟩ := x
      simp only [wO_some]
      cases g Γ2 <;> rfl
theorem W_consI {ow : Bool} {g : Act (List Itm)} {Q : List Itm → Ga → Prop} : W (aConsI ow f g) Γ Q = W f Γ fun r Γ1 => wO (toItm ow Γ1 r) fun a Γ2 => W g Γ2 fun as Γ3 => Q (a :: as) Γ3 := by
  unfold W aConsI
  cases f Γ with
  | none => rfl
  | some x =>
    obtain ⟨r1, Γ1⟩ := x
    simp only [wO_some]
    cases toItm ow Γ1 r1 with
    | none => rfl
    | some x =>
      obtain ⟨a, Γ2⟩ := x
      simp only [wO_some]
      cases g Γ2 <;> rfl
theorem W_disp {c : List D → PR} {g : Act (List Arg)} : W (aDisp c g) Γ Q = W g Γ fun as Γ1 => wD (argD as) fun ds => ds.length ≤ 16777216 ∧ Q (c ds).r Γ1 := by
  unfold W aDisp
  cases g Γ with
  | none => rfl
  | some x =>
    obtain ⟨r1, Γ1⟩ := x
    simp only [wO_some]
    cases argD r1 with
    | none => rfl
    | some ds =>
      simp only [wD_some]
      by_cases h : ds.length ≤ 16777216
      · rw [if_pos h]; simp [wO, h]
      · rw [if_neg h]; simp [wO, h]
def newO : R → (List D → Prop) → Prop
  | .new ds, Q => Q ds
  | _, _ => False
def valO : R → (D → Prop) → Prop
  | .val d, Q => Q d
  | _, _ => False
theorem W_deal : W (aDeal fa fb) Γ Q = W fa Γ fun r1 Γ1 => newO r1 fun ds => W fb Γ1 fun r2 Γ2 => valO r2 fun d => Q (.newD ds d) Γ2 := by
  unfold W aDeal
  cases fa Γ with
  | none => rfl
  | some x =>
    obtain ⟨r1, Γ1⟩ := x
    simp only [wO_some]
    cases r1 with
    | new ds =>
      simp only [newO]
      cases fb Γ1 with
      | none => rfl
      | some x =>
        obtain ⟨r2, Γ2⟩ := x
        simp only [wO_some]
        cases r2 with
        | val d => rfl
        | new ds => rfl
        | newD ds m => rfl
        | «at» i => simp only [mv, valO]; cases mvO i Γ2 Γ2[i]? with
          | none => rfl
          | some x => rfl
        | at1 i => rfl
    | _ => rfl
theorem W_blt {p : List D → Option PR} {g : Act (List R)} : W (aBlt p g) Γ Q = W g Γ fun rs Γ1 => wD (drs Γ1 rs) fun ds => wD (p ds) fun pr => Q pr.r Γ1 := by
  unfold W aBlt
  cases g Γ with
  | none => rfl
  | some x =>
    obtain ⟨r1, Γ1⟩ := x
    simp only [wO_some]
    cases drs Γ1 r1 with
    | none => rfl
    | some ds =>
      simp only [wD_some]
      cases p ds <;> rfl
theorem W_isi {ts : List Ty} : W (aIsi ts f) Γ Q = W f Γ fun r Γ1 => wD (dr Γ1 r) fun d => Q (.val (.bl (ts.any (isiB d)))) Γ1 := by
  unfold W aIsi
  cases f Γ with
  | none => rfl
  | some x =>
    obtain ⟨r1, Γ1⟩ := x
    simp only [wO_some]
    cases dr Γ1 r1 <;> rfl
theorem W_lrg : W (aLrg f) Γ Q = W f Γ fun r Γ1 => wD (dr Γ1 r) fun d => ∃ j : Int, d = .int j ∧ (j ≤ 16777216 ∧ -16777216 ≤ j) ∧ Q (.new ((List.range j.toNat).map fun k => .int (k : Nat))) Γ1 := by
  unfold W aLrg
  cases f Γ with
  | none => rfl
  | some x =>
    obtain ⟨r1, Γ1⟩ := x
    simp only [wO_some]
    cases dr Γ1 r1 with
    | none => rfl
    | some d =>
      simp only [wD_some]
      cases d with
      | int j =>
        simp only
        by_cases h : j ≤ 16777216 ∧ -16777216 ≤ j
        · rw [if_pos h]; simp [wO, h]
        · rw [if_neg h]; simp only [wO, eq_iff_iff, false_iff]; rintro ⟨_, e, h', _⟩; cases e; exact h h'
      | _ => simp [wO]
/-- a call -/
def callW (g : Sm) (as : List Arg) (Γ1 : Ga) (Q : R → Ga → Prop) : Prop := match as with
  | .ref i :: rest => wD (argD rest) fun ds => match Γ1[i]? with
    | some (some (.deal c m)) => wO (g (some (c, m)) ds) fun rt q' => match q' with
      | some (c', m') => Q rt.r (Γ1.set i (some (.deal c' m')))
      | none => False
    | _ => False
  | as => wD (argD as) fun ds => wO (g none ds) fun rt q' => match q' with
    | none => Q rt.r Γ1
    | some _ => False
theorem W_call {n : Nat} {g : Sm} {args : Act (List Arg)} : W (aCall n g args) Γ Q = W args Γ fun as Γ1 => as.length = n ∧ callW g as Γ1 Q := by
  unfold W aCall
  cases args Γ with
  | none => rfl
  | some x =>
    obtain ⟨as, Γ1⟩ := x
    simp only [wO_some]
    by_cases h : as.length = n
    · rw [if_pos h]
      have plain : wO (match argD as with
          | some ds => (match g none ds with
            | some (rt, none) => some (rt.r, Γ1)
            | _ => none)
          | none => none) Q = wD (argD as) fun ds => wO (g none ds) fun rt q' => match q' with
            | none => Q rt.r Γ1
            | some _ => False := by
        cases argD as with
        | none => rfl
        | some ds =>
          simp only [wD_some]
          cases g none ds with
          | none => rfl
          | some x => obtain ⟨rt, q⟩ := x; cases q <;> rfl
      simp only [h, true_and]
      cases as with
      | nil => exact plain
      | cons a rest =>
        cases a with
        | d x => exact plain
        | ref i =>
          simp only [callW]
          cases argD rest with
          | none => rfl
          | some ds =>
            simp only [wD_some]
            cases Γ1[i]? with
            | none => rfl
            | some o =>
              cases o with
              | none => rfl
              | some o =>
                cases o with
                | deal c m =>
                  simp only
                  cases g (some (c, m)) ds with
                  | none => rfl
                  | some x => obtain ⟨rt, q⟩ := x; cases q <;> rfl
                | _ => rfl
    · rw [if_neg h]; simp [wO, h]
theorem W_prm {perm : List Nat} {g : Act (List Arg)} {Q : List Arg → Ga → Prop} : W (aPrm perm g) Γ Q = W g Γ fun as Γ1 => wD (argD as) fun ds => Q ((prm D.non perm ds).map Arg.d) Γ1 := by
  unfold W aPrm
  cases g Γ with
  | none => rfl
  | some x =>
    obtain ⟨as, Γ1⟩ := x
    simp only [wO_some]
    cases argD as <;> rfl
theorem W_ite {c : Act Bool} {f g : Act R} : W (aIte c f g) Γ Q = W c Γ fun b Γ1 => if b = true then W f Γ1 Q else W g Γ1 Q := by
  unfold W aIte
  cases c Γ with
  | none => rfl
  | some x =>
    obtain ⟨b, Γ1⟩ := x
    cases b <;> rfl
theorem W_T {Q : Bool → Ga → Prop} : W (aT f) Γ Q = W f Γ fun r Γ1 => wD (toB r) fun b => Q b Γ1 := by
  unfold W aT
  cases f Γ with
  | none => rfl
  | some x =>
    obtain ⟨r, Γ1⟩ := x
    simp only [wO_some]
    cases toB r <;> rfl
theorem W_B {f : Act Bool} : W (aB f) Γ Q = W f Γ fun b Γ1 => Q (.val (.bl b)) Γ1 := by
  unfold W aB
  cases f Γ with
  | none => rfl
  | some x => rfl
theorem W_not {f : Act Bool} {Q : Bool → Ga → Prop} : W (aNot f) Γ Q = W f Γ fun b Γ1 => Q (!b) Γ1 := by
  unfold W aNot
  cases f Γ with
  | none => rfl
  | some x => rfl
theorem W_and {f g : Act Bool} {Q : Bool → Ga → Prop} : W (aAnd f g) Γ Q = W f Γ fun b Γ1 => if b = true then W g Γ1 Q else Q false Γ1 := by
  unfold W aAnd
  cases f Γ with
  | none => rfl
  | some x => obtain ⟨b, Γ1⟩ := x; cases b <;> rfl
theorem W_or {f g : Act Bool} {Q : Bool → Ga → Prop} : W (aOr f g) Γ Q = W f Γ fun b Γ1 => if b = true then Q true Γ1 else W g Γ1 Q := by
  unfold W aOr
  cases f Γ with
  | none => rfl
  | some x => obtain ⟨b, Γ1⟩ := x; cases b <;> rfl
theorem W_seq {Q : List D → Ga → Prop} : W (aSeq f) Γ Q = W f Γ fun r Γ1 => wO (mv Γ1 r) fun d Γ2 => wD (itemsD d) fun ds => Q ds Γ2 := by
  unfold W aSeq
  cases f Γ with
  | none => rfl
  | some x =>
    obtain ⟨r, Γ1⟩ := x
    simp only [wO_some]
    cases mv Γ1 r with
    | none => rfl
    | some x =>
      obtain ⟨d, Γ2⟩ := x
      simp only [wO_some]
      cases itemsD d <;> rfl
theorem W_rng {n : Nat} {g : Act (List R)} {Q : List D → Ga → Prop} : W (aRng n g) Γ Q = W g Γ fun rs Γ1 => wD (drs Γ1 rs) fun ds => ds.length = n ∧ wD (rangeP ds) fun es => Q es Γ1 := by
  unfold W aRng
  cases g Γ with
  | none => rfl
  | some x =>
    obtain ⟨r, Γ1⟩ := x
    simp only [wO_some]
    cases drs Γ1 r with
    | none => rfl
    | some ds =>
      simp only [wD_some]
      by_cases h : ds.length = n
      · rw [if_pos h]
        simp only [h, true_and]
        cases rangeP ds <;> rfl
      · rw [if_neg h]; simp [wO, h]
theorem W_app {g : Act (List Arg)} : W (aApp fa g) Γ Q = W fa Γ fun r1 Γ1 => lstR Γ1 r1 = true ∧ W g Γ1 fun as Γ2 => wD (argD as) fun es => wD (items Γ2 r1) fun ds => ∃ d, es = [d] ∧ ds.length < 16777216 ∧ Q (.val .non) (putR Γ2 (ds ++ [d]) r1) := by
  unfold W aApp
  cases fa Γ with
  | none => rfl
  | some x =>
    obtain ⟨r1, Γ1⟩ := x
    simp only [wO_some]
    cases lstR Γ1 r1 with
    | false => simp [wO]
    | true =>
      simp only [true_and]
      cases g Γ1 with
      | none => rfl
      | some x =>
        obtain ⟨as, Γ2⟩ := x
        simp only [wO_some]
        cases argD as with
        | none => rfl
        | some es =>
          simp only [wD_some]
          cases items Γ2 r1 with
          | none => match es with
            | [] => rfl
            | [_] => rfl
            | _ :: _ :: _ => rfl
          | some ds =>
            match es with
            | [] => simp [wO, wD]
            | [d] =>
              simp only [wD_some]
              by_cases h : ds.length < 16777216
              · rw [if_pos h]; simp [wO, h]
              · rw [if_neg h]; simp [wO, h]
            | _ :: _ :: _ => simp [wO, wD]
theorem W_pop : W (aPop fa) Γ Q = W fa Γ fun r1 Γ1 => lstR Γ1 r1 = true ∧ wD (items Γ1 r1) fun ds => wD ds[ds.length - 1]? fun d => Q (.val d) (putR Γ1 ds.dropLast r1) := by
  unfold W aPop
  cases fa Γ with
  | none => rfl
  | some x =>
    obtain ⟨r1, Γ1⟩ := x
    simp only [wO_some]
    cases lstR Γ1 r1 with
    | false => simp [wO]
    | true =>
      simp only [true_and]
      cases items Γ1 r1 with
      | none => rfl
      | some ds =>
        simp only [wD_some]
        cases ds[ds.length - 1]? <;> rfl
end
section
variable {Γ : Ga} {Q : Fl → Ga → Prop}
def thW (Q1 : Ga → Prop) (Q : Fl → Ga → Prop) : Fl → Ga → Prop
  | .nx, Γ => Q1 Γ
  | fl, Γ => Q fl Γ
theorem W_nx : W aNx Γ Q = Q .nx Γ := rfl
theorem W_then {f g : ActS} : W (aThen f g) Γ Q = W f Γ (thW (fun Γ1 => W g Γ1 Q) Q) := by
  unfold W aThen
  cases f Γ with
  | none => rfl
  | some x => obtain ⟨fl, Γ1⟩ := x; cases fl <;> rfl
theorem W_drop {f : Act R} : W (aDrop f) Γ Q = W f Γ fun _ Γ1 => Q .nx Γ1 := by
  unfold W aDrop
  cases f Γ with
  | none => rfl
  | some x => rfl
theorem W_pure {fl : Fl} : W (aPure fl) Γ Q = Q fl Γ := rfl
theorem W_ret {f : Act R} : W (aRet f) Γ Q = W f Γ fun r Γ1 => wO (retR Γ1 r) fun rt Γ2 => Q (.rt rt) Γ2 := by
  unfold W aRet
  cases f Γ with
  | none => rfl
  | some x =>
    obtain ⟨r, Γ1⟩ := x
    simp only [wO_some]
    cases retR Γ1 r <;> rfl
theorem W_if {c : Act Bool} {f g : ActS} : W (aIf c f g) Γ Q = W c Γ fun b Γ1 => if b = true then W f Γ1 Q else W g Γ1 Q := by
  unfold W aIf
  cases c Γ with
  | none => rfl
  | some x => obtain ⟨b, Γ1⟩ := x; cases b <;> rfl
theorem W_asg {ow : Bool} {i : Nat} {f : Act R} : W (aAsg ow i f) Γ Q = W f Γ fun r Γ1 => wO (toItm ow Γ1 r) fun it Γ2 => wD (setI i it Γ2) fun Γ3 => Q .nx Γ3 := by
  unfold W aAsg
  cases f Γ with
  | none => rfl
  | some x =>
    obtain ⟨r, Γ1⟩ := x
    simp only [wO_some]
    cases toItm ow Γ1 r with
    | none => rfl
    | some x =>
      obtain ⟨it, Γ2⟩ := x
      simp only [wO_some]
      cases setI i it Γ2 <;> rfl
theorem W_par {is : List Nat} {g : Act (List Itm)} : W (aPar is g) Γ Q = W g Γ fun its Γ1 => wD (setIs is its Γ1) fun Γ2 => Q .nx Γ2 := by
  unfold W aPar
  cases g Γ with
  | none => rfl
  | some x =>
    obtain ⟨r, Γ1⟩ := x
    simp only [wO_some]
    cases setIs is r Γ1 <;> rfl
theorem W_unp {tg : D → Ga → Option Ga} {f : Act R} : W (aUnp tg f) Γ Q = W f Γ fun r Γ1 => wO (mv Γ1 r) fun d Γ2 => wD (tg d Γ2) fun Γ3 => Q .nx Γ3 := by
  unfold W aUnp
  cases f Γ with
  | none => rfl
  | some x =>
    obtain ⟨r, Γ1⟩ := x
    simp only [wO_some]
    cases mv Γ1 r with
    | none => rfl
    | some x =>
      obtain ⟨it, Γ2⟩ := x
      simp only [wO_some]
      cases tg it Γ2 <;> rfl
theorem W_sub {fe fo fi : Act R} : W (aSub fe fo fi) Γ Q = W fe Γ fun r Γ1 => wO (mv Γ1 r) fun d Γ2 => W fo Γ2 fun ro Γ3 => W fi Γ3 fun ri Γ4 => wD (dr Γ4 ri) fun x => ∃ j, x = .int j ∧ wD (stR Γ4 d j ro) fun Γ5 => Q .nx Γ5 := by
  unfold W aSub
  cases fe Γ with
  | none => rfl
  | some x =>
    obtain ⟨r, Γ1⟩ := x
    simp only [wO_some]
    cases mv Γ1 r with
    | none => rfl
    | some x =>
      obtain ⟨d, Γ2⟩ := x
      simp only [wO_some]
      cases fo Γ2 with
      | none => rfl
      | some x =>
        obtain ⟨ro, Γ3⟩ := x
        simp only [wO_some]
        cases fi Γ3 with
        | none => rfl
        | some x =>
          obtain ⟨ri, Γ4⟩ := x
          simp only [wO_some]
          cases dr Γ4 ri with
          | none => rfl
          | some x =>
            simp only [wD_some]
            cases x with
            | int j =>
              simp only [D.int.injEq, exists_eq_left']
              cases stR Γ4 d j ro <;> rfl
            | _ => simp [wO]
theorem W_for {ws : List Nat} {it : Act (List D)} {tg : D → Ga → Option Ga} {b : ActS} : W (aFor ws it tg b) Γ Q = W it Γ fun ds Γ1 => W (forL ws tg b ds) Γ1 Q := by
  unfold W aFor
  cases it Γ with
  | none => rfl
  | some x => rfl
/-- a for: I i Γ stands ahead of turn i -/
theorem W_forL {ws : List Nat} {tg : D → Ga → Option Ga} {b : ActS} {ds : List D} (I : Nat → Ga → Prop) (h0 : I 0 Γ)
    (hs : ∀ i d Γ, ds[i]? = some d → I i Γ → wD (tg d Γ) fun Γ1 => W b Γ1 fun fl Γ2 => match fl with
      | .nx => I (i + 1) (forget ws Γ2)
      | .ct => I (i + 1) (forget ws Γ2)
      | .bk => Q .nx Γ2
      | .rt r => Q (.rt r) Γ2) (hd : ∀ Γ, I ds.length Γ → Q .nx Γ) : W (forL ws tg b ds) Γ Q := by
  induction ds generalizing I Γ with
  | nil => exact hd Γ h0
  | cons d ds ih =>
    have h1 := hs 0 d Γ rfl h0
    unfold W forL
    cases e : tg d Γ with
    | none => rw [e] at h1; exact h1.elim
    | some Γ1 =>
      rw [e] at h1
      have h1 : wO (b Γ1) _ := h1
      simp only
      cases e2 : b Γ1 with
      | none => rw [e2] at h1; exact h1.elim
      | some x =>
        obtain ⟨fl, Γ2⟩ := x
        rw [e2] at h1
        have next : I 1 (forget ws Γ2) → wO (forL ws tg b ds (forget ws Γ2)) Q := fun h => ih (fun i Γ => I (i + 1) Γ) h (fun i d Γ hd hi => hs (i + 1) d Γ hd hi) hd
        cases fl with
        | nx => exact next h1
        | ct => exact next h1
        | bk => exact h1
        | rt r => exact h1
/-- a while: I m Γ stands ahead of each turn, m falls -/
theorem W_wh {ws : List Nat} {c : Act Bool} {b : ActS} (I : Nat → Ga → Prop) {m : Nat} (h0 : I m Γ)
    (hs : ∀ m Γ, I m Γ → W c Γ fun x Γ1 => if x = true then W b Γ1 fun fl Γ2 => match fl with
      | .nx => ∃ m', m' < m ∧ I m' (forget ws Γ2)
      | .ct => ∃ m', m' < m ∧ I m' (forget ws Γ2)
      | .bk => Q .nx Γ2
      | .rt r => Q (.rt r) Γ2 else Q .nx Γ1) : W (aWh ws c b) Γ Q := by
  have key : ∀ m Γ, I m Γ → ∃ n x, whN ws c b n Γ = some x ∧ Q x.1 x.2 := by
    intro m
    induction m using Nat.strongRecOn with
    | _ m ih =>
      intro Γ h
      have h1 := hs m Γ h
      unfold W at h1
      cases e : c Γ with
      | none => rw [e] at h1; exact h1.elim
      | some x =>
        obtain ⟨x, Γ1⟩ := x
        rw [e] at h1
        cases x with
        | false =>
          refine ⟨1, (.nx, Γ1), ?_, h1⟩
          unfold whN
          rw [e]
        | true =>
          have h1 : wO (b Γ1) _ := h1
          cases e2 : b Γ1 with
          | none => rw [e2] at h1; exact h1.elim
          | some y =>
            obtain ⟨fl, Γ2⟩ := y
            rw [e2] at h1
            have step : ∀ n, whN ws c b (n + 1) Γ = (match fl with
              | .nx => whN ws c b n (forget ws Γ2)
              | .ct => whN ws c b n (forget ws Γ2)
              | .bk => some (.nx, Γ2)
              | .rt r => some (.rt r, Γ2)) := fun n => by
              show whN ws c b (n + 1) Γ = _
              conv => lhs; unfold whN
              rw [e]
              simp only [e2]
              cases fl <;> rfl
            cases fl with
            | nx =>
              obtain ⟨m', hm, hi⟩ := h1
              obtain ⟨n, x, e3, q⟩ := ih m' hm _ hi
              exact ⟨n + 1, x, (step n).trans e3, q⟩
            | ct =>
              obtain ⟨m', hm, hi⟩ := h1
              obtain ⟨n, x, e3, q⟩ := ih m' hm _ hi
              exact ⟨n + 1, x, (step n).trans e3, q⟩
            | bk => exact ⟨1, _, step 0, h1⟩
            | rt r => exact ⟨1, _, step 0, h1⟩
  obtain ⟨n, x, e, q⟩ := key m Γ h0
  unfold W
  rw [aWh_of e]
  exact q
theorem W_aug {p : D → D → Option PR} {i : Nat} {f : Act R} {d1 : D} (hi : Γ[i]? = some (some (.dat d1))) : W (aAug p i f) Γ Q = W f Γ fun r Γ1 => wD (dr Γ1 r) fun d2 => wD (p d1 d2) fun pr => ∃ d, pr = .v d ∧ wD (setI i (.d d) Γ1) fun Γ2 => Q .nx Γ2 := by
  unfold W aAug
  rw [hi]
  simp only
  cases f Γ with
  | none => rfl
  | some x =>
    obtain ⟨r, Γ1⟩ := x
    simp only [wO_some]
    cases dr Γ1 r with
    | none => rfl
    | some d2 =>
      simp only [wD_some]
      cases p d1 d2 with
      | none => rfl
      | some pr =>
        simp only [wD_some]
        cases pr with
        | v d =>
          simp only [PR.v.injEq, exists_eq_left']
          cases setI i (.d d) Γ1 <;> rfl
        | _ => simp [wO]
end
/-- a comprehension: I i Γ acc stands ahead of turn i (the own slots wiped) -/
theorem W_lc {own : List Nat} {it : Act (List D)} {tg : D → Ga → Option Ga} {c : Act Bool} {e : Act R} {Γ : Ga} {Q : R → Ga → Prop} : W (aLc own it tg c e) Γ Q = W it Γ fun ds Γ1 => plains own Γ1 = true ∧ wO (lcL own tg c e ds (wipeΓ own Γ1) []) fun acc Γ2 => Q (.new acc) (backΓ Γ1 own Γ2) := by
  unfold W aLc
  cases it Γ with
  | none => rfl
  | some x =>
    obtain ⟨ds, Γ1⟩ := x
    simp only [wO_some]
    cases h : plains own Γ1 with
    | false => simp [wO]
    | true =>
      simp only [if_true, true_and]
      cases lcL own tg c e ds (wipeΓ own Γ1) [] with
      | none => rfl
      | some x => rfl
theorem W_lcL {own : List Nat} {tg : D → Ga → Option Ga} {c : Act Bool} {e : Act R} {ds : List D} {Γ : Ga} {acc : List D} {Q : List D → Ga → Prop} (I : Nat → Ga → List D → Prop) (h0 : I 0 Γ acc)
    (hs : ∀ i d Γ acc, ds[i]? = some d → I i Γ acc → wD (tg d Γ) fun Γ1 => W c Γ1 fun b Γ2 => if b = true then W e Γ2 fun r Γ3 => wO (mv Γ3 r) fun y Γ4 => plains own Γ4 = true ∧ acc.length < 16777216 ∧ I (i + 1) (wipeΓ own Γ4) (acc ++ [y]) else plains own Γ2 = true ∧ I (i + 1) (wipeΓ own Γ2) acc)
    (hd : ∀ Γ acc, I ds.length Γ acc → Q acc Γ) : wO (lcL own tg c e ds Γ acc) Q := by
  induction ds generalizing I Γ acc with
  | nil => exact hd Γ acc h0
  | cons d ds ih =>
    have h1 := hs 0 d Γ acc rfl h0
    unfold lcL
    cases e1 : tg d Γ with
    | none => rw [e1] at h1; exact h1.elim
    | some Γ1 =>
      rw [e1] at h1
      have h1 : wO (c Γ1) _ := h1
      simp only
      have next : ∀ Γ acc, I 1 Γ acc → wO (lcL own tg c e ds Γ acc) Q := fun Γ acc h => ih (fun i Γ acc => I (i + 1) Γ acc) h (fun i d Γ acc hd hi => hs (i + 1) d Γ acc hd hi) hd
      cases e2 : c Γ1 with
      | none => rw [e2] at h1; exact h1.elim
      | some x =>
        obtain ⟨b, Γ2⟩ := x
        rw [e2] at h1
        cases b with
        | false =>
          have h1 : plains own Γ2 = true ∧ I (0 + 1) (wipeΓ own Γ2) acc := h1
          simp only [h1.1, if_true]
          exact next _ _ h1.2
        | true =>
          have h1 : wO (e Γ2) _ := h1
          simp only
          cases e3 : e Γ2 with
          | none => rw [e3] at h1; exact h1.elim
          | some x =>
            obtain ⟨r, Γ3⟩ := x
            rw [e3] at h1
            have h1 : wO (mv Γ3 r) _ := h1
            simp only
            cases e4 : mv Γ3 r with
            | none => rw [e4] at h1; exact h1.elim
            | some x =>
              obtain ⟨y, Γ4⟩ := x
              rw [e4] at h1
              have h1 : plains own Γ4 = true ∧ acc.length < 16777216 ∧ I (0 + 1) (wipeΓ own Γ4) (acc ++ [y]) := h1
              simp only [h1.1, h1.2.1, true_and, if_true]
              exact next _ _ h1.2.2
/-- a def by its text -/
theorem runF_W {cal : Nat → Sm} {nN : Nat} {b : St} {q : Dl} {ds : List D} {Q : Rt → Dl → Prop} (h : W (sv cal b) (inΓ q ds ++ List.replicate (nN - (inΓ q ds).length) none) fun fl Γ' => match fl with
    | .rt rt => wD (exitD Γ' q) fun q' => Q rt q'
    | .nx => wD (exitD Γ' q) fun q' => Q (.dat .non) q'
    | _ => False) : wO (runF cal nN b q ds) Q := by
  unfold runF
  unfold W at h
  cases e : sv cal b (inΓ q ds ++ List.replicate (nN - (inΓ q ds).length) none) with
  | none => rw [e] at h; exact h.elim
  | some x =>
    obtain ⟨fl, Γ'⟩ := x
    rw [e] at h
    cases fl with
    | rt rt =>
      have h : wD (exitD Γ' q) _ := h
      simp only
      cases e2 : exitD Γ' q with
      | none => rw [e2] at h; exact h.elim
      | some q' => rw [e2] at h; exact h
    | nx =>
      have h : wD (exitD Γ' q) _ := h
      simp only
      cases e2 : exitD Γ' q with
      | none => rw [e2] at h; exact h.elim
      | some q' => rw [e2] at h; exact h
    | bk => exact h.elim
    | ct => exact h.elim
theorem wO_eq {α β : Type} {x : Option (α × β)} {a : α} {b : β} (h : wO x fun r q => r = a ∧ q = b) : x = some (a, b) := by
  cases x with
  | none => exact h.elim
  | some x => obtain ⟨r, q⟩ := x; obtain ⟨rfl, rfl⟩ := h; rfl
end Z

set_option Elab.async false
set_option linter.all false
set_option maxRecDepth 100000
set_option maxHeartbeats 4000000
/-! Z17: small equations for running by simp -/
namespace Z
open PySem L2 PyProof.Rows
section
variable {Γ : Ga} {i : Nat} {d m : D} {ds es : List D} {k : R → Prop}
theorem rdO_dat : rdO i Γ (some (some (.dat d))) = some (.val d, Γ) := rfl
theorem rdO_own : rdO i Γ (some (some (.own ds))) = some (.at i, Γ) := rfl
theorem rdO_deal : rdO i Γ (some (some (.deal ds m))) = some (.at i, Γ) := rfl
theorem mv_val : mv Γ (.val d) = some (d, Γ) := rfl
theorem mv_new : mv Γ (.new ds) = some (.lst ds, Γ) := rfl
theorem mv_at : mv Γ (.at i) = mvO i Γ Γ[i]? := rfl
theorem mvO_dat : mvO i Γ (some (some (.dat d))) = some (d, Γ) := rfl
theorem mvO_own : mvO i Γ (some (some (.own ds))) = some (.lst ds, Γ.set i none) := rfl
theorem dr_val : dr Γ (.val d) = some d := rfl
theorem dr_new : dr Γ (.new ds) = some (.lst ds) := rfl
theorem dr_at : dr Γ (.at i) = drO Γ[i]? := rfl
theorem drO_dat : drO (some (some (.dat d))) = some d := rfl
theorem drO_own : drO (some (some (.own ds))) = some (.lst ds) := rfl
theorem dr_at1 : dr Γ (.at1 i) = dr1 Γ[i]? := rfl
theorem dr1_deal : dr1 (some (some (.deal ds m))) = some (.lst ds) := rfl
def mvAO (i : Nat) (Γ : Ga) : Option (Option O) → Option (Arg × Ga)
  | some (some (.dat d)) => some (.d d, Γ)
  | some (some (.own ds)) => some (.d (.lst ds), Γ.set i none)
  | some (some (.deal _ _)) => some (.ref i, Γ)
  | _ => none
theorem mvA_val : mvA Γ (.val d) = some (.d d, Γ) := rfl
theorem mvA_new : mvA Γ (.new ds) = some (.d (.lst ds), Γ) := rfl
theorem mvA_at : mvA Γ (.at i) = mvAO i Γ Γ[i]? := by
  unfold mvA
  simp only [mv_at]
  cases Γ[i]? with
  | none => rfl
  | some o => cases o with
    | none => rfl
    | some o => cases o <;> rfl
theorem mvAO_dat : mvAO i Γ (some (some (.dat d))) = some (.d d, Γ) := rfl
theorem mvAO_own : mvAO i Γ (some (some (.own ds))) = some (.d (.lst ds), Γ.set i none) := rfl
theorem mvAO_deal : mvAO i Γ (some (some (.deal ds m))) = some (.ref i, Γ) := rfl
def itmO : Option (D × Ga) → Option (Itm × Ga)
  | some (d, Γ) => some (.d d, Γ)
  | none => none
theorem itmO_some : itmO (some (d, Γ)) = some (.d d, Γ) := rfl
theorem toItm_f {r : R} : toItm false Γ r = itmO (mv Γ r) := by
  unfold toItm
  cases mv Γ r <;> rfl
theorem toItm_n : toItm true Γ (.new ds) = some (.n ds, Γ) := rfl
theorem toItm_q : toItm true Γ (.newD ds m) = some (.q ds m, Γ) := rfl
theorem isDeal_none : isDeal (some none) = false := rfl
theorem isDeal_dat : isDeal (some (some (.dat d))) = false := rfl
theorem isDeal_own : isDeal (some (some (.own ds))) = false := rfl
theorem isDeal_deal : isDeal (some (some (.deal ds m))) = true := rfl
theorem lstR_at : lstR Γ (.at i) = lstO Γ[i]? := rfl
theorem lstR_at1 : lstR Γ (.at1 i) = isDeal Γ[i]? := rfl
theorem lstO_own : lstO (some (some (.own ds))) = true := rfl
theorem lstO_deal : lstO (some (some (.deal ds m))) = true := rfl
theorem items_at : items Γ (.at i) = itO Γ[i]? := rfl
theorem items_at1 : items Γ (.at1 i) = it1 Γ[i]? := rfl
theorem itO_own : itO (some (some (.own ds))) = some ds := rfl
theorem it1_deal : it1 (some (some (.deal ds m))) = some ds := rfl
theorem putR_at : putR Γ ds (.at i) = Γ.set i (some (.own ds)) := rfl
theorem putR_at1 : putR Γ ds (.at1 i) = Γ.set i (putO ds Γ[i]?) := rfl
theorem putO_deal : putO ds (some (some (.deal es m))) = some (.deal ds m) := rfl
theorem PR_v : (PR.v d).r = .val d := rfl
theorem PR_t : (PR.t ds).r = .val (.tup ds) := rfl
theorem PR_l : (PR.l ds).r = .new ds := rfl
theorem Rt_d : (Rt.dat d).r = .val d := rfl
theorem Rt_q : (Rt.deal ds m).r = .newD ds m := rfl
def rtO : Option (D × Ga) → Option (Rt × Ga)
  | some (d, Γ) => some (.dat d, Γ)
  | none => none
theorem rtO_some : rtO (some (d, Γ)) = some (.dat d, Γ) := rfl
theorem retR_val : retR Γ (.val d) = some (.dat d, Γ) := rfl
theorem retR_new : retR Γ (.new ds) = some (.dat (.lst ds), Γ) := rfl
theorem retR_newD : retR Γ (.newD ds m) = some (.deal ds m, Γ) := rfl
theorem retR_at : retR Γ (.at i) = rtO (mvO i Γ Γ[i]?) := by
  show (match mv Γ (.at i) with
    | some (d, Γ') => some (Rt.dat d, Γ')
    | none => none) = _
  rw [mv_at]
  cases mvO i Γ Γ[i]? <;> rfl
theorem exitD_none : exitD Γ none = some none := rfl
theorem exitD_some {x : List D × D} : exitD Γ (some x) = dealO Γ[(0 : Nat)]? := rfl
theorem dealO_deal : dealO (some (some (.deal ds m))) = some (some (ds, m)) := rfl
theorem intO_int {β : Type} {Γ : β} {j : Int} {Q : Option Int → β → Prop} : intO (.val (.int j)) Γ Q = Q (some j) Γ := rfl
theorem toB_bl {b : Bool} : toB (.val (.bl b)) = some b := rfl
theorem newO_new {Q : List D → Prop} : newO (.new ds) Q = Q ds := rfl
theorem valO_val {Q : D → Prop} : valO (.val d) Q = Q d := rfl
theorem thW_nx {Q1 : Ga → Prop} {Q : Fl → Ga → Prop} : thW Q1 Q .nx Γ = Q1 Γ := rfl
theorem thW_bk {Q1 : Ga → Prop} {Q : Fl → Ga → Prop} : thW Q1 Q .bk Γ = Q .bk Γ := rfl
theorem thW_ct {Q1 : Ga → Prop} {Q : Fl → Ga → Prop} : thW Q1 Q .ct Γ = Q .ct Γ := rfl
theorem thW_rt {Q1 : Ga → Prop} {Q : Fl → Ga → Prop} {r : Rt} : thW Q1 Q (.rt r) Γ = Q (.rt r) Γ := rfl
theorem callW_d {g : Sm} {as : List Arg} {Q : R → Ga → Prop} : callW g (.d d :: as) Γ Q = wD (argD (.d d :: as)) fun ds => wO (g none ds) fun rt q' => match q' with
    | none => Q rt.r Γ
    | some _ => False := rfl
theorem callW_nil {g : Sm} {Q : R → Ga → Prop} : callW g [] Γ Q = wO (g none []) fun rt q' => match q' with
    | none => Q rt.r Γ
    | some _ => False := rfl
def refW (g : Sm) (i : Nat) (ds : List D) (Γ : Ga) (Q : R → Ga → Prop) : Option (Option O) → Prop
  | some (some (.deal c m)) => wO (g (some (c, m)) ds) fun rt q' => match q' with
      | some (c', m') => Q rt.r (Γ.set i (some (.deal c' m')))
      | none => False
  | _ => False
theorem callW_ref {g : Sm} {as : List Arg} {Q : R → Ga → Prop} : callW g (.ref i :: as) Γ Q = wD (argD as) fun ds => refW g i ds Γ Q Γ[i]? := by
  simp only [callW]
  cases argD as with
  | none => rfl
  | some ds =>
    simp only [wD_some]
    cases Γ[i]? with
    | none => rfl
    | some o => cases o with
      | none => rfl
      | some o => cases o <;> rfl
theorem refW_deal {g : Sm} {c : List D} {Q : R → Ga → Prop} : refW g i ds Γ Q (some (some (.deal c m))) = wO (g (some (c, m)) ds) fun rt q' => match q' with
      | some (c', m') => Q rt.r (Γ.set i (some (.deal c' m')))
      | none => False := rfl
def augW (p : D → D → Option PR) (i : Nat) (f : Act R) (Γ : Ga) (Q : Fl → Ga → Prop) : Option (Option O) → Prop
  | some (some (.dat d1)) => W f Γ fun r Γ1 => wD (dr Γ1 r) fun d2 => wD (p d1 d2) fun pr => ∃ d, pr = .v d ∧ wD (setI i (.d d) Γ1) fun Γ2 => Q .nx Γ2
  | _ => False
theorem W_aug' {p : D → D → Option PR} {f : Act R} {Q : Fl → Ga → Prop} : W (aAug p i f) Γ Q = augW p i f Γ Q Γ[i]? := by
  cases h : Γ[i]? with
  | none => unfold W aAug; rw [h]; rfl
  | some o => cases o with
    | none => unfold W aAug; rw [h]; rfl
    | some o => cases o with
      | dat d => exact W_aug h
      | _ => unfold W aAug; rw [h]; rfl
theorem augW_dat {p : D → D → Option PR} {f : Act R} {Q : Fl → Ga → Prop} : augW p i f Γ Q (some (some (.dat d))) = W f Γ fun r Γ1 => wD (dr Γ1 r) fun d2 => wD (p d d2) fun pr => ∃ d, pr = .v d ∧ wD (setI i (.d d) Γ1) fun Γ2 => Q .nx Γ2 := rfl
theorem exV {P : D → Prop} : (∃ d', PR.v d = .v d' ∧ P d') = P d := by simp
theorem ex1 {P : D → Prop} : (∃ d', [d] = [d'] ∧ P d') = P d := by simp
theorem exI {j : Int} {P : Int → Prop} : (∃ j', D.int j = .int j' ∧ P j') = P j := by simp
/-! data -/
variable {x y : Int} {b : Bool} {K : PR → Prop} {z w : PySem.Str}
theorem addP_i : addP (.int x) (.int y) = some (.v (.int (x + y))) := rfl
theorem addP_l : addP (.lst ds) (.lst es) = if ds.length + es.length ≤ 16777216 then some (.l (ds ++ es)) else none := rfl
theorem addP_t : addP (.tup ds) (.tup es) = if ds.length + es.length ≤ 16777216 then some (.t (ds ++ es)) else none := rfl
theorem addI_i : addI (.int x) (.int y) = some (.v (.int (x + y))) := rfl
theorem subP_i : subP (.int x) (.int y) = some (.v (.int (x - y))) := rfl
theorem mulP_i : mulP (.int x) (.int y) = if okMul x y then some (.v (.int (x * y))) else none := rfl
theorem mulP_t (h : ds ≠ []) : mulP (.tup ds) (.int y) = if 2 ≤ y ∧ y ≤ 1000 ∧ ds.length ≤ 1000 then some (.t (List.replicate y.toNat ds).flatten) else none := by
  show (if ds ≠ [] ∧ 2 ≤ y ∧ y ≤ 1000 ∧ ds.length ≤ 1000 then _ else if ds = [] ∧ _ then _ else none) = _
  by_cases h2 : 2 ≤ y ∧ y ≤ 1000 ∧ ds.length ≤ 1000
  · rw [if_pos ⟨h, h2⟩, if_pos h2]
  · rw [if_neg fun z => h2 z.2, if_neg fun z => h z.1, if_neg h2]
theorem mulP_0 : mulP (.tup []) (.int y) = if -(2 ^ 62) ≤ y ∧ y < 2 ^ 62 then some (.v (.tup [])) else none := by
  unfold mulP
  by_cases h2 : -(2 ^ 62) ≤ y ∧ y < 2 ^ 62
  · simp [h2]
  · simp [h2]
theorem divP_i : divP (.int x) (.int y) = if okDiv y then some (.v (.int (x / y))) else none := rfl
theorem modP_i : modP (.int x) (.int y) = if 0 < y then some (.v (.int (x % y))) else none := rfl
theorem powP_i : powP (.int x) (.int y) = if 0 ≤ y ∧ y ≤ 1000000 ∧ x.natAbs < 2 ^ 64 then some (.v (.int (x ^ y.toNat))) else none := rfl
theorem cmpP_i {f : Int → Int → Bool} : cmpP f (.int x) (.int y) = some (.v (.bl (f x y))) := rfl
theorem eqP_i : eqP (.int x) (.int y) = some (.v (.bl (decide (x = y)))) := rfl
theorem neP_i : neP (.int x) (.int y) = some (.v (.bl (!decide (x = y)))) := rfl
theorem isP_nn : isP .non .non = some (.v (.bl true)) := rfl
theorem isP_in : isP (.int x) .non = some (.v (.bl false)) := rfl
theorem isP_tn : isP (.tup ds) .non = some (.v (.bl false)) := rfl
theorem isP_bn : isP (.bl b) .non = some (.v (.bl false)) := rfl
theorem isnP_nn : isnP .non .non = some (.v (.bl false)) := rfl
theorem isnP_in : isnP (.int x) .non = some (.v (.bl true)) := rfl
theorem isnP_tn : isnP (.tup ds) .non = some (.v (.bl true)) := rfl
theorem isP_nb : isP .non (.bl b) = some (.v (.bl false)) := rfl
theorem isP_ib : isP (.int x) (.bl b) = some (.v (.bl false)) := rfl
theorem isP_tb : isP (.tup ds) (.bl b) = some (.v (.bl false)) := rfl
theorem isP_bb {c : Bool} : isP (.bl b) (.bl c) = some (.v (.bl (decide (b = c)))) := rfl
theorem len_l : Blt.len.p [.lst ds] = some (.v (.int ds.length)) := rfl
theorem len_t : Blt.len.p [.tup ds] = some (.v (.int ds.length)) := rfl
theorem int_i : Blt.int.p [.int x] = some (.v (.int x)) := rfl
theorem abs_i : Blt.abs.p [.int x] = some (.v (.int (if x < 0 then -x else x))) := rfl
theorem tup_l : Blt.tuple.p [.lst ds] = some (.t ds) := rfl
theorem tup_t : Blt.tuple.p [.tup ds] = some (.t ds) := rfl
theorem lst_l : Blt.list.p [.lst ds] = some (.l ds) := rfl
theorem lst_t : Blt.list.p [.tup ds] = some (.l ds) := rfl
theorem min_i : Blt.min.p [.int x, .int y] = some (.v (.int (if y < x then y else x))) := rfl
theorem max_i : Blt.max.p [.int x, .int y] = some (.v (.int (if y > x then y else x))) := rfl
theorem rev_l : revP (.lst ds) = some (.l ds.reverse) := rfl
theorem neg_i : negP (.int x) = some (.v (.int (-x))) := rfl
theorem toInts_map : ∀ l : List Int, toInts (l.map D.int) = some l
  | [] => rfl
  | x :: l => by
    show (match toInts (l.map D.int) with
      | some ns => some (x :: ns)
      | none => none) = _
    rw [toInts_map l]
theorem sum_l {l : List Int} : Blt.sum.p [.lst (l.map D.int)] = some (.v (.int l.sum)) := by
  show (match toInts (l.map D.int) with
    | some ns => some (PR.v (.int ns.sum))
    | none => none) = _
  rw [toInts_map]
theorem slP_t {l h : Option Int} : slP (.tup ds) l h = some (.t (cut ds l h)) := rfl
theorem slP_l {l h : Option Int} : slP (.lst ds) l h = some (.l (cut ds l h)) := rfl
theorem ixP_t {K : PR → Prop} : wD (ixP (.tup ds) (.int x)) K = wD (atI ds x) fun d => K (.v d) := by
  show wD (match atI ds x with
    | some d => some (PR.v d)
    | none => none) K = _
  cases atI ds x <;> rfl
theorem ixP_l {K : PR → Prop} : wD (ixP (.lst ds) (.int x)) K = wD (atI ds x) fun d => K (.v d) := by
  show wD (match atI ds x with
    | some d => some (PR.v d)
    | none => none) K = _
  cases atI ds x <;> rfl
theorem ixR_v : wD (ixR Γ (.val m) d) k = wD (ixP m d) fun pr => k pr.r := by
  show wD (match ixP m d with
    | some pr => some pr.r
    | none => none) k = _
  cases ixP m d <;> rfl
theorem ixR_n : wD (ixR Γ (.new ds) d) k = wD (ixP (.lst ds) d) fun pr => k pr.r := by
  show wD (match ixP (.lst ds) d with
    | some pr => some pr.r
    | none => none) k = _
  cases ixP (.lst ds) d <;> rfl
def ixW (i : Nat) (d : D) (k : R → Prop) : Option (Option O) → Prop
  | some (some (.dat m)) => wD (ixP m d) fun pr => k pr.r
  | some (some (.own ds)) => wD (ixP (.lst ds) d) fun pr => k pr.r
  | some (some (.deal ds m)) => wD (ixDeal i (some (some (.deal ds m))) d) k
  | _ => False
theorem ixR_a : wD (ixR Γ (.at i) d) k = ixW i d k Γ[i]? := by
  unfold ixR
  simp only [dr_at]
  cases Γ[i]? with
  | none => rfl
  | some o => cases o with
    | none => rfl
    | some o => cases o with
      | dat m => simp only [drO_dat, ixW]; cases ixP m d <;> rfl
      | own ds => simp only [drO_own, ixW]; cases ixP (.lst ds) d <;> rfl
      | deal ds m => rfl
theorem ixW_own : ixW i d k (some (some (.own ds))) = wD (ixP (.lst ds) d) fun pr => k pr.r := rfl
theorem ixW_deal0 : ixW i (.int 0) k (some (some (.deal ds m))) = k (.at1 i) := rfl
theorem ixW_deal1 : ixW i (.int 1) k (some (some (.deal ds m))) = k (.val m) := rfl
theorem ixR_1 : wD (ixR Γ (.at1 i) d) k = wD (dr1 Γ[i]?) fun m => wD (ixP m d) fun pr => k pr.r := by
  show wD (match dr1 Γ[i]? with
    | some d1 => (match ixP d1 d with
      | some pr => some pr.r
      | none => none)
    | none => none) k = _
  cases dr1 Γ[i]? with
  | none => rfl
  | some m =>
    simp only [wD_some]
    cases ixP m d <;> rfl
theorem itemsD_l : itemsD (.lst ds) = some ds := rfl
theorem itemsD_t : itemsD (.tup ds) = some ds := rfl
theorem rangeP1 : rangeP [.int y] = if -(2 ^ 62) ≤ y ∧ y < 2 ^ 62 then some ((List.range y.toNat).map fun k => .int (0 + (k : Nat))) else none := rfl
theorem rangeP2 : rangeP [.int x, .int y] = if -(2 ^ 62) ≤ x ∧ x < 2 ^ 62 ∧ -(2 ^ 62) ≤ y ∧ y < 2 ^ 62 then some ((List.range (y - x).toNat).map fun k => .int (x + (k : Nat))) else none := rfl
theorem plainO_none : plainO (some none) = true := rfl
theorem plainO_dat : plainO (some (some (.dat d))) = true := rfl
theorem datO_none : datO (some none) = none := rfl
theorem datO_dat : datO (some (some (.dat d))) = some (.dat d) := rfl
theorem setAll_nil : setAll [] [] Γ = some Γ := rfl
def setAW (fs : List (D → Ga → Option Ga)) (ds : List D) : Option Ga → Option Ga
  | some Γ => setAll fs ds Γ
  | none => none
theorem setAll_cons {f : D → Ga → Option Ga} {fs : List (D → Ga → Option Ga)} : setAll (f :: fs) (d :: ds) Γ = setAW fs ds (f d Γ) := by
  show (match f d Γ with
    | some Γ1 => setAll fs ds Γ1
    | none => none) = _
  cases f d Γ <;> rfl
theorem setAW_some {fs : List (D → Ga → Option Ga)} : setAW fs ds (some Γ) = setAll fs ds Γ := rfl
theorem setT_t {fs : List (D → Ga → Option Ga)} : setT fs (.tup ds) Γ = setAll fs ds Γ := rfl
theorem setD_no (h : isDeal Γ[i]? = false) : setD i d Γ = some (Γ.set i (some (.dat d))) := by
  unfold setD
  rw [h]; rfl
end
def stO (i : Nat) (j : Int) (d : D) (Γ : Ga) : Option (Option O) → Option Ga
  | some (some (.deal ds _)) => if j = 1 then some (Γ.set i (some (.deal ds d))) else none
  | some (some (.own ds)) => match L2.ixN ds.length j with
    | some k => some (Γ.set i (some (.own (ds.set k d))))
    | none => none
  | _ => none
theorem stR_at {Γ : Ga} {d : D} {j : Int} {i : Nat} : stR Γ d j (.at i) = stO i j d Γ Γ[i]? := by
  unfold stR stO
  first
    | rfl
    | (simp only; done)
    | (simp only; cases Γ[i]? with
        | none => rfl
        | some o => cases o with
          | none => rfl
          | some o => cases o <;> rfl)
theorem stO_deal {Γ : Ga} {d m : D} {ds : List D} {i : Nat} : stO i 1 d Γ (some (some (.deal ds m))) = some (Γ.set i (some (.deal ds d))) := rfl
def fgO (v : Nat) (Γ : Ga) : Option (Option O) → Ga
  | some (some (.deal _ _)) => Γ
  | _ => Γ.set v none
theorem forget_nil {Γ : Ga} : forget [] Γ = Γ := rfl
theorem forget_cons {Γ : Ga} {v : Nat} {vs : List Nat} : forget (v :: vs) Γ = forget vs (fgO v Γ Γ[v]?) := by
  show forget vs (match isDeal Γ[v]? with | true => Γ | false => Γ.set v none) = _
  cases Γ[v]? with
  | none => rfl
  | some o => cases o with
    | none => rfl
    | some o => cases o <;> rfl
theorem fgO_none {Γ : Ga} {v : Nat} : fgO v Γ (some none) = Γ.set v none := rfl
theorem fgO_dat {Γ : Ga} {v : Nat} {d : D} : fgO v Γ (some (some (.dat d))) = Γ.set v none := rfl
theorem fgO_own {Γ : Ga} {v : Nat} {ds : List D} : fgO v Γ (some (some (.own ds))) = Γ.set v none := rfl
theorem fgO_deal {Γ : Ga} {v : Nat} {ds : List D} {m : D} : fgO v Γ (some (some (.deal ds m))) = Γ := rfl
theorem W_yes {Γ : Ga} {Q : Bool → Ga → Prop} : W aYes Γ Q = Q true Γ := rfl
/-- a comprehension that leaves all as it is -/
theorem W_lcMap {own : List Nat} {tg : D → Ga → Option Ga} {e : Act R} {ds : List D} {Γ : Ga} {Q : List D → Ga → Prop} (ys : List D) (hl : ys.length = ds.length) (hb : ds.length ≤ 16777216)
    (hs : ∀ (i : Nat) (d y : D), ds[i]? = some d → ys[i]? = some y → wD (tg d Γ) fun Γ1 => W e Γ1 fun r Γ3 => wO (mv Γ3 r) fun y' Γ4 => y' = y ∧ plains own Γ4 = true ∧ wipeΓ own Γ4 = Γ) (hQ : Q ys Γ) : wO (lcL own tg aYes e ds Γ []) Q := by
  refine W_lcL (fun i Γ' acc => Γ' = Γ ∧ acc = ys.take i ∧ i ≤ ds.length) ⟨rfl, rfl, Nat.zero_le _⟩ ?_ ?_
  · rintro i d Γ' acc hd ⟨rfl, rfl, hi⟩
    have hlt : i < ds.length := by
      rcases Nat.lt_or_ge i ds.length with h | h
      · exact h
      · rw [List.getElem?_eq_none h] at hd; cases hd
    have hy : ys[i]? = some ys[i] := List.getElem?_eq_getElem (by omega)
    have h := hs i d _ hd hy
    cases q : tg d Γ' with
    | none => rw [q] at h; exact h.elim
    | some Γ1 =>
      rw [q] at h
      have h : W e Γ1 _ := h
      show W aYes Γ1 _
      rw [W_yes, if_pos rfl]
      refine h.mono fun r Γ3 h3 => ?_
      cases q3 : mv Γ3 r with
      | none => rw [q3] at h3; exact h3.elim
      | some x =>
        obtain ⟨y', Γ4⟩ := x
        rw [q3] at h3
        obtain ⟨rfl, h4, h5⟩ := h3
        exact ⟨h4, by rw [List.length_take]; omega, h5, by rw [List.take_succ, hy]; rfl, hlt⟩
  · rintro Γ' acc ⟨rfl, rfl, _⟩
    rw [← hl, List.take_length]
    exact hQ
/-! levels -/
theorem run_S {fs : List Fn} {k i : Nat} {f : Fn} (h : fs[i]? = some f) : run fs (k + 1) i = runF (run fs k) f.N.length f.b := by
  show (match fs[i]? with
    | some f => runF (run fs k) f.N.length f.b
    | none => fun _ _ => none) = _
  rw [h]
end Z

set_option Elab.async false
set_option linter.all false
set_option maxRecDepth 100000
set_option maxHeartbeats 4000000
/-! Z18: pop(i), extend -/
namespace Z
open PySem L2 PyProof.Rows
def popIx (i : Int) (n : Nat) : Option Nat := if -(2 ^ 63) ≤ i ∧ i < 2 ^ 63 then seqIndex? i n else none
def intD : D → Option Int
  | .int i => some i
  | _ => none
def oneI : List D → (Int → Prop) → Prop
  | [.int i], Q => Q i
  | _, _ => False
theorem oneI_i {i : Int} {Q : Int → Prop} : oneI [.int i] Q = Q i := rfl
def oneL : List D → (List D → Prop) → Prop
  | [.lst es], Q => Q es
  | _, _ => False
theorem oneL_l {es : List D} {Q : List D → Prop} : oneL [.lst es] Q = Q es := rfl
theorem W_popAt {fa : Act R} {g : Act (List R)} {Γ : Ga} {Q : R → Ga → Prop} : W (aPopAt fa g) Γ Q = W fa Γ fun r1 Γ1 => lstR Γ1 r1 = true ∧ W g Γ1 fun rs Γ2 => wD (drs Γ2 rs) fun is => wD (items Γ2 r1) fun ds => oneI is fun i => wD (popIx i ds.length) fun k => wD ds[k]? fun d => Q (.val d) (putR Γ2 (ds.eraseIdx k) r1) := by
  unfold W aPopAt
  cases fa Γ with
  | none => rfl
  | some x =>
    obtain ⟨r1, Γ1⟩ := x
    simp -implicitDefEqProofs only [wO_some]
    cases lstR Γ1 r1 with
    | false => simp [wO]
    | true =>
      simp -implicitDefEqProofs only [true_and]
      cases g Γ1 with
      | none => rfl
      | some x =>
        obtain ⟨rs, Γ2⟩ := x
        simp -implicitDefEqProofs only [wO_some]
        cases drs Γ2 rs with
        | none => rfl
        | some is =>
          simp -implicitDefEqProofs only [wD_some]
          cases items Γ2 r1 with
          | none =>
            match is with
            | [] => rfl
            | [.int _] => rfl
            | [.non] => rfl
            | [.bl _] => rfl
            | [.str _] => rfl
            | [.tup _] => rfl
            | [.lst _] => rfl
            | [.scr _] => rfl
            | a :: _ :: _ => cases a <;> rfl
          | some ds =>
            simp -implicitDefEqProofs only [wD_some]
            match is with
            | [.int i] =>
              simp -implicitDefEqProofs only [oneI]
              show wO (match popIx i ds.length with
                | none => none
                | some k => match ds[k]? with
                  | none => none
                  | some d => some (R.val d, putR Γ2 (ds.eraseIdx k) r1)) Q = _
              cases popIx i ds.length with
              | none => rfl
              | some k =>
                simp -implicitDefEqProofs only [wD_some]
                cases ds[k]? <;> rfl
            | [] => rfl
            | [.non] => rfl
            | [.bl _] => rfl
            | [.str _] => rfl
            | [.tup _] => rfl
            | [.lst _] => rfl
            | [.scr _] => rfl
            | a :: _ :: _ => cases a <;> rfl
theorem popIx_nat {i n : Nat} (h : i < n) (hn : n ≤ 16777216) : popIx (i : Int) n = some i := by
  unfold popIx
  rw [if_pos ⟨by omega, by omega⟩]
  unfold seqIndex?
  simp
  omega
end Z

set_option Elab.async false
set_option linter.all false
set_option maxRecDepth 100000
set_option maxHeartbeats 4000000
/-! numbers by octets: the program's words and their meaning (k91, k92) -/
namespace Nu
open Z
open L2 (atI ixN)
def octs (n : Nat) : List Nat := if h : n < 128 then [n] else (128 + n % 128) :: octs (n / 128)
termination_by n
decreasing_by omega
abbrev oi (xs : List Nat) : List D := xs.map fun x : Nat => D.int x
theorem oi_app (a b : List Nat) : oi (a ++ b) = oi a ++ oi b := List.map_append
/-- octets_of_number -/
def tOct : Z.St := (.next (.asg true 1 (.lst .nil))
 (.next (.asg false 2 (.var 0))
 (.next (.whl [] (.cmp .ge (.var 2) (.con (.int 128)))
 (.next (.drop (.app (.var 1) (.cons (.bin .add (.con (.int 128)) (.bin .mod (.var 2) (.con (.int 128)))) .nil)))
 (.next (.asg false 2 (.bin .div (.var 2) (.con (.int 128))))
 .nil)))
 (.next (.drop (.app (.var 1) (.cons (.var 2) .nil)))
 (.next (.ret (.blt .tuple (.cons (.var 1) .nil)))
 .nil)))))
theorem okDiv_lit : okDiv 128 := by decide
theorem oct_ok (cal) (n : Nat) (h : (octs n).length < 16000000) : runF cal 3 tOct none [.int n] = some (.dat (.tup (oi (octs n))), none) := by
  refine wO_eq (runF_W ?_)
  simp -implicitDefEqProofs only [tOct, inΓ, dlO, List.map_cons, List.map_nil, List.nil_append, List.cons_append, List.replicate, Nat.reduceSub, sv, ev, CO.p, BO.p, BO.ap, tv, isNop, if_true, if_false, Bool.false_eq_true, reduceIte,
  W_then, W_asg, W_disp, W_nil, W_cons, W_consA, W_consI, W_var, W_val, W_bin, W_chn, W_ix, W_un, W_optN, W_optS, W_sl, W_deal, W_blt, W_isi, W_lrg, W_call, W_prm, W_ite, W_T, W_B, W_not, W_and, W_or, W_seq, W_rng, W_app, W_pop, W_nx, W_drop, W_pure, W_ret, W_if, W_par, W_unp, W_sub, W_yes, W_for, W_aug', W_lc,
  wO_some, wD_some, wD_if, rdO_dat, rdO_own, rdO_deal, mv_val, mv_new, mv_at, mvO_dat, mvO_own, dr_val, dr_new, dr_at, drO_dat, drO_own, dr_at1, dr1_deal, mvA_val, mvA_new, mvA_at, mvAO_dat, mvAO_own, mvAO_deal, toItm_f, itmO_some, toItm_n, toItm_q,
  isDeal_none, isDeal_dat, isDeal_own, isDeal_deal, lstR_at, lstR_at1, lstO_own, lstO_deal, items_at, items_at1, itO_own, it1_deal, putR_at, putR_at1, putO_deal, PR_v, PR_t, PR_l, Rt_d, Rt_q, rtO_some, retR_val, retR_new, retR_newD, retR_at, exitD_none, exitD_some, dealO_deal, intO_int, toB_bl, newO_new, valO_val, thW_nx, thW_bk, thW_ct, thW_rt,
  callW_d, callW_nil, callW_ref, refW_deal, augW_dat, exV, ex1, exI, addP_i, addP_l, addP_t, addI_i, subP_i, mulP_i, mulP_0, divP_i, modP_i, powP_i, cmpP_i, eqP_i, neP_i, isP_nn, isP_in, isP_tn, isP_bn, isnP_nn, isnP_in, isnP_tn, isP_nb, isP_ib, isP_tb, isP_bb, len_l, len_t, int_i, abs_i, tup_l, tup_t, lst_l, lst_t, min_i, max_i, rev_l, neg_i, sum_l, slP_t, slP_l,
  ixP_t, ixP_l, ixR_v, ixR_n, ixR_a, ixW_own, ixW_deal0, ixW_deal1, ixR_1, itemsD_l, itemsD_t, rangeP1, rangeP2, plains, plainO_none, plainO_dat, datO_none, datO_dat, setAll_nil, setAll_cons, setAW_some, setT_t,
  stR_at, stO_deal, setI, setIs, Itm.o, setD, forget_nil, forget_cons, fgO_none, fgO_dat, fgO_own, fgO_deal, wipeΓ, backΓ, argD, drs, List.all_cons, List.all_nil, Bool.and_true, List.getElem?_cons_zero, List.getElem?_cons_succ, List.set_cons_zero, List.set_cons_succ, List.length_cons, List.length_nil, Nat.zero_add, Nat.reduceAdd, Nat.reduceLeDiff, true_and, and_true, decide_eq_true_eq]
  refine W_wh (fun m Γ => ∃ (r : Nat) (ds : List Nat), m = r ∧ Γ = [some (.dat (.int n)), some (.own (oi ds)), some (.dat (.int r))] ∧ octs n = ds ++ octs r) (m := n) ⟨n, [], rfl, rfl, rfl⟩ ?_
  rintro m Γ ⟨r, ds, rfl, rfl, e⟩
  simp -implicitDefEqProofs only [sv, ev, CO.p, BO.p, BO.ap, tv, isNop, if_true, if_false, Bool.false_eq_true, reduceIte,
  W_then, W_asg, W_disp, W_nil, W_cons, W_consA, W_consI, W_var, W_val, W_bin, W_chn, W_ix, W_un, W_optN, W_optS, W_sl, W_deal, W_blt, W_isi, W_lrg, W_call, W_prm, W_ite, W_T, W_B, W_not, W_and, W_or, W_seq, W_rng, W_app, W_pop, W_nx, W_drop, W_pure, W_ret, W_if, W_par, W_unp, W_sub, W_yes, W_for, W_aug', W_lc,
  wO_some, wD_some, wD_if, rdO_dat, rdO_own, rdO_deal, mv_val, mv_new, mv_at, mvO_dat, mvO_own, dr_val, dr_new, dr_at, drO_dat, drO_own, dr_at1, dr1_deal, mvA_val, mvA_new, mvA_at, mvAO_dat, mvAO_own, mvAO_deal, toItm_f, itmO_some, toItm_n, toItm_q,
  isDeal_none, isDeal_dat, isDeal_own, isDeal_deal, lstR_at, lstR_at1, lstO_own, lstO_deal, items_at, items_at1, itO_own, it1_deal, putR_at, putR_at1, putO_deal, PR_v, PR_t, PR_l, Rt_d, Rt_q, rtO_some, retR_val, retR_new, retR_newD, retR_at, exitD_none, exitD_some, dealO_deal, intO_int, toB_bl, newO_new, valO_val, thW_nx, thW_bk, thW_ct, thW_rt,
  callW_d, callW_nil, callW_ref, refW_deal, augW_dat, exV, ex1, exI, addP_i, addP_l, addP_t, addI_i, subP_i, mulP_i, mulP_0, divP_i, modP_i, powP_i, cmpP_i, eqP_i, neP_i, isP_nn, isP_in, isP_tn, isP_bn, isnP_nn, isnP_in, isnP_tn, isP_nb, isP_ib, isP_tb, isP_bb, len_l, len_t, int_i, abs_i, tup_l, tup_t, lst_l, lst_t, min_i, max_i, rev_l, neg_i, sum_l, slP_t, slP_l,
  ixP_t, ixP_l, ixR_v, ixR_n, ixR_a, ixW_own, ixW_deal0, ixW_deal1, ixR_1, itemsD_l, itemsD_t, rangeP1, rangeP2, plains, plainO_none, plainO_dat, datO_none, datO_dat, setAll_nil, setAll_cons, setAW_some, setT_t,
  stR_at, stO_deal, setI, setIs, Itm.o, setD, forget_nil, forget_cons, fgO_none, fgO_dat, fgO_own, fgO_deal, wipeΓ, backΓ, argD, drs, List.all_cons, List.all_nil, Bool.and_true, List.getElem?_cons_zero, List.getElem?_cons_succ, List.set_cons_zero, List.set_cons_succ, List.length_cons, List.length_nil, Nat.zero_add, Nat.reduceAdd, Nat.reduceLeDiff, true_and, and_true, decide_eq_true_eq]
  have hl : ds.length < 16000000 := by rw [e, List.length_append] at h; omega
  split
  · rename_i hm
    refine ⟨by decide, by rw [List.length_map]; omega, okDiv_lit, m / 128, by omega, m / 128, ds ++ [128 + m % 128], rfl, ?_, ?_⟩
    · rw [oi_app]; rfl
    · rw [e]
      conv => lhs; rw [octs]
      rw [dif_neg (by omega), List.append_assoc]; rfl
  · rename_i hm
    refine ⟨by rw [List.length_map]; omega, ?_⟩
    rw [e]
    conv => rhs; rw [octs]
    rw [dif_pos (by omega), oi_app]; rfl
/-! the worth of figures -/
def evB (B : Nat) : List Nat → Nat
  | [] => 0
  | r :: rs => r + B * evB B rs
def prs (B : Nat) : List Nat → List Nat
  | [] => []
  | [a] => [a]
  | a :: b :: rs => (a + B * b) :: prs B rs
theorem prs_ev (B : Nat) : ∀ rs, evB (B * B) (prs B rs) = evB B rs
  | [] => rfl
  | [a] => by simp [prs, evB]
  | a :: b :: rs => by
    show (a + B * b) + (B * B) * evB (B * B) (prs B rs) = a + B * (b + B * evB B rs)
    rw [prs_ev B rs, Nat.mul_add, Nat.mul_assoc, Nat.add_assoc]
theorem prs_len (B : Nat) : ∀ rs : List Nat, (prs B rs).length = (rs.length + 1) / 2
  | [] => rfl
  | [a] => by simp [prs]
  | a :: b :: rs => by
    unfold prs
    rw [List.length_cons, prs_len B rs, List.length_cons, List.length_cons]; omega
theorem prs_lt (B : Nat) (hB : 1 ≤ B) : ∀ rs : List Nat, (∀ r ∈ rs, r < B) → ∀ r ∈ prs B rs, r < B * B
  | [], _, r, h => by cases h
  | [a], h, r, hr => by
    have : r = a := List.mem_singleton.mp hr
    have h1 := h a List.mem_cons_self
    subst this
    calc r < B := h1
      _ = B * 1 := (Nat.mul_one B).symm
      _ ≤ B * B := Nat.mul_le_mul_left B hB
  | a :: b :: rs, h, r, hr => by
    unfold prs at hr
    rcases List.mem_cons.mp hr with rfl | hr
    · have h1 := h a List.mem_cons_self
      have h2 := h b (List.mem_cons_of_mem _ List.mem_cons_self)
      have : B * (b + 1) ≤ B * B := Nat.mul_le_mul_left B h2
      rw [Nat.mul_add, Nat.mul_one] at this
      omega
    · exact prs_lt B hB rs (fun x hx => h x (List.mem_cons_of_mem _ (List.mem_cons_of_mem _ hx))) r hr
/-- the pairs alone -/
def prsE (B : Nat) : List Nat → List Nat
  | a :: b :: rs => (a + B * b) :: prsE B rs
  | _ => []
theorem prs_odd (B : Nat) : ∀ rs : List Nat, prs B rs = if rs.length % 2 = 1 then prsE B rs ++ [rs.getD (rs.length - 1) 0] else prsE B rs
  | [] => rfl
  | [a] => rfl
  | a :: b :: rs => by
    unfold prs prsE
    rw [prs_odd B rs]
    have e : (a :: b :: rs).length % 2 = rs.length % 2 := by simp -implicitDefEqProofs only [List.length_cons]; omega
    rw [e]
    split
    · rename_i h
      rw [List.cons_append]
      congr 2
      have e2 : (a :: b :: rs).length - 1 = rs.length - 1 + 1 + 1 := by simp -implicitDefEqProofs only [List.length_cons]; omega
      rw [e2, List.getD_cons_succ, List.getD_cons_succ]
    · rfl
theorem prsE_get (B : Nat) : ∀ (rs : List Nat) (i : Nat), i < rs.length / 2 → (prsE B rs)[i]? = some (rs.getD (2 * i) 0 + B * rs.getD (2 * i + 1) 0)
  | [], i, h => by simp at h
  | [a], i, h => by simp at h
  | a :: b :: rs, 0, h => rfl
  | a :: b :: rs, i + 1, h => by
    unfold prsE
    rw [List.getElem?_cons_succ, prsE_get B rs i (by simp -implicitDefEqProofs only [List.length_cons] at h; omega)]
    rfl
theorem prsE_len (B : Nat) : ∀ rs : List Nat, (prsE B rs).length = rs.length / 2
  | [] => rfl
  | [a] => by simp [prsE]
  | a :: b :: rs => by
    unfold prsE
    rw [List.length_cons, prsE_len B rs, List.length_cons, List.length_cons]; omega
theorem atI_nat {xs : List Nat} {i : Nat} (h : i < xs.length) : atI (oi xs) (i : Int) = some (D.int (xs.getD i 0 : Nat)) := by
  unfold atI ixN
  rw [if_pos (by omega), List.length_map, if_pos (by exact_mod_cast h)]
  show (oi xs)[(i : Int).toNat]? = _
  rw [Int.toNat_natCast, List.getElem?_map, List.getD_eq_getElem?_getD, List.getElem?_eq_getElem h]
  rfl
theorem log_lt {x B : Nat} {e : Nat} (h : x < 2 ^ e) : x.log2 ≤ e := by
  rcases Nat.eq_zero_or_pos x with h0 | h0
  · subst h0; rw [Nat.log2_zero]; omega
  · exact Nat.le_of_lt ((Nat.log2_lt (by omega)).mpr h)
theorem okMul_of {x y e : Nat} (hx : x < 2 ^ e) (hy : y < 2 ^ e) (he : e < 400000) : okMul (x : Int) (y : Int) := by
  refine .inr (.inr ?_)
  rw [Int.natAbs_natCast, Int.natAbs_natCast]
  have := log_lt (B := 0) hx
  have := log_lt (B := 0) hy
  omega
/-- number_of -/
def tNum : Z.St := (.next (.par [1, 2] (.cons (.blt .list (.cons (.var 0) .nil)) (.cons (.con (.int 128)) .nil)))
 (.next (.whl [3] (.cmp .gt (.blt .len (.cons (.var 1) .nil)) (.lit (.int 1)))
 (.next (.asg true 3 (.lc [4] (.rng 3 (.cons (.lit (.int 0)) (.cons (.bin .sub (.blt .len (.cons (.var 1) .nil)) (.lit (.int 1))) (.cons (.lit (.int 2)) .nil)))) (.nm 4) .nop (.bin .add (.ix (.var 1) (.var 4)) (.bin .mul (.var 2) (.ix (.var 1) (.bin .add (.var 4) (.lit (.int 1))))))))
 (.next (.iff (.cmp .eq (.bin .mod (.blt .len (.cons (.var 1) .nil)) (.lit (.int 2))) (.lit (.int 1)))
 (.next (.drop (.app (.var 3) (.cons (.ix (.var 1) (.bin .sub (.blt .len (.cons (.var 1) .nil)) (.lit (.int 1)))) .nil)))
 .nil)
 .nil)
 (.next (.asg false 1 (.var 3))
 (.next (.asg false 2 (.bin .mul (.var 2) (.var 2)))
 .nil)))))
 (.next (.ret (.ix (.var 1) (.lit (.int 0))))
 .nil)))
theorem range2 {L : Nat} (hL : L < 1000000) (h2 : 1 < L) : rangeP [.int 0, .int ((L : Int) - 1), .int 2] = some ((List.range (L / 2)).map fun k => .int (0 + (k : Nat) * 2)) := by
  have e : PySem.Builtin.Range.rangeSize 0 ((L : Int) - 1) 2 = ((L / 2 : Nat) : Int) := by
    unfold PySem.Builtin.Range.rangeSize
    rw [if_pos (by decide), if_pos (by omega)]; omega
  show (if _ then some _ else none) = _
  rw [if_pos, e, Int.toNat_natCast]
  refine ⟨by decide, by decide, ?_, by rw [e]; omega⟩
  unfold PySem.Builtin.Range.small
  rw [e]
  rw [if_pos (by decide)]
  simp -implicitDefEqProofs only [PySem.Builtin.Range.rangeFitsLong, Bool.and_eq_true, Bool.or_eq_true, decide_eq_true_eq]
  omega
theorem num_ok (cal) (fs : List Nat) (h0 : fs ≠ []) (hl : fs.length ≤ 25000) (hf : ∀ f ∈ fs, f < 128) : runF cal 5 tNum none [.lst (oi fs)] = some (.dat (.int (evB 128 fs)), none) := by
  refine wO_eq (runF_W ?_)
  simp -implicitDefEqProofs only [tNum, inΓ, dlO, List.map_cons, List.map_nil, List.nil_append, List.cons_append, List.replicate, Nat.reduceSub, sv, ev, CO.p, BO.p, BO.ap, tv, isNop, if_true, if_false, Bool.false_eq_true, reduceIte,
  W_then, W_asg, W_disp, W_nil, W_cons, W_consA, W_consI, W_var, W_val, W_bin, W_chn, W_ix, W_un, W_optN, W_optS, W_sl, W_deal, W_blt, W_isi, W_lrg, W_call, W_prm, W_ite, W_T, W_B, W_not, W_and, W_or, W_seq, W_rng, W_app, W_pop, W_nx, W_drop, W_pure, W_ret, W_if, W_par, W_unp, W_sub, W_yes, W_for, W_aug', W_lc,
  wO_some, wD_some, wD_if, rdO_dat, rdO_own, rdO_deal, mv_val, mv_new, mv_at, mvO_dat, mvO_own, dr_val, dr_new, dr_at, drO_dat, drO_own, dr_at1, dr1_deal, mvA_val, mvA_new, mvA_at, mvAO_dat, mvAO_own, mvAO_deal, toItm_f, itmO_some, toItm_n, toItm_q,
  isDeal_none, isDeal_dat, isDeal_own, isDeal_deal, lstR_at, lstR_at1, lstO_own, lstO_deal, items_at, items_at1, itO_own, it1_deal, putR_at, putR_at1, putO_deal, PR_v, PR_t, PR_l, Rt_d, Rt_q, rtO_some, retR_val, retR_new, retR_newD, retR_at, exitD_none, exitD_some, dealO_deal, intO_int, toB_bl, newO_new, valO_val, thW_nx, thW_bk, thW_ct, thW_rt,
  callW_d, callW_nil, callW_ref, refW_deal, augW_dat, exV, ex1, exI, addP_i, addP_l, addP_t, addI_i, subP_i, mulP_i, mulP_0, divP_i, modP_i, powP_i, cmpP_i, eqP_i, neP_i, isP_nn, isP_in, isP_tn, isP_bn, isnP_nn, isnP_in, isnP_tn, isP_nb, isP_ib, isP_tb, isP_bb, len_l, len_t, int_i, abs_i, tup_l, tup_t, lst_l, lst_t, min_i, max_i, rev_l, neg_i, sum_l, slP_t, slP_l,
  ixP_t, ixP_l, ixR_v, ixR_n, ixR_a, ixW_own, ixW_deal0, ixW_deal1, ixR_1, itemsD_l, itemsD_t, rangeP1, rangeP2, plains, plainO_none, plainO_dat, datO_none, datO_dat, setAll_nil, setAll_cons, setAW_some, setT_t,
  stR_at, stO_deal, setI, setIs, Itm.o, setD, forget_nil, forget_cons, fgO_none, fgO_dat, fgO_own, fgO_deal, wipeΓ, backΓ, argD, drs, List.all_cons, List.all_nil, Bool.and_true, List.getElem?_cons_zero, List.getElem?_cons_succ, List.set_cons_zero, List.set_cons_succ, List.length_cons, List.length_nil, Nat.zero_add, Nat.reduceAdd, Nat.reduceLeDiff, true_and, and_true, decide_eq_true_eq]
  refine W_wh (fun m Γ => ∃ (rs : List Nat) (e : Nat), m = rs.length ∧ Γ = [some (.dat (.lst (oi fs))), some (.dat (.lst (oi rs))), some (.dat (.int (128 ^ e : Nat))), none, none] ∧ rs ≠ [] ∧ evB (128 ^ e) rs = evB 128 fs ∧ (∀ r ∈ rs, r < 128 ^ e) ∧ 1 ≤ e ∧ e * (rs.length - 1) ≤ fs.length ∧ rs.length ≤ fs.length) (m := fs.length)
    ⟨fs, 1, rfl, by rw [Nat.pow_one]; rfl, h0, by rw [Nat.pow_one], by rw [Nat.pow_one]; exact hf, Nat.le_refl _, by omega, Nat.le_refl _⟩ ?_
  rintro m Γ ⟨rs, e, rfl, rfl, n0, ev, lt, e1, e2, e3⟩
  simp -implicitDefEqProofs only [sv, ev, CO.p, BO.p, BO.ap, tv, isNop, if_true, if_false, Bool.false_eq_true, reduceIte,
  W_then, W_asg, W_disp, W_nil, W_cons, W_consA, W_consI, W_var, W_val, W_bin, W_chn, W_ix, W_un, W_optN, W_optS, W_sl, W_deal, W_blt, W_isi, W_lrg, W_call, W_prm, W_ite, W_T, W_B, W_not, W_and, W_or, W_seq, W_rng, W_app, W_pop, W_nx, W_drop, W_pure, W_ret, W_if, W_par, W_unp, W_sub, W_yes, W_for, W_aug', W_lc,
  wO_some, wD_some, wD_if, rdO_dat, rdO_own, rdO_deal, mv_val, mv_new, mv_at, mvO_dat, mvO_own, dr_val, dr_new, dr_at, drO_dat, drO_own, dr_at1, dr1_deal, mvA_val, mvA_new, mvA_at, mvAO_dat, mvAO_own, mvAO_deal, toItm_f, itmO_some, toItm_n, toItm_q,
  isDeal_none, isDeal_dat, isDeal_own, isDeal_deal, lstR_at, lstR_at1, lstO_own, lstO_deal, items_at, items_at1, itO_own, it1_deal, putR_at, putR_at1, putO_deal, PR_v, PR_t, PR_l, Rt_d, Rt_q, rtO_some, retR_val, retR_new, retR_newD, retR_at, exitD_none, exitD_some, dealO_deal, intO_int, toB_bl, newO_new, valO_val, thW_nx, thW_bk, thW_ct, thW_rt,
  callW_d, callW_nil, callW_ref, refW_deal, augW_dat, exV, ex1, exI, addP_i, addP_l, addP_t, addI_i, subP_i, mulP_i, mulP_0, divP_i, modP_i, powP_i, cmpP_i, eqP_i, neP_i, isP_nn, isP_in, isP_tn, isP_bn, isnP_nn, isnP_in, isnP_tn, isP_nb, isP_ib, isP_tb, isP_bb, len_l, len_t, int_i, abs_i, tup_l, tup_t, lst_l, lst_t, min_i, max_i, rev_l, neg_i, sum_l, slP_t, slP_l,
  ixP_t, ixP_l, ixR_v, ixR_n, ixR_a, ixW_own, ixW_deal0, ixW_deal1, ixR_1, itemsD_l, itemsD_t, rangeP1, rangeP2, plains, plainO_none, plainO_dat, datO_none, datO_dat, setAll_nil, setAll_cons, setAW_some, setT_t,
  stR_at, stO_deal, setI, setIs, Itm.o, setD, forget_nil, forget_cons, fgO_none, fgO_dat, fgO_own, fgO_deal, wipeΓ, backΓ, argD, drs, List.all_cons, List.all_nil, Bool.and_true, List.getElem?_cons_zero, List.getElem?_cons_succ, List.set_cons_zero, List.set_cons_succ, List.length_cons, List.length_nil, Nat.zero_add, Nat.reduceAdd, Nat.reduceLeDiff, true_and, and_true, decide_eq_true_eq]
  have len : (oi rs).length = rs.length := List.length_map _
  have pos : 0 < rs.length := List.length_pos_iff.mpr n0
  rw [len]
  split
  · rename_i h1
    have h1 : 1 < rs.length := by omega
    have he : 7 * e < 400000 := by
      have : e * 1 ≤ e * (rs.length - 1) := Nat.mul_le_mul_left e (by omega)
      omega
    have pw : (128 : Nat) ^ e = 2 ^ (7 * e) := by rw [Nat.pow_mul]
    have dbl : (128 : Nat) ^ e * 128 ^ e = 128 ^ (2 * e) := by rw [← Nat.pow_add]; congr 1; omega
    have B1 : 1 ≤ 128 ^ e := Nat.one_le_pow _ _ (by decide)
    have lt2 : ∀ i, rs.getD i 0 < 2 ^ (7 * e) := fun i => by
      rw [← pw, List.getD_eq_getElem?_getD]
      cases q : rs[i]? with
      | none => exact Nat.lt_of_lt_of_le Nat.zero_lt_one B1
      | some r => exact lt r (List.mem_of_getElem? q)
    have okB : okMul ((128 ^ e : Nat) : Int) ((128 ^ e : Nat) : Int) := by
      have hB : 128 ^ e < 2 ^ (7 * e + 1) := by rw [pw]; exact Nat.pow_lt_pow_right (by decide) (Nat.lt_succ_self _)
      exact okMul_of (e := 7 * e + 1) hB hB (by omega)
    rw [range2 (by omega) h1]
    simp -implicitDefEqProofs only [wD_some]
    refine W_lcMap (oi (prsE (128 ^ e) rs)) ?_ ?_ ?_ ?_
    · rw [List.length_map, prsE_len, List.length_map, List.length_range]
    · rw [List.length_map, List.length_range]; omega
    · intro i d y hd hy
      rw [List.getElem?_map] at hd hy
      have hi : i < rs.length / 2 := by
        rcases Nat.lt_or_ge i (rs.length / 2) with h | h
        · exact h
        · rw [List.getElem?_eq_none (by rw [List.length_range]; exact h)] at hd; cases hd
      rw [List.getElem?_range hi] at hd
      rw [prsE_get _ _ _ hi] at hy
      cases hd
      cases hy
      have c1 : (0 : Int) + (i : Int) * 2 = ((2 * i : Nat) : Int) := by omega
      have c2 : ((2 * i : Nat) : Int) + 1 = ((2 * i + 1 : Nat) : Int) := by omega
      simp -implicitDefEqProofs only [c1, sv, ev, CO.p, BO.p, BO.ap, tv, isNop, if_true, if_false, Bool.false_eq_true, reduceIte,
  W_then, W_asg, W_disp, W_nil, W_cons, W_consA, W_consI, W_var, W_val, W_bin, W_chn, W_ix, W_un, W_optN, W_optS, W_sl, W_deal, W_blt, W_isi, W_lrg, W_call, W_prm, W_ite, W_T, W_B, W_not, W_and, W_or, W_seq, W_rng, W_app, W_pop, W_nx, W_drop, W_pure, W_ret, W_if, W_par, W_unp, W_sub, W_yes, W_for, W_aug', W_lc,
  wO_some, wD_some, wD_if, rdO_dat, rdO_own, rdO_deal, mv_val, mv_new, mv_at, mvO_dat, mvO_own, dr_val, dr_new, dr_at, drO_dat, drO_own, dr_at1, dr1_deal, mvA_val, mvA_new, mvA_at, mvAO_dat, mvAO_own, mvAO_deal, toItm_f, itmO_some, toItm_n, toItm_q,
  isDeal_none, isDeal_dat, isDeal_own, isDeal_deal, lstR_at, lstR_at1, lstO_own, lstO_deal, items_at, items_at1, itO_own, it1_deal, putR_at, putR_at1, putO_deal, PR_v, PR_t, PR_l, Rt_d, Rt_q, rtO_some, retR_val, retR_new, retR_newD, retR_at, exitD_none, exitD_some, dealO_deal, intO_int, toB_bl, newO_new, valO_val, thW_nx, thW_bk, thW_ct, thW_rt,
  callW_d, callW_nil, callW_ref, refW_deal, augW_dat, exV, ex1, exI, addP_i, addP_l, addP_t, addI_i, subP_i, mulP_i, mulP_0, divP_i, modP_i, powP_i, cmpP_i, eqP_i, neP_i, isP_nn, isP_in, isP_tn, isP_bn, isnP_nn, isnP_in, isnP_tn, isP_nb, isP_ib, isP_tb, isP_bb, len_l, len_t, int_i, abs_i, tup_l, tup_t, lst_l, lst_t, min_i, max_i, rev_l, neg_i, sum_l, slP_t, slP_l,
  ixP_t, ixP_l, ixR_v, ixR_n, ixR_a, ixW_own, ixW_deal0, ixW_deal1, ixR_1, itemsD_l, itemsD_t, rangeP1, rangeP2, plains, plainO_none, plainO_dat, datO_none, datO_dat, setAll_nil, setAll_cons, setAW_some, setT_t,
  stR_at, stO_deal, setI, setIs, Itm.o, setD, forget_nil, forget_cons, fgO_none, fgO_dat, fgO_own, fgO_deal, wipeΓ, backΓ, argD, drs, List.all_cons, List.all_nil, Bool.and_true, List.getElem?_cons_zero, List.getElem?_cons_succ, List.set_cons_zero, List.set_cons_succ, List.length_cons, List.length_nil, Nat.zero_add, Nat.reduceAdd, Nat.reduceLeDiff, true_and, and_true, decide_eq_true_eq]
      rw [atI_nat (by omega), c2, atI_nat (by omega)]
      simp -implicitDefEqProofs only [sv, ev, CO.p, BO.p, BO.ap, tv, isNop, if_true, if_false, Bool.false_eq_true, reduceIte,
  W_then, W_asg, W_disp, W_nil, W_cons, W_consA, W_consI, W_var, W_val, W_bin, W_chn, W_ix, W_un, W_optN, W_optS, W_sl, W_deal, W_blt, W_isi, W_lrg, W_call, W_prm, W_ite, W_T, W_B, W_not, W_and, W_or, W_seq, W_rng, W_app, W_pop, W_nx, W_drop, W_pure, W_ret, W_if, W_par, W_unp, W_sub, W_yes, W_for, W_aug', W_lc,
  wO_some, wD_some, wD_if, rdO_dat, rdO_own, rdO_deal, mv_val, mv_new, mv_at, mvO_dat, mvO_own, dr_val, dr_new, dr_at, drO_dat, drO_own, dr_at1, dr1_deal, mvA_val, mvA_new, mvA_at, mvAO_dat, mvAO_own, mvAO_deal, toItm_f, itmO_some, toItm_n, toItm_q,
  isDeal_none, isDeal_dat, isDeal_own, isDeal_deal, lstR_at, lstR_at1, lstO_own, lstO_deal, items_at, items_at1, itO_own, it1_deal, putR_at, putR_at1, putO_deal, PR_v, PR_t, PR_l, Rt_d, Rt_q, rtO_some, retR_val, retR_new, retR_newD, retR_at, exitD_none, exitD_some, dealO_deal, intO_int, toB_bl, newO_new, valO_val, thW_nx, thW_bk, thW_ct, thW_rt,
  callW_d, callW_nil, callW_ref, refW_deal, augW_dat, exV, ex1, exI, addP_i, addP_l, addP_t, addI_i, subP_i, mulP_i, mulP_0, divP_i, modP_i, powP_i, cmpP_i, eqP_i, neP_i, isP_nn, isP_in, isP_tn, isP_bn, isnP_nn, isnP_in, isnP_tn, isP_nb, isP_ib, isP_tb, isP_bb, len_l, len_t, int_i, abs_i, tup_l, tup_t, lst_l, lst_t, min_i, max_i, rev_l, neg_i, sum_l, slP_t, slP_l,
  ixP_t, ixP_l, ixR_v, ixR_n, ixR_a, ixW_own, ixW_deal0, ixW_deal1, ixR_1, itemsD_l, itemsD_t, rangeP1, rangeP2, plains, plainO_none, plainO_dat, datO_none, datO_dat, setAll_nil, setAll_cons, setAW_some, setT_t,
  stR_at, stO_deal, setI, setIs, Itm.o, setD, forget_nil, forget_cons, fgO_none, fgO_dat, fgO_own, fgO_deal, wipeΓ, backΓ, argD, drs, List.all_cons, List.all_nil, Bool.and_true, List.getElem?_cons_zero, List.getElem?_cons_succ, List.set_cons_zero, List.set_cons_succ, List.length_cons, List.length_nil, Nat.zero_add, Nat.reduceAdd, Nat.reduceLeDiff, true_and, and_true, decide_eq_true_eq]
      refine ⟨?_, ?_⟩
      · exact okMul_of (e := 7 * e + 1) (by rw [pw]; exact Nat.pow_lt_pow_right (by decide) (Nat.lt_succ_self _)) (Nat.lt_of_lt_of_le (lt2 (2 * i + 1)) (Nat.pow_le_pow_right (by decide) (Nat.le_succ _))) (by omega)
      · rw [Int.natCast_add, Int.natCast_mul]
    · simp -implicitDefEqProofs only [sv, ev, CO.p, BO.p, BO.ap, tv, isNop, if_true, if_false, Bool.false_eq_true, reduceIte,
  W_then, W_asg, W_disp, W_nil, W_cons, W_consA, W_consI, W_var, W_val, W_bin, W_chn, W_ix, W_un, W_optN, W_optS, W_sl, W_deal, W_blt, W_isi, W_lrg, W_call, W_prm, W_ite, W_T, W_B, W_not, W_and, W_or, W_seq, W_rng, W_app, W_pop, W_nx, W_drop, W_pure, W_ret, W_if, W_par, W_unp, W_sub, W_yes, W_for, W_aug', W_lc,
  wO_some, wD_some, wD_if, rdO_dat, rdO_own, rdO_deal, mv_val, mv_new, mv_at, mvO_dat, mvO_own, dr_val, dr_new, dr_at, drO_dat, drO_own, dr_at1, dr1_deal, mvA_val, mvA_new, mvA_at, mvAO_dat, mvAO_own, mvAO_deal, toItm_f, itmO_some, toItm_n, toItm_q,
  isDeal_none, isDeal_dat, isDeal_own, isDeal_deal, lstR_at, lstR_at1, lstO_own, lstO_deal, items_at, items_at1, itO_own, it1_deal, putR_at, putR_at1, putO_deal, PR_v, PR_t, PR_l, Rt_d, Rt_q, rtO_some, retR_val, retR_new, retR_newD, retR_at, exitD_none, exitD_some, dealO_deal, intO_int, toB_bl, newO_new, valO_val, thW_nx, thW_bk, thW_ct, thW_rt,
  callW_d, callW_nil, callW_ref, refW_deal, augW_dat, exV, ex1, exI, addP_i, addP_l, addP_t, addI_i, subP_i, mulP_i, mulP_0, divP_i, modP_i, powP_i, cmpP_i, eqP_i, neP_i, isP_nn, isP_in, isP_tn, isP_bn, isnP_nn, isnP_in, isnP_tn, isP_nb, isP_ib, isP_tb, isP_bb, len_l, len_t, int_i, abs_i, tup_l, tup_t, lst_l, lst_t, min_i, max_i, rev_l, neg_i, sum_l, slP_t, slP_l,
  ixP_t, ixP_l, ixR_v, ixR_n, ixR_a, ixW_own, ixW_deal0, ixW_deal1, ixR_1, itemsD_l, itemsD_t, rangeP1, rangeP2, plains, plainO_none, plainO_dat, datO_none, datO_dat, setAll_nil, setAll_cons, setAW_some, setT_t,
  stR_at, stO_deal, setI, setIs, Itm.o, setD, forget_nil, forget_cons, fgO_none, fgO_dat, fgO_own, fgO_deal, wipeΓ, backΓ, argD, drs, List.all_cons, List.all_nil, Bool.and_true, List.getElem?_cons_zero, List.getElem?_cons_succ, List.set_cons_zero, List.set_cons_succ, List.length_cons, List.length_nil, Nat.zero_add, Nat.reduceAdd, Nat.reduceLeDiff, true_and, and_true, decide_eq_true_eq]
      have nx : ∃ m', m' < rs.length ∧ ∃ rs_1 e_1, m' = rs_1.length ∧ [some (O.dat (D.lst (oi fs))), some (O.dat (D.lst (oi (prs (128 ^ e) rs)))), some (O.dat (D.int (((128 ^ e : Nat) : Int) * ((128 ^ e : Nat) : Int)))), none, none] =
          [some (O.dat (D.lst (oi fs))), some (O.dat (D.lst (oi rs_1))), some (O.dat (D.int ((128 ^ e_1 : Nat) : Int))), none, none] ∧ rs_1 ≠ [] ∧ evB (128 ^ e_1) rs_1 = evB 128 fs ∧ (∀ r ∈ rs_1, r < 128 ^ e_1) ∧ 1 ≤ e_1 ∧ e_1 * (rs_1.length - 1) ≤ fs.length ∧ rs_1.length ≤ fs.length := by
        have pl := prs_len (128 ^ e) rs
        refine ⟨(prs (128 ^ e) rs).length, by omega, prs (128 ^ e) rs, 2 * e, rfl, ?_, ?_, ?_, ?_, by omega, ?_, by omega⟩
        · rw [← Int.natCast_mul, dbl]
        · intro h
          rw [h] at pl
          simp -implicitDefEqProofs only [List.length_nil] at pl
          omega
        · rw [← dbl, prs_ev, ev]
        · rw [← dbl]; exact prs_lt _ B1 rs lt
        · refine Nat.le_trans ?_ e2
          rw [Nat.mul_comm 2 e, Nat.mul_assoc]
          exact Nat.mul_le_mul_left e (by omega)
      refine ⟨by decide, ?_⟩
      have po := prs_odd (128 ^ e) rs
      have pe := prsE_len (128 ^ e) rs
      rw [len]
      split
      · rename_i hodd
        have c3 : ((rs.length : Nat) : Int) - 1 = ((rs.length - 1 : Nat) : Int) := by omega
        rw [c3, atI_nat (by omega)]
        rw [if_pos (by omega)] at po
        refine ⟨by rw [List.length_map]; omega, okB, ?_⟩
        rw [po, oi_app] at nx
        exact nx
      · rename_i hodd
        rw [if_neg (by omega)] at po
        refine ⟨okB, ?_⟩
        rw [po] at nx
        exact nx
  · rename_i h1
    match rs, h1, n0, pos with
    | [r], _, _, _ =>
      have e0 := atI_nat (xs := [r]) (i := 0) (by simp)
      have e1 : atI (oi [r]) 0 = some (D.int (r : Nat)) := e0
      rw [e1]
      have : r = evB 128 fs := by rw [← ev]; simp [evB]
      rw [← this]; rfl
    | _ :: _ :: _, h1, _, _ => simp -implicitDefEqProofs only [List.length_cons] at h1; omega
/-- how many octets the number at the front takes -/
def fl : List Nat → Option Nat
  | [] => none
  | o :: os => if o < 128 then some 1 else (fl os).map (· + 1)
theorem fl_some : ∀ {ys : List Nat} {i : Nat}, i < ys.length → (∀ j, j < i → 128 ≤ ys.getD j 0) → ys.getD i 0 < 128 → fl ys = some (i + 1)
  | [], _, h, _, _ => by cases h
  | o :: os, 0, _, _, h => by unfold fl; rw [if_pos (show o < 128 from h)]
  | o :: os, i + 1, hl, h, h2 => by
    unfold fl
    have := h 0 (by omega)
    rw [if_neg (show ¬ o < 128 by have h0 : 128 ≤ o := this; omega), fl_some (ys := os) (i := i) (by simp -implicitDefEqProofs only [List.length_cons] at hl; omega) (fun j hj => h (j + 1) (by omega)) h2]
    rfl
theorem fl_none : ∀ {ys : List Nat}, (∀ j, j < ys.length → 128 ≤ ys.getD j 0) → fl ys = none
  | [], _ => rfl
  | o :: os, h => by
    unfold fl
    have := h 0 (by simp)
    rw [if_neg (show ¬ o < 128 by have h0 : 128 ≤ o := this; omega), fl_none (ys := os) (fun j hj => h (j + 1) (by simp -implicitDefEqProofs only [List.length_cons]; omega))]
    rfl
theorem fl_get : ∀ {ys : List Nat} {l : Nat}, fl ys = some l → 1 ≤ l ∧ l ≤ ys.length ∧ (∀ j, j < l - 1 → 128 ≤ ys.getD j 0) ∧ ys.getD (l - 1) 0 < 128
  | [], _, h => by cases h
  | o :: os, l, h => by
    unfold fl at h
    split at h
    · rename_i ho
      cases h
      exact ⟨by omega, by simp, fun j hj => by omega, ho⟩
    · rename_i ho
      cases q : fl os with
      | none => rw [q] at h; cases h
      | some m =>
        rw [q] at h
        have h : m + 1 = l := Option.some.inj h
        subst h
        obtain ⟨h1, h2, h3, h4⟩ := fl_get q
        refine ⟨by omega, by simp -implicitDefEqProofs only [List.length_cons]; omega, fun j hj => ?_, ?_⟩
        · cases j with
          | zero => show 128 ≤ o; omega
          | succ j => exact h3 j (by omega)
        · have e : m + 1 - 1 = (m - 1) + 1 := by omega
          rw [e]; exact h4
theorem drop_getD (xs : List Nat) (a j : Nat) : (xs.drop a).getD j 0 = xs.getD (a + j) 0 := by
  rw [List.getD_eq_getElem?_getD, List.getD_eq_getElem?_getD, List.getElem?_drop]
/-- behind_number -/
def tBeh : Z.St := (.next (.iff (.cmp .lt (.var 1) (.lit (.int 0)))
 (.next (.ret (.lit .non))
 .nil)
 .nil)
 (.next (.loop [2] (.nm 2) (.rng 2 (.cons (.var 1) (.cons (.blt .len (.cons (.var 0) .nil)) .nil)))
 (.next (.iff (.cmp .lt (.ix (.var 0) (.var 2)) (.con (.int 128)))
 (.next (.ret (.bin .add (.var 2) (.lit (.int 1))))
 .nil)
 .nil)
 .nil))
 (.next (.ret (.lit .non))
 .nil)))
def oD : Option Nat → D
  | none => .non
  | some n => .int n
def beh (xs : List Nat) (at_ : Int) : Option Nat := if at_ < 0 then none else (fl (xs.drop at_.toNat)).map (at_.toNat + ·)
theorem beh_ok (cal) (xs : List Nat) (a : Int) (hl : xs.length ≤ 1000000) (ha : -(2 ^ 62) ≤ a ∧ a < 2 ^ 62 ∨ a < 0) : runF cal 3 tBeh none [.tup (oi xs), .int a] = some (.dat (oD (beh xs a)), none) := by
  refine wO_eq (runF_W ?_)
  simp -implicitDefEqProofs only [tBeh, inΓ, dlO, List.map_cons, List.map_nil, List.nil_append, List.cons_append, List.replicate, Nat.reduceSub, sv, ev, CO.p, BO.p, BO.ap, tv, isNop, if_true, if_false, Bool.false_eq_true, reduceIte,
  W_then, W_asg, W_disp, W_nil, W_cons, W_consA, W_consI, W_var, W_val, W_bin, W_chn, W_ix, W_un, W_optN, W_optS, W_sl, W_deal, W_blt, W_isi, W_lrg, W_call, W_prm, W_ite, W_T, W_B, W_not, W_and, W_or, W_seq, W_rng, W_app, W_pop, W_nx, W_drop, W_pure, W_ret, W_if, W_par, W_unp, W_sub, W_yes, W_for, W_aug', W_lc,
  wO_some, wD_some, wD_if, rdO_dat, rdO_own, rdO_deal, mv_val, mv_new, mv_at, mvO_dat, mvO_own, dr_val, dr_new, dr_at, drO_dat, drO_own, dr_at1, dr1_deal, mvA_val, mvA_new, mvA_at, mvAO_dat, mvAO_own, mvAO_deal, toItm_f, itmO_some, toItm_n, toItm_q,
  isDeal_none, isDeal_dat, isDeal_own, isDeal_deal, lstR_at, lstR_at1, lstO_own, lstO_deal, items_at, items_at1, itO_own, it1_deal, putR_at, putR_at1, putO_deal, PR_v, PR_t, PR_l, Rt_d, Rt_q, rtO_some, retR_val, retR_new, retR_newD, retR_at, exitD_none, exitD_some, dealO_deal, intO_int, toB_bl, newO_new, valO_val, thW_nx, thW_bk, thW_ct, thW_rt,
  callW_d, callW_nil, callW_ref, refW_deal, augW_dat, exV, ex1, exI, addP_i, addP_l, addP_t, addI_i, subP_i, mulP_i, mulP_0, divP_i, modP_i, powP_i, cmpP_i, eqP_i, neP_i, isP_nn, isP_in, isP_tn, isP_bn, isnP_nn, isnP_in, isnP_tn, isP_nb, isP_ib, isP_tb, isP_bb, len_l, len_t, int_i, abs_i, tup_l, tup_t, lst_l, lst_t, min_i, max_i, rev_l, neg_i, sum_l, slP_t, slP_l,
  ixP_t, ixP_l, ixR_v, ixR_n, ixR_a, ixW_own, ixW_deal0, ixW_deal1, ixR_1, itemsD_l, itemsD_t, rangeP1, rangeP2, plains, plainO_none, plainO_dat, datO_none, datO_dat, setAll_nil, setAll_cons, setAW_some, setT_t,
  stR_at, stO_deal, setI, setIs, Itm.o, setD, forget_nil, forget_cons, fgO_none, fgO_dat, fgO_own, fgO_deal, wipeΓ, backΓ, argD, drs, List.all_cons, List.all_nil, Bool.and_true, List.getElem?_cons_zero, List.getElem?_cons_succ, List.set_cons_zero, List.set_cons_succ, List.length_cons, List.length_nil, Nat.zero_add, Nat.reduceAdd, Nat.reduceLeDiff, true_and, and_true, decide_eq_true_eq]
  split
  · rename_i h
    unfold beh
    rw [if_pos h]; rfl
  · rename_i h
    obtain ⟨n, rfl⟩ : ∃ n : Nat, a = n := ⟨a.toNat, by omega⟩
    have len : (oi xs).length = xs.length := List.length_map _
    have hn : ((xs.length : Nat) : Int) - (n : Int) = 0 ∨ True := .inr trivial
    unfold beh
    rw [len, if_neg (by omega), Int.toNat_natCast]
    refine ⟨by omega, ?_⟩
    refine W_forL (fun i Γ => Γ = [some (.dat (.tup (oi xs))), some (.dat (.int n)), none] ∧ ∀ j, j < i → 128 ≤ (xs.drop n).getD j 0) ⟨rfl, fun j hj => by omega⟩ ?_ ?_
    · rintro i d Γ hd ⟨rfl, hj⟩
      rw [List.getElem?_map] at hd
      have hi : i < ((xs.length : Int) - (n : Int)).toNat := by
        rcases Nat.lt_or_ge i ((xs.length : Int) - (n : Int)).toNat with h | h
        · exact h
        · rw [List.getElem?_eq_none (by rw [List.length_range]; exact h)] at hd; cases hd
      rw [List.getElem?_range hi] at hd
      cases hd
      have c1 : (n : Int) + (i : Int) = ((n + i : Nat) : Int) := by omega
      simp -implicitDefEqProofs only [c1, sv, ev, CO.p, BO.p, BO.ap, tv, isNop, if_true, if_false, Bool.false_eq_true, reduceIte,
  W_then, W_asg, W_disp, W_nil, W_cons, W_consA, W_consI, W_var, W_val, W_bin, W_chn, W_ix, W_un, W_optN, W_optS, W_sl, W_deal, W_blt, W_isi, W_lrg, W_call, W_prm, W_ite, W_T, W_B, W_not, W_and, W_or, W_seq, W_rng, W_app, W_pop, W_nx, W_drop, W_pure, W_ret, W_if, W_par, W_unp, W_sub, W_yes, W_for, W_aug', W_lc,
  wO_some, wD_some, wD_if, rdO_dat, rdO_own, rdO_deal, mv_val, mv_new, mv_at, mvO_dat, mvO_own, dr_val, dr_new, dr_at, drO_dat, drO_own, dr_at1, dr1_deal, mvA_val, mvA_new, mvA_at, mvAO_dat, mvAO_own, mvAO_deal, toItm_f, itmO_some, toItm_n, toItm_q,
  isDeal_none, isDeal_dat, isDeal_own, isDeal_deal, lstR_at, lstR_at1, lstO_own, lstO_deal, items_at, items_at1, itO_own, it1_deal, putR_at, putR_at1, putO_deal, PR_v, PR_t, PR_l, Rt_d, Rt_q, rtO_some, retR_val, retR_new, retR_newD, retR_at, exitD_none, exitD_some, dealO_deal, intO_int, toB_bl, newO_new, valO_val, thW_nx, thW_bk, thW_ct, thW_rt,
  callW_d, callW_nil, callW_ref, refW_deal, augW_dat, exV, ex1, exI, addP_i, addP_l, addP_t, addI_i, subP_i, mulP_i, mulP_0, divP_i, modP_i, powP_i, cmpP_i, eqP_i, neP_i, isP_nn, isP_in, isP_tn, isP_bn, isnP_nn, isnP_in, isnP_tn, isP_nb, isP_ib, isP_tb, isP_bb, len_l, len_t, int_i, abs_i, tup_l, tup_t, lst_l, lst_t, min_i, max_i, rev_l, neg_i, sum_l, slP_t, slP_l,
  ixP_t, ixP_l, ixR_v, ixR_n, ixR_a, ixW_own, ixW_deal0, ixW_deal1, ixR_1, itemsD_l, itemsD_t, rangeP1, rangeP2, plains, plainO_none, plainO_dat, datO_none, datO_dat, setAll_nil, setAll_cons, setAW_some, setT_t,
  stR_at, stO_deal, setI, setIs, Itm.o, setD, forget_nil, forget_cons, fgO_none, fgO_dat, fgO_own, fgO_deal, wipeΓ, backΓ, argD, drs, List.all_cons, List.all_nil, Bool.and_true, List.getElem?_cons_zero, List.getElem?_cons_succ, List.set_cons_zero, List.set_cons_succ, List.length_cons, List.length_nil, Nat.zero_add, Nat.reduceAdd, Nat.reduceLeDiff, true_and, and_true, decide_eq_true_eq]
      rw [atI_nat (by omega)]
      simp -implicitDefEqProofs only [sv, ev, CO.p, BO.p, BO.ap, tv, isNop, if_true, if_false, Bool.false_eq_true, reduceIte,
  W_then, W_asg, W_disp, W_nil, W_cons, W_consA, W_consI, W_var, W_val, W_bin, W_chn, W_ix, W_un, W_optN, W_optS, W_sl, W_deal, W_blt, W_isi, W_lrg, W_call, W_prm, W_ite, W_T, W_B, W_not, W_and, W_or, W_seq, W_rng, W_app, W_pop, W_nx, W_drop, W_pure, W_ret, W_if, W_par, W_unp, W_sub, W_yes, W_for, W_aug', W_lc,
  wO_some, wD_some, wD_if, rdO_dat, rdO_own, rdO_deal, mv_val, mv_new, mv_at, mvO_dat, mvO_own, dr_val, dr_new, dr_at, drO_dat, drO_own, dr_at1, dr1_deal, mvA_val, mvA_new, mvA_at, mvAO_dat, mvAO_own, mvAO_deal, toItm_f, itmO_some, toItm_n, toItm_q,
  isDeal_none, isDeal_dat, isDeal_own, isDeal_deal, lstR_at, lstR_at1, lstO_own, lstO_deal, items_at, items_at1, itO_own, it1_deal, putR_at, putR_at1, putO_deal, PR_v, PR_t, PR_l, Rt_d, Rt_q, rtO_some, retR_val, retR_new, retR_newD, retR_at, exitD_none, exitD_some, dealO_deal, intO_int, toB_bl, newO_new, valO_val, thW_nx, thW_bk, thW_ct, thW_rt,
  callW_d, callW_nil, callW_ref, refW_deal, augW_dat, exV, ex1, exI, addP_i, addP_l, addP_t, addI_i, subP_i, mulP_i, mulP_0, divP_i, modP_i, powP_i, cmpP_i, eqP_i, neP_i, isP_nn, isP_in, isP_tn, isP_bn, isnP_nn, isnP_in, isnP_tn, isP_nb, isP_ib, isP_tb, isP_bb, len_l, len_t, int_i, abs_i, tup_l, tup_t, lst_l, lst_t, min_i, max_i, rev_l, neg_i, sum_l, slP_t, slP_l,
  ixP_t, ixP_l, ixR_v, ixR_n, ixR_a, ixW_own, ixW_deal0, ixW_deal1, ixR_1, itemsD_l, itemsD_t, rangeP1, rangeP2, plains, plainO_none, plainO_dat, datO_none, datO_dat, setAll_nil, setAll_cons, setAW_some, setT_t,
  stR_at, stO_deal, setI, setIs, Itm.o, setD, forget_nil, forget_cons, fgO_none, fgO_dat, fgO_own, fgO_deal, wipeΓ, backΓ, argD, drs, List.all_cons, List.all_nil, Bool.and_true, List.getElem?_cons_zero, List.getElem?_cons_succ, List.set_cons_zero, List.set_cons_succ, List.length_cons, List.length_nil, Nat.zero_add, Nat.reduceAdd, Nat.reduceLeDiff, true_and, and_true, decide_eq_true_eq]
      have hlen : i < (xs.drop n).length := by rw [List.length_drop]; omega
      split
      · rename_i h5
        rw [fl_some hlen hj (by rw [drop_getD]; omega)]
        show Rt.dat (D.int _) = Rt.dat (D.int _)
        congr 2
      · rename_i h5
        intro j hj'
        rcases Nat.lt_succ_iff_lt_or_eq.mp hj' with h | rfl
        · exact hj j h
        · rw [drop_getD]; omega
    · rintro Γ ⟨rfl, hj⟩
      simp -implicitDefEqProofs only [sv, ev, CO.p, BO.p, BO.ap, tv, isNop, if_true, if_false, Bool.false_eq_true, reduceIte,
  W_then, W_asg, W_disp, W_nil, W_cons, W_consA, W_consI, W_var, W_val, W_bin, W_chn, W_ix, W_un, W_optN, W_optS, W_sl, W_deal, W_blt, W_isi, W_lrg, W_call, W_prm, W_ite, W_T, W_B, W_not, W_and, W_or, W_seq, W_rng, W_app, W_pop, W_nx, W_drop, W_pure, W_ret, W_if, W_par, W_unp, W_sub, W_yes, W_for, W_aug', W_lc,
  wO_some, wD_some, wD_if, rdO_dat, rdO_own, rdO_deal, mv_val, mv_new, mv_at, mvO_dat, mvO_own, dr_val, dr_new, dr_at, drO_dat, drO_own, dr_at1, dr1_deal, mvA_val, mvA_new, mvA_at, mvAO_dat, mvAO_own, mvAO_deal, toItm_f, itmO_some, toItm_n, toItm_q,
  isDeal_none, isDeal_dat, isDeal_own, isDeal_deal, lstR_at, lstR_at1, lstO_own, lstO_deal, items_at, items_at1, itO_own, it1_deal, putR_at, putR_at1, putO_deal, PR_v, PR_t, PR_l, Rt_d, Rt_q, rtO_some, retR_val, retR_new, retR_newD, retR_at, exitD_none, exitD_some, dealO_deal, intO_int, toB_bl, newO_new, valO_val, thW_nx, thW_bk, thW_ct, thW_rt,
  callW_d, callW_nil, callW_ref, refW_deal, augW_dat, exV, ex1, exI, addP_i, addP_l, addP_t, addI_i, subP_i, mulP_i, mulP_0, divP_i, modP_i, powP_i, cmpP_i, eqP_i, neP_i, isP_nn, isP_in, isP_tn, isP_bn, isnP_nn, isnP_in, isnP_tn, isP_nb, isP_ib, isP_tb, isP_bb, len_l, len_t, int_i, abs_i, tup_l, tup_t, lst_l, lst_t, min_i, max_i, rev_l, neg_i, sum_l, slP_t, slP_l,
  ixP_t, ixP_l, ixR_v, ixR_n, ixR_a, ixW_own, ixW_deal0, ixW_deal1, ixR_1, itemsD_l, itemsD_t, rangeP1, rangeP2, plains, plainO_none, plainO_dat, datO_none, datO_dat, setAll_nil, setAll_cons, setAW_some, setT_t,
  stR_at, stO_deal, setI, setIs, Itm.o, setD, forget_nil, forget_cons, fgO_none, fgO_dat, fgO_own, fgO_deal, wipeΓ, backΓ, argD, drs, List.all_cons, List.all_nil, Bool.and_true, List.getElem?_cons_zero, List.getElem?_cons_succ, List.set_cons_zero, List.set_cons_succ, List.length_cons, List.length_nil, Nat.zero_add, Nat.reduceAdd, Nat.reduceLeDiff, true_and, and_true, decide_eq_true_eq]
      rw [fl_none fun j h => hj j (by rw [List.length_map, List.length_range]; rw [List.length_drop] at h; omega)]
      rfl
theorem if2 {c1 c2 : Prop} [Decidable c1] [Decidable c2] {A B : Prop} (h : ¬ (c1 ∧ c2)) (hB : B) : if c1 then (if c2 then A else B) else B := by
  by_cases h1 : c1
  · rw [if_pos h1, if_neg fun h2 => h ⟨h1, h2⟩]; exact hB
  · rw [if_neg h1]; exact hB
theorem cut_nat {α : Type} (xs : List α) (a b : Nat) : cut xs (some (a : Int)) (some (b : Int)) = (xs.drop (min a xs.length)).take (min b xs.length - min a xs.length) := by
  unfold cut
  rw [HT.sIx_nat, HT.sIx_nat]
theorem cut_oi {xs : List Nat} {a b : Nat} (h : a ≤ b) (hb : b ≤ xs.length) : cut (oi xs) (some (a : Int)) (some (b : Int)) = oi ((xs.drop a).take (b - a)) := by
  rw [cut_nat, List.length_map, Nat.min_eq_left (by omega : a ≤ xs.length), Nat.min_eq_left hb, ← List.map_drop, ← List.map_take]
theorem take_last {ys : List Nat} {l : Nat} (h1 : 1 ≤ l) (h : l ≤ ys.length) : ys.take l = ys.take (l - 1) ++ [ys.getD (l - 1) 0] := by
  obtain ⟨m, rfl⟩ : ∃ m, l = m + 1 := ⟨l - 1, by omega⟩
  rw [List.take_succ, Nat.add_sub_cancel, List.getD_eq_getElem?_getD, List.getElem?_eq_getElem (by omega)]
  rfl
/-- number_in; the callees: behind_number i, number_of j -/
def tNin (i j : Nat) : Z.St := (.next (.asg false 2 (.call i 2 (.cons (.var 0) (.cons (.var 1) .nil))))
 (.next (.iff (.or (.cmp .is (.var 2) (.lit .non)) (.and (.cmp .gt (.bin .sub (.var 2) (.var 1)) (.lit (.int 1))) (.cmp .eq (.ix (.var 0) (.bin .sub (.var 2) (.lit (.int 1)))) (.lit (.int 0)))))
 (.next (.ret (.lit .non))
 .nil)
 .nil)
 (.next (.asg false 3 (.bin .add (.lc [4] (.sl (.var 0) (.var 1) (.bin .sub (.var 2) (.lit (.int 1)))) (.nm 4) .nop (.bin .sub (.var 4) (.con (.int 128)))) (.lst (.cons (.ix (.var 0) (.bin .sub (.var 2) (.lit (.int 1)))) .nil))))
 (.next (.ret (.tup (.cons (.call j 1 (.cons (.var 3) .nil)) (.cons (.var 2) .nil))))
 .nil))))
/-- the number at the front: its worth, how many octets it takes -/
def rd (ys : List Nat) : Option (Nat × Nat) := match fl ys with
  | none => none
  | some l => if 1 < l ∧ ys.getD (l - 1) 0 = 0 then none else some (evB 128 ((ys.take l).map (· % 128)), l)
def rdAt (xs : List Nat) (a : Int) : Option (Nat × Nat) := if a < 0 then none else (rd (xs.drop a.toNat)).map fun p => (p.1, a.toNat + p.2)
def oP : Option (Nat × Nat) → D
  | none => .non
  | some (v, e) => .tup [.int v, .int e]
def Oct (xs : List Nat) : Prop := ∀ x ∈ xs, x < 256
theorem nin_ok (cal : Nat → Sm) (i j : Nat) (xs : List Nat) (a : Int) (hx : Oct xs) (hl : xs.length ≤ 25000) (hb : cal i none [.tup (oi xs), .int a] = some (.dat (oD (beh xs a)), none))
    (hn : ∀ fs : List Nat, fs ≠ [] → fs.length ≤ 25000 → (∀ f ∈ fs, f < 128) → cal j none [.lst (oi fs)] = some (.dat (.int (evB 128 fs)), none)) : runF cal 5 (tNin i j) none [.tup (oi xs), .int a] = some (.dat (oP (rdAt xs a)), none) := by
  refine wO_eq (runF_W ?_)
  simp -implicitDefEqProofs only [tNin, inΓ, dlO, List.map_cons, List.map_nil, List.nil_append, List.cons_append, List.replicate, Nat.reduceSub, hb, sv, ev, CO.p, BO.p, BO.ap, tv, isNop, if_true, if_false, Bool.false_eq_true, reduceIte,
  W_then, W_asg, W_disp, W_nil, W_cons, W_consA, W_consI, W_var, W_val, W_bin, W_chn, W_ix, W_un, W_optN, W_optS, W_sl, W_deal, W_blt, W_isi, W_lrg, W_call, W_prm, W_ite, W_T, W_B, W_not, W_and, W_or, W_seq, W_rng, W_app, W_pop, W_nx, W_drop, W_pure, W_ret, W_if, W_par, W_unp, W_sub, W_yes, W_for, W_aug', W_lc,
  wO_some, wD_some, wD_if, rdO_dat, rdO_own, rdO_deal, mv_val, mv_new, mv_at, mvO_dat, mvO_own, dr_val, dr_new, dr_at, drO_dat, drO_own, dr_at1, dr1_deal, mvA_val, mvA_new, mvA_at, mvAO_dat, mvAO_own, mvAO_deal, toItm_f, itmO_some, toItm_n, toItm_q,
  isDeal_none, isDeal_dat, isDeal_own, isDeal_deal, lstR_at, lstR_at1, lstO_own, lstO_deal, items_at, items_at1, itO_own, it1_deal, putR_at, putR_at1, putO_deal, PR_v, PR_t, PR_l, Rt_d, Rt_q, rtO_some, retR_val, retR_new, retR_newD, retR_at, exitD_none, exitD_some, dealO_deal, intO_int, toB_bl, newO_new, valO_val, thW_nx, thW_bk, thW_ct, thW_rt,
  callW_d, callW_nil, callW_ref, refW_deal, augW_dat, exV, ex1, exI, addP_i, addP_l, addP_t, addI_i, subP_i, mulP_i, mulP_0, divP_i, modP_i, powP_i, cmpP_i, eqP_i, neP_i, isP_nn, isP_in, isP_tn, isP_bn, isnP_nn, isnP_in, isnP_tn, isP_nb, isP_ib, isP_tb, isP_bb, len_l, len_t, int_i, abs_i, tup_l, tup_t, lst_l, lst_t, min_i, max_i, rev_l, neg_i, sum_l, slP_t, slP_l,
  ixP_t, ixP_l, ixR_v, ixR_n, ixR_a, ixW_own, ixW_deal0, ixW_deal1, ixR_1, itemsD_l, itemsD_t, rangeP1, rangeP2, plains, plainO_none, plainO_dat, datO_none, datO_dat, setAll_nil, setAll_cons, setAW_some, setT_t,
  stR_at, stO_deal, setI, setIs, Itm.o, setD, forget_nil, forget_cons, fgO_none, fgO_dat, fgO_own, fgO_deal, wipeΓ, backΓ, argD, drs, List.all_cons, List.all_nil, Bool.and_true, List.getElem?_cons_zero, List.getElem?_cons_succ, List.set_cons_zero, List.set_cons_succ, List.length_cons, List.length_nil, Nat.zero_add, Nat.reduceAdd, Nat.reduceLeDiff, true_and, and_true, decide_eq_true_eq]
  unfold beh rdAt rd
  by_cases h0 : a < 0
  · rw [if_pos h0, if_pos h0]
    simp -implicitDefEqProofs only [oD, oP, sv, ev, CO.p, BO.p, BO.ap, tv, isNop, if_true, if_false, Bool.false_eq_true, reduceIte,
  W_then, W_asg, W_disp, W_nil, W_cons, W_consA, W_consI, W_var, W_val, W_bin, W_chn, W_ix, W_un, W_optN, W_optS, W_sl, W_deal, W_blt, W_isi, W_lrg, W_call, W_prm, W_ite, W_T, W_B, W_not, W_and, W_or, W_seq, W_rng, W_app, W_pop, W_nx, W_drop, W_pure, W_ret, W_if, W_par, W_unp, W_sub, W_yes, W_for, W_aug', W_lc,
  wO_some, wD_some, wD_if, rdO_dat, rdO_own, rdO_deal, mv_val, mv_new, mv_at, mvO_dat, mvO_own, dr_val, dr_new, dr_at, drO_dat, drO_own, dr_at1, dr1_deal, mvA_val, mvA_new, mvA_at, mvAO_dat, mvAO_own, mvAO_deal, toItm_f, itmO_some, toItm_n, toItm_q,
  isDeal_none, isDeal_dat, isDeal_own, isDeal_deal, lstR_at, lstR_at1, lstO_own, lstO_deal, items_at, items_at1, itO_own, it1_deal, putR_at, putR_at1, putO_deal, PR_v, PR_t, PR_l, Rt_d, Rt_q, rtO_some, retR_val, retR_new, retR_newD, retR_at, exitD_none, exitD_some, dealO_deal, intO_int, toB_bl, newO_new, valO_val, thW_nx, thW_bk, thW_ct, thW_rt,
  callW_d, callW_nil, callW_ref, refW_deal, augW_dat, exV, ex1, exI, addP_i, addP_l, addP_t, addI_i, subP_i, mulP_i, mulP_0, divP_i, modP_i, powP_i, cmpP_i, eqP_i, neP_i, isP_nn, isP_in, isP_tn, isP_bn, isnP_nn, isnP_in, isnP_tn, isP_nb, isP_ib, isP_tb, isP_bb, len_l, len_t, int_i, abs_i, tup_l, tup_t, lst_l, lst_t, min_i, max_i, rev_l, neg_i, sum_l, slP_t, slP_l,
  ixP_t, ixP_l, ixR_v, ixR_n, ixR_a, ixW_own, ixW_deal0, ixW_deal1, ixR_1, itemsD_l, itemsD_t, rangeP1, rangeP2, plains, plainO_none, plainO_dat, datO_none, datO_dat, setAll_nil, setAll_cons, setAW_some, setT_t,
  stR_at, stO_deal, setI, setIs, Itm.o, setD, forget_nil, forget_cons, fgO_none, fgO_dat, fgO_own, fgO_deal, wipeΓ, backΓ, argD, drs, List.all_cons, List.all_nil, Bool.and_true, List.getElem?_cons_zero, List.getElem?_cons_succ, List.set_cons_zero, List.set_cons_succ, List.length_cons, List.length_nil, Nat.zero_add, Nat.reduceAdd, Nat.reduceLeDiff, true_and, and_true, decide_eq_true_eq]
  · obtain ⟨n, rfl⟩ : ∃ n : Nat, a = n := ⟨a.toNat, by omega⟩
    rw [if_neg h0, if_neg h0, Int.toNat_natCast]
    cases q : fl (xs.drop n) with
    | none => simp -implicitDefEqProofs only [Option.map_none, oD, oP, sv, ev, CO.p, BO.p, BO.ap, tv, isNop, if_true, if_false, Bool.false_eq_true, reduceIte,
  W_then, W_asg, W_disp, W_nil, W_cons, W_consA, W_consI, W_var, W_val, W_bin, W_chn, W_ix, W_un, W_optN, W_optS, W_sl, W_deal, W_blt, W_isi, W_lrg, W_call, W_prm, W_ite, W_T, W_B, W_not, W_and, W_or, W_seq, W_rng, W_app, W_pop, W_nx, W_drop, W_pure, W_ret, W_if, W_par, W_unp, W_sub, W_yes, W_for, W_aug', W_lc,
  wO_some, wD_some, wD_if, rdO_dat, rdO_own, rdO_deal, mv_val, mv_new, mv_at, mvO_dat, mvO_own, dr_val, dr_new, dr_at, drO_dat, drO_own, dr_at1, dr1_deal, mvA_val, mvA_new, mvA_at, mvAO_dat, mvAO_own, mvAO_deal, toItm_f, itmO_some, toItm_n, toItm_q,
  isDeal_none, isDeal_dat, isDeal_own, isDeal_deal, lstR_at, lstR_at1, lstO_own, lstO_deal, items_at, items_at1, itO_own, it1_deal, putR_at, putR_at1, putO_deal, PR_v, PR_t, PR_l, Rt_d, Rt_q, rtO_some, retR_val, retR_new, retR_newD, retR_at, exitD_none, exitD_some, dealO_deal, intO_int, toB_bl, newO_new, valO_val, thW_nx, thW_bk, thW_ct, thW_rt,
  callW_d, callW_nil, callW_ref, refW_deal, augW_dat, exV, ex1, exI, addP_i, addP_l, addP_t, addI_i, subP_i, mulP_i, mulP_0, divP_i, modP_i, powP_i, cmpP_i, eqP_i, neP_i, isP_nn, isP_in, isP_tn, isP_bn, isnP_nn, isnP_in, isnP_tn, isP_nb, isP_ib, isP_tb, isP_bb, len_l, len_t, int_i, abs_i, tup_l, tup_t, lst_l, lst_t, min_i, max_i, rev_l, neg_i, sum_l, slP_t, slP_l,
  ixP_t, ixP_l, ixR_v, ixR_n, ixR_a, ixW_own, ixW_deal0, ixW_deal1, ixR_1, itemsD_l, itemsD_t, rangeP1, rangeP2, plains, plainO_none, plainO_dat, datO_none, datO_dat, setAll_nil, setAll_cons, setAW_some, setT_t,
  stR_at, stO_deal, setI, setIs, Itm.o, setD, forget_nil, forget_cons, fgO_none, fgO_dat, fgO_own, fgO_deal, wipeΓ, backΓ, argD, drs, List.all_cons, List.all_nil, Bool.and_true, List.getElem?_cons_zero, List.getElem?_cons_succ, List.set_cons_zero, List.set_cons_succ, List.length_cons, List.length_nil, Nat.zero_add, Nat.reduceAdd, Nat.reduceLeDiff, true_and, and_true, decide_eq_true_eq]
    | some l =>
      obtain ⟨f1, f2, f3, f4⟩ := fl_get q
      rw [List.length_drop] at f2
      have c1 : ((n + l : Nat) : Int) - 1 = ((n + (l - 1) : Nat) : Int) := by omega
      simp -implicitDefEqProofs only [Option.map_some, oD, c1, sv, ev, CO.p, BO.p, BO.ap, tv, isNop, if_true, if_false, Bool.false_eq_true, reduceIte,
  W_then, W_asg, W_disp, W_nil, W_cons, W_consA, W_consI, W_var, W_val, W_bin, W_chn, W_ix, W_un, W_optN, W_optS, W_sl, W_deal, W_blt, W_isi, W_lrg, W_call, W_prm, W_ite, W_T, W_B, W_not, W_and, W_or, W_seq, W_rng, W_app, W_pop, W_nx, W_drop, W_pure, W_ret, W_if, W_par, W_unp, W_sub, W_yes, W_for, W_aug', W_lc,
  wO_some, wD_some, wD_if, rdO_dat, rdO_own, rdO_deal, mv_val, mv_new, mv_at, mvO_dat, mvO_own, dr_val, dr_new, dr_at, drO_dat, drO_own, dr_at1, dr1_deal, mvA_val, mvA_new, mvA_at, mvAO_dat, mvAO_own, mvAO_deal, toItm_f, itmO_some, toItm_n, toItm_q,
  isDeal_none, isDeal_dat, isDeal_own, isDeal_deal, lstR_at, lstR_at1, lstO_own, lstO_deal, items_at, items_at1, itO_own, it1_deal, putR_at, putR_at1, putO_deal, PR_v, PR_t, PR_l, Rt_d, Rt_q, rtO_some, retR_val, retR_new, retR_newD, retR_at, exitD_none, exitD_some, dealO_deal, intO_int, toB_bl, newO_new, valO_val, thW_nx, thW_bk, thW_ct, thW_rt,
  callW_d, callW_nil, callW_ref, refW_deal, augW_dat, exV, ex1, exI, addP_i, addP_l, addP_t, addI_i, subP_i, mulP_i, mulP_0, divP_i, modP_i, powP_i, cmpP_i, eqP_i, neP_i, isP_nn, isP_in, isP_tn, isP_bn, isnP_nn, isnP_in, isnP_tn, isP_nb, isP_ib, isP_tb, isP_bb, len_l, len_t, int_i, abs_i, tup_l, tup_t, lst_l, lst_t, min_i, max_i, rev_l, neg_i, sum_l, slP_t, slP_l,
  ixP_t, ixP_l, ixR_v, ixR_n, ixR_a, ixW_own, ixW_deal0, ixW_deal1, ixR_1, itemsD_l, itemsD_t, rangeP1, rangeP2, plains, plainO_none, plainO_dat, datO_none, datO_dat, setAll_nil, setAll_cons, setAW_some, setT_t,
  stR_at, stO_deal, setI, setIs, Itm.o, setD, forget_nil, forget_cons, fgO_none, fgO_dat, fgO_own, fgO_deal, wipeΓ, backΓ, argD, drs, List.all_cons, List.all_nil, Bool.and_true, List.getElem?_cons_zero, List.getElem?_cons_succ, List.set_cons_zero, List.set_cons_succ, List.length_cons, List.length_nil, Nat.zero_add, Nat.reduceAdd, Nat.reduceLeDiff, true_and, and_true, decide_eq_true_eq]
      rw [atI_nat (by omega)]
      simp -implicitDefEqProofs only [sv, ev, CO.p, BO.p, BO.ap, tv, isNop, if_true, if_false, Bool.false_eq_true, reduceIte,
  W_then, W_asg, W_disp, W_nil, W_cons, W_consA, W_consI, W_var, W_val, W_bin, W_chn, W_ix, W_un, W_optN, W_optS, W_sl, W_deal, W_blt, W_isi, W_lrg, W_call, W_prm, W_ite, W_T, W_B, W_not, W_and, W_or, W_seq, W_rng, W_app, W_pop, W_nx, W_drop, W_pure, W_ret, W_if, W_par, W_unp, W_sub, W_yes, W_for, W_aug', W_lc,
  wO_some, wD_some, wD_if, rdO_dat, rdO_own, rdO_deal, mv_val, mv_new, mv_at, mvO_dat, mvO_own, dr_val, dr_new, dr_at, drO_dat, drO_own, dr_at1, dr1_deal, mvA_val, mvA_new, mvA_at, mvAO_dat, mvAO_own, mvAO_deal, toItm_f, itmO_some, toItm_n, toItm_q,
  isDeal_none, isDeal_dat, isDeal_own, isDeal_deal, lstR_at, lstR_at1, lstO_own, lstO_deal, items_at, items_at1, itO_own, it1_deal, putR_at, putR_at1, putO_deal, PR_v, PR_t, PR_l, Rt_d, Rt_q, rtO_some, retR_val, retR_new, retR_newD, retR_at, exitD_none, exitD_some, dealO_deal, intO_int, toB_bl, newO_new, valO_val, thW_nx, thW_bk, thW_ct, thW_rt,
  callW_d, callW_nil, callW_ref, refW_deal, augW_dat, exV, ex1, exI, addP_i, addP_l, addP_t, addI_i, subP_i, mulP_i, mulP_0, divP_i, modP_i, powP_i, cmpP_i, eqP_i, neP_i, isP_nn, isP_in, isP_tn, isP_bn, isnP_nn, isnP_in, isnP_tn, isP_nb, isP_ib, isP_tb, isP_bb, len_l, len_t, int_i, abs_i, tup_l, tup_t, lst_l, lst_t, min_i, max_i, rev_l, neg_i, sum_l, slP_t, slP_l,
  ixP_t, ixP_l, ixR_v, ixR_n, ixR_a, ixW_own, ixW_deal0, ixW_deal1, ixR_1, itemsD_l, itemsD_t, rangeP1, rangeP2, plains, plainO_none, plainO_dat, datO_none, datO_dat, setAll_nil, setAll_cons, setAW_some, setT_t,
  stR_at, stO_deal, setI, setIs, Itm.o, setD, forget_nil, forget_cons, fgO_none, fgO_dat, fgO_own, fgO_deal, wipeΓ, backΓ, argD, drs, List.all_cons, List.all_nil, Bool.and_true, List.getElem?_cons_zero, List.getElem?_cons_succ, List.set_cons_zero, List.set_cons_succ, List.length_cons, List.length_nil, Nat.zero_add, Nat.reduceAdd, Nat.reduceLeDiff, true_and, and_true, decide_eq_true_eq]
      have g2 : l ≤ (xs.drop n).length := by rw [List.length_drop]; omega
      by_cases hz : 1 < l ∧ (xs.drop n).getD (l - 1) 0 = 0
      · rw [if_pos hz]
        rw [drop_getD] at hz
        rw [if_pos (by omega), if_pos (by omega)]
        rfl
      · rw [if_neg hz]
        rw [drop_getD] at hz
        refine if2 (by omega) ?_
        rw [cut_oi (by omega) (by omega)]
        have e1 : n + (l - 1) - n = l - 1 := by omega
        rw [e1]
        generalize hys : xs.drop n = ys at *
        have hL : ∀ x ∈ ys.take (l - 1), 128 ≤ x ∧ x < 256 := fun x hm => by
          obtain ⟨k, hk⟩ := List.mem_iff_getElem?.mp hm
          have hk1 : k < l - 1 := by
            rcases Nat.lt_or_ge k (l - 1) with h | h
            · exact h
            · rw [List.getElem?_eq_none (by rw [List.length_take]; omega)] at hk; cases hk
          rw [List.getElem?_take_of_lt hk1] at hk
          have := f3 k hk1
          rw [List.getD_eq_getElem?_getD, hk] at this
          refine ⟨this, hx x ?_⟩
          have hm2 := List.mem_of_mem_take hm
          rw [← hys] at hm2
          exact List.mem_of_mem_drop hm2
        refine W_lcMap (oi ((ys.take (l - 1)).map (· - 128))) ?_ ?_ ?_ ?_
        · simp -implicitDefEqProofs only [List.length_map]
        · rw [List.length_map, List.length_take]; omega
        · intro k d y hd hy
          rw [List.getElem?_map] at hd hy
          rw [List.getElem?_map] at hy
          cases q3 : (ys.take (l - 1))[k]? with
          | none => rw [q3] at hd; cases hd
          | some x =>
            rw [q3] at hd hy
            cases hd
            cases hy
            have := hL x (List.mem_of_getElem? q3)
            simp -implicitDefEqProofs only [sv, ev, CO.p, BO.p, BO.ap, tv, isNop, if_true, if_false, Bool.false_eq_true, reduceIte,
  W_then, W_asg, W_disp, W_nil, W_cons, W_consA, W_consI, W_var, W_val, W_bin, W_chn, W_ix, W_un, W_optN, W_optS, W_sl, W_deal, W_blt, W_isi, W_lrg, W_call, W_prm, W_ite, W_T, W_B, W_not, W_and, W_or, W_seq, W_rng, W_app, W_pop, W_nx, W_drop, W_pure, W_ret, W_if, W_par, W_unp, W_sub, W_yes, W_for, W_aug', W_lc,
  wO_some, wD_some, wD_if, rdO_dat, rdO_own, rdO_deal, mv_val, mv_new, mv_at, mvO_dat, mvO_own, dr_val, dr_new, dr_at, drO_dat, drO_own, dr_at1, dr1_deal, mvA_val, mvA_new, mvA_at, mvAO_dat, mvAO_own, mvAO_deal, toItm_f, itmO_some, toItm_n, toItm_q,
  isDeal_none, isDeal_dat, isDeal_own, isDeal_deal, lstR_at, lstR_at1, lstO_own, lstO_deal, items_at, items_at1, itO_own, it1_deal, putR_at, putR_at1, putO_deal, PR_v, PR_t, PR_l, Rt_d, Rt_q, rtO_some, retR_val, retR_new, retR_newD, retR_at, exitD_none, exitD_some, dealO_deal, intO_int, toB_bl, newO_new, valO_val, thW_nx, thW_bk, thW_ct, thW_rt,
  callW_d, callW_nil, callW_ref, refW_deal, augW_dat, exV, ex1, exI, addP_i, addP_l, addP_t, addI_i, subP_i, mulP_i, mulP_0, divP_i, modP_i, powP_i, cmpP_i, eqP_i, neP_i, isP_nn, isP_in, isP_tn, isP_bn, isnP_nn, isnP_in, isnP_tn, isP_nb, isP_ib, isP_tb, isP_bb, len_l, len_t, int_i, abs_i, tup_l, tup_t, lst_l, lst_t, min_i, max_i, rev_l, neg_i, sum_l, slP_t, slP_l,
  ixP_t, ixP_l, ixR_v, ixR_n, ixR_a, ixW_own, ixW_deal0, ixW_deal1, ixR_1, itemsD_l, itemsD_t, rangeP1, rangeP2, plains, plainO_none, plainO_dat, datO_none, datO_dat, setAll_nil, setAll_cons, setAW_some, setT_t,
  stR_at, stO_deal, setI, setIs, Itm.o, setD, forget_nil, forget_cons, fgO_none, fgO_dat, fgO_own, fgO_deal, wipeΓ, backΓ, argD, drs, List.all_cons, List.all_nil, Bool.and_true, List.getElem?_cons_zero, List.getElem?_cons_succ, List.set_cons_zero, List.set_cons_succ, List.length_cons, List.length_nil, Nat.zero_add, Nat.reduceAdd, Nat.reduceLeDiff, true_and, and_true, decide_eq_true_eq]
            show D.int _ = D.int _
            congr 1
            omega
        · have hf : ∀ f ∈ (ys.take (l - 1)).map (· - 128) ++ [xs.getD (n + (l - 1)) 0], f < 128 := fun f hf => by
            rcases List.mem_append.mp hf with hf | hf
            · obtain ⟨x, hx1, rfl⟩ := List.mem_map.mp hf
              have := hL x hx1
              omega
            · rw [List.mem_singleton.mp hf, ← drop_getD, hys]; exact f4
          have hc := hn ((ys.take (l - 1)).map (· - 128) ++ [xs.getD (n + (l - 1)) 0]) (by simp) (by simp -implicitDefEqProofs only [List.length_append, List.length_map, List.length_take, List.length_cons, List.length_nil]; omega) hf
          rw [oi_app] at hc
          have el : oi [xs.getD (n + (l - 1)) 0] = [D.int (xs.getD (n + (l - 1)) 0 : Nat)] := rfl
          rw [el] at hc
          simp -implicitDefEqProofs only [c1, sv, ev, CO.p, BO.p, BO.ap, tv, isNop, if_true, if_false, Bool.false_eq_true, reduceIte,
  W_then, W_asg, W_disp, W_nil, W_cons, W_consA, W_consI, W_var, W_val, W_bin, W_chn, W_ix, W_un, W_optN, W_optS, W_sl, W_deal, W_blt, W_isi, W_lrg, W_call, W_prm, W_ite, W_T, W_B, W_not, W_and, W_or, W_seq, W_rng, W_app, W_pop, W_nx, W_drop, W_pure, W_ret, W_if, W_par, W_unp, W_sub, W_yes, W_for, W_aug', W_lc,
  wO_some, wD_some, wD_if, rdO_dat, rdO_own, rdO_deal, mv_val, mv_new, mv_at, mvO_dat, mvO_own, dr_val, dr_new, dr_at, drO_dat, drO_own, dr_at1, dr1_deal, mvA_val, mvA_new, mvA_at, mvAO_dat, mvAO_own, mvAO_deal, toItm_f, itmO_some, toItm_n, toItm_q,
  isDeal_none, isDeal_dat, isDeal_own, isDeal_deal, lstR_at, lstR_at1, lstO_own, lstO_deal, items_at, items_at1, itO_own, it1_deal, putR_at, putR_at1, putO_deal, PR_v, PR_t, PR_l, Rt_d, Rt_q, rtO_some, retR_val, retR_new, retR_newD, retR_at, exitD_none, exitD_some, dealO_deal, intO_int, toB_bl, newO_new, valO_val, thW_nx, thW_bk, thW_ct, thW_rt,
  callW_d, callW_nil, callW_ref, refW_deal, augW_dat, exV, ex1, exI, addP_i, addP_l, addP_t, addI_i, subP_i, mulP_i, mulP_0, divP_i, modP_i, powP_i, cmpP_i, eqP_i, neP_i, isP_nn, isP_in, isP_tn, isP_bn, isnP_nn, isnP_in, isnP_tn, isP_nb, isP_ib, isP_tb, isP_bb, len_l, len_t, int_i, abs_i, tup_l, tup_t, lst_l, lst_t, min_i, max_i, rev_l, neg_i, sum_l, slP_t, slP_l,
  ixP_t, ixP_l, ixR_v, ixR_n, ixR_a, ixW_own, ixW_deal0, ixW_deal1, ixR_1, itemsD_l, itemsD_t, rangeP1, rangeP2, plains, plainO_none, plainO_dat, datO_none, datO_dat, setAll_nil, setAll_cons, setAW_some, setT_t,
  stR_at, stO_deal, setI, setIs, Itm.o, setD, forget_nil, forget_cons, fgO_none, fgO_dat, fgO_own, fgO_deal, wipeΓ, backΓ, argD, drs, List.all_cons, List.all_nil, Bool.and_true, List.getElem?_cons_zero, List.getElem?_cons_succ, List.set_cons_zero, List.set_cons_succ, List.length_cons, List.length_nil, Nat.zero_add, Nat.reduceAdd, Nat.reduceLeDiff, true_and, and_true, decide_eq_true_eq]
          rw [atI_nat (by omega)]
          simp -implicitDefEqProofs only [hc, sv, ev, CO.p, BO.p, BO.ap, tv, isNop, if_true, if_false, Bool.false_eq_true, reduceIte,
  W_then, W_asg, W_disp, W_nil, W_cons, W_consA, W_consI, W_var, W_val, W_bin, W_chn, W_ix, W_un, W_optN, W_optS, W_sl, W_deal, W_blt, W_isi, W_lrg, W_call, W_prm, W_ite, W_T, W_B, W_not, W_and, W_or, W_seq, W_rng, W_app, W_pop, W_nx, W_drop, W_pure, W_ret, W_if, W_par, W_unp, W_sub, W_yes, W_for, W_aug', W_lc,
  wO_some, wD_some, wD_if, rdO_dat, rdO_own, rdO_deal, mv_val, mv_new, mv_at, mvO_dat, mvO_own, dr_val, dr_new, dr_at, drO_dat, drO_own, dr_at1, dr1_deal, mvA_val, mvA_new, mvA_at, mvAO_dat, mvAO_own, mvAO_deal, toItm_f, itmO_some, toItm_n, toItm_q,
  isDeal_none, isDeal_dat, isDeal_own, isDeal_deal, lstR_at, lstR_at1, lstO_own, lstO_deal, items_at, items_at1, itO_own, it1_deal, putR_at, putR_at1, putO_deal, PR_v, PR_t, PR_l, Rt_d, Rt_q, rtO_some, retR_val, retR_new, retR_newD, retR_at, exitD_none, exitD_some, dealO_deal, intO_int, toB_bl, newO_new, valO_val, thW_nx, thW_bk, thW_ct, thW_rt,
  callW_d, callW_nil, callW_ref, refW_deal, augW_dat, exV, ex1, exI, addP_i, addP_l, addP_t, addI_i, subP_i, mulP_i, mulP_0, divP_i, modP_i, powP_i, cmpP_i, eqP_i, neP_i, isP_nn, isP_in, isP_tn, isP_bn, isnP_nn, isnP_in, isnP_tn, isP_nb, isP_ib, isP_tb, isP_bb, len_l, len_t, int_i, abs_i, tup_l, tup_t, lst_l, lst_t, min_i, max_i, rev_l, neg_i, sum_l, slP_t, slP_l,
  ixP_t, ixP_l, ixR_v, ixR_n, ixR_a, ixW_own, ixW_deal0, ixW_deal1, ixR_1, itemsD_l, itemsD_t, rangeP1, rangeP2, plains, plainO_none, plainO_dat, datO_none, datO_dat, setAll_nil, setAll_cons, setAW_some, setT_t,
  stR_at, stO_deal, setI, setIs, Itm.o, setD, forget_nil, forget_cons, fgO_none, fgO_dat, fgO_own, fgO_deal, wipeΓ, backΓ, argD, drs, List.all_cons, List.all_nil, Bool.and_true, List.getElem?_cons_zero, List.getElem?_cons_succ, List.set_cons_zero, List.set_cons_succ, List.length_cons, List.length_nil, Nat.zero_add, Nat.reduceAdd, Nat.reduceLeDiff, true_and, and_true, decide_eq_true_eq]
          refine ⟨by rw [List.length_map, List.length_map, List.length_take]; omega, ?_⟩
          have ef : (ys.take l).map (· % 128) = (ys.take (l - 1)).map (· - 128) ++ [xs.getD (n + (l - 1)) 0] := by
            have e3 : (ys.take (l - 1)).map (· % 128) = (ys.take (l - 1)).map (· - 128) := List.map_congr_left fun x hm => by
              have := hL x hm
              show x % 128 = x - 128
              omega
            rw [take_last f1 g2, List.map_append, ← drop_getD, hys, e3]
            show _ ++ [_ % 128] = _
            rw [Nat.mod_eq_of_lt f4]
          rw [ef]
          rfl
end Nu

set_option Elab.async false
set_option linter.all false
set_option maxRecDepth 100000
set_option maxHeartbeats 4000000
/-! the deal, the comparison (k91, k92) -/
namespace Dq
open Z Nu
open L2 (atI ixN)
theorem wO.mono {α β : Type} {x : Option (α × β)} {Q Q' : α → β → Prop} (h : wO x Q) (i : ∀ a b, Q a b → Q' a b) : wO x Q' := by
  cases x with
  | none => exact h
  | some x => exact i _ _ h
abbrev zi (cs : List Int) : List D := cs.map D.int
theorem zi_dl (cs : List Int) : (zi cs).dropLast = zi cs.dropLast := by simp [zi, List.map_dropLast]
theorem zi_app (a b : List Int) : zi (a ++ b) = zi a ++ zi b := List.map_append
theorem atI_z {xs : List Int} {i : Nat} (h : i < xs.length) : atI (zi xs) (i : Int) = some (D.int (xs.getD i 0)) := by
  unfold atI ixN
  rw [if_pos (by omega), List.length_map, if_pos (by exact_mod_cast h)]
  show (zi xs)[(i : Int).toNat]? = _
  rw [Int.toNat_natCast, List.getElem?_map, List.getD_eq_getElem?_getD, List.getElem?_eq_getElem h]
  rfl
theorem atI_m1 {xs : List Int} (h : xs ≠ []) : atI (zi xs) (-1) = some (D.int (xs.getD (xs.length - 1) 0)) := by
  have hp := List.length_pos_iff.mpr h
  unfold atI ixN
  rw [if_neg (by omega), List.length_map, if_pos (by omega)]
  show (zi xs)[(-1 + (xs.length : Int)).toNat]? = _
  have e : (-1 + (xs.length : Int)).toNat = xs.length - 1 := by omega
  rw [e, List.getElem?_map, List.getD_eq_getElem?_getD, List.getElem?_eq_getElem (by omega)]
  rfl
theorem get_last {xs : List Int} (h : xs ≠ []) : (zi xs)[(zi xs).length - 1]? = some (D.int (xs.getD (xs.length - 1) 0)) := by
  have hp := List.length_pos_iff.mpr h
  rw [List.length_map, List.getElem?_map, List.getD_eq_getElem?_getD, List.getElem?_eq_getElem (by omega)]
  rfl
/-- _law_any -/
def tAny : Z.St := (.next (.whl [] (.and (.cmp .gt (.blt .len (.cons (.ix (.var 0) (.lit (.int 0))) .nil)) (.lit (.int 0))) (.cmp .eq (.ix (.ix (.var 0) (.lit (.int 0))) (.neg (.lit (.int 1)))) (.lit (.int 0))))
 (.next (.drop (.pop (.ix (.var 0) (.lit (.int 0)))))
 .nil))
 (.next (.iff (.cmp .gt (.blt .len (.cons (.ix (.var 0) (.lit (.int 0))) .nil)) (.lit (.int 0)))
 (.next (.asg false 2 (.blt .int (.cons (.pop (.ix (.var 0) (.lit (.int 0)))) .nil)))
 (.next (.drop (.app (.ix (.var 0) (.lit (.int 0))) (.cons (.bin .div (.var 2) (.var 1)) .nil)))
 (.next (.ret (.bin .mod (.var 2) (.var 1)))
 .nil)))
 .nil)
 (.next (.sub (.var 0) (.lit (.int 1)) (.bin .mod (.blt .int (.cons (.bin .add (.bin .mul (.ix (.var 0) (.lit (.int 1))) (.lit (.int 48271))) (.lit (.int 31))) .nil)) (.lit (.int 2147483647))))
 (.next (.ret (.bin .mod (.blt .int (.cons (.bin .div (.ix (.var 0) (.lit (.int 1))) (.lit (.int 64))) .nil)) (.var 1)))
 .nil))))
/-- what a deal gives: a number below b, a deal again -/
def AnyOk (g : Sm) : Prop := ∀ (cs : List Int) (m : Int) (b : Int), cs.length ≤ 63 → 0 < b → b < 2 ^ 64 → wO (g (some (zi cs, .int m)) [.int b]) fun rt q' => ∃ (v : Nat) (cs' : List Int) (m' : Int), rt = .dat (.int v) ∧ (v : Int) < b ∧ q' = some (zi cs', .int m') ∧ cs'.length ≤ 63
theorem okDiv_of {b : Int} (h0 : 0 < b) (h : b < 2 ^ 64) : okDiv b := by
  refine ⟨h0, ?_⟩
  have : b.natAbs < 2 ^ 64 := by omega
  have := log_lt (B := 0) this
  omega
theorem any_ok (cal) : AnyOk (runF cal 3 tAny) := by
  intro cs m b hl h0 hb
  refine runF_W ?_
  simp -implicitDefEqProofs only [tAny, inΓ, dlO, List.map_cons, List.map_nil, List.nil_append, List.cons_append, List.replicate, Nat.reduceSub, sv, ev, CO.p, BO.p, BO.ap, tv, isNop, if_true, if_false, Bool.false_eq_true, reduceIte,
  W_then, W_asg, W_disp, W_nil, W_cons, W_consA, W_consI, W_var, W_val, W_bin, W_chn, W_ix, W_un, W_optN, W_optS, W_sl, W_deal, W_blt, W_isi, W_lrg, W_call, W_prm, W_ite, W_T, W_B, W_not, W_and, W_or, W_seq, W_rng, W_app, W_pop, W_nx, W_drop, W_pure, W_ret, W_if, W_par, W_unp, W_sub, W_yes, W_for, W_aug', W_lc,
  wO_some, wD_some, wD_if, rdO_dat, rdO_own, rdO_deal, mv_val, mv_new, mv_at, mvO_dat, mvO_own, dr_val, dr_new, dr_at, drO_dat, drO_own, dr_at1, dr1_deal, mvA_val, mvA_new, mvA_at, mvAO_dat, mvAO_own, mvAO_deal, toItm_f, itmO_some, toItm_n, toItm_q,
  isDeal_none, isDeal_dat, isDeal_own, isDeal_deal, lstR_at, lstR_at1, lstO_own, lstO_deal, items_at, items_at1, itO_own, it1_deal, putR_at, putR_at1, putO_deal, PR_v, PR_t, PR_l, Rt_d, Rt_q, rtO_some, retR_val, retR_new, retR_newD, retR_at, exitD_none, exitD_some, dealO_deal, intO_int, toB_bl, newO_new, valO_val, thW_nx, thW_bk, thW_ct, thW_rt,
  callW_d, callW_nil, callW_ref, refW_deal, augW_dat, exV, ex1, exI, addP_i, addP_l, addP_t, addI_i, subP_i, mulP_i, mulP_0, divP_i, modP_i, powP_i, cmpP_i, eqP_i, neP_i, isP_nn, isP_in, isP_tn, isP_bn, isnP_nn, isnP_in, isnP_tn, isP_nb, isP_ib, isP_tb, isP_bb, len_l, len_t, int_i, abs_i, tup_l, tup_t, lst_l, lst_t, min_i, max_i, rev_l, neg_i, sum_l, slP_t, slP_l,
  ixP_t, ixP_l, ixR_v, ixR_n, ixR_a, ixW_own, ixW_deal0, ixW_deal1, ixR_1, itemsD_l, itemsD_t, rangeP1, rangeP2, plains, plainO_none, plainO_dat, datO_none, datO_dat, setAll_nil, setAll_cons, setAW_some, setT_t,
  stR_at, stO_deal, setI, setIs, Itm.o, setD, forget_nil, forget_cons, fgO_none, fgO_dat, fgO_own, fgO_deal, wipeΓ, backΓ, argD, drs, List.all_cons, List.all_nil, Bool.and_true, List.getElem?_cons_zero, List.getElem?_cons_succ, List.set_cons_zero, List.set_cons_succ, List.length_cons, List.length_nil, Nat.zero_add, Nat.reduceAdd, Nat.reduceLeDiff, true_and, and_true, decide_eq_true_eq]
  refine W_wh (fun n Γ => ∃ cs : List Int, n = cs.length ∧ n ≤ 63 ∧ Γ = [some (.deal (zi cs) (.int m)), some (.dat (.int b)), none]) (m := cs.length) ⟨cs, rfl, hl, rfl⟩ ?_
  rintro n Γ ⟨cs, rfl, hl, rfl⟩
  simp -implicitDefEqProofs only [sv, ev, CO.p, BO.p, BO.ap, tv, isNop, if_true, if_false, Bool.false_eq_true, reduceIte,
  W_then, W_asg, W_disp, W_nil, W_cons, W_consA, W_consI, W_var, W_val, W_bin, W_chn, W_ix, W_un, W_optN, W_optS, W_sl, W_deal, W_blt, W_isi, W_lrg, W_call, W_prm, W_ite, W_T, W_B, W_not, W_and, W_or, W_seq, W_rng, W_app, W_pop, W_nx, W_drop, W_pure, W_ret, W_if, W_par, W_unp, W_sub, W_yes, W_for, W_aug', W_lc,
  wO_some, wD_some, wD_if, rdO_dat, rdO_own, rdO_deal, mv_val, mv_new, mv_at, mvO_dat, mvO_own, dr_val, dr_new, dr_at, drO_dat, drO_own, dr_at1, dr1_deal, mvA_val, mvA_new, mvA_at, mvAO_dat, mvAO_own, mvAO_deal, toItm_f, itmO_some, toItm_n, toItm_q,
  isDeal_none, isDeal_dat, isDeal_own, isDeal_deal, lstR_at, lstR_at1, lstO_own, lstO_deal, items_at, items_at1, itO_own, it1_deal, putR_at, putR_at1, putO_deal, PR_v, PR_t, PR_l, Rt_d, Rt_q, rtO_some, retR_val, retR_new, retR_newD, retR_at, exitD_none, exitD_some, dealO_deal, intO_int, toB_bl, newO_new, valO_val, thW_nx, thW_bk, thW_ct, thW_rt,
  callW_d, callW_nil, callW_ref, refW_deal, augW_dat, exV, ex1, exI, addP_i, addP_l, addP_t, addI_i, subP_i, mulP_i, mulP_0, divP_i, modP_i, powP_i, cmpP_i, eqP_i, neP_i, isP_nn, isP_in, isP_tn, isP_bn, isnP_nn, isnP_in, isnP_tn, isP_nb, isP_ib, isP_tb, isP_bb, len_l, len_t, int_i, abs_i, tup_l, tup_t, lst_l, lst_t, min_i, max_i, rev_l, neg_i, sum_l, slP_t, slP_l,
  ixP_t, ixP_l, ixR_v, ixR_n, ixR_a, ixW_own, ixW_deal0, ixW_deal1, ixR_1, itemsD_l, itemsD_t, rangeP1, rangeP2, plains, plainO_none, plainO_dat, datO_none, datO_dat, setAll_nil, setAll_cons, setAW_some, setT_t,
  stR_at, stO_deal, setI, setIs, Itm.o, setD, forget_nil, forget_cons, fgO_none, fgO_dat, fgO_own, fgO_deal, wipeΓ, backΓ, argD, drs, List.all_cons, List.all_nil, Bool.and_true, List.getElem?_cons_zero, List.getElem?_cons_succ, List.set_cons_zero, List.set_cons_succ, List.length_cons, List.length_nil, Nat.zero_add, Nat.reduceAdd, Nat.reduceLeDiff, true_and, and_true, decide_eq_true_eq]
  have len : (zi cs).length = cs.length := List.length_map _
  by_cases hc : cs = []
  · subst hc
    rw [if_neg (by simp), if_neg (by simp)]
    refine ⟨.inr (.inl ⟨by decide, by decide⟩), by decide, ?_⟩
    refine ⟨by decide, h0, ?_⟩
    have h1 := Int.emod_nonneg ((m * 48271 + 31) % 2147483647 / 64) (Int.ne_of_gt h0)
    have h2 := Int.emod_lt_of_pos ((m * 48271 + 31) % 2147483647 / 64) h0
    exact ⟨((m * 48271 + 31) % 2147483647 / 64 % b).toNat, [], _, by rw [Int.toNat_of_nonneg h1], by rw [Int.toNat_of_nonneg h1]; exact h2, rfl, by decide⟩
  · have hp := List.length_pos_iff.mpr hc
    rw [len, if_pos (by omega), if_pos (by omega), atI_m1 hc]
    simp -implicitDefEqProofs only [sv, ev, CO.p, BO.p, BO.ap, tv, isNop, if_true, if_false, Bool.false_eq_true, reduceIte,
  W_then, W_asg, W_disp, W_nil, W_cons, W_consA, W_consI, W_var, W_val, W_bin, W_chn, W_ix, W_un, W_optN, W_optS, W_sl, W_deal, W_blt, W_isi, W_lrg, W_call, W_prm, W_ite, W_T, W_B, W_not, W_and, W_or, W_seq, W_rng, W_app, W_pop, W_nx, W_drop, W_pure, W_ret, W_if, W_par, W_unp, W_sub, W_yes, W_for, W_aug', W_lc,
  wO_some, wD_some, wD_if, rdO_dat, rdO_own, rdO_deal, mv_val, mv_new, mv_at, mvO_dat, mvO_own, dr_val, dr_new, dr_at, drO_dat, drO_own, dr_at1, dr1_deal, mvA_val, mvA_new, mvA_at, mvAO_dat, mvAO_own, mvAO_deal, toItm_f, itmO_some, toItm_n, toItm_q,
  isDeal_none, isDeal_dat, isDeal_own, isDeal_deal, lstR_at, lstR_at1, lstO_own, lstO_deal, items_at, items_at1, itO_own, it1_deal, putR_at, putR_at1, putO_deal, PR_v, PR_t, PR_l, Rt_d, Rt_q, rtO_some, retR_val, retR_new, retR_newD, retR_at, exitD_none, exitD_some, dealO_deal, intO_int, toB_bl, newO_new, valO_val, thW_nx, thW_bk, thW_ct, thW_rt,
  callW_d, callW_nil, callW_ref, refW_deal, augW_dat, exV, ex1, exI, addP_i, addP_l, addP_t, addI_i, subP_i, mulP_i, mulP_0, divP_i, modP_i, powP_i, cmpP_i, eqP_i, neP_i, isP_nn, isP_in, isP_tn, isP_bn, isnP_nn, isnP_in, isnP_tn, isP_nb, isP_ib, isP_tb, isP_bb, len_l, len_t, int_i, abs_i, tup_l, tup_t, lst_l, lst_t, min_i, max_i, rev_l, neg_i, sum_l, slP_t, slP_l,
  ixP_t, ixP_l, ixR_v, ixR_n, ixR_a, ixW_own, ixW_deal0, ixW_deal1, ixR_1, itemsD_l, itemsD_t, rangeP1, rangeP2, plains, plainO_none, plainO_dat, datO_none, datO_dat, setAll_nil, setAll_cons, setAW_some, setT_t,
  stR_at, stO_deal, setI, setIs, Itm.o, setD, forget_nil, forget_cons, fgO_none, fgO_dat, fgO_own, fgO_deal, wipeΓ, backΓ, argD, drs, List.all_cons, List.all_nil, Bool.and_true, List.getElem?_cons_zero, List.getElem?_cons_succ, List.set_cons_zero, List.set_cons_succ, List.length_cons, List.length_nil, Nat.zero_add, Nat.reduceAdd, Nat.reduceLeDiff, true_and, and_true, decide_eq_true_eq]
    have gl := get_last hc
    rw [len] at gl
    rw [gl]
    split
    · simp -implicitDefEqProofs only [sv, ev, CO.p, BO.p, BO.ap, tv, isNop, if_true, if_false, Bool.false_eq_true, reduceIte,
  W_then, W_asg, W_disp, W_nil, W_cons, W_consA, W_consI, W_var, W_val, W_bin, W_chn, W_ix, W_un, W_optN, W_optS, W_sl, W_deal, W_blt, W_isi, W_lrg, W_call, W_prm, W_ite, W_T, W_B, W_not, W_and, W_or, W_seq, W_rng, W_app, W_pop, W_nx, W_drop, W_pure, W_ret, W_if, W_par, W_unp, W_sub, W_yes, W_for, W_aug', W_lc,
  wO_some, wD_some, wD_if, rdO_dat, rdO_own, rdO_deal, mv_val, mv_new, mv_at, mvO_dat, mvO_own, dr_val, dr_new, dr_at, drO_dat, drO_own, dr_at1, dr1_deal, mvA_val, mvA_new, mvA_at, mvAO_dat, mvAO_own, mvAO_deal, toItm_f, itmO_some, toItm_n, toItm_q,
  isDeal_none, isDeal_dat, isDeal_own, isDeal_deal, lstR_at, lstR_at1, lstO_own, lstO_deal, items_at, items_at1, itO_own, it1_deal, putR_at, putR_at1, putO_deal, PR_v, PR_t, PR_l, Rt_d, Rt_q, rtO_some, retR_val, retR_new, retR_newD, retR_at, exitD_none, exitD_some, dealO_deal, intO_int, toB_bl, newO_new, valO_val, thW_nx, thW_bk, thW_ct, thW_rt,
  callW_d, callW_nil, callW_ref, refW_deal, augW_dat, exV, ex1, exI, addP_i, addP_l, addP_t, addI_i, subP_i, mulP_i, mulP_0, divP_i, modP_i, powP_i, cmpP_i, eqP_i, neP_i, isP_nn, isP_in, isP_tn, isP_bn, isnP_nn, isnP_in, isnP_tn, isP_nb, isP_ib, isP_tb, isP_bb, len_l, len_t, int_i, abs_i, tup_l, tup_t, lst_l, lst_t, min_i, max_i, rev_l, neg_i, sum_l, slP_t, slP_l,
  ixP_t, ixP_l, ixR_v, ixR_n, ixR_a, ixW_own, ixW_deal0, ixW_deal1, ixR_1, itemsD_l, itemsD_t, rangeP1, rangeP2, plains, plainO_none, plainO_dat, datO_none, datO_dat, setAll_nil, setAll_cons, setAW_some, setT_t,
  stR_at, stO_deal, setI, setIs, Itm.o, setD, forget_nil, forget_cons, fgO_none, fgO_dat, fgO_own, fgO_deal, wipeΓ, backΓ, argD, drs, List.all_cons, List.all_nil, Bool.and_true, List.getElem?_cons_zero, List.getElem?_cons_succ, List.set_cons_zero, List.set_cons_succ, List.length_cons, List.length_nil, Nat.zero_add, Nat.reduceAdd, Nat.reduceLeDiff, true_and, and_true, decide_eq_true_eq]
      exact ⟨cs.length - 1, by omega, cs.dropLast, by rw [List.length_dropLast], by omega, by rw [zi_dl]⟩
    · simp -implicitDefEqProofs only [sv, ev, CO.p, BO.p, BO.ap, tv, isNop, if_true, if_false, Bool.false_eq_true, reduceIte,
  W_then, W_asg, W_disp, W_nil, W_cons, W_consA, W_consI, W_var, W_val, W_bin, W_chn, W_ix, W_un, W_optN, W_optS, W_sl, W_deal, W_blt, W_isi, W_lrg, W_call, W_prm, W_ite, W_T, W_B, W_not, W_and, W_or, W_seq, W_rng, W_app, W_pop, W_nx, W_drop, W_pure, W_ret, W_if, W_par, W_unp, W_sub, W_yes, W_for, W_aug', W_lc,
  wO_some, wD_some, wD_if, rdO_dat, rdO_own, rdO_deal, mv_val, mv_new, mv_at, mvO_dat, mvO_own, dr_val, dr_new, dr_at, drO_dat, drO_own, dr_at1, dr1_deal, mvA_val, mvA_new, mvA_at, mvAO_dat, mvAO_own, mvAO_deal, toItm_f, itmO_some, toItm_n, toItm_q,
  isDeal_none, isDeal_dat, isDeal_own, isDeal_deal, lstR_at, lstR_at1, lstO_own, lstO_deal, items_at, items_at1, itO_own, it1_deal, putR_at, putR_at1, putO_deal, PR_v, PR_t, PR_l, Rt_d, Rt_q, rtO_some, retR_val, retR_new, retR_newD, retR_at, exitD_none, exitD_some, dealO_deal, intO_int, toB_bl, newO_new, valO_val, thW_nx, thW_bk, thW_ct, thW_rt,
  callW_d, callW_nil, callW_ref, refW_deal, augW_dat, exV, ex1, exI, addP_i, addP_l, addP_t, addI_i, subP_i, mulP_i, mulP_0, divP_i, modP_i, powP_i, cmpP_i, eqP_i, neP_i, isP_nn, isP_in, isP_tn, isP_bn, isnP_nn, isnP_in, isnP_tn, isP_nb, isP_ib, isP_tb, isP_bb, len_l, len_t, int_i, abs_i, tup_l, tup_t, lst_l, lst_t, min_i, max_i, rev_l, neg_i, sum_l, slP_t, slP_l,
  ixP_t, ixP_l, ixR_v, ixR_n, ixR_a, ixW_own, ixW_deal0, ixW_deal1, ixR_1, itemsD_l, itemsD_t, rangeP1, rangeP2, plains, plainO_none, plainO_dat, datO_none, datO_dat, setAll_nil, setAll_cons, setAW_some, setT_t,
  stR_at, stO_deal, setI, setIs, Itm.o, setD, forget_nil, forget_cons, fgO_none, fgO_dat, fgO_own, fgO_deal, wipeΓ, backΓ, argD, drs, List.all_cons, List.all_nil, Bool.and_true, List.getElem?_cons_zero, List.getElem?_cons_succ, List.set_cons_zero, List.set_cons_succ, List.length_cons, List.length_nil, Nat.zero_add, Nat.reduceAdd, Nat.reduceLeDiff, true_and, and_true, decide_eq_true_eq]
      refine ⟨okDiv_of h0 hb, by rw [zi_dl, List.length_map, List.length_dropLast]; omega, h0, ?_⟩
      have h1 := Int.emod_nonneg (cs.getD (cs.length - 1) 0) (Int.ne_of_gt h0)
      have h2 := Int.emod_lt_of_pos (cs.getD (cs.length - 1) 0) h0
      exact ⟨(cs.getD (cs.length - 1) 0 % b).toNat, cs.dropLast ++ [cs.getD (cs.length - 1) 0 / b], m, by rw [Int.toNat_of_nonneg h1], by rw [Int.toNat_of_nonneg h1]; exact h2, by rw [zi_dl, zi_app]; rfl, by rw [List.length_append, List.length_dropLast]; simp -implicitDefEqProofs only [List.length_cons, List.length_nil]; omega⟩
/-- _law_of; the callee _law_any -/
def tOf (j : Nat) : Z.St := (.next (.ret (.ix (.var 1) (.call j 2 (.cons (.var 0) (.cons (.blt .len (.cons (.var 1) .nil)) .nil)))))
 .nil)
theorem atI_d {ds : List D} {i : Nat} {d : D} (h : ds[i]? = some d) : atI ds (i : Int) = some d := by
  have hi : i < ds.length := by
    rcases Nat.lt_or_ge i ds.length with h1 | h1
    · exact h1
    · rw [List.getElem?_eq_none h1] at h; cases h
  unfold atI ixN
  rw [if_pos (by omega), if_pos (by exact_mod_cast hi)]
  show ds[(i : Int).toNat]? = _
  rw [Int.toNat_natCast]; exact h
def OfOk (g : Sm) : Prop := ∀ (cs : List Int) (m : Int) (ds : List D), cs.length ≤ 63 → ds ≠ [] → ds.length ≤ 16777216 → wO (g (some (zi cs, .int m)) [.lst ds]) fun rt q' => ∃ (d : D) (cs' : List Int) (m' : Int), rt = .dat d ∧ d ∈ ds ∧ q' = some (zi cs', .int m') ∧ cs'.length ≤ 63
theorem of_ok (cal : Nat → Sm) (j : Nat) (hA : AnyOk (cal j)) : OfOk (runF cal 2 (tOf j)) := by
  intro cs m ds hl h0 hb
  have hp := List.length_pos_iff.mpr h0
  refine runF_W ?_
  simp -implicitDefEqProofs only [tOf, inΓ, dlO, List.map_cons, List.map_nil, List.nil_append, List.cons_append, List.replicate, Nat.reduceSub, sv, ev, CO.p, BO.p, BO.ap, tv, isNop, if_true, if_false, Bool.false_eq_true, reduceIte,
  W_then, W_asg, W_disp, W_nil, W_cons, W_consA, W_consI, W_var, W_val, W_bin, W_chn, W_ix, W_un, W_optN, W_optS, W_sl, W_deal, W_blt, W_isi, W_lrg, W_call, W_prm, W_ite, W_T, W_B, W_not, W_and, W_or, W_seq, W_rng, W_app, W_pop, W_nx, W_drop, W_pure, W_ret, W_if, W_par, W_unp, W_sub, W_yes, W_for, W_aug', W_lc,
  wO_some, wD_some, wD_if, rdO_dat, rdO_own, rdO_deal, mv_val, mv_new, mv_at, mvO_dat, mvO_own, dr_val, dr_new, dr_at, drO_dat, drO_own, dr_at1, dr1_deal, mvA_val, mvA_new, mvA_at, mvAO_dat, mvAO_own, mvAO_deal, toItm_f, itmO_some, toItm_n, toItm_q,
  isDeal_none, isDeal_dat, isDeal_own, isDeal_deal, lstR_at, lstR_at1, lstO_own, lstO_deal, items_at, items_at1, itO_own, it1_deal, putR_at, putR_at1, putO_deal, PR_v, PR_t, PR_l, Rt_d, Rt_q, rtO_some, retR_val, retR_new, retR_newD, retR_at, exitD_none, exitD_some, dealO_deal, intO_int, toB_bl, newO_new, valO_val, thW_nx, thW_bk, thW_ct, thW_rt,
  callW_d, callW_nil, callW_ref, refW_deal, augW_dat, exV, ex1, exI, addP_i, addP_l, addP_t, addI_i, subP_i, mulP_i, mulP_0, divP_i, modP_i, powP_i, cmpP_i, eqP_i, neP_i, isP_nn, isP_in, isP_tn, isP_bn, isnP_nn, isnP_in, isnP_tn, isP_nb, isP_ib, isP_tb, isP_bb, len_l, len_t, int_i, abs_i, tup_l, tup_t, lst_l, lst_t, min_i, max_i, rev_l, neg_i, sum_l, slP_t, slP_l,
  ixP_t, ixP_l, ixR_v, ixR_n, ixR_a, ixW_own, ixW_deal0, ixW_deal1, ixR_1, itemsD_l, itemsD_t, rangeP1, rangeP2, plains, plainO_none, plainO_dat, datO_none, datO_dat, setAll_nil, setAll_cons, setAW_some, setT_t,
  stR_at, stO_deal, setI, setIs, Itm.o, setD, forget_nil, forget_cons, fgO_none, fgO_dat, fgO_own, fgO_deal, wipeΓ, backΓ, argD, drs, List.all_cons, List.all_nil, Bool.and_true, List.getElem?_cons_zero, List.getElem?_cons_succ, List.set_cons_zero, List.set_cons_succ, List.length_cons, List.length_nil, Nat.zero_add, Nat.reduceAdd, Nat.reduceLeDiff, true_and, and_true, decide_eq_true_eq]
  refine wO.mono (hA cs m ds.length hl (by omega) (by omega)) ?_
  rintro _ _ ⟨v, cs', m', rfl, hv, rfl, hl'⟩
  have hg : ds[v]? = some ds[v] := List.getElem?_eq_getElem (by omega)
  simp -implicitDefEqProofs only [atI_d hg, sv, ev, CO.p, BO.p, BO.ap, tv, isNop, if_true, if_false, Bool.false_eq_true, reduceIte,
  W_then, W_asg, W_disp, W_nil, W_cons, W_consA, W_consI, W_var, W_val, W_bin, W_chn, W_ix, W_un, W_optN, W_optS, W_sl, W_deal, W_blt, W_isi, W_lrg, W_call, W_prm, W_ite, W_T, W_B, W_not, W_and, W_or, W_seq, W_rng, W_app, W_pop, W_nx, W_drop, W_pure, W_ret, W_if, W_par, W_unp, W_sub, W_yes, W_for, W_aug', W_lc,
  wO_some, wD_some, wD_if, rdO_dat, rdO_own, rdO_deal, mv_val, mv_new, mv_at, mvO_dat, mvO_own, dr_val, dr_new, dr_at, drO_dat, drO_own, dr_at1, dr1_deal, mvA_val, mvA_new, mvA_at, mvAO_dat, mvAO_own, mvAO_deal, toItm_f, itmO_some, toItm_n, toItm_q,
  isDeal_none, isDeal_dat, isDeal_own, isDeal_deal, lstR_at, lstR_at1, lstO_own, lstO_deal, items_at, items_at1, itO_own, it1_deal, putR_at, putR_at1, putO_deal, PR_v, PR_t, PR_l, Rt_d, Rt_q, rtO_some, retR_val, retR_new, retR_newD, retR_at, exitD_none, exitD_some, dealO_deal, intO_int, toB_bl, newO_new, valO_val, thW_nx, thW_bk, thW_ct, thW_rt,
  callW_d, callW_nil, callW_ref, refW_deal, augW_dat, exV, ex1, exI, addP_i, addP_l, addP_t, addI_i, subP_i, mulP_i, mulP_0, divP_i, modP_i, powP_i, cmpP_i, eqP_i, neP_i, isP_nn, isP_in, isP_tn, isP_bn, isnP_nn, isnP_in, isnP_tn, isP_nb, isP_ib, isP_tb, isP_bb, len_l, len_t, int_i, abs_i, tup_l, tup_t, lst_l, lst_t, min_i, max_i, rev_l, neg_i, sum_l, slP_t, slP_l,
  ixP_t, ixP_l, ixR_v, ixR_n, ixR_a, ixW_own, ixW_deal0, ixW_deal1, ixR_1, itemsD_l, itemsD_t, rangeP1, rangeP2, plains, plainO_none, plainO_dat, datO_none, datO_dat, setAll_nil, setAll_cons, setAW_some, setT_t,
  stR_at, stO_deal, setI, setIs, Itm.o, setD, forget_nil, forget_cons, fgO_none, fgO_dat, fgO_own, fgO_deal, wipeΓ, backΓ, argD, drs, List.all_cons, List.all_nil, Bool.and_true, List.getElem?_cons_zero, List.getElem?_cons_succ, List.set_cons_zero, List.set_cons_succ, List.length_cons, List.length_nil, Nat.zero_add, Nat.reduceAdd, Nat.reduceLeDiff, true_and, and_true, decide_eq_true_eq]
  exact ⟨ds[v], cs', m', rfl, List.getElem_mem _, rfl, hl'⟩
/-- the size of a thing -/
def plain : D → Bool
  | .non => true
  | .bl _ => true
  | .int _ => true
  | .str _ => true
  | _ => false
/-- _law_is_kind -/
def tKind : Z.St := (.next (.iff (.cmp .is (.var 1) (.lit .non))
 (.next (.ret (.cmp .is (.var 0) (.lit .non)))
 .nil)
 .nil)
 (.next (.iff (.or (.cmp .is (.var 1) (.lit (.bl true))) (.cmp .is (.var 1) (.lit (.bl false))))
 (.next (.ret (.ite (.var 1) (.cmp .is (.var 0) (.lit (.bl true))) (.cmp .is (.var 0) (.lit (.bl false)))))
 .nil)
 .nil)
 (.next (.iff (.isi [.str] (.var 1))
 (.next (.ret (.and (.isi [.str] (.var 0)) (.cmp .eq (.var 0) (.var 1))))
 .nil)
 .nil)
 (.next (.ret (.and (.isi [.int] (.var 0)) (.and (.not (.isi [.bool] (.var 0))) (.cmp .eq (.var 0) (.var 1)))))
 .nil))))
theorem kind_ok (cal) (d : D) (h : plain d = true) : runF cal 2 tKind none [d, d] = some (.dat (.bl true), none) := by
  refine wO_eq (runF_W ?_)
  cases d with
  | non =>
    simp -implicitDefEqProofs only [tKind, inΓ, dlO, List.map_cons, List.map_nil, List.nil_append, List.cons_append, List.replicate, Nat.reduceSub, sv, ev, CO.p, BO.p, BO.ap, tv, isNop, if_true, if_false, Bool.false_eq_true, reduceIte,
  W_then, W_asg, W_disp, W_nil, W_cons, W_consA, W_consI, W_var, W_val, W_bin, W_chn, W_ix, W_un, W_optN, W_optS, W_sl, W_deal, W_blt, W_isi, W_lrg, W_call, W_prm, W_ite, W_T, W_B, W_not, W_and, W_or, W_seq, W_rng, W_app, W_pop, W_nx, W_drop, W_pure, W_ret, W_if, W_par, W_unp, W_sub, W_yes, W_for, W_aug', W_lc,
  wO_some, wD_some, wD_if, rdO_dat, rdO_own, rdO_deal, mv_val, mv_new, mv_at, mvO_dat, mvO_own, dr_val, dr_new, dr_at, drO_dat, drO_own, dr_at1, dr1_deal, mvA_val, mvA_new, mvA_at, mvAO_dat, mvAO_own, mvAO_deal, toItm_f, itmO_some, toItm_n, toItm_q,
  isDeal_none, isDeal_dat, isDeal_own, isDeal_deal, lstR_at, lstR_at1, lstO_own, lstO_deal, items_at, items_at1, itO_own, it1_deal, putR_at, putR_at1, putO_deal, PR_v, PR_t, PR_l, Rt_d, Rt_q, rtO_some, retR_val, retR_new, retR_newD, retR_at, exitD_none, exitD_some, dealO_deal, intO_int, toB_bl, newO_new, valO_val, thW_nx, thW_bk, thW_ct, thW_rt,
  callW_d, callW_nil, callW_ref, refW_deal, augW_dat, exV, ex1, exI, addP_i, addP_l, addP_t, addI_i, subP_i, mulP_i, mulP_0, divP_i, modP_i, powP_i, cmpP_i, eqP_i, neP_i, isP_nn, isP_in, isP_tn, isP_bn, isnP_nn, isnP_in, isnP_tn, isP_nb, isP_ib, isP_tb, isP_bb, len_l, len_t, int_i, abs_i, tup_l, tup_t, lst_l, lst_t, min_i, max_i, rev_l, neg_i, sum_l, slP_t, slP_l,
  ixP_t, ixP_l, ixR_v, ixR_n, ixR_a, ixW_own, ixW_deal0, ixW_deal1, ixR_1, itemsD_l, itemsD_t, rangeP1, rangeP2, plains, plainO_none, plainO_dat, datO_none, datO_dat, setAll_nil, setAll_cons, setAW_some, setT_t,
  stR_at, stO_deal, setI, setIs, Itm.o, setD, forget_nil, forget_cons, fgO_none, fgO_dat, fgO_own, fgO_deal, wipeΓ, backΓ, argD, drs, List.all_cons, List.all_nil, Bool.and_true, List.getElem?_cons_zero, List.getElem?_cons_succ, List.set_cons_zero, List.set_cons_succ, List.length_cons, List.length_nil, Nat.zero_add, Nat.reduceAdd, Nat.reduceLeDiff, true_and, and_true, decide_eq_true_eq]
  | bl b =>
    cases b <;> simp -implicitDefEqProofs only [tKind, inΓ, dlO, List.map_cons, List.map_nil, List.nil_append, List.cons_append, List.replicate, Nat.reduceSub, sv, ev, CO.p, BO.p, BO.ap, tv, isNop, if_true, if_false, Bool.false_eq_true, reduceIte,
  W_then, W_asg, W_disp, W_nil, W_cons, W_consA, W_consI, W_var, W_val, W_bin, W_chn, W_ix, W_un, W_optN, W_optS, W_sl, W_deal, W_blt, W_isi, W_lrg, W_call, W_prm, W_ite, W_T, W_B, W_not, W_and, W_or, W_seq, W_rng, W_app, W_pop, W_nx, W_drop, W_pure, W_ret, W_if, W_par, W_unp, W_sub, W_yes, W_for, W_aug', W_lc,
  wO_some, wD_some, wD_if, rdO_dat, rdO_own, rdO_deal, mv_val, mv_new, mv_at, mvO_dat, mvO_own, dr_val, dr_new, dr_at, drO_dat, drO_own, dr_at1, dr1_deal, mvA_val, mvA_new, mvA_at, mvAO_dat, mvAO_own, mvAO_deal, toItm_f, itmO_some, toItm_n, toItm_q,
  isDeal_none, isDeal_dat, isDeal_own, isDeal_deal, lstR_at, lstR_at1, lstO_own, lstO_deal, items_at, items_at1, itO_own, it1_deal, putR_at, putR_at1, putO_deal, PR_v, PR_t, PR_l, Rt_d, Rt_q, rtO_some, retR_val, retR_new, retR_newD, retR_at, exitD_none, exitD_some, dealO_deal, intO_int, toB_bl, newO_new, valO_val, thW_nx, thW_bk, thW_ct, thW_rt,
  callW_d, callW_nil, callW_ref, refW_deal, augW_dat, exV, ex1, exI, addP_i, addP_l, addP_t, addI_i, subP_i, mulP_i, mulP_0, divP_i, modP_i, powP_i, cmpP_i, eqP_i, neP_i, isP_nn, isP_in, isP_tn, isP_bn, isnP_nn, isnP_in, isnP_tn, isP_nb, isP_ib, isP_tb, isP_bb, len_l, len_t, int_i, abs_i, tup_l, tup_t, lst_l, lst_t, min_i, max_i, rev_l, neg_i, sum_l, slP_t, slP_l,
  ixP_t, ixP_l, ixR_v, ixR_n, ixR_a, ixW_own, ixW_deal0, ixW_deal1, ixR_1, itemsD_l, itemsD_t, rangeP1, rangeP2, plains, plainO_none, plainO_dat, datO_none, datO_dat, setAll_nil, setAll_cons, setAW_some, setT_t,
  stR_at, stO_deal, setI, setIs, Itm.o, setD, forget_nil, forget_cons, fgO_none, fgO_dat, fgO_own, fgO_deal, wipeΓ, backΓ, argD, drs, List.all_cons, List.all_nil, Bool.and_true, List.getElem?_cons_zero, List.getElem?_cons_succ, List.set_cons_zero, List.set_cons_succ, List.length_cons, List.length_nil, Nat.zero_add, Nat.reduceAdd, Nat.reduceLeDiff, true_and, and_true, decide_eq_true_eq]
    all_goals rfl
  | int i => 
    simp -implicitDefEqProofs only [tKind, inΓ, dlO, List.map_cons, List.map_nil, List.nil_append, List.cons_append, List.replicate, Nat.reduceSub, sv, ev, CO.p, BO.p, BO.ap, tv, isNop, if_true, if_false, Bool.false_eq_true, reduceIte,
  W_then, W_asg, W_disp, W_nil, W_cons, W_consA, W_consI, W_var, W_val, W_bin, W_chn, W_ix, W_un, W_optN, W_optS, W_sl, W_deal, W_blt, W_isi, W_lrg, W_call, W_prm, W_ite, W_T, W_B, W_not, W_and, W_or, W_seq, W_rng, W_app, W_pop, W_nx, W_drop, W_pure, W_ret, W_if, W_par, W_unp, W_sub, W_yes, W_for, W_aug', W_lc,
  wO_some, wD_some, wD_if, rdO_dat, rdO_own, rdO_deal, mv_val, mv_new, mv_at, mvO_dat, mvO_own, dr_val, dr_new, dr_at, drO_dat, drO_own, dr_at1, dr1_deal, mvA_val, mvA_new, mvA_at, mvAO_dat, mvAO_own, mvAO_deal, toItm_f, itmO_some, toItm_n, toItm_q,
  isDeal_none, isDeal_dat, isDeal_own, isDeal_deal, lstR_at, lstR_at1, lstO_own, lstO_deal, items_at, items_at1, itO_own, it1_deal, putR_at, putR_at1, putO_deal, PR_v, PR_t, PR_l, Rt_d, Rt_q, rtO_some, retR_val, retR_new, retR_newD, retR_at, exitD_none, exitD_some, dealO_deal, intO_int, toB_bl, newO_new, valO_val, thW_nx, thW_bk, thW_ct, thW_rt,
  callW_d, callW_nil, callW_ref, refW_deal, augW_dat, exV, ex1, exI, addP_i, addP_l, addP_t, addI_i, subP_i, mulP_i, mulP_0, divP_i, modP_i, powP_i, cmpP_i, eqP_i, neP_i, isP_nn, isP_in, isP_tn, isP_bn, isnP_nn, isnP_in, isnP_tn, isP_nb, isP_ib, isP_tb, isP_bb, len_l, len_t, int_i, abs_i, tup_l, tup_t, lst_l, lst_t, min_i, max_i, rev_l, neg_i, sum_l, slP_t, slP_l,
  ixP_t, ixP_l, ixR_v, ixR_n, ixR_a, ixW_own, ixW_deal0, ixW_deal1, ixR_1, itemsD_l, itemsD_t, rangeP1, rangeP2, plains, plainO_none, plainO_dat, datO_none, datO_dat, setAll_nil, setAll_cons, setAW_some, setT_t,
  stR_at, stO_deal, setI, setIs, Itm.o, setD, forget_nil, forget_cons, fgO_none, fgO_dat, fgO_own, fgO_deal, wipeΓ, backΓ, argD, drs, List.all_cons, List.all_nil, Bool.and_true, List.getElem?_cons_zero, List.getElem?_cons_succ, List.set_cons_zero, List.set_cons_succ, List.length_cons, List.length_nil, Nat.zero_add, Nat.reduceAdd, Nat.reduceLeDiff, true_and, and_true, decide_eq_true_eq]
    simp [isiB]
  | str z =>
    simp -implicitDefEqProofs only [tKind, inΓ, dlO, List.map_cons, List.map_nil, List.nil_append, List.cons_append, List.replicate, Nat.reduceSub, sv, ev, CO.p, BO.p, BO.ap, tv, isNop, if_true, if_false, Bool.false_eq_true, reduceIte,
  W_then, W_asg, W_disp, W_nil, W_cons, W_consA, W_consI, W_var, W_val, W_bin, W_chn, W_ix, W_un, W_optN, W_optS, W_sl, W_deal, W_blt, W_isi, W_lrg, W_call, W_prm, W_ite, W_T, W_B, W_not, W_and, W_or, W_seq, W_rng, W_app, W_pop, W_nx, W_drop, W_pure, W_ret, W_if, W_par, W_unp, W_sub, W_yes, W_for, W_aug', W_lc,
  wO_some, wD_some, wD_if, rdO_dat, rdO_own, rdO_deal, mv_val, mv_new, mv_at, mvO_dat, mvO_own, dr_val, dr_new, dr_at, drO_dat, drO_own, dr_at1, dr1_deal, mvA_val, mvA_new, mvA_at, mvAO_dat, mvAO_own, mvAO_deal, toItm_f, itmO_some, toItm_n, toItm_q,
  isDeal_none, isDeal_dat, isDeal_own, isDeal_deal, lstR_at, lstR_at1, lstO_own, lstO_deal, items_at, items_at1, itO_own, it1_deal, putR_at, putR_at1, putO_deal, PR_v, PR_t, PR_l, Rt_d, Rt_q, rtO_some, retR_val, retR_new, retR_newD, retR_at, exitD_none, exitD_some, dealO_deal, intO_int, toB_bl, newO_new, valO_val, thW_nx, thW_bk, thW_ct, thW_rt,
  callW_d, callW_nil, callW_ref, refW_deal, augW_dat, exV, ex1, exI, addP_i, addP_l, addP_t, addI_i, subP_i, mulP_i, mulP_0, divP_i, modP_i, powP_i, cmpP_i, eqP_i, neP_i, isP_nn, isP_in, isP_tn, isP_bn, isnP_nn, isnP_in, isnP_tn, isP_nb, isP_ib, isP_tb, isP_bb, len_l, len_t, int_i, abs_i, tup_l, tup_t, lst_l, lst_t, min_i, max_i, rev_l, neg_i, sum_l, slP_t, slP_l,
  ixP_t, ixP_l, ixR_v, ixR_n, ixR_a, ixW_own, ixW_deal0, ixW_deal1, ixR_1, itemsD_l, itemsD_t, rangeP1, rangeP2, plains, plainO_none, plainO_dat, datO_none, datO_dat, setAll_nil, setAll_cons, setAW_some, setT_t,
  stR_at, stO_deal, setI, setIs, Itm.o, setD, forget_nil, forget_cons, fgO_none, fgO_dat, fgO_own, fgO_deal, wipeΓ, backΓ, argD, drs, List.all_cons, List.all_nil, Bool.and_true, List.getElem?_cons_zero, List.getElem?_cons_succ, List.set_cons_zero, List.set_cons_succ, List.length_cons, List.length_nil, Nat.zero_add, Nat.reduceAdd, Nat.reduceLeDiff, true_and, and_true, decide_eq_true_eq]
    simp [isiB, isP, isB, eqP, eqB, wD, wO, toB, PR.r, retR, mv]
  | _ => cases h
mutual
def sz : D → Nat
  | .tup ds => 1 + szs ds
  | _ => 1
def szs : List D → Nat
  | [] => 0
  | d :: ds => sz d + szs ds
end
mutual
/-- tuples of plain things -/
def tidy : D → Bool
  | .tup ds => tidys ds
  | d => plain d
def tidys : List D → Bool
  | [] => true
  | d :: ds => tidy d && tidys ds
end
theorem szs_app : ∀ a b : List D, szs (a ++ b) = szs a + szs b
  | [], b => (Nat.zero_add _).symm
  | d :: a, b => by
    show sz d + szs (a ++ b) = sz d + szs a + szs b
    rw [szs_app a b, Nat.add_assoc]
theorem sz_pos : ∀ d : D, 1 ≤ sz d
  | .tup ds => Nat.le_add_right 1 _
  | .non => Nat.le_refl _
  | .bl _ => Nat.le_refl _
  | .int _ => Nat.le_refl _
  | .str _ => Nat.le_refl _
  | .lst _ => Nat.le_refl _
  | .scr _ => Nat.le_refl _
theorem szs_len : ∀ ds : List D, ds.length ≤ szs ds
  | [] => Nat.le_refl _
  | d :: ds => by
    have := sz_pos d
    have := szs_len ds
    show ds.length + 1 ≤ sz d + szs ds
    omega
theorem tidys_mem : ∀ {ds : List D}, tidys ds = true → ∀ d ∈ ds, tidy d = true
  | d :: ds, h, x, hx => by
    have h : (tidy d && tidys ds) = true := h
    rw [Bool.and_eq_true] at h
    rcases List.mem_cons.mp hx with rfl | hx
    · exact h.1
    · exact tidys_mem h.2 x hx
theorem tidys_of : ∀ {ds : List D}, (∀ d ∈ ds, tidy d = true) → tidys ds = true
  | [], _ => rfl
  | d :: ds, h => by
    show (tidy d && tidys ds) = true
    rw [h d List.mem_cons_self, tidys_of fun x hx => h x (List.mem_cons_of_mem _ hx)]; rfl
theorem tidy_cases {x : D} (h : tidy x = true) : (∃ ys, x = .tup ys ∧ tidys ys = true) ∨ plain x = true := by
  cases x with
  | tup ys => exact .inl ⟨ys, rfl, h⟩
  | _ => exact .inr h
theorem plain_isi {x : D} (h : plain x = true) : [Ty.tuple].any (isiB x) = false ∧ [Ty.tuple, Ty.list, Ty.dict].any (isiB x) = false := by
  cases x <;> first | exact ⟨rfl, rfl⟩ | cases h
/-- _law_same; the callee _law_is_kind -/
def tSame (j : Nat) : Z.St := (.next (.asg true 2 (.lst (.cons (.tup (.cons (.var 0) (.cons (.var 1) .nil))) .nil)))
 (.next (.whl [3, 4, 5] (.cmp .gt (.blt .len (.cons (.var 2) .nil)) (.lit (.int 0)))
 (.next (.unp (.tp (.cons (.nm 3) (.cons (.nm 4) .nil))) (.pop (.var 2)))
 (.next (.iff (.isi [.tuple] (.var 4))
 (.next (.iff (.or (.not (.isi [.tuple] (.var 3))) (.cmp .ne (.blt .len (.cons (.var 3) .nil)) (.blt .len (.cons (.var 4) .nil))))
 (.next (.ret (.lit (.bl false)))
 .nil)
 .nil)
 (.next (.loop [5] (.nm 5) (.rng 1 (.cons (.blt .len (.cons (.var 4) .nil)) .nil))
 (.next (.drop (.app (.var 2) (.cons (.tup (.cons (.ix (.var 3) (.var 5)) (.cons (.ix (.var 4) (.var 5)) .nil))) .nil)))
 .nil))
 .nil))
 (.next (.iff (.or (.isi [.tuple, .list, .dict] (.var 3)) (.not (.call j 2 (.cons (.var 3) (.cons (.var 4) .nil)))))
 (.next (.ret (.lit (.bl false)))
 .nil)
 .nil)
 .nil))
 .nil)))
 (.next (.ret (.lit (.bl true)))
 .nil)))
abbrev dbl (ds : List D) : List D := ds.map fun d => .tup [d, d]
theorem same_ok (cal : Nat → Sm) (j : Nat) (hk : ∀ d, plain d = true → cal j none [d, d] = some (.dat (.bl true), none)) (d : D) (h : tidy d = true) (hs : sz d ≤ 10000000) : runF cal 6 (tSame j) none [d, d] = some (.dat (.bl true), none) := by
  refine wO_eq (runF_W ?_)
  simp -implicitDefEqProofs only [tSame, inΓ, dlO, List.map_cons, List.map_nil, List.nil_append, List.cons_append, List.replicate, Nat.reduceSub, sv, ev, CO.p, BO.p, BO.ap, tv, isNop, if_true, if_false, Bool.false_eq_true, reduceIte,
  W_then, W_asg, W_disp, W_nil, W_cons, W_consA, W_consI, W_var, W_val, W_bin, W_chn, W_ix, W_un, W_optN, W_optS, W_sl, W_deal, W_blt, W_isi, W_lrg, W_call, W_prm, W_ite, W_T, W_B, W_not, W_and, W_or, W_seq, W_rng, W_app, W_pop, W_nx, W_drop, W_pure, W_ret, W_if, W_par, W_unp, W_sub, W_yes, W_for, W_aug', W_lc,
  wO_some, wD_some, wD_if, rdO_dat, rdO_own, rdO_deal, mv_val, mv_new, mv_at, mvO_dat, mvO_own, dr_val, dr_new, dr_at, drO_dat, drO_own, dr_at1, dr1_deal, mvA_val, mvA_new, mvA_at, mvAO_dat, mvAO_own, mvAO_deal, toItm_f, itmO_some, toItm_n, toItm_q,
  isDeal_none, isDeal_dat, isDeal_own, isDeal_deal, lstR_at, lstR_at1, lstO_own, lstO_deal, items_at, items_at1, itO_own, it1_deal, putR_at, putR_at1, putO_deal, PR_v, PR_t, PR_l, Rt_d, Rt_q, rtO_some, retR_val, retR_new, retR_newD, retR_at, exitD_none, exitD_some, dealO_deal, intO_int, toB_bl, newO_new, valO_val, thW_nx, thW_bk, thW_ct, thW_rt,
  callW_d, callW_nil, callW_ref, refW_deal, augW_dat, exV, ex1, exI, addP_i, addP_l, addP_t, addI_i, subP_i, mulP_i, mulP_0, divP_i, modP_i, powP_i, cmpP_i, eqP_i, neP_i, isP_nn, isP_in, isP_tn, isP_bn, isnP_nn, isnP_in, isnP_tn, isP_nb, isP_ib, isP_tb, isP_bb, len_l, len_t, int_i, abs_i, tup_l, tup_t, lst_l, lst_t, min_i, max_i, rev_l, neg_i, sum_l, slP_t, slP_l,
  ixP_t, ixP_l, ixR_v, ixR_n, ixR_a, ixW_own, ixW_deal0, ixW_deal1, ixR_1, itemsD_l, itemsD_t, rangeP1, rangeP2, plains, plainO_none, plainO_dat, datO_none, datO_dat, setAll_nil, setAll_cons, setAW_some, setT_t,
  stR_at, stO_deal, setI, setIs, Itm.o, setD, forget_nil, forget_cons, fgO_none, fgO_dat, fgO_own, fgO_deal, wipeΓ, backΓ, argD, drs, List.all_cons, List.all_nil, Bool.and_true, List.getElem?_cons_zero, List.getElem?_cons_succ, List.set_cons_zero, List.set_cons_succ, List.length_cons, List.length_nil, Nat.zero_add, Nat.reduceAdd, Nat.reduceLeDiff, true_and, and_true, decide_eq_true_eq]
  refine W_wh (fun m Γ => ∃ es : List D, m = szs es ∧ m ≤ 10000000 ∧ tidys es = true ∧ Γ = [some (.dat d), some (.dat d), some (.own (dbl es)), none, none, none]) (m := sz d) ⟨[d], rfl, hs, by show (tidy d && true) = true; rw [h]; rfl, rfl⟩ ?_
  rintro m Γ ⟨es, rfl, hm, ht, rfl⟩
  have len : (dbl es).length = es.length := List.length_map _
  rcases List.eq_nil_or_concat es with rfl | ⟨is, x, rfl⟩
  · simp -implicitDefEqProofs only [sv, ev, CO.p, BO.p, BO.ap, tv, isNop, if_true, if_false, Bool.false_eq_true, reduceIte,
  W_then, W_asg, W_disp, W_nil, W_cons, W_consA, W_consI, W_var, W_val, W_bin, W_chn, W_ix, W_un, W_optN, W_optS, W_sl, W_deal, W_blt, W_isi, W_lrg, W_call, W_prm, W_ite, W_T, W_B, W_not, W_and, W_or, W_seq, W_rng, W_app, W_pop, W_nx, W_drop, W_pure, W_ret, W_if, W_par, W_unp, W_sub, W_yes, W_for, W_aug', W_lc,
  wO_some, wD_some, wD_if, rdO_dat, rdO_own, rdO_deal, mv_val, mv_new, mv_at, mvO_dat, mvO_own, dr_val, dr_new, dr_at, drO_dat, drO_own, dr_at1, dr1_deal, mvA_val, mvA_new, mvA_at, mvAO_dat, mvAO_own, mvAO_deal, toItm_f, itmO_some, toItm_n, toItm_q,
  isDeal_none, isDeal_dat, isDeal_own, isDeal_deal, lstR_at, lstR_at1, lstO_own, lstO_deal, items_at, items_at1, itO_own, it1_deal, putR_at, putR_at1, putO_deal, PR_v, PR_t, PR_l, Rt_d, Rt_q, rtO_some, retR_val, retR_new, retR_newD, retR_at, exitD_none, exitD_some, dealO_deal, intO_int, toB_bl, newO_new, valO_val, thW_nx, thW_bk, thW_ct, thW_rt,
  callW_d, callW_nil, callW_ref, refW_deal, augW_dat, exV, ex1, exI, addP_i, addP_l, addP_t, addI_i, subP_i, mulP_i, mulP_0, divP_i, modP_i, powP_i, cmpP_i, eqP_i, neP_i, isP_nn, isP_in, isP_tn, isP_bn, isnP_nn, isnP_in, isnP_tn, isP_nb, isP_ib, isP_tb, isP_bb, len_l, len_t, int_i, abs_i, tup_l, tup_t, lst_l, lst_t, min_i, max_i, rev_l, neg_i, sum_l, slP_t, slP_l,
  ixP_t, ixP_l, ixR_v, ixR_n, ixR_a, ixW_own, ixW_deal0, ixW_deal1, ixR_1, itemsD_l, itemsD_t, rangeP1, rangeP2, plains, plainO_none, plainO_dat, datO_none, datO_dat, setAll_nil, setAll_cons, setAW_some, setT_t,
  stR_at, stO_deal, setI, setIs, Itm.o, setD, forget_nil, forget_cons, fgO_none, fgO_dat, fgO_own, fgO_deal, wipeΓ, backΓ, argD, drs, List.all_cons, List.all_nil, Bool.and_true, List.getElem?_cons_zero, List.getElem?_cons_succ, List.set_cons_zero, List.set_cons_succ, List.length_cons, List.length_nil, Nat.zero_add, Nat.reduceAdd, Nat.reduceLeDiff, true_and, and_true, decide_eq_true_eq]
    rw [if_neg (by simp)]
    trivial
  · rw [List.concat_eq_append] at *
    have hp : 0 < (is ++ [x]).length := by simp
    have e1 : dbl (is ++ [x]) = dbl is ++ [.tup [x, x]] := List.map_append
    have e2 : (dbl is ++ [D.tup [x, x]])[(dbl is ++ [D.tup [x, x]]).length - 1]? = some (.tup [x, x]) := by simp
    have e3 : (dbl is ++ [D.tup [x, x]]).dropLast = dbl is := List.dropLast_concat
    rw [szs_app] at hm
    have hx : tidy x = true := tidys_mem ht x (by simp)
    have hi : ∀ y ∈ is, tidy y = true := fun y hy => tidys_mem ht y (by simp [hy])
    simp -implicitDefEqProofs only [e1, sv, ev, CO.p, BO.p, BO.ap, tv, isNop, if_true, if_false, Bool.false_eq_true, reduceIte,
  W_then, W_asg, W_disp, W_nil, W_cons, W_consA, W_consI, W_var, W_val, W_bin, W_chn, W_ix, W_un, W_optN, W_optS, W_sl, W_deal, W_blt, W_isi, W_lrg, W_call, W_prm, W_ite, W_T, W_B, W_not, W_and, W_or, W_seq, W_rng, W_app, W_pop, W_nx, W_drop, W_pure, W_ret, W_if, W_par, W_unp, W_sub, W_yes, W_for, W_aug', W_lc,
  wO_some, wD_some, wD_if, rdO_dat, rdO_own, rdO_deal, mv_val, mv_new, mv_at, mvO_dat, mvO_own, dr_val, dr_new, dr_at, drO_dat, drO_own, dr_at1, dr1_deal, mvA_val, mvA_new, mvA_at, mvAO_dat, mvAO_own, mvAO_deal, toItm_f, itmO_some, toItm_n, toItm_q,
  isDeal_none, isDeal_dat, isDeal_own, isDeal_deal, lstR_at, lstR_at1, lstO_own, lstO_deal, items_at, items_at1, itO_own, it1_deal, putR_at, putR_at1, putO_deal, PR_v, PR_t, PR_l, Rt_d, Rt_q, rtO_some, retR_val, retR_new, retR_newD, retR_at, exitD_none, exitD_some, dealO_deal, intO_int, toB_bl, newO_new, valO_val, thW_nx, thW_bk, thW_ct, thW_rt,
  callW_d, callW_nil, callW_ref, refW_deal, augW_dat, exV, ex1, exI, addP_i, addP_l, addP_t, addI_i, subP_i, mulP_i, mulP_0, divP_i, modP_i, powP_i, cmpP_i, eqP_i, neP_i, isP_nn, isP_in, isP_tn, isP_bn, isnP_nn, isnP_in, isnP_tn, isP_nb, isP_ib, isP_tb, isP_bb, len_l, len_t, int_i, abs_i, tup_l, tup_t, lst_l, lst_t, min_i, max_i, rev_l, neg_i, sum_l, slP_t, slP_l,
  ixP_t, ixP_l, ixR_v, ixR_n, ixR_a, ixW_own, ixW_deal0, ixW_deal1, ixR_1, itemsD_l, itemsD_t, rangeP1, rangeP2, plains, plainO_none, plainO_dat, datO_none, datO_dat, setAll_nil, setAll_cons, setAW_some, setT_t,
  stR_at, stO_deal, setI, setIs, Itm.o, setD, forget_nil, forget_cons, fgO_none, fgO_dat, fgO_own, fgO_deal, wipeΓ, backΓ, argD, drs, List.all_cons, List.all_nil, Bool.and_true, List.getElem?_cons_zero, List.getElem?_cons_succ, List.set_cons_zero, List.set_cons_succ, List.length_cons, List.length_nil, Nat.zero_add, Nat.reduceAdd, Nat.reduceLeDiff, true_and, and_true, decide_eq_true_eq]
    rw [if_pos (by simp), e2, e3]
    simp -implicitDefEqProofs only [sv, ev, CO.p, BO.p, BO.ap, tv, isNop, if_true, if_false, Bool.false_eq_true, reduceIte,
  W_then, W_asg, W_disp, W_nil, W_cons, W_consA, W_consI, W_var, W_val, W_bin, W_chn, W_ix, W_un, W_optN, W_optS, W_sl, W_deal, W_blt, W_isi, W_lrg, W_call, W_prm, W_ite, W_T, W_B, W_not, W_and, W_or, W_seq, W_rng, W_app, W_pop, W_nx, W_drop, W_pure, W_ret, W_if, W_par, W_unp, W_sub, W_yes, W_for, W_aug', W_lc,
  wO_some, wD_some, wD_if, rdO_dat, rdO_own, rdO_deal, mv_val, mv_new, mv_at, mvO_dat, mvO_own, dr_val, dr_new, dr_at, drO_dat, drO_own, dr_at1, dr1_deal, mvA_val, mvA_new, mvA_at, mvAO_dat, mvAO_own, mvAO_deal, toItm_f, itmO_some, toItm_n, toItm_q,
  isDeal_none, isDeal_dat, isDeal_own, isDeal_deal, lstR_at, lstR_at1, lstO_own, lstO_deal, items_at, items_at1, itO_own, it1_deal, putR_at, putR_at1, putO_deal, PR_v, PR_t, PR_l, Rt_d, Rt_q, rtO_some, retR_val, retR_new, retR_newD, retR_at, exitD_none, exitD_some, dealO_deal, intO_int, toB_bl, newO_new, valO_val, thW_nx, thW_bk, thW_ct, thW_rt,
  callW_d, callW_nil, callW_ref, refW_deal, augW_dat, exV, ex1, exI, addP_i, addP_l, addP_t, addI_i, subP_i, mulP_i, mulP_0, divP_i, modP_i, powP_i, cmpP_i, eqP_i, neP_i, isP_nn, isP_in, isP_tn, isP_bn, isnP_nn, isnP_in, isnP_tn, isP_nb, isP_ib, isP_tb, isP_bb, len_l, len_t, int_i, abs_i, tup_l, tup_t, lst_l, lst_t, min_i, max_i, rev_l, neg_i, sum_l, slP_t, slP_l,
  ixP_t, ixP_l, ixR_v, ixR_n, ixR_a, ixW_own, ixW_deal0, ixW_deal1, ixR_1, itemsD_l, itemsD_t, rangeP1, rangeP2, plains, plainO_none, plainO_dat, datO_none, datO_dat, setAll_nil, setAll_cons, setAW_some, setT_t,
  stR_at, stO_deal, setI, setIs, Itm.o, setD, forget_nil, forget_cons, fgO_none, fgO_dat, fgO_own, fgO_deal, wipeΓ, backΓ, argD, drs, List.all_cons, List.all_nil, Bool.and_true, List.getElem?_cons_zero, List.getElem?_cons_succ, List.set_cons_zero, List.set_cons_succ, List.length_cons, List.length_nil, Nat.zero_add, Nat.reduceAdd, Nat.reduceLeDiff, true_and, and_true, decide_eq_true_eq]
    have lis := szs_len is
    rcases tidy_cases hx with ⟨ys, rfl, hys⟩ | hpl
    · have hm : szs is + (1 + szs ys + 0) ≤ 10000000 := hm
      have lys := szs_len ys
      rw [if_pos (show [Ty.tuple].any (isiB (D.tup ys)) = true from rfl), if_neg (show ¬ (![Ty.tuple].any (isiB (D.tup ys))) = true from by intro h; cases h)]
      simp -implicitDefEqProofs only [sv, ev, CO.p, BO.p, BO.ap, tv, isNop, if_true, if_false, Bool.false_eq_true, reduceIte,
  W_then, W_asg, W_disp, W_nil, W_cons, W_consA, W_consI, W_var, W_val, W_bin, W_chn, W_ix, W_un, W_optN, W_optS, W_sl, W_deal, W_blt, W_isi, W_lrg, W_call, W_prm, W_ite, W_T, W_B, W_not, W_and, W_or, W_seq, W_rng, W_app, W_pop, W_nx, W_drop, W_pure, W_ret, W_if, W_par, W_unp, W_sub, W_yes, W_for, W_aug', W_lc,
  wO_some, wD_some, wD_if, rdO_dat, rdO_own, rdO_deal, mv_val, mv_new, mv_at, mvO_dat, mvO_own, dr_val, dr_new, dr_at, drO_dat, drO_own, dr_at1, dr1_deal, mvA_val, mvA_new, mvA_at, mvAO_dat, mvAO_own, mvAO_deal, toItm_f, itmO_some, toItm_n, toItm_q,
  isDeal_none, isDeal_dat, isDeal_own, isDeal_deal, lstR_at, lstR_at1, lstO_own, lstO_deal, items_at, items_at1, itO_own, it1_deal, putR_at, putR_at1, putO_deal, PR_v, PR_t, PR_l, Rt_d, Rt_q, rtO_some, retR_val, retR_new, retR_newD, retR_at, exitD_none, exitD_some, dealO_deal, intO_int, toB_bl, newO_new, valO_val, thW_nx, thW_bk, thW_ct, thW_rt,
  callW_d, callW_nil, callW_ref, refW_deal, augW_dat, exV, ex1, exI, addP_i, addP_l, addP_t, addI_i, subP_i, mulP_i, mulP_0, divP_i, modP_i, powP_i, cmpP_i, eqP_i, neP_i, isP_nn, isP_in, isP_tn, isP_bn, isnP_nn, isnP_in, isnP_tn, isP_nb, isP_ib, isP_tb, isP_bb, len_l, len_t, int_i, abs_i, tup_l, tup_t, lst_l, lst_t, min_i, max_i, rev_l, neg_i, sum_l, slP_t, slP_l,
  ixP_t, ixP_l, ixR_v, ixR_n, ixR_a, ixW_own, ixW_deal0, ixW_deal1, ixR_1, itemsD_l, itemsD_t, rangeP1, rangeP2, plains, plainO_none, plainO_dat, datO_none, datO_dat, setAll_nil, setAll_cons, setAW_some, setT_t,
  stR_at, stO_deal, setI, setIs, Itm.o, setD, forget_nil, forget_cons, fgO_none, fgO_dat, fgO_own, fgO_deal, wipeΓ, backΓ, argD, drs, List.all_cons, List.all_nil, Bool.and_true, List.getElem?_cons_zero, List.getElem?_cons_succ, List.set_cons_zero, List.set_cons_succ, List.length_cons, List.length_nil, Nat.zero_add, Nat.reduceAdd, Nat.reduceLeDiff, true_and, and_true, decide_eq_true_eq]
      rw [if_neg (by simp)]
      refine ⟨by omega, ?_⟩
      refine W_forL (fun i Γ => Γ = [some (.dat d), some (.dat d), some (.own (dbl (is ++ ys.take i))), some (.dat (.tup ys)), some (.dat (.tup ys)), none] ∧ i ≤ ys.length) ⟨by rw [List.take_zero, List.append_nil], Nat.zero_le _⟩ ?_ ?_
      · rintro i d' Γ hd ⟨rfl, hi'⟩
        rw [List.getElem?_map] at hd
        have hi2 : i < ys.length := by
          rcases Nat.lt_or_ge i ys.length with h | h
          · exact h
          · rw [List.getElem?_eq_none (by rw [List.length_range]; omega)] at hd; cases hd
        rw [List.getElem?_range (by omega)] at hd
        cases hd
        have hg : ys[i]? = some ys[i] := List.getElem?_eq_getElem hi2
        have c0 : (0 : Int) + (i : Int) = (i : Int) := Int.zero_add _
        simp -implicitDefEqProofs only [c0, atI_d hg, sv, ev, CO.p, BO.p, BO.ap, tv, isNop, if_true, if_false, Bool.false_eq_true, reduceIte,
  W_then, W_asg, W_disp, W_nil, W_cons, W_consA, W_consI, W_var, W_val, W_bin, W_chn, W_ix, W_un, W_optN, W_optS, W_sl, W_deal, W_blt, W_isi, W_lrg, W_call, W_prm, W_ite, W_T, W_B, W_not, W_and, W_or, W_seq, W_rng, W_app, W_pop, W_nx, W_drop, W_pure, W_ret, W_if, W_par, W_unp, W_sub, W_yes, W_for, W_aug', W_lc,
  wO_some, wD_some, wD_if, rdO_dat, rdO_own, rdO_deal, mv_val, mv_new, mv_at, mvO_dat, mvO_own, dr_val, dr_new, dr_at, drO_dat, drO_own, dr_at1, dr1_deal, mvA_val, mvA_new, mvA_at, mvAO_dat, mvAO_own, mvAO_deal, toItm_f, itmO_some, toItm_n, toItm_q,
  isDeal_none, isDeal_dat, isDeal_own, isDeal_deal, lstR_at, lstR_at1, lstO_own, lstO_deal, items_at, items_at1, itO_own, it1_deal, putR_at, putR_at1, putO_deal, PR_v, PR_t, PR_l, Rt_d, Rt_q, rtO_some, retR_val, retR_new, retR_newD, retR_at, exitD_none, exitD_some, dealO_deal, intO_int, toB_bl, newO_new, valO_val, thW_nx, thW_bk, thW_ct, thW_rt,
  callW_d, callW_nil, callW_ref, refW_deal, augW_dat, exV, ex1, exI, addP_i, addP_l, addP_t, addI_i, subP_i, mulP_i, mulP_0, divP_i, modP_i, powP_i, cmpP_i, eqP_i, neP_i, isP_nn, isP_in, isP_tn, isP_bn, isnP_nn, isnP_in, isnP_tn, isP_nb, isP_ib, isP_tb, isP_bb, len_l, len_t, int_i, abs_i, tup_l, tup_t, lst_l, lst_t, min_i, max_i, rev_l, neg_i, sum_l, slP_t, slP_l,
  ixP_t, ixP_l, ixR_v, ixR_n, ixR_a, ixW_own, ixW_deal0, ixW_deal1, ixR_1, itemsD_l, itemsD_t, rangeP1, rangeP2, plains, plainO_none, plainO_dat, datO_none, datO_dat, setAll_nil, setAll_cons, setAW_some, setT_t,
  stR_at, stO_deal, setI, setIs, Itm.o, setD, forget_nil, forget_cons, fgO_none, fgO_dat, fgO_own, fgO_deal, wipeΓ, backΓ, argD, drs, List.all_cons, List.all_nil, Bool.and_true, List.getElem?_cons_zero, List.getElem?_cons_succ, List.set_cons_zero, List.set_cons_succ, List.length_cons, List.length_nil, Nat.zero_add, Nat.reduceAdd, Nat.reduceLeDiff, true_and, and_true, decide_eq_true_eq]
        refine ⟨?_, ?_, by omega⟩
        · rw [List.length_map, List.length_append, List.length_take]; omega
        · rw [List.take_succ, hg, ← List.append_assoc]
          show _ = [some (O.dat d), some (O.dat d), some (.own (dbl ((is ++ ys.take i) ++ [ys[i]]))), _, _, _]
          rw [show dbl ((is ++ ys.take i) ++ [ys[i]]) = dbl (is ++ ys.take i) ++ [.tup [ys[i], ys[i]]] from List.map_append]
      · rintro Γ ⟨rfl, _⟩
        have e5 : (List.map (fun k => D.int (0 + (k : Nat))) (List.range ((ys.length : Int)).toNat)).length = ys.length := by rw [List.length_map, List.length_range]; omega
        rw [e5, List.take_length]
        simp -implicitDefEqProofs only [sv, ev, CO.p, BO.p, BO.ap, tv, isNop, if_true, if_false, Bool.false_eq_true, reduceIte,
  W_then, W_asg, W_disp, W_nil, W_cons, W_consA, W_consI, W_var, W_val, W_bin, W_chn, W_ix, W_un, W_optN, W_optS, W_sl, W_deal, W_blt, W_isi, W_lrg, W_call, W_prm, W_ite, W_T, W_B, W_not, W_and, W_or, W_seq, W_rng, W_app, W_pop, W_nx, W_drop, W_pure, W_ret, W_if, W_par, W_unp, W_sub, W_yes, W_for, W_aug', W_lc,
  wO_some, wD_some, wD_if, rdO_dat, rdO_own, rdO_deal, mv_val, mv_new, mv_at, mvO_dat, mvO_own, dr_val, dr_new, dr_at, drO_dat, drO_own, dr_at1, dr1_deal, mvA_val, mvA_new, mvA_at, mvAO_dat, mvAO_own, mvAO_deal, toItm_f, itmO_some, toItm_n, toItm_q,
  isDeal_none, isDeal_dat, isDeal_own, isDeal_deal, lstR_at, lstR_at1, lstO_own, lstO_deal, items_at, items_at1, itO_own, it1_deal, putR_at, putR_at1, putO_deal, PR_v, PR_t, PR_l, Rt_d, Rt_q, rtO_some, retR_val, retR_new, retR_newD, retR_at, exitD_none, exitD_some, dealO_deal, intO_int, toB_bl, newO_new, valO_val, thW_nx, thW_bk, thW_ct, thW_rt,
  callW_d, callW_nil, callW_ref, refW_deal, augW_dat, exV, ex1, exI, addP_i, addP_l, addP_t, addI_i, subP_i, mulP_i, mulP_0, divP_i, modP_i, powP_i, cmpP_i, eqP_i, neP_i, isP_nn, isP_in, isP_tn, isP_bn, isnP_nn, isnP_in, isnP_tn, isP_nb, isP_ib, isP_tb, isP_bb, len_l, len_t, int_i, abs_i, tup_l, tup_t, lst_l, lst_t, min_i, max_i, rev_l, neg_i, sum_l, slP_t, slP_l,
  ixP_t, ixP_l, ixR_v, ixR_n, ixR_a, ixW_own, ixW_deal0, ixW_deal1, ixR_1, itemsD_l, itemsD_t, rangeP1, rangeP2, plains, plainO_none, plainO_dat, datO_none, datO_dat, setAll_nil, setAll_cons, setAW_some, setT_t,
  stR_at, stO_deal, setI, setIs, Itm.o, setD, forget_nil, forget_cons, fgO_none, fgO_dat, fgO_own, fgO_deal, wipeΓ, backΓ, argD, drs, List.all_cons, List.all_nil, Bool.and_true, List.getElem?_cons_zero, List.getElem?_cons_succ, List.set_cons_zero, List.set_cons_succ, List.length_cons, List.length_nil, Nat.zero_add, Nat.reduceAdd, Nat.reduceLeDiff, true_and, and_true, decide_eq_true_eq]
        refine ⟨szs (is ++ ys), ?_, is ++ ys, rfl, ?_, ?_, rfl⟩
        · rw [szs_app, szs_app]; show _ < szs is + (1 + szs ys + 0); omega
        · rw [szs_app]; omega
        · exact tidys_of fun y hy => (List.mem_append.mp hy).elim (hi y) (tidys_mem hys y)
    · obtain ⟨hT, hL⟩ := plain_isi hpl
      have hm : szs is + (sz x + 0) ≤ 10000000 := hm
      simp -implicitDefEqProofs only [hT, hL, hk x hpl, Bool.not_true, sv, ev, CO.p, BO.p, BO.ap, tv, isNop, if_true, if_false, Bool.false_eq_true, reduceIte,
  W_then, W_asg, W_disp, W_nil, W_cons, W_consA, W_consI, W_var, W_val, W_bin, W_chn, W_ix, W_un, W_optN, W_optS, W_sl, W_deal, W_blt, W_isi, W_lrg, W_call, W_prm, W_ite, W_T, W_B, W_not, W_and, W_or, W_seq, W_rng, W_app, W_pop, W_nx, W_drop, W_pure, W_ret, W_if, W_par, W_unp, W_sub, W_yes, W_for, W_aug', W_lc,
  wO_some, wD_some, wD_if, rdO_dat, rdO_own, rdO_deal, mv_val, mv_new, mv_at, mvO_dat, mvO_own, dr_val, dr_new, dr_at, drO_dat, drO_own, dr_at1, dr1_deal, mvA_val, mvA_new, mvA_at, mvAO_dat, mvAO_own, mvAO_deal, toItm_f, itmO_some, toItm_n, toItm_q,
  isDeal_none, isDeal_dat, isDeal_own, isDeal_deal, lstR_at, lstR_at1, lstO_own, lstO_deal, items_at, items_at1, itO_own, it1_deal, putR_at, putR_at1, putO_deal, PR_v, PR_t, PR_l, Rt_d, Rt_q, rtO_some, retR_val, retR_new, retR_newD, retR_at, exitD_none, exitD_some, dealO_deal, intO_int, toB_bl, newO_new, valO_val, thW_nx, thW_bk, thW_ct, thW_rt,
  callW_d, callW_nil, callW_ref, refW_deal, augW_dat, exV, ex1, exI, addP_i, addP_l, addP_t, addI_i, subP_i, mulP_i, mulP_0, divP_i, modP_i, powP_i, cmpP_i, eqP_i, neP_i, isP_nn, isP_in, isP_tn, isP_bn, isnP_nn, isnP_in, isnP_tn, isP_nb, isP_ib, isP_tb, isP_bb, len_l, len_t, int_i, abs_i, tup_l, tup_t, lst_l, lst_t, min_i, max_i, rev_l, neg_i, sum_l, slP_t, slP_l,
  ixP_t, ixP_l, ixR_v, ixR_n, ixR_a, ixW_own, ixW_deal0, ixW_deal1, ixR_1, itemsD_l, itemsD_t, rangeP1, rangeP2, plains, plainO_none, plainO_dat, datO_none, datO_dat, setAll_nil, setAll_cons, setAW_some, setT_t,
  stR_at, stO_deal, setI, setIs, Itm.o, setD, forget_nil, forget_cons, fgO_none, fgO_dat, fgO_own, fgO_deal, wipeΓ, backΓ, argD, drs, List.all_cons, List.all_nil, Bool.and_true, List.getElem?_cons_zero, List.getElem?_cons_succ, List.set_cons_zero, List.set_cons_succ, List.length_cons, List.length_nil, Nat.zero_add, Nat.reduceAdd, Nat.reduceLeDiff, true_and, and_true, decide_eq_true_eq]
      refine ⟨szs is, ?_, is, rfl, by omega, tidys_of hi, rfl⟩
      rw [szs_app]
      have := sz_pos x
      show _ < szs is + (sz x + 0)
      omega
/-- _law_all; the callee _law_same -/
def tAll (j : Nat) : Z.St := (.next (.ret (.cmp .eq (.blt .len (.cons (.lc [1, 2] (.var 0) (.tp (.cons (.nm 1) (.cons (.nm 2) .nil))) (.not (.call j 2 (.cons (.var 1) (.cons (.var 2) .nil)))) (.var 1)) .nil)) (.lit (.int 0))))
 .nil)
theorem all_ok (cal : Nat → Sm) (j : Nat) (es : List D) (hs : ∀ d ∈ es, cal j none [d, d] = some (.dat (.bl true), none)) : runF cal 3 (tAll j) none [.lst (dbl es)] = some (.dat (.bl true), none) := by
  refine wO_eq (runF_W ?_)
  simp -implicitDefEqProofs only [tAll, inΓ, dlO, List.map_cons, List.map_nil, List.nil_append, List.cons_append, List.replicate, Nat.reduceSub, sv, ev, CO.p, BO.p, BO.ap, tv, isNop, if_true, if_false, Bool.false_eq_true, reduceIte,
  W_then, W_asg, W_disp, W_nil, W_cons, W_consA, W_consI, W_var, W_val, W_bin, W_chn, W_ix, W_un, W_optN, W_optS, W_sl, W_deal, W_blt, W_isi, W_lrg, W_call, W_prm, W_ite, W_T, W_B, W_not, W_and, W_or, W_seq, W_rng, W_app, W_pop, W_nx, W_drop, W_pure, W_ret, W_if, W_par, W_unp, W_sub, W_yes, W_for, W_aug', W_lc,
  wO_some, wD_some, wD_if, rdO_dat, rdO_own, rdO_deal, mv_val, mv_new, mv_at, mvO_dat, mvO_own, dr_val, dr_new, dr_at, drO_dat, drO_own, dr_at1, dr1_deal, mvA_val, mvA_new, mvA_at, mvAO_dat, mvAO_own, mvAO_deal, toItm_f, itmO_some, toItm_n, toItm_q,
  isDeal_none, isDeal_dat, isDeal_own, isDeal_deal, lstR_at, lstR_at1, lstO_own, lstO_deal, items_at, items_at1, itO_own, it1_deal, putR_at, putR_at1, putO_deal, PR_v, PR_t, PR_l, Rt_d, Rt_q, rtO_some, retR_val, retR_new, retR_newD, retR_at, exitD_none, exitD_some, dealO_deal, intO_int, toB_bl, newO_new, valO_val, thW_nx, thW_bk, thW_ct, thW_rt,
  callW_d, callW_nil, callW_ref, refW_deal, augW_dat, exV, ex1, exI, addP_i, addP_l, addP_t, addI_i, subP_i, mulP_i, mulP_0, divP_i, modP_i, powP_i, cmpP_i, eqP_i, neP_i, isP_nn, isP_in, isP_tn, isP_bn, isnP_nn, isnP_in, isnP_tn, isP_nb, isP_ib, isP_tb, isP_bb, len_l, len_t, int_i, abs_i, tup_l, tup_t, lst_l, lst_t, min_i, max_i, rev_l, neg_i, sum_l, slP_t, slP_l,
  ixP_t, ixP_l, ixR_v, ixR_n, ixR_a, ixW_own, ixW_deal0, ixW_deal1, ixR_1, itemsD_l, itemsD_t, rangeP1, rangeP2, plains, plainO_none, plainO_dat, datO_none, datO_dat, setAll_nil, setAll_cons, setAW_some, setT_t,
  stR_at, stO_deal, setI, setIs, Itm.o, setD, forget_nil, forget_cons, fgO_none, fgO_dat, fgO_own, fgO_deal, wipeΓ, backΓ, argD, drs, List.all_cons, List.all_nil, Bool.and_true, List.getElem?_cons_zero, List.getElem?_cons_succ, List.set_cons_zero, List.set_cons_succ, List.length_cons, List.length_nil, Nat.zero_add, Nat.reduceAdd, Nat.reduceLeDiff, true_and, and_true, decide_eq_true_eq]
  refine W_lcL (fun i Γ acc => Γ = [some (.dat (.lst (dbl es))), none, none] ∧ acc = []) ⟨rfl, rfl⟩ ?_ ?_
  · rintro i d Γ acc hd ⟨rfl, rfl⟩
    obtain ⟨x, hx, rfl⟩ := List.mem_map.mp (List.mem_of_getElem? hd)
    simp -implicitDefEqProofs only [hs x hx, Bool.not_true, sv, ev, CO.p, BO.p, BO.ap, tv, isNop, if_true, if_false, Bool.false_eq_true, reduceIte,
  W_then, W_asg, W_disp, W_nil, W_cons, W_consA, W_consI, W_var, W_val, W_bin, W_chn, W_ix, W_un, W_optN, W_optS, W_sl, W_deal, W_blt, W_isi, W_lrg, W_call, W_prm, W_ite, W_T, W_B, W_not, W_and, W_or, W_seq, W_rng, W_app, W_pop, W_nx, W_drop, W_pure, W_ret, W_if, W_par, W_unp, W_sub, W_yes, W_for, W_aug', W_lc,
  wO_some, wD_some, wD_if, rdO_dat, rdO_own, rdO_deal, mv_val, mv_new, mv_at, mvO_dat, mvO_own, dr_val, dr_new, dr_at, drO_dat, drO_own, dr_at1, dr1_deal, mvA_val, mvA_new, mvA_at, mvAO_dat, mvAO_own, mvAO_deal, toItm_f, itmO_some, toItm_n, toItm_q,
  isDeal_none, isDeal_dat, isDeal_own, isDeal_deal, lstR_at, lstR_at1, lstO_own, lstO_deal, items_at, items_at1, itO_own, it1_deal, putR_at, putR_at1, putO_deal, PR_v, PR_t, PR_l, Rt_d, Rt_q, rtO_some, retR_val, retR_new, retR_newD, retR_at, exitD_none, exitD_some, dealO_deal, intO_int, toB_bl, newO_new, valO_val, thW_nx, thW_bk, thW_ct, thW_rt,
  callW_d, callW_nil, callW_ref, refW_deal, augW_dat, exV, ex1, exI, addP_i, addP_l, addP_t, addI_i, subP_i, mulP_i, mulP_0, divP_i, modP_i, powP_i, cmpP_i, eqP_i, neP_i, isP_nn, isP_in, isP_tn, isP_bn, isnP_nn, isnP_in, isnP_tn, isP_nb, isP_ib, isP_tb, isP_bb, len_l, len_t, int_i, abs_i, tup_l, tup_t, lst_l, lst_t, min_i, max_i, rev_l, neg_i, sum_l, slP_t, slP_l,
  ixP_t, ixP_l, ixR_v, ixR_n, ixR_a, ixW_own, ixW_deal0, ixW_deal1, ixR_1, itemsD_l, itemsD_t, rangeP1, rangeP2, plains, plainO_none, plainO_dat, datO_none, datO_dat, setAll_nil, setAll_cons, setAW_some, setT_t,
  stR_at, stO_deal, setI, setIs, Itm.o, setD, forget_nil, forget_cons, fgO_none, fgO_dat, fgO_own, fgO_deal, wipeΓ, backΓ, argD, drs, List.all_cons, List.all_nil, Bool.and_true, List.getElem?_cons_zero, List.getElem?_cons_succ, List.set_cons_zero, List.set_cons_succ, List.length_cons, List.length_nil, Nat.zero_add, Nat.reduceAdd, Nat.reduceLeDiff, true_and, and_true, decide_eq_true_eq]
  · rintro Γ acc ⟨rfl, rfl⟩
    simp -implicitDefEqProofs only [sv, ev, CO.p, BO.p, BO.ap, tv, isNop, if_true, if_false, Bool.false_eq_true, reduceIte,
  W_then, W_asg, W_disp, W_nil, W_cons, W_consA, W_consI, W_var, W_val, W_bin, W_chn, W_ix, W_un, W_optN, W_optS, W_sl, W_deal, W_blt, W_isi, W_lrg, W_call, W_prm, W_ite, W_T, W_B, W_not, W_and, W_or, W_seq, W_rng, W_app, W_pop, W_nx, W_drop, W_pure, W_ret, W_if, W_par, W_unp, W_sub, W_yes, W_for, W_aug', W_lc,
  wO_some, wD_some, wD_if, rdO_dat, rdO_own, rdO_deal, mv_val, mv_new, mv_at, mvO_dat, mvO_own, dr_val, dr_new, dr_at, drO_dat, drO_own, dr_at1, dr1_deal, mvA_val, mvA_new, mvA_at, mvAO_dat, mvAO_own, mvAO_deal, toItm_f, itmO_some, toItm_n, toItm_q,
  isDeal_none, isDeal_dat, isDeal_own, isDeal_deal, lstR_at, lstR_at1, lstO_own, lstO_deal, items_at, items_at1, itO_own, it1_deal, putR_at, putR_at1, putO_deal, PR_v, PR_t, PR_l, Rt_d, Rt_q, rtO_some, retR_val, retR_new, retR_newD, retR_at, exitD_none, exitD_some, dealO_deal, intO_int, toB_bl, newO_new, valO_val, thW_nx, thW_bk, thW_ct, thW_rt,
  callW_d, callW_nil, callW_ref, refW_deal, augW_dat, exV, ex1, exI, addP_i, addP_l, addP_t, addI_i, subP_i, mulP_i, mulP_0, divP_i, modP_i, powP_i, cmpP_i, eqP_i, neP_i, isP_nn, isP_in, isP_tn, isP_bn, isnP_nn, isnP_in, isnP_tn, isP_nb, isP_ib, isP_tb, isP_bb, len_l, len_t, int_i, abs_i, tup_l, tup_t, lst_l, lst_t, min_i, max_i, rev_l, neg_i, sum_l, slP_t, slP_l,
  ixP_t, ixP_l, ixR_v, ixR_n, ixR_a, ixW_own, ixW_deal0, ixW_deal1, ixR_1, itemsD_l, itemsD_t, rangeP1, rangeP2, plains, plainO_none, plainO_dat, datO_none, datO_dat, setAll_nil, setAll_cons, setAW_some, setT_t,
  stR_at, stO_deal, setI, setIs, Itm.o, setD, forget_nil, forget_cons, fgO_none, fgO_dat, fgO_own, fgO_deal, wipeΓ, backΓ, argD, drs, List.all_cons, List.all_nil, Bool.and_true, List.getElem?_cons_zero, List.getElem?_cons_succ, List.set_cons_zero, List.set_cons_succ, List.length_cons, List.length_nil, Nat.zero_add, Nat.reduceAdd, Nat.reduceLeDiff, true_and, and_true, decide_eq_true_eq]
    rfl
end Dq

set_option Elab.async false
set_option linter.all false
set_option maxRecDepth 100000
set_option maxHeartbeats 4000000
/-! the deal's making (all laws) -/
namespace Dq
open Z Nu
open L2 (atI ixN)
theorem slP_s {ns : List Int} {l h : Option Int} : slP (.scr ns) l h = some (.l (zi (cut ns l h))) := rfl
theorem cut_63 (ns : List Int) : (cut ns none (some 63)).length ≤ 63 := by
  unfold cut
  rw [List.length_take]
  have : HT.sIx ns.length ns.length (some 63) ≤ 63 := by
    have := HT.sIx_nat ns.length ns.length 63
    have e : HT.sIx ns.length ns.length (some 63) = min 63 ns.length := this
    rw [e]
    exact Nat.min_le_left _ _
  omega
/-- _law_deal -/
def tDeal : Z.St := (.next (.asg false 2 (.bin .mul (.bin .mul (.bin .mul (.bin .mul (.bin .mul (.bin .pow (.lit (.int 10)) (.lit (.int 64))) (.bin .pow (.lit (.int 10)) (.lit (.int 64)))) (.bin .pow (.lit (.int 10)) (.lit (.int 64)))) (.bin .pow (.lit (.int 10)) (.lit (.int 64)))) (.bin .pow (.lit (.int 10)) (.lit (.int 64)))) (.bin .pow (.lit (.int 10)) (.lit (.int 64)))))
 (.next (.asg false 3 (.lc [4] (.sl (.var 0) .nop (.lit (.int 63))) (.nm 4) .nop (.bin .mod (.blt .int (.cons (.blt .abs (.cons (.blt .int (.cons (.var 4) .nil)) .nil)) .nil)) (.var 2))))
 (.next (.asg false 5 (.bin .add (.lit (.int 70001)) (.bin .mul (.lit (.int 7919)) (.var 1))))
 (.next (.loop [4] (.nm 4) (.var 3)
 (.next (.asg false 5 (.bin .mod (.blt .int (.cons (.bin .add (.bin .add (.bin .mul (.var 5) (.lit (.int 69621))) (.bin .mod (.blt .int (.cons (.var 4) .nil)) (.lit (.int 2147483563)))) (.lit (.int 23))) .nil)) (.lit (.int 2147483647))))
 .nil))
 (.next (.ret (.deal (.rev (.lc [4] (.var 3) (.nm 4) (.cmp .ge (.var 4) (.bin .pow (.lit (.int 10)) (.lit (.int 18)))) (.var 4))) (.var 5)))
 .nil)))))
theorem deal_ok (cal) (ns : List Int) (s : Int) : wO (runF cal 6 tDeal none [.scr ns, .int s]) fun rt q' => ∃ (cs : List Int) (m : Int), rt = .deal (zi cs) (.int m) ∧ q' = none ∧ cs.length ≤ 63 := by
  refine runF_W ?_
  simp -implicitDefEqProofs only [tDeal, inΓ, dlO, List.map_cons, List.map_nil, List.nil_append, List.cons_append, List.replicate, Nat.reduceSub, slP_s, sv, ev, CO.p, BO.p, BO.ap, tv, isNop, if_true, if_false, Bool.false_eq_true, reduceIte,
  W_then, W_asg, W_disp, W_nil, W_cons, W_consA, W_consI, W_var, W_val, W_bin, W_chn, W_ix, W_un, W_optN, W_optS, W_sl, W_deal, W_blt, W_isi, W_lrg, W_call, W_prm, W_ite, W_T, W_B, W_not, W_and, W_or, W_seq, W_rng, W_app, W_pop, W_nx, W_drop, W_pure, W_ret, W_if, W_par, W_unp, W_sub, W_yes, W_for, W_aug', W_lc,
  wO_some, wD_some, wD_if, rdO_dat, rdO_own, rdO_deal, mv_val, mv_new, mv_at, mvO_dat, mvO_own, dr_val, dr_new, dr_at, drO_dat, drO_own, dr_at1, dr1_deal, mvA_val, mvA_new, mvA_at, mvAO_dat, mvAO_own, mvAO_deal, toItm_f, itmO_some, toItm_n, toItm_q,
  isDeal_none, isDeal_dat, isDeal_own, isDeal_deal, lstR_at, lstR_at1, lstO_own, lstO_deal, items_at, items_at1, itO_own, it1_deal, putR_at, putR_at1, putO_deal, PR_v, PR_t, PR_l, Rt_d, Rt_q, rtO_some, retR_val, retR_new, retR_newD, retR_at, exitD_none, exitD_some, dealO_deal, intO_int, toB_bl, newO_new, valO_val, thW_nx, thW_bk, thW_ct, thW_rt,
  callW_d, callW_nil, callW_ref, refW_deal, augW_dat, exV, ex1, exI, addP_i, addP_l, addP_t, addI_i, subP_i, mulP_i, mulP_0, divP_i, modP_i, powP_i, cmpP_i, eqP_i, neP_i, isP_nn, isP_in, isP_tn, isP_bn, isnP_nn, isnP_in, isnP_tn, isP_nb, isP_ib, isP_tb, isP_bb, len_l, len_t, int_i, abs_i, tup_l, tup_t, lst_l, lst_t, min_i, max_i, rev_l, neg_i, sum_l, slP_t, slP_l,
  ixP_t, ixP_l, ixR_v, ixR_n, ixR_a, ixW_own, ixW_deal0, ixW_deal1, ixR_1, itemsD_l, itemsD_t, rangeP1, rangeP2, plains, plainO_none, plainO_dat, datO_none, datO_dat, setAll_nil, setAll_cons, setAW_some, setT_t,
  stR_at, stO_deal, setI, setIs, Itm.o, setD, forget_nil, forget_cons, fgO_none, fgO_dat, fgO_own, fgO_deal, wipeΓ, backΓ, argD, drs, List.all_cons, List.all_nil, Bool.and_true, List.getElem?_cons_zero, List.getElem?_cons_succ, List.set_cons_zero, List.set_cons_succ, List.length_cons, List.length_nil, Nat.zero_add, Nat.reduceAdd, Nat.reduceLeDiff, true_and, and_true, decide_eq_true_eq]
  generalize hM : (10 : Int) ^ (64 : Int).toNat = M
  have p : 0 ≤ (64 : Int) ∧ (64 : Int) ≤ 1000000 ∧ Int.natAbs 10 < 2 ^ 64 := ⟨by decide, by decide, by decide⟩
  have k1 : okMul M M := by subst hM; decide +kernel
  have k2 : okMul (M * M) M := by subst hM; decide +kernel
  have k3 : okMul (M * M * M) M := by subst hM; decide +kernel
  have k4 : okMul (M * M * M * M) M := by subst hM; decide +kernel
  have k5 : okMul (M * M * M * M * M) M := by subst hM; decide +kernel
  have k6 : 0 < M * M * M * M * M * M := by subst hM; decide +kernel
  refine ⟨p, p, k1, p, k2, p, k3, p, k4, p, k5, ?_⟩
  generalize M * M * M * M * M * M = T at k6
  have c63 := cut_63 ns
  generalize cut ns none (some 63) = xs at c63
  refine W_lcMap (zi (xs.map fun x => (if x < 0 then -x else x) % T)) (by simp -implicitDefEqProofs only [List.length_map]) (by rw [List.length_map]; omega) ?_ ?_
  · intro i d y hd hy
    rw [List.getElem?_map] at hd hy
    rw [List.getElem?_map] at hy
    cases q3 : xs[i]? with
    | none => rw [q3] at hd; cases hd
    | some x =>
      rw [q3] at hd hy
      cases hd
      cases hy
      simp -implicitDefEqProofs only [sv, ev, CO.p, BO.p, BO.ap, tv, isNop, if_true, if_false, Bool.false_eq_true, reduceIte,
  W_then, W_asg, W_disp, W_nil, W_cons, W_consA, W_consI, W_var, W_val, W_bin, W_chn, W_ix, W_un, W_optN, W_optS, W_sl, W_deal, W_blt, W_isi, W_lrg, W_call, W_prm, W_ite, W_T, W_B, W_not, W_and, W_or, W_seq, W_rng, W_app, W_pop, W_nx, W_drop, W_pure, W_ret, W_if, W_par, W_unp, W_sub, W_yes, W_for, W_aug', W_lc,
  wO_some, wD_some, wD_if, rdO_dat, rdO_own, rdO_deal, mv_val, mv_new, mv_at, mvO_dat, mvO_own, dr_val, dr_new, dr_at, drO_dat, drO_own, dr_at1, dr1_deal, mvA_val, mvA_new, mvA_at, mvAO_dat, mvAO_own, mvAO_deal, toItm_f, itmO_some, toItm_n, toItm_q,
  isDeal_none, isDeal_dat, isDeal_own, isDeal_deal, lstR_at, lstR_at1, lstO_own, lstO_deal, items_at, items_at1, itO_own, it1_deal, putR_at, putR_at1, putO_deal, PR_v, PR_t, PR_l, Rt_d, Rt_q, rtO_some, retR_val, retR_new, retR_newD, retR_at, exitD_none, exitD_some, dealO_deal, intO_int, toB_bl, newO_new, valO_val, thW_nx, thW_bk, thW_ct, thW_rt,
  callW_d, callW_nil, callW_ref, refW_deal, augW_dat, exV, ex1, exI, addP_i, addP_l, addP_t, addI_i, subP_i, mulP_i, mulP_0, divP_i, modP_i, powP_i, cmpP_i, eqP_i, neP_i, isP_nn, isP_in, isP_tn, isP_bn, isnP_nn, isnP_in, isnP_tn, isP_nb, isP_ib, isP_tb, isP_bb, len_l, len_t, int_i, abs_i, tup_l, tup_t, lst_l, lst_t, min_i, max_i, rev_l, neg_i, sum_l, slP_t, slP_l,
  ixP_t, ixP_l, ixR_v, ixR_n, ixR_a, ixW_own, ixW_deal0, ixW_deal1, ixR_1, itemsD_l, itemsD_t, rangeP1, rangeP2, plains, plainO_none, plainO_dat, datO_none, datO_dat, setAll_nil, setAll_cons, setAW_some, setT_t,
  stR_at, stO_deal, setI, setIs, Itm.o, setD, forget_nil, forget_cons, fgO_none, fgO_dat, fgO_own, fgO_deal, wipeΓ, backΓ, argD, drs, List.all_cons, List.all_nil, Bool.and_true, List.getElem?_cons_zero, List.getElem?_cons_succ, List.set_cons_zero, List.set_cons_succ, List.length_cons, List.length_nil, Nat.zero_add, Nat.reduceAdd, Nat.reduceLeDiff, true_and, and_true, decide_eq_true_eq]
      exact k6
  · simp -implicitDefEqProofs only [sv, ev, CO.p, BO.p, BO.ap, tv, isNop, if_true, if_false, Bool.false_eq_true, reduceIte,
  W_then, W_asg, W_disp, W_nil, W_cons, W_consA, W_consI, W_var, W_val, W_bin, W_chn, W_ix, W_un, W_optN, W_optS, W_sl, W_deal, W_blt, W_isi, W_lrg, W_call, W_prm, W_ite, W_T, W_B, W_not, W_and, W_or, W_seq, W_rng, W_app, W_pop, W_nx, W_drop, W_pure, W_ret, W_if, W_par, W_unp, W_sub, W_yes, W_for, W_aug', W_lc,
  wO_some, wD_some, wD_if, rdO_dat, rdO_own, rdO_deal, mv_val, mv_new, mv_at, mvO_dat, mvO_own, dr_val, dr_new, dr_at, drO_dat, drO_own, dr_at1, dr1_deal, mvA_val, mvA_new, mvA_at, mvAO_dat, mvAO_own, mvAO_deal, toItm_f, itmO_some, toItm_n, toItm_q,
  isDeal_none, isDeal_dat, isDeal_own, isDeal_deal, lstR_at, lstR_at1, lstO_own, lstO_deal, items_at, items_at1, itO_own, it1_deal, putR_at, putR_at1, putO_deal, PR_v, PR_t, PR_l, Rt_d, Rt_q, rtO_some, retR_val, retR_new, retR_newD, retR_at, exitD_none, exitD_some, dealO_deal, intO_int, toB_bl, newO_new, valO_val, thW_nx, thW_bk, thW_ct, thW_rt,
  callW_d, callW_nil, callW_ref, refW_deal, augW_dat, exV, ex1, exI, addP_i, addP_l, addP_t, addI_i, subP_i, mulP_i, mulP_0, divP_i, modP_i, powP_i, cmpP_i, eqP_i, neP_i, isP_nn, isP_in, isP_tn, isP_bn, isnP_nn, isnP_in, isnP_tn, isP_nb, isP_ib, isP_tb, isP_bb, len_l, len_t, int_i, abs_i, tup_l, tup_t, lst_l, lst_t, min_i, max_i, rev_l, neg_i, sum_l, slP_t, slP_l,
  ixP_t, ixP_l, ixR_v, ixR_n, ixR_a, ixW_own, ixW_deal0, ixW_deal1, ixR_1, itemsD_l, itemsD_t, rangeP1, rangeP2, plains, plainO_none, plainO_dat, datO_none, datO_dat, setAll_nil, setAll_cons, setAW_some, setT_t,
  stR_at, stO_deal, setI, setIs, Itm.o, setD, forget_nil, forget_cons, fgO_none, fgO_dat, fgO_own, fgO_deal, wipeΓ, backΓ, argD, drs, List.all_cons, List.all_nil, Bool.and_true, List.getElem?_cons_zero, List.getElem?_cons_succ, List.set_cons_zero, List.set_cons_succ, List.length_cons, List.length_nil, Nat.zero_add, Nat.reduceAdd, Nat.reduceLeDiff, true_and, and_true, decide_eq_true_eq]
    have lx : (xs.map fun x => (if x < 0 then -x else x) % T).length ≤ 63 := by rw [List.length_map]; exact c63
    generalize (xs.map fun x => (if x < 0 then -x else x) % T) = ys at lx
    refine ⟨.inl ⟨by decide, by decide⟩, ?_⟩
    refine W_forL (fun i Γ => ∃ m : Int, Γ = [some (.dat (.scr ns)), some (.dat (.int s)), some (.dat (.int T)), some (.dat (.lst (zi ys))), none, some (.dat (.int m))]) ⟨_, rfl⟩ ?_ ?_
    · rintro i d Γ hd ⟨m, rfl⟩
      obtain ⟨x, hx, rfl⟩ := List.mem_map.mp (List.mem_of_getElem? hd)
      simp -implicitDefEqProofs only [sv, ev, CO.p, BO.p, BO.ap, tv, isNop, if_true, if_false, Bool.false_eq_true, reduceIte,
  W_then, W_asg, W_disp, W_nil, W_cons, W_consA, W_consI, W_var, W_val, W_bin, W_chn, W_ix, W_un, W_optN, W_optS, W_sl, W_deal, W_blt, W_isi, W_lrg, W_call, W_prm, W_ite, W_T, W_B, W_not, W_and, W_or, W_seq, W_rng, W_app, W_pop, W_nx, W_drop, W_pure, W_ret, W_if, W_par, W_unp, W_sub, W_yes, W_for, W_aug', W_lc,
  wO_some, wD_some, wD_if, rdO_dat, rdO_own, rdO_deal, mv_val, mv_new, mv_at, mvO_dat, mvO_own, dr_val, dr_new, dr_at, drO_dat, drO_own, dr_at1, dr1_deal, mvA_val, mvA_new, mvA_at, mvAO_dat, mvAO_own, mvAO_deal, toItm_f, itmO_some, toItm_n, toItm_q,
  isDeal_none, isDeal_dat, isDeal_own, isDeal_deal, lstR_at, lstR_at1, lstO_own, lstO_deal, items_at, items_at1, itO_own, it1_deal, putR_at, putR_at1, putO_deal, PR_v, PR_t, PR_l, Rt_d, Rt_q, rtO_some, retR_val, retR_new, retR_newD, retR_at, exitD_none, exitD_some, dealO_deal, intO_int, toB_bl, newO_new, valO_val, thW_nx, thW_bk, thW_ct, thW_rt,
  callW_d, callW_nil, callW_ref, refW_deal, augW_dat, exV, ex1, exI, addP_i, addP_l, addP_t, addI_i, subP_i, mulP_i, mulP_0, divP_i, modP_i, powP_i, cmpP_i, eqP_i, neP_i, isP_nn, isP_in, isP_tn, isP_bn, isnP_nn, isnP_in, isnP_tn, isP_nb, isP_ib, isP_tb, isP_bb, len_l, len_t, int_i, abs_i, tup_l, tup_t, lst_l, lst_t, min_i, max_i, rev_l, neg_i, sum_l, slP_t, slP_l,
  ixP_t, ixP_l, ixR_v, ixR_n, ixR_a, ixW_own, ixW_deal0, ixW_deal1, ixR_1, itemsD_l, itemsD_t, rangeP1, rangeP2, plains, plainO_none, plainO_dat, datO_none, datO_dat, setAll_nil, setAll_cons, setAW_some, setT_t,
  stR_at, stO_deal, setI, setIs, Itm.o, setD, forget_nil, forget_cons, fgO_none, fgO_dat, fgO_own, fgO_deal, wipeΓ, backΓ, argD, drs, List.all_cons, List.all_nil, Bool.and_true, List.getElem?_cons_zero, List.getElem?_cons_succ, List.set_cons_zero, List.set_cons_succ, List.length_cons, List.length_nil, Nat.zero_add, Nat.reduceAdd, Nat.reduceLeDiff, true_and, and_true, decide_eq_true_eq]
      exact ⟨.inr (.inl ⟨by decide, by decide⟩), by decide, by decide, _, rfl⟩
    · rintro Γ ⟨m, rfl⟩
      simp -implicitDefEqProofs only [sv, ev, CO.p, BO.p, BO.ap, tv, isNop, if_true, if_false, Bool.false_eq_true, reduceIte,
  W_then, W_asg, W_disp, W_nil, W_cons, W_consA, W_consI, W_var, W_val, W_bin, W_chn, W_ix, W_un, W_optN, W_optS, W_sl, W_deal, W_blt, W_isi, W_lrg, W_call, W_prm, W_ite, W_T, W_B, W_not, W_and, W_or, W_seq, W_rng, W_app, W_pop, W_nx, W_drop, W_pure, W_ret, W_if, W_par, W_unp, W_sub, W_yes, W_for, W_aug', W_lc,
  wO_some, wD_some, wD_if, rdO_dat, rdO_own, rdO_deal, mv_val, mv_new, mv_at, mvO_dat, mvO_own, dr_val, dr_new, dr_at, drO_dat, drO_own, dr_at1, dr1_deal, mvA_val, mvA_new, mvA_at, mvAO_dat, mvAO_own, mvAO_deal, toItm_f, itmO_some, toItm_n, toItm_q,
  isDeal_none, isDeal_dat, isDeal_own, isDeal_deal, lstR_at, lstR_at1, lstO_own, lstO_deal, items_at, items_at1, itO_own, it1_deal, putR_at, putR_at1, putO_deal, PR_v, PR_t, PR_l, Rt_d, Rt_q, rtO_some, retR_val, retR_new, retR_newD, retR_at, exitD_none, exitD_some, dealO_deal, intO_int, toB_bl, newO_new, valO_val, thW_nx, thW_bk, thW_ct, thW_rt,
  callW_d, callW_nil, callW_ref, refW_deal, augW_dat, exV, ex1, exI, addP_i, addP_l, addP_t, addI_i, subP_i, mulP_i, mulP_0, divP_i, modP_i, powP_i, cmpP_i, eqP_i, neP_i, isP_nn, isP_in, isP_tn, isP_bn, isnP_nn, isnP_in, isnP_tn, isP_nb, isP_ib, isP_tb, isP_bb, len_l, len_t, int_i, abs_i, tup_l, tup_t, lst_l, lst_t, min_i, max_i, rev_l, neg_i, sum_l, slP_t, slP_l,
  ixP_t, ixP_l, ixR_v, ixR_n, ixR_a, ixW_own, ixW_deal0, ixW_deal1, ixR_1, itemsD_l, itemsD_t, rangeP1, rangeP2, plains, plainO_none, plainO_dat, datO_none, datO_dat, setAll_nil, setAll_cons, setAW_some, setT_t,
  stR_at, stO_deal, setI, setIs, Itm.o, setD, forget_nil, forget_cons, fgO_none, fgO_dat, fgO_own, fgO_deal, wipeΓ, backΓ, argD, drs, List.all_cons, List.all_nil, Bool.and_true, List.getElem?_cons_zero, List.getElem?_cons_succ, List.set_cons_zero, List.set_cons_succ, List.length_cons, List.length_nil, Nat.zero_add, Nat.reduceAdd, Nat.reduceLeDiff, true_and, and_true, decide_eq_true_eq]
      refine W_lcL (fun i Γ acc => Γ = [some (.dat (.scr ns)), some (.dat (.int s)), some (.dat (.int T)), some (.dat (.lst (zi ys))), none, some (.dat (.int m))] ∧ ∃ l, acc = zi l ∧ l.length ≤ i ∧ i ≤ 63) ⟨rfl, [], rfl, Nat.le_refl _, by decide⟩ ?_ ?_
      · rintro i d Γ acc hd ⟨rfl, l, rfl, hl, _⟩
        have hi : i < 63 := by
          rcases Nat.lt_or_ge i (zi ys).length with h | h
          · rw [List.length_map] at h; omega
          · rw [List.getElem?_eq_none h] at hd; cases hd
        obtain ⟨x, hx, rfl⟩ := List.mem_map.mp (List.mem_of_getElem? hd)
        simp -implicitDefEqProofs only [sv, ev, CO.p, BO.p, BO.ap, tv, isNop, if_true, if_false, Bool.false_eq_true, reduceIte,
  W_then, W_asg, W_disp, W_nil, W_cons, W_consA, W_consI, W_var, W_val, W_bin, W_chn, W_ix, W_un, W_optN, W_optS, W_sl, W_deal, W_blt, W_isi, W_lrg, W_call, W_prm, W_ite, W_T, W_B, W_not, W_and, W_or, W_seq, W_rng, W_app, W_pop, W_nx, W_drop, W_pure, W_ret, W_if, W_par, W_unp, W_sub, W_yes, W_for, W_aug', W_lc,
  wO_some, wD_some, wD_if, rdO_dat, rdO_own, rdO_deal, mv_val, mv_new, mv_at, mvO_dat, mvO_own, dr_val, dr_new, dr_at, drO_dat, drO_own, dr_at1, dr1_deal, mvA_val, mvA_new, mvA_at, mvAO_dat, mvAO_own, mvAO_deal, toItm_f, itmO_some, toItm_n, toItm_q,
  isDeal_none, isDeal_dat, isDeal_own, isDeal_deal, lstR_at, lstR_at1, lstO_own, lstO_deal, items_at, items_at1, itO_own, it1_deal, putR_at, putR_at1, putO_deal, PR_v, PR_t, PR_l, Rt_d, Rt_q, rtO_some, retR_val, retR_new, retR_newD, retR_at, exitD_none, exitD_some, dealO_deal, intO_int, toB_bl, newO_new, valO_val, thW_nx, thW_bk, thW_ct, thW_rt,
  callW_d, callW_nil, callW_ref, refW_deal, augW_dat, exV, ex1, exI, addP_i, addP_l, addP_t, addI_i, subP_i, mulP_i, mulP_0, divP_i, modP_i, powP_i, cmpP_i, eqP_i, neP_i, isP_nn, isP_in, isP_tn, isP_bn, isnP_nn, isnP_in, isnP_tn, isP_nb, isP_ib, isP_tb, isP_bb, len_l, len_t, int_i, abs_i, tup_l, tup_t, lst_l, lst_t, min_i, max_i, rev_l, neg_i, sum_l, slP_t, slP_l,
  ixP_t, ixP_l, ixR_v, ixR_n, ixR_a, ixW_own, ixW_deal0, ixW_deal1, ixR_1, itemsD_l, itemsD_t, rangeP1, rangeP2, plains, plainO_none, plainO_dat, datO_none, datO_dat, setAll_nil, setAll_cons, setAW_some, setT_t,
  stR_at, stO_deal, setI, setIs, Itm.o, setD, forget_nil, forget_cons, fgO_none, fgO_dat, fgO_own, fgO_deal, wipeΓ, backΓ, argD, drs, List.all_cons, List.all_nil, Bool.and_true, List.getElem?_cons_zero, List.getElem?_cons_succ, List.set_cons_zero, List.set_cons_succ, List.length_cons, List.length_nil, Nat.zero_add, Nat.reduceAdd, Nat.reduceLeDiff, true_and, and_true, decide_eq_true_eq]
        refine ⟨⟨by decide, by decide, by decide⟩, ?_⟩
        split
        · refine ⟨by rw [List.length_map]; omega, l ++ [x], by rw [zi_app]; rfl, ?_, by omega⟩
          rw [List.length_append]; simp -implicitDefEqProofs only [List.length_cons, List.length_nil]; omega
        · exact ⟨l, rfl, by omega, by omega⟩
      · rintro Γ acc ⟨rfl, l, rfl, hl, hi⟩
        simp -implicitDefEqProofs only [sv, ev, CO.p, BO.p, BO.ap, tv, isNop, if_true, if_false, Bool.false_eq_true, reduceIte,
  W_then, W_asg, W_disp, W_nil, W_cons, W_consA, W_consI, W_var, W_val, W_bin, W_chn, W_ix, W_un, W_optN, W_optS, W_sl, W_deal, W_blt, W_isi, W_lrg, W_call, W_prm, W_ite, W_T, W_B, W_not, W_and, W_or, W_seq, W_rng, W_app, W_pop, W_nx, W_drop, W_pure, W_ret, W_if, W_par, W_unp, W_sub, W_yes, W_for, W_aug', W_lc,
  wO_some, wD_some, wD_if, rdO_dat, rdO_own, rdO_deal, mv_val, mv_new, mv_at, mvO_dat, mvO_own, dr_val, dr_new, dr_at, drO_dat, drO_own, dr_at1, dr1_deal, mvA_val, mvA_new, mvA_at, mvAO_dat, mvAO_own, mvAO_deal, toItm_f, itmO_some, toItm_n, toItm_q,
  isDeal_none, isDeal_dat, isDeal_own, isDeal_deal, lstR_at, lstR_at1, lstO_own, lstO_deal, items_at, items_at1, itO_own, it1_deal, putR_at, putR_at1, putO_deal, PR_v, PR_t, PR_l, Rt_d, Rt_q, rtO_some, retR_val, retR_new, retR_newD, retR_at, exitD_none, exitD_some, dealO_deal, intO_int, toB_bl, newO_new, valO_val, thW_nx, thW_bk, thW_ct, thW_rt,
  callW_d, callW_nil, callW_ref, refW_deal, augW_dat, exV, ex1, exI, addP_i, addP_l, addP_t, addI_i, subP_i, mulP_i, mulP_0, divP_i, modP_i, powP_i, cmpP_i, eqP_i, neP_i, isP_nn, isP_in, isP_tn, isP_bn, isnP_nn, isnP_in, isnP_tn, isP_nb, isP_ib, isP_tb, isP_bb, len_l, len_t, int_i, abs_i, tup_l, tup_t, lst_l, lst_t, min_i, max_i, rev_l, neg_i, sum_l, slP_t, slP_l,
  ixP_t, ixP_l, ixR_v, ixR_n, ixR_a, ixW_own, ixW_deal0, ixW_deal1, ixR_1, itemsD_l, itemsD_t, rangeP1, rangeP2, plains, plainO_none, plainO_dat, datO_none, datO_dat, setAll_nil, setAll_cons, setAW_some, setT_t,
  stR_at, stO_deal, setI, setIs, Itm.o, setD, forget_nil, forget_cons, fgO_none, fgO_dat, fgO_own, fgO_deal, wipeΓ, backΓ, argD, drs, List.all_cons, List.all_nil, Bool.and_true, List.getElem?_cons_zero, List.getElem?_cons_succ, List.set_cons_zero, List.set_cons_succ, List.length_cons, List.length_nil, Nat.zero_add, Nat.reduceAdd, Nat.reduceLeDiff, true_and, and_true, decide_eq_true_eq]
        exact ⟨l.reverse, m, by rw [show zi l.reverse = (zi l).reverse from List.map_reverse], by rw [List.length_reverse]; rw [List.length_map] at hl; omega⟩
end Dq

set_option Elab.async false
set_option linter.all false
set_option maxRecDepth 100000
set_option maxHeartbeats 4000000
/-! sums, frames (k91 in part, k92) -/
namespace Fr
open Z Nu Dq
open L2 (atI ixN)
def ws : Nat → List Nat → Nat
  | _, [] => 0
  | i, x :: xs => (i + 1) * x + ws (i + 1) xs
theorem ws_app : ∀ (xs : List Nat) (i x : Nat), ws i (xs ++ [x]) = ws i xs + (i + xs.length + 1) * x
  | [], i, x => by simp [ws]
  | y :: xs, i, x => by
    show (i + 1) * y + ws (i + 1) (xs ++ [x]) = (i + 1) * y + ws (i + 1) xs + (i + (xs.length + 1) + 1) * x
    have e : i + 1 + xs.length + 1 = i + (xs.length + 1) + 1 := by omega
    rw [ws_app xs (i + 1) x, e, ← Nat.add_assoc]
/-- the sum of octets -/
@[irreducible] def sm (xs : List Nat) : Nat := ws 0 xs % 65521
theorem sm_eq (xs : List Nat) : ((sm xs : Nat) : Int) = (ws 0 xs : Nat) % 65521 := by unfold sm; omega
def pr (xs : List Nat) : List Nat := [sm xs % 256, sm xs / 256]
theorem take_get {xs : List Nat} {i : Nat} (h : i < xs.length) : xs.take (i + 1) = xs.take i ++ [xs.getD i 0] := by
  rw [List.take_succ, List.getD_eq_getElem?_getD, List.getElem?_eq_getElem h]; rfl
/-- the turns of a range -/
theorem rg_get {n : Int} {i : Nat} {d : D} {a : Int} (h : ((List.range n.toNat).map fun k => D.int (a + (k : Nat)))[i]? = some d) : i < n.toNat ∧ d = .int (a + (i : Nat)) := by
  rw [List.getElem?_map] at h
  have hi : i < n.toNat := by
    rcases Nat.lt_or_ge i n.toNat with h1 | h1
    · exact h1
    · rw [List.getElem?_eq_none (by rw [List.length_range]; exact h1)] at h; cases h
  rw [List.getElem?_range hi] at h
  cases h
  exact ⟨hi, rfl⟩
theorem rg_len {n a : Int} : ((List.range n.toNat).map fun k => D.int (a + (k : Nat))).length = n.toNat := by rw [List.length_map, List.length_range]
/-- sum_of_octets -/
def tSum : Z.St := (.next (.asg false 1 (.lit (.int 0)))
 (.next (.loop [2] (.nm 2) (.rng 1 (.cons (.blt .len (.cons (.var 0) .nil)) .nil))
 (.next (.aug .add 1 (.bin .mul (.bin .add (.var 2) (.lit (.int 1))) (.ix (.var 0) (.var 2))))
 .nil))
 (.next (.ret (.bin .mod (.var 1) (.con (.int 65521))))
 .nil)))
theorem sum_ok (cal) (xs : List Nat) (hl : xs.length ≤ 1000000) : runF cal 3 tSum none [.tup (oi xs)] = some (.dat (.int (sm xs)), none) := by
  refine wO_eq ?_
  refine runF_W ?_
  simp -implicitDefEqProofs only [tSum, inΓ, dlO, List.map_cons, List.map_nil, List.nil_append, List.cons_append, List.replicate, Nat.reduceSub, sv, ev, CO.p, BO.p, BO.ap, tv, isNop, if_true, if_false, Bool.false_eq_true, reduceIte,
  W_then, W_asg, W_disp, W_nil, W_cons, W_consA, W_consI, W_var, W_val, W_bin, W_chn, W_ix, W_un, W_optN, W_optS, W_sl, W_deal, W_blt, W_isi, W_lrg, W_call, W_prm, W_ite, W_T, W_B, W_not, W_and, W_or, W_seq, W_rng, W_app, W_pop, W_nx, W_drop, W_pure, W_ret, W_if, W_par, W_unp, W_sub, W_yes, W_for, W_aug', W_lc,
  wO_some, wD_some, wD_if, rdO_dat, rdO_own, rdO_deal, mv_val, mv_new, mv_at, mvO_dat, mvO_own, dr_val, dr_new, dr_at, drO_dat, drO_own, dr_at1, dr1_deal, mvA_val, mvA_new, mvA_at, mvAO_dat, mvAO_own, mvAO_deal, toItm_f, itmO_some, toItm_n, toItm_q,
  isDeal_none, isDeal_dat, isDeal_own, isDeal_deal, lstR_at, lstR_at1, lstO_own, lstO_deal, items_at, items_at1, itO_own, it1_deal, putR_at, putR_at1, putO_deal, PR_v, PR_t, PR_l, Rt_d, Rt_q, rtO_some, retR_val, retR_new, retR_newD, retR_at, exitD_none, exitD_some, dealO_deal, intO_int, toB_bl, newO_new, valO_val, thW_nx, thW_bk, thW_ct, thW_rt,
  callW_d, callW_nil, callW_ref, refW_deal, augW_dat, exV, ex1, exI, addP_i, addP_l, addP_t, addI_i, subP_i, mulP_i, mulP_0, divP_i, modP_i, powP_i, cmpP_i, eqP_i, neP_i, isP_nn, isP_in, isP_tn, isP_bn, isnP_nn, isnP_in, isnP_tn, isP_nb, isP_ib, isP_tb, isP_bb, len_l, len_t, int_i, abs_i, tup_l, tup_t, lst_l, lst_t, min_i, max_i, rev_l, neg_i, sum_l, slP_t, slP_l,
  ixP_t, ixP_l, ixR_v, ixR_n, ixR_a, ixW_own, ixW_deal0, ixW_deal1, ixR_1, itemsD_l, itemsD_t, rangeP1, rangeP2, plains, plainO_none, plainO_dat, datO_none, datO_dat, setAll_nil, setAll_cons, setAW_some, setT_t,
  stR_at, stO_deal, setI, setIs, Itm.o, setD, forget_nil, forget_cons, fgO_none, fgO_dat, fgO_own, fgO_deal, wipeΓ, backΓ, argD, drs, List.all_cons, List.all_nil, Bool.and_true, List.getElem?_cons_zero, List.getElem?_cons_succ, List.set_cons_zero, List.set_cons_succ, List.length_cons, List.length_nil, Nat.zero_add, Nat.reduceAdd, Nat.reduceLeDiff, true_and, and_true, decide_eq_true_eq]
  have len : (oi xs).length = xs.length := List.length_map _
  rw [len]
  refine ⟨by omega, ?_⟩
  refine W_forL (fun i Γ => Γ = [some (.dat (.tup (oi xs))), some (.dat (.int (ws 0 (xs.take i) : Nat))), none] ∧ i ≤ xs.length) ⟨rfl, Nat.zero_le _⟩ ?_ ?_
  · rintro i d Γ hd ⟨rfl, _⟩
    obtain ⟨hi, rfl⟩ := rg_get hd
    have hi : i < xs.length := by omega
    have c0 : (0 : Int) + (i : Int) = (i : Int) := Int.zero_add _
    simp -implicitDefEqProofs only [c0, atI_nat hi, sv, ev, CO.p, BO.p, BO.ap, tv, isNop, if_true, if_false, Bool.false_eq_true, reduceIte,
  W_then, W_asg, W_disp, W_nil, W_cons, W_consA, W_consI, W_var, W_val, W_bin, W_chn, W_ix, W_un, W_optN, W_optS, W_sl, W_deal, W_blt, W_isi, W_lrg, W_call, W_prm, W_ite, W_T, W_B, W_not, W_and, W_or, W_seq, W_rng, W_app, W_pop, W_nx, W_drop, W_pure, W_ret, W_if, W_par, W_unp, W_sub, W_yes, W_for, W_aug', W_lc,
  wO_some, wD_some, wD_if, rdO_dat, rdO_own, rdO_deal, mv_val, mv_new, mv_at, mvO_dat, mvO_own, dr_val, dr_new, dr_at, drO_dat, drO_own, dr_at1, dr1_deal, mvA_val, mvA_new, mvA_at, mvAO_dat, mvAO_own, mvAO_deal, toItm_f, itmO_some, toItm_n, toItm_q,
  isDeal_none, isDeal_dat, isDeal_own, isDeal_deal, lstR_at, lstR_at1, lstO_own, lstO_deal, items_at, items_at1, itO_own, it1_deal, putR_at, putR_at1, putO_deal, PR_v, PR_t, PR_l, Rt_d, Rt_q, rtO_some, retR_val, retR_new, retR_newD, retR_at, exitD_none, exitD_some, dealO_deal, intO_int, toB_bl, newO_new, valO_val, thW_nx, thW_bk, thW_ct, thW_rt,
  callW_d, callW_nil, callW_ref, refW_deal, augW_dat, exV, ex1, exI, addP_i, addP_l, addP_t, addI_i, subP_i, mulP_i, mulP_0, divP_i, modP_i, powP_i, cmpP_i, eqP_i, neP_i, isP_nn, isP_in, isP_tn, isP_bn, isnP_nn, isnP_in, isnP_tn, isP_nb, isP_ib, isP_tb, isP_bb, len_l, len_t, int_i, abs_i, tup_l, tup_t, lst_l, lst_t, min_i, max_i, rev_l, neg_i, sum_l, slP_t, slP_l,
  ixP_t, ixP_l, ixR_v, ixR_n, ixR_a, ixW_own, ixW_deal0, ixW_deal1, ixR_1, itemsD_l, itemsD_t, rangeP1, rangeP2, plains, plainO_none, plainO_dat, datO_none, datO_dat, setAll_nil, setAll_cons, setAW_some, setT_t,
  stR_at, stO_deal, setI, setIs, Itm.o, setD, forget_nil, forget_cons, fgO_none, fgO_dat, fgO_own, fgO_deal, wipeΓ, backΓ, argD, drs, List.all_cons, List.all_nil, Bool.and_true, List.getElem?_cons_zero, List.getElem?_cons_succ, List.set_cons_zero, List.set_cons_succ, List.length_cons, List.length_nil, Nat.zero_add, Nat.reduceAdd, Nat.reduceLeDiff, true_and, and_true, decide_eq_true_eq]
    refine ⟨.inl ⟨by omega, by omega⟩, ?_, hi⟩
    rw [take_get hi, ws_app, List.length_take, Nat.min_eq_left (by omega)]
    have e : ((0 + i + 1 : Nat) : Int) = (i : Int) + 1 := by omega
    rw [Int.natCast_add, Int.natCast_mul, e]
  · rintro Γ ⟨rfl, _⟩
    simp -implicitDefEqProofs only [sv, ev, CO.p, BO.p, BO.ap, tv, isNop, if_true, if_false, Bool.false_eq_true, reduceIte,
  W_then, W_asg, W_disp, W_nil, W_cons, W_consA, W_consI, W_var, W_val, W_bin, W_chn, W_ix, W_un, W_optN, W_optS, W_sl, W_deal, W_blt, W_isi, W_lrg, W_call, W_prm, W_ite, W_T, W_B, W_not, W_and, W_or, W_seq, W_rng, W_app, W_pop, W_nx, W_drop, W_pure, W_ret, W_if, W_par, W_unp, W_sub, W_yes, W_for, W_aug', W_lc,
  wO_some, wD_some, wD_if, rdO_dat, rdO_own, rdO_deal, mv_val, mv_new, mv_at, mvO_dat, mvO_own, dr_val, dr_new, dr_at, drO_dat, drO_own, dr_at1, dr1_deal, mvA_val, mvA_new, mvA_at, mvAO_dat, mvAO_own, mvAO_deal, toItm_f, itmO_some, toItm_n, toItm_q,
  isDeal_none, isDeal_dat, isDeal_own, isDeal_deal, lstR_at, lstR_at1, lstO_own, lstO_deal, items_at, items_at1, itO_own, it1_deal, putR_at, putR_at1, putO_deal, PR_v, PR_t, PR_l, Rt_d, Rt_q, rtO_some, retR_val, retR_new, retR_newD, retR_at, exitD_none, exitD_some, dealO_deal, intO_int, toB_bl, newO_new, valO_val, thW_nx, thW_bk, thW_ct, thW_rt,
  callW_d, callW_nil, callW_ref, refW_deal, augW_dat, exV, ex1, exI, addP_i, addP_l, addP_t, addI_i, subP_i, mulP_i, mulP_0, divP_i, modP_i, powP_i, cmpP_i, eqP_i, neP_i, isP_nn, isP_in, isP_tn, isP_bn, isnP_nn, isnP_in, isnP_tn, isP_nb, isP_ib, isP_tb, isP_bb, len_l, len_t, int_i, abs_i, tup_l, tup_t, lst_l, lst_t, min_i, max_i, rev_l, neg_i, sum_l, slP_t, slP_l,
  ixP_t, ixP_l, ixR_v, ixR_n, ixR_a, ixW_own, ixW_deal0, ixW_deal1, ixR_1, itemsD_l, itemsD_t, rangeP1, rangeP2, plains, plainO_none, plainO_dat, datO_none, datO_dat, setAll_nil, setAll_cons, setAW_some, setT_t,
  stR_at, stO_deal, setI, setIs, Itm.o, setD, forget_nil, forget_cons, fgO_none, fgO_dat, fgO_own, fgO_deal, wipeΓ, backΓ, argD, drs, List.all_cons, List.all_nil, Bool.and_true, List.getElem?_cons_zero, List.getElem?_cons_succ, List.set_cons_zero, List.set_cons_succ, List.length_cons, List.length_nil, Nat.zero_add, Nat.reduceAdd, Nat.reduceLeDiff, true_and, and_true, decide_eq_true_eq]
    rw [rg_len, show ((xs.length : Int)).toNat = xs.length from Int.toNat_natCast _, List.take_length]
    rw [sm_eq]
    exact ⟨by decide, rfl⟩
/-- sum_pair; the callee sum_of_octets -/
def tPair (j : Nat) : Z.St := (.next (.asg false 1 (.call j 1 (.cons (.var 0) .nil)))
 (.next (.ret (.tup (.cons (.bin .mod (.var 1) (.con (.int 256))) (.cons (.bin .div (.var 1) (.con (.int 256))) .nil))))
 .nil))
theorem pair_ok (cal : Nat → Sm) (j : Nat) (xs : List Nat) (h : cal j none [.tup (oi xs)] = some (.dat (.int (sm xs)), none)) : runF cal 2 (tPair j) none [.tup (oi xs)] = some (.dat (.tup (oi (pr xs))), none) := by
  refine wO_eq ?_
  refine runF_W ?_
  simp -implicitDefEqProofs only [tPair, inΓ, dlO, List.map_cons, List.map_nil, List.nil_append, List.cons_append, List.replicate, Nat.reduceSub, h, sv, ev, CO.p, BO.p, BO.ap, tv, isNop, if_true, if_false, Bool.false_eq_true, reduceIte,
  W_then, W_asg, W_disp, W_nil, W_cons, W_consA, W_consI, W_var, W_val, W_bin, W_chn, W_ix, W_un, W_optN, W_optS, W_sl, W_deal, W_blt, W_isi, W_lrg, W_call, W_prm, W_ite, W_T, W_B, W_not, W_and, W_or, W_seq, W_rng, W_app, W_pop, W_nx, W_drop, W_pure, W_ret, W_if, W_par, W_unp, W_sub, W_yes, W_for, W_aug', W_lc,
  wO_some, wD_some, wD_if, rdO_dat, rdO_own, rdO_deal, mv_val, mv_new, mv_at, mvO_dat, mvO_own, dr_val, dr_new, dr_at, drO_dat, drO_own, dr_at1, dr1_deal, mvA_val, mvA_new, mvA_at, mvAO_dat, mvAO_own, mvAO_deal, toItm_f, itmO_some, toItm_n, toItm_q,
  isDeal_none, isDeal_dat, isDeal_own, isDeal_deal, lstR_at, lstR_at1, lstO_own, lstO_deal, items_at, items_at1, itO_own, it1_deal, putR_at, putR_at1, putO_deal, PR_v, PR_t, PR_l, Rt_d, Rt_q, rtO_some, retR_val, retR_new, retR_newD, retR_at, exitD_none, exitD_some, dealO_deal, intO_int, toB_bl, newO_new, valO_val, thW_nx, thW_bk, thW_ct, thW_rt,
  callW_d, callW_nil, callW_ref, refW_deal, augW_dat, exV, ex1, exI, addP_i, addP_l, addP_t, addI_i, subP_i, mulP_i, mulP_0, divP_i, modP_i, powP_i, cmpP_i, eqP_i, neP_i, isP_nn, isP_in, isP_tn, isP_bn, isnP_nn, isnP_in, isnP_tn, isP_nb, isP_ib, isP_tb, isP_bb, len_l, len_t, int_i, abs_i, tup_l, tup_t, lst_l, lst_t, min_i, max_i, rev_l, neg_i, sum_l, slP_t, slP_l,
  ixP_t, ixP_l, ixR_v, ixR_n, ixR_a, ixW_own, ixW_deal0, ixW_deal1, ixR_1, itemsD_l, itemsD_t, rangeP1, rangeP2, plains, plainO_none, plainO_dat, datO_none, datO_dat, setAll_nil, setAll_cons, setAW_some, setT_t,
  stR_at, stO_deal, setI, setIs, Itm.o, setD, forget_nil, forget_cons, fgO_none, fgO_dat, fgO_own, fgO_deal, wipeΓ, backΓ, argD, drs, List.all_cons, List.all_nil, Bool.and_true, List.getElem?_cons_zero, List.getElem?_cons_succ, List.set_cons_zero, List.set_cons_succ, List.length_cons, List.length_nil, Nat.zero_add, Nat.reduceAdd, Nat.reduceLeDiff, true_and, and_true, decide_eq_true_eq]
  refine ⟨by decide, by decide, ?_⟩
  show Rt.dat (.tup [_, _]) = Rt.dat (.tup [_, _])
  congr 1
/-- _law_summed -/
def tSumd : Z.St := (.next (.asg false 1 (.bin .mod (.blt .int (.cons (.blt .sum (.cons (.lc [2] (.rng 1 (.cons (.blt .len (.cons (.var 0) .nil)) .nil)) (.nm 2) .nop (.bin .mul (.ix (.var 0) (.var 2)) (.bin .add (.var 2) (.lit (.int 1))))) .nil)) .nil)) (.lit (.int 65521))))
 (.next (.ret (.lst (.cons (.bin .mod (.blt .int (.cons (.var 1) .nil)) (.lit (.int 256))) (.cons (.bin .div (.var 1) (.lit (.int 256))) .nil))))
 .nil))
def wl (xs : List Nat) : List Int := (List.range xs.length).map fun i => ((i + 1) * xs.getD i 0 : Nat)
theorem wl_sum (xs : List Nat) : (wl xs).sum = (ws 0 xs : Nat) := by
  have key : ∀ n, n ≤ xs.length → ((List.range n).map fun i => (((i + 1) * xs.getD i 0 : Nat) : Int)).sum = (ws 0 (xs.take n) : Nat) := by
    intro n
    induction n with
    | zero => intro _; rfl
    | succ n ih =>
      intro h
      rw [List.range_succ, List.map_append, List.sum_append, ih (by omega), take_get (by omega), ws_app, List.length_take, Nat.min_eq_left (by omega)]
      simp
  have := key xs.length (Nat.le_refl _)
  rw [List.take_length] at this
  exact this
theorem sumd_ok (cal) (xs : List Nat) (hl : xs.length ≤ 1000000) : runF cal 3 tSumd none [.tup (oi xs)] = some (.dat (.lst (oi (pr xs))), none) := by
  refine wO_eq ?_
  refine runF_W ?_
  simp -implicitDefEqProofs only [tSumd, inΓ, dlO, List.map_cons, List.map_nil, List.nil_append, List.cons_append, List.replicate, Nat.reduceSub, sv, ev, CO.p, BO.p, BO.ap, tv, isNop, if_true, if_false, Bool.false_eq_true, reduceIte,
  W_then, W_asg, W_disp, W_nil, W_cons, W_consA, W_consI, W_var, W_val, W_bin, W_chn, W_ix, W_un, W_optN, W_optS, W_sl, W_deal, W_blt, W_isi, W_lrg, W_call, W_prm, W_ite, W_T, W_B, W_not, W_and, W_or, W_seq, W_rng, W_app, W_pop, W_nx, W_drop, W_pure, W_ret, W_if, W_par, W_unp, W_sub, W_yes, W_for, W_aug', W_lc,
  wO_some, wD_some, wD_if, rdO_dat, rdO_own, rdO_deal, mv_val, mv_new, mv_at, mvO_dat, mvO_own, dr_val, dr_new, dr_at, drO_dat, drO_own, dr_at1, dr1_deal, mvA_val, mvA_new, mvA_at, mvAO_dat, mvAO_own, mvAO_deal, toItm_f, itmO_some, toItm_n, toItm_q,
  isDeal_none, isDeal_dat, isDeal_own, isDeal_deal, lstR_at, lstR_at1, lstO_own, lstO_deal, items_at, items_at1, itO_own, it1_deal, putR_at, putR_at1, putO_deal, PR_v, PR_t, PR_l, Rt_d, Rt_q, rtO_some, retR_val, retR_new, retR_newD, retR_at, exitD_none, exitD_some, dealO_deal, intO_int, toB_bl, newO_new, valO_val, thW_nx, thW_bk, thW_ct, thW_rt,
  callW_d, callW_nil, callW_ref, refW_deal, augW_dat, exV, ex1, exI, addP_i, addP_l, addP_t, addI_i, subP_i, mulP_i, mulP_0, divP_i, modP_i, powP_i, cmpP_i, eqP_i, neP_i, isP_nn, isP_in, isP_tn, isP_bn, isnP_nn, isnP_in, isnP_tn, isP_nb, isP_ib, isP_tb, isP_bb, len_l, len_t, int_i, abs_i, tup_l, tup_t, lst_l, lst_t, min_i, max_i, rev_l, neg_i, sum_l, slP_t, slP_l,
  ixP_t, ixP_l, ixR_v, ixR_n, ixR_a, ixW_own, ixW_deal0, ixW_deal1, ixR_1, itemsD_l, itemsD_t, rangeP1, rangeP2, plains, plainO_none, plainO_dat, datO_none, datO_dat, setAll_nil, setAll_cons, setAW_some, setT_t,
  stR_at, stO_deal, setI, setIs, Itm.o, setD, forget_nil, forget_cons, fgO_none, fgO_dat, fgO_own, fgO_deal, wipeΓ, backΓ, argD, drs, List.all_cons, List.all_nil, Bool.and_true, List.getElem?_cons_zero, List.getElem?_cons_succ, List.set_cons_zero, List.set_cons_succ, List.length_cons, List.length_nil, Nat.zero_add, Nat.reduceAdd, Nat.reduceLeDiff, true_and, and_true, decide_eq_true_eq]
  have len : (oi xs).length = xs.length := List.length_map _
  rw [len]
  refine ⟨by omega, ?_⟩
  refine W_lcMap (zi (wl xs)) ?_ ?_ ?_ ?_
  · rw [rg_len, List.length_map, wl, List.length_map, List.length_range]; omega
  · rw [rg_len]; omega
  · intro i d y hd hy
    obtain ⟨hi, rfl⟩ := rg_get hd
    have hi : i < xs.length := by omega
    have c0 : (0 : Int) + (i : Int) = (i : Int) := Int.zero_add _
    unfold wl at hy
    rw [List.getElem?_map, List.getElem?_map, List.getElem?_range hi] at hy
    cases hy
    simp -implicitDefEqProofs only [c0, atI_nat hi, sv, ev, CO.p, BO.p, BO.ap, tv, isNop, if_true, if_false, Bool.false_eq_true, reduceIte,
  W_then, W_asg, W_disp, W_nil, W_cons, W_consA, W_consI, W_var, W_val, W_bin, W_chn, W_ix, W_un, W_optN, W_optS, W_sl, W_deal, W_blt, W_isi, W_lrg, W_call, W_prm, W_ite, W_T, W_B, W_not, W_and, W_or, W_seq, W_rng, W_app, W_pop, W_nx, W_drop, W_pure, W_ret, W_if, W_par, W_unp, W_sub, W_yes, W_for, W_aug', W_lc,
  wO_some, wD_some, wD_if, rdO_dat, rdO_own, rdO_deal, mv_val, mv_new, mv_at, mvO_dat, mvO_own, dr_val, dr_new, dr_at, drO_dat, drO_own, dr_at1, dr1_deal, mvA_val, mvA_new, mvA_at, mvAO_dat, mvAO_own, mvAO_deal, toItm_f, itmO_some, toItm_n, toItm_q,
  isDeal_none, isDeal_dat, isDeal_own, isDeal_deal, lstR_at, lstR_at1, lstO_own, lstO_deal, items_at, items_at1, itO_own, it1_deal, putR_at, putR_at1, putO_deal, PR_v, PR_t, PR_l, Rt_d, Rt_q, rtO_some, retR_val, retR_new, retR_newD, retR_at, exitD_none, exitD_some, dealO_deal, intO_int, toB_bl, newO_new, valO_val, thW_nx, thW_bk, thW_ct, thW_rt,
  callW_d, callW_nil, callW_ref, refW_deal, augW_dat, exV, ex1, exI, addP_i, addP_l, addP_t, addI_i, subP_i, mulP_i, mulP_0, divP_i, modP_i, powP_i, cmpP_i, eqP_i, neP_i, isP_nn, isP_in, isP_tn, isP_bn, isnP_nn, isnP_in, isnP_tn, isP_nb, isP_ib, isP_tb, isP_bb, len_l, len_t, int_i, abs_i, tup_l, tup_t, lst_l, lst_t, min_i, max_i, rev_l, neg_i, sum_l, slP_t, slP_l,
  ixP_t, ixP_l, ixR_v, ixR_n, ixR_a, ixW_own, ixW_deal0, ixW_deal1, ixR_1, itemsD_l, itemsD_t, rangeP1, rangeP2, plains, plainO_none, plainO_dat, datO_none, datO_dat, setAll_nil, setAll_cons, setAW_some, setT_t,
  stR_at, stO_deal, setI, setIs, Itm.o, setD, forget_nil, forget_cons, fgO_none, fgO_dat, fgO_own, fgO_deal, wipeΓ, backΓ, argD, drs, List.all_cons, List.all_nil, Bool.and_true, List.getElem?_cons_zero, List.getElem?_cons_succ, List.set_cons_zero, List.set_cons_succ, List.length_cons, List.length_nil, Nat.zero_add, Nat.reduceAdd, Nat.reduceLeDiff, true_and, and_true, decide_eq_true_eq]
    refine ⟨.inr (.inl ⟨by omega, by omega⟩), ?_⟩
    show D.int _ = D.int _
    congr 1
    rw [Int.natCast_mul, Int.mul_comm]
    congr 1
  · simp -implicitDefEqProofs only [wl_sum, sv, ev, CO.p, BO.p, BO.ap, tv, isNop, if_true, if_false, Bool.false_eq_true, reduceIte,
  W_then, W_asg, W_disp, W_nil, W_cons, W_consA, W_consI, W_var, W_val, W_bin, W_chn, W_ix, W_un, W_optN, W_optS, W_sl, W_deal, W_blt, W_isi, W_lrg, W_call, W_prm, W_ite, W_T, W_B, W_not, W_and, W_or, W_seq, W_rng, W_app, W_pop, W_nx, W_drop, W_pure, W_ret, W_if, W_par, W_unp, W_sub, W_yes, W_for, W_aug', W_lc,
  wO_some, wD_some, wD_if, rdO_dat, rdO_own, rdO_deal, mv_val, mv_new, mv_at, mvO_dat, mvO_own, dr_val, dr_new, dr_at, drO_dat, drO_own, dr_at1, dr1_deal, mvA_val, mvA_new, mvA_at, mvAO_dat, mvAO_own, mvAO_deal, toItm_f, itmO_some, toItm_n, toItm_q,
  isDeal_none, isDeal_dat, isDeal_own, isDeal_deal, lstR_at, lstR_at1, lstO_own, lstO_deal, items_at, items_at1, itO_own, it1_deal, putR_at, putR_at1, putO_deal, PR_v, PR_t, PR_l, Rt_d, Rt_q, rtO_some, retR_val, retR_new, retR_newD, retR_at, exitD_none, exitD_some, dealO_deal, intO_int, toB_bl, newO_new, valO_val, thW_nx, thW_bk, thW_ct, thW_rt,
  callW_d, callW_nil, callW_ref, refW_deal, augW_dat, exV, ex1, exI, addP_i, addP_l, addP_t, addI_i, subP_i, mulP_i, mulP_0, divP_i, modP_i, powP_i, cmpP_i, eqP_i, neP_i, isP_nn, isP_in, isP_tn, isP_bn, isnP_nn, isnP_in, isnP_tn, isP_nb, isP_ib, isP_tb, isP_bb, len_l, len_t, int_i, abs_i, tup_l, tup_t, lst_l, lst_t, min_i, max_i, rev_l, neg_i, sum_l, slP_t, slP_l,
  ixP_t, ixP_l, ixR_v, ixR_n, ixR_a, ixW_own, ixW_deal0, ixW_deal1, ixR_1, itemsD_l, itemsD_t, rangeP1, rangeP2, plains, plainO_none, plainO_dat, datO_none, datO_dat, setAll_nil, setAll_cons, setAW_some, setT_t,
  stR_at, stO_deal, setI, setIs, Itm.o, setD, forget_nil, forget_cons, fgO_none, fgO_dat, fgO_own, fgO_deal, wipeΓ, backΓ, argD, drs, List.all_cons, List.all_nil, Bool.and_true, List.getElem?_cons_zero, List.getElem?_cons_succ, List.set_cons_zero, List.set_cons_succ, List.length_cons, List.length_nil, Nat.zero_add, Nat.reduceAdd, Nat.reduceLeDiff, true_and, and_true, decide_eq_true_eq]
    rw [← sm_eq]
    refine ⟨by decide, by decide, by decide, ?_⟩
    rfl
/-- _law_number_octets -/
def tLoc : Z.St := (.next (.par [1, 2] (.conw (.lst .nil) (.cons (.blt .int (.cons (.var 0) .nil)) .nil)))
 (.next (.whl [] (.cmp .ge (.var 2) (.lit (.int 128)))
 (.next (.drop (.app (.var 1) (.cons (.bin .add (.lit (.int 128)) (.bin .mod (.blt .int (.cons (.var 2) .nil)) (.lit (.int 128)))) .nil)))
 (.next (.asg false 2 (.bin .div (.var 2) (.lit (.int 128))))
 .nil)))
 (.next (.ret (.bin .add (.var 1) (.lst (.cons (.var 2) .nil))))
 .nil)))
theorem loc_ok (cal) (n : Nat) (h : (octs n).length < 16000000) : runF cal 3 tLoc none [.int n] = some (.dat (.lst (oi (octs n))), none) := by
  refine wO_eq (runF_W ?_)
  simp -implicitDefEqProofs only [tLoc, inΓ, dlO, List.map_cons, List.map_nil, List.nil_append, List.cons_append, List.replicate, Nat.reduceSub, sv, ev, CO.p, BO.p, BO.ap, tv, isNop, if_true, if_false, Bool.false_eq_true, reduceIte,
  W_then, W_asg, W_disp, W_nil, W_cons, W_consA, W_consI, W_var, W_val, W_bin, W_chn, W_ix, W_un, W_optN, W_optS, W_sl, W_deal, W_blt, W_isi, W_lrg, W_call, W_prm, W_ite, W_T, W_B, W_not, W_and, W_or, W_seq, W_rng, W_app, W_pop, W_nx, W_drop, W_pure, W_ret, W_if, W_par, W_unp, W_sub, W_yes, W_for, W_aug', W_lc,
  wO_some, wD_some, wD_if, rdO_dat, rdO_own, rdO_deal, mv_val, mv_new, mv_at, mvO_dat, mvO_own, dr_val, dr_new, dr_at, drO_dat, drO_own, dr_at1, dr1_deal, mvA_val, mvA_new, mvA_at, mvAO_dat, mvAO_own, mvAO_deal, toItm_f, itmO_some, toItm_n, toItm_q,
  isDeal_none, isDeal_dat, isDeal_own, isDeal_deal, lstR_at, lstR_at1, lstO_own, lstO_deal, items_at, items_at1, itO_own, it1_deal, putR_at, putR_at1, putO_deal, PR_v, PR_t, PR_l, Rt_d, Rt_q, rtO_some, retR_val, retR_new, retR_newD, retR_at, exitD_none, exitD_some, dealO_deal, intO_int, toB_bl, newO_new, valO_val, thW_nx, thW_bk, thW_ct, thW_rt,
  callW_d, callW_nil, callW_ref, refW_deal, augW_dat, exV, ex1, exI, addP_i, addP_l, addP_t, addI_i, subP_i, mulP_i, mulP_0, divP_i, modP_i, powP_i, cmpP_i, eqP_i, neP_i, isP_nn, isP_in, isP_tn, isP_bn, isnP_nn, isnP_in, isnP_tn, isP_nb, isP_ib, isP_tb, isP_bb, len_l, len_t, int_i, abs_i, tup_l, tup_t, lst_l, lst_t, min_i, max_i, rev_l, neg_i, sum_l, slP_t, slP_l,
  ixP_t, ixP_l, ixR_v, ixR_n, ixR_a, ixW_own, ixW_deal0, ixW_deal1, ixR_1, itemsD_l, itemsD_t, rangeP1, rangeP2, plains, plainO_none, plainO_dat, datO_none, datO_dat, setAll_nil, setAll_cons, setAW_some, setT_t,
  stR_at, stO_deal, setI, setIs, Itm.o, setD, forget_nil, forget_cons, fgO_none, fgO_dat, fgO_own, fgO_deal, wipeΓ, backΓ, argD, drs, List.all_cons, List.all_nil, Bool.and_true, List.getElem?_cons_zero, List.getElem?_cons_succ, List.set_cons_zero, List.set_cons_succ, List.length_cons, List.length_nil, Nat.zero_add, Nat.reduceAdd, Nat.reduceLeDiff, true_and, and_true, decide_eq_true_eq]
  refine W_wh (fun m Γ => ∃ (r : Nat) (ds : List Nat), m = r ∧ Γ = [some (.dat (.int n)), some (.own (oi ds)), some (.dat (.int r))] ∧ octs n = ds ++ octs r) (m := n) ⟨n, [], rfl, rfl, rfl⟩ ?_
  rintro m Γ ⟨r, ds, rfl, rfl, e⟩
  simp -implicitDefEqProofs only [sv, ev, CO.p, BO.p, BO.ap, tv, isNop, if_true, if_false, Bool.false_eq_true, reduceIte,
  W_then, W_asg, W_disp, W_nil, W_cons, W_consA, W_consI, W_var, W_val, W_bin, W_chn, W_ix, W_un, W_optN, W_optS, W_sl, W_deal, W_blt, W_isi, W_lrg, W_call, W_prm, W_ite, W_T, W_B, W_not, W_and, W_or, W_seq, W_rng, W_app, W_pop, W_nx, W_drop, W_pure, W_ret, W_if, W_par, W_unp, W_sub, W_yes, W_for, W_aug', W_lc,
  wO_some, wD_some, wD_if, rdO_dat, rdO_own, rdO_deal, mv_val, mv_new, mv_at, mvO_dat, mvO_own, dr_val, dr_new, dr_at, drO_dat, drO_own, dr_at1, dr1_deal, mvA_val, mvA_new, mvA_at, mvAO_dat, mvAO_own, mvAO_deal, toItm_f, itmO_some, toItm_n, toItm_q,
  isDeal_none, isDeal_dat, isDeal_own, isDeal_deal, lstR_at, lstR_at1, lstO_own, lstO_deal, items_at, items_at1, itO_own, it1_deal, putR_at, putR_at1, putO_deal, PR_v, PR_t, PR_l, Rt_d, Rt_q, rtO_some, retR_val, retR_new, retR_newD, retR_at, exitD_none, exitD_some, dealO_deal, intO_int, toB_bl, newO_new, valO_val, thW_nx, thW_bk, thW_ct, thW_rt,
  callW_d, callW_nil, callW_ref, refW_deal, augW_dat, exV, ex1, exI, addP_i, addP_l, addP_t, addI_i, subP_i, mulP_i, mulP_0, divP_i, modP_i, powP_i, cmpP_i, eqP_i, neP_i, isP_nn, isP_in, isP_tn, isP_bn, isnP_nn, isnP_in, isnP_tn, isP_nb, isP_ib, isP_tb, isP_bb, len_l, len_t, int_i, abs_i, tup_l, tup_t, lst_l, lst_t, min_i, max_i, rev_l, neg_i, sum_l, slP_t, slP_l,
  ixP_t, ixP_l, ixR_v, ixR_n, ixR_a, ixW_own, ixW_deal0, ixW_deal1, ixR_1, itemsD_l, itemsD_t, rangeP1, rangeP2, plains, plainO_none, plainO_dat, datO_none, datO_dat, setAll_nil, setAll_cons, setAW_some, setT_t,
  stR_at, stO_deal, setI, setIs, Itm.o, setD, forget_nil, forget_cons, fgO_none, fgO_dat, fgO_own, fgO_deal, wipeΓ, backΓ, argD, drs, List.all_cons, List.all_nil, Bool.and_true, List.getElem?_cons_zero, List.getElem?_cons_succ, List.set_cons_zero, List.set_cons_succ, List.length_cons, List.length_nil, Nat.zero_add, Nat.reduceAdd, Nat.reduceLeDiff, true_and, and_true, decide_eq_true_eq]
  have hl : ds.length < 16000000 := by rw [e, List.length_append] at h; omega
  split
  · rename_i hm
    refine ⟨by decide, by rw [List.length_map]; omega, okDiv_lit, m / 128, by omega, m / 128, ds ++ [128 + m % 128], rfl, ?_, ?_⟩
    · rw [oi_app]; rfl
    · rw [e]
      conv => lhs; rw [octs]
      rw [dif_neg (by omega), List.append_assoc]; rfl
  · rename_i hm
    refine ⟨by rw [List.length_map]; omega, ?_⟩
    rw [e]
    conv => rhs; rw [octs]
    rw [dif_pos (by omega), oi_app]; rfl
/-- _law_number_at -/
def tLat : Z.St := (.next (.par [2, 3] (.cons (.lit (.int 0)) (.cons (.lit (.int 1)) .nil)))
 (.next (.loop [4] (.nm 4) (.rng 2 (.cons (.var 1) (.cons (.ite (.cmp .ge (.var 1) (.lit (.int 0))) (.blt .len (.cons (.var 0) .nil)) (.var 1)) .nil)))
 (.next (.par [2, 3] (.cons (.bin .add (.var 2) (.bin .mul (.bin .mod (.blt .int (.cons (.ix (.var 0) (.var 4)) .nil)) (.lit (.int 128))) (.var 3))) (.cons (.bin .mul (.var 3) (.lit (.int 128))) .nil)))
 (.next (.iff (.cmp .lt (.ix (.var 0) (.var 4)) (.lit (.int 128)))
 (.next (.ret (.ite (.and (.cmp .eq (.ix (.var 0) (.var 4)) (.lit (.int 0))) (.cmp .gt (.var 4) (.var 1))) (.lit .non) (.tup (.cons (.var 2) (.cons (.bin .add (.var 4) (.lit (.int 1))) .nil)))))
 .nil)
 .nil)
 .nil)))
 (.next (.ret (.lit .non))
 .nil)))
theorem evB_app (B : Nat) : ∀ (xs : List Nat) (y : Nat), evB B (xs ++ [y]) = evB B xs + y * B ^ xs.length
  | [], y => by simp [evB]
  | x :: xs, y => by
    show x + B * evB B (xs ++ [y]) = x + B * evB B xs + y * B ^ (xs.length + 1)
    rw [evB_app B xs y, Nat.mul_add, Nat.pow_succ, Nat.add_assoc]
    congr 2
    rw [Nat.mul_comm (B ^ xs.length) B, Nat.mul_left_comm]
theorem lat_ok (cal) (xs : List Nat) (a : Int) (hl : xs.length ≤ 1000000) (ha : -(2 ^ 62) ≤ a ∧ a < 2 ^ 62) : runF cal 5 tLat none [.tup (oi xs), .int a] = some (.dat (oP (rdAt xs a)), none) := by
  refine wO_eq (runF_W ?_)
  simp -implicitDefEqProofs only [tLat, inΓ, dlO, List.map_cons, List.map_nil, List.nil_append, List.cons_append, List.replicate, Nat.reduceSub, sv, ev, CO.p, BO.p, BO.ap, tv, isNop, if_true, if_false, Bool.false_eq_true, reduceIte,
  W_then, W_asg, W_disp, W_nil, W_cons, W_consA, W_consI, W_var, W_val, W_bin, W_chn, W_ix, W_un, W_optN, W_optS, W_sl, W_deal, W_blt, W_isi, W_lrg, W_call, W_prm, W_ite, W_T, W_B, W_not, W_and, W_or, W_seq, W_rng, W_app, W_pop, W_nx, W_drop, W_pure, W_ret, W_if, W_par, W_unp, W_sub, W_yes, W_for, W_aug', W_lc,
  wO_some, wD_some, wD_if, rdO_dat, rdO_own, rdO_deal, mv_val, mv_new, mv_at, mvO_dat, mvO_own, dr_val, dr_new, dr_at, drO_dat, drO_own, dr_at1, dr1_deal, mvA_val, mvA_new, mvA_at, mvAO_dat, mvAO_own, mvAO_deal, toItm_f, itmO_some, toItm_n, toItm_q,
  isDeal_none, isDeal_dat, isDeal_own, isDeal_deal, lstR_at, lstR_at1, lstO_own, lstO_deal, items_at, items_at1, itO_own, it1_deal, putR_at, putR_at1, putO_deal, PR_v, PR_t, PR_l, Rt_d, Rt_q, rtO_some, retR_val, retR_new, retR_newD, retR_at, exitD_none, exitD_some, dealO_deal, intO_int, toB_bl, newO_new, valO_val, thW_nx, thW_bk, thW_ct, thW_rt,
  callW_d, callW_nil, callW_ref, refW_deal, augW_dat, exV, ex1, exI, addP_i, addP_l, addP_t, addI_i, subP_i, mulP_i, mulP_0, divP_i, modP_i, powP_i, cmpP_i, eqP_i, neP_i, isP_nn, isP_in, isP_tn, isP_bn, isnP_nn, isnP_in, isnP_tn, isP_nb, isP_ib, isP_tb, isP_bb, len_l, len_t, int_i, abs_i, tup_l, tup_t, lst_l, lst_t, min_i, max_i, rev_l, neg_i, sum_l, slP_t, slP_l,
  ixP_t, ixP_l, ixR_v, ixR_n, ixR_a, ixW_own, ixW_deal0, ixW_deal1, ixR_1, itemsD_l, itemsD_t, rangeP1, rangeP2, plains, plainO_none, plainO_dat, datO_none, datO_dat, setAll_nil, setAll_cons, setAW_some, setT_t,
  stR_at, stO_deal, setI, setIs, Itm.o, setD, forget_nil, forget_cons, fgO_none, fgO_dat, fgO_own, fgO_deal, wipeΓ, backΓ, argD, drs, List.all_cons, List.all_nil, Bool.and_true, List.getElem?_cons_zero, List.getElem?_cons_succ, List.set_cons_zero, List.set_cons_succ, List.length_cons, List.length_nil, Nat.zero_add, Nat.reduceAdd, Nat.reduceLeDiff, true_and, and_true, decide_eq_true_eq]
  have len : (oi xs).length = xs.length := List.length_map _
  split
  · rename_i h0
    obtain ⟨n, rfl⟩ : ∃ n : Nat, a = n := ⟨a.toNat, by omega⟩
    rw [len]
    refine ⟨by omega, ?_⟩
    have er : rdAt xs n = (rd (xs.drop n)).map fun p => (p.1, n + p.2) := by
      unfold rdAt
      rw [if_neg (by omega), Int.toNat_natCast]
    rw [er]
    generalize hys : xs.drop n = ys
    have hyl : ys.length = xs.length - n := by rw [← hys, List.length_drop]
    have hg : ∀ i, xs.getD (n + i) 0 = ys.getD i 0 := fun i => by rw [← hys, drop_getD]
    refine W_forL (fun i Γ => Γ = [some (.dat (.tup (oi xs))), some (.dat (.int n)), some (.dat (.int (evB 128 ((ys.take i).map (· % 128)) : Nat))), some (.dat (.int (128 ^ i : Nat))), none] ∧ i ≤ ys.length ∧ ∀ j, j < i → 128 ≤ ys.getD j 0) ⟨rfl, Nat.zero_le _, fun j hj => by omega⟩ ?_ ?_
    · rintro i d Γ hd ⟨rfl, _, hj⟩
      obtain ⟨hi, rfl⟩ := rg_get hd
      have hi : i < ys.length := by omega
      have c1 : (n : Int) + (i : Int) = ((n + i : Nat) : Int) := by omega
      have hat := atI_nat (xs := xs) (i := n + i) (by omega)
      rw [hg] at hat
      simp -implicitDefEqProofs only [c1, hat, sv, ev, CO.p, BO.p, BO.ap, tv, isNop, if_true, if_false, Bool.false_eq_true, reduceIte,
  W_then, W_asg, W_disp, W_nil, W_cons, W_consA, W_consI, W_var, W_val, W_bin, W_chn, W_ix, W_un, W_optN, W_optS, W_sl, W_deal, W_blt, W_isi, W_lrg, W_call, W_prm, W_ite, W_T, W_B, W_not, W_and, W_or, W_seq, W_rng, W_app, W_pop, W_nx, W_drop, W_pure, W_ret, W_if, W_par, W_unp, W_sub, W_yes, W_for, W_aug', W_lc,
  wO_some, wD_some, wD_if, rdO_dat, rdO_own, rdO_deal, mv_val, mv_new, mv_at, mvO_dat, mvO_own, dr_val, dr_new, dr_at, drO_dat, drO_own, dr_at1, dr1_deal, mvA_val, mvA_new, mvA_at, mvAO_dat, mvAO_own, mvAO_deal, toItm_f, itmO_some, toItm_n, toItm_q,
  isDeal_none, isDeal_dat, isDeal_own, isDeal_deal, lstR_at, lstR_at1, lstO_own, lstO_deal, items_at, items_at1, itO_own, it1_deal, putR_at, putR_at1, putO_deal, PR_v, PR_t, PR_l, Rt_d, Rt_q, rtO_some, retR_val, retR_new, retR_newD, retR_at, exitD_none, exitD_some, dealO_deal, intO_int, toB_bl, newO_new, valO_val, thW_nx, thW_bk, thW_ct, thW_rt,
  callW_d, callW_nil, callW_ref, refW_deal, augW_dat, exV, ex1, exI, addP_i, addP_l, addP_t, addI_i, subP_i, mulP_i, mulP_0, divP_i, modP_i, powP_i, cmpP_i, eqP_i, neP_i, isP_nn, isP_in, isP_tn, isP_bn, isnP_nn, isnP_in, isnP_tn, isP_nb, isP_ib, isP_tb, isP_bb, len_l, len_t, int_i, abs_i, tup_l, tup_t, lst_l, lst_t, min_i, max_i, rev_l, neg_i, sum_l, slP_t, slP_l,
  ixP_t, ixP_l, ixR_v, ixR_n, ixR_a, ixW_own, ixW_deal0, ixW_deal1, ixR_1, itemsD_l, itemsD_t, rangeP1, rangeP2, plains, plainO_none, plainO_dat, datO_none, datO_dat, setAll_nil, setAll_cons, setAW_some, setT_t,
  stR_at, stO_deal, setI, setIs, Itm.o, setD, forget_nil, forget_cons, fgO_none, fgO_dat, fgO_own, fgO_deal, wipeΓ, backΓ, argD, drs, List.all_cons, List.all_nil, Bool.and_true, List.getElem?_cons_zero, List.getElem?_cons_succ, List.set_cons_zero, List.set_cons_succ, List.length_cons, List.length_nil, Nat.zero_add, Nat.reduceAdd, Nat.reduceLeDiff, true_and, and_true, decide_eq_true_eq]
      have e1 : ((evB 128 ((ys.take i).map (· % 128)) : Nat) : Int) + ((ys.getD i 0 : Nat) : Int) % 128 * ((128 ^ i : Nat) : Int) = (evB 128 ((ys.take (i + 1)).map (· % 128)) : Nat) := by
        rw [take_get hi, List.map_append]
        show _ = ((evB 128 ((ys.take i).map (· % 128) ++ [ys.getD i 0 % 128]) : Nat) : Int)
        rw [evB_app, List.length_map, List.length_take, Nat.min_eq_left (by omega), Int.natCast_add, Int.natCast_mul]
        rfl
      have e2 : ((128 ^ i : Nat) : Int) * 128 = ((128 ^ (i + 1) : Nat) : Int) := by rw [Nat.pow_succ, Int.natCast_mul]; rfl
      rw [e1, e2]
      refine ⟨by decide, .inl ⟨?_, ?_⟩, .inr (.inl ⟨by decide, by decide⟩), ?_⟩
      · omega
      · omega
      split
      · rename_i h5
        have hfl := fl_some hi hj (by omega)
        unfold rd
        rw [hfl]
        simp -implicitDefEqProofs only [Nat.add_sub_cancel]
        by_cases hz : 1 < i + 1 ∧ ys.getD i 0 = 0
        · rw [if_pos hz, if_pos (by omega), if_pos (by omega)]
          rfl
        · rw [if_neg hz]
          refine if2 (by omega) ?_
          rfl
      · rename_i h5
        refine ⟨rfl, hi, fun j hj' => ?_⟩
        rcases Nat.lt_succ_iff_lt_or_eq.mp hj' with h | rfl
        · exact hj j h
        · omega
    · rintro Γ ⟨rfl, _, hj⟩
      simp -implicitDefEqProofs only [sv, ev, CO.p, BO.p, BO.ap, tv, isNop, if_true, if_false, Bool.false_eq_true, reduceIte,
  W_then, W_asg, W_disp, W_nil, W_cons, W_consA, W_consI, W_var, W_val, W_bin, W_chn, W_ix, W_un, W_optN, W_optS, W_sl, W_deal, W_blt, W_isi, W_lrg, W_call, W_prm, W_ite, W_T, W_B, W_not, W_and, W_or, W_seq, W_rng, W_app, W_pop, W_nx, W_drop, W_pure, W_ret, W_if, W_par, W_unp, W_sub, W_yes, W_for, W_aug', W_lc,
  wO_some, wD_some, wD_if, rdO_dat, rdO_own, rdO_deal, mv_val, mv_new, mv_at, mvO_dat, mvO_own, dr_val, dr_new, dr_at, drO_dat, drO_own, dr_at1, dr1_deal, mvA_val, mvA_new, mvA_at, mvAO_dat, mvAO_own, mvAO_deal, toItm_f, itmO_some, toItm_n, toItm_q,
  isDeal_none, isDeal_dat, isDeal_own, isDeal_deal, lstR_at, lstR_at1, lstO_own, lstO_deal, items_at, items_at1, itO_own, it1_deal, putR_at, putR_at1, putO_deal, PR_v, PR_t, PR_l, Rt_d, Rt_q, rtO_some, retR_val, retR_new, retR_newD, retR_at, exitD_none, exitD_some, dealO_deal, intO_int, toB_bl, newO_new, valO_val, thW_nx, thW_bk, thW_ct, thW_rt,
  callW_d, callW_nil, callW_ref, refW_deal, augW_dat, exV, ex1, exI, addP_i, addP_l, addP_t, addI_i, subP_i, mulP_i, mulP_0, divP_i, modP_i, powP_i, cmpP_i, eqP_i, neP_i, isP_nn, isP_in, isP_tn, isP_bn, isnP_nn, isnP_in, isnP_tn, isP_nb, isP_ib, isP_tb, isP_bb, len_l, len_t, int_i, abs_i, tup_l, tup_t, lst_l, lst_t, min_i, max_i, rev_l, neg_i, sum_l, slP_t, slP_l,
  ixP_t, ixP_l, ixR_v, ixR_n, ixR_a, ixW_own, ixW_deal0, ixW_deal1, ixR_1, itemsD_l, itemsD_t, rangeP1, rangeP2, plains, plainO_none, plainO_dat, datO_none, datO_dat, setAll_nil, setAll_cons, setAW_some, setT_t,
  stR_at, stO_deal, setI, setIs, Itm.o, setD, forget_nil, forget_cons, fgO_none, fgO_dat, fgO_own, fgO_deal, wipeΓ, backΓ, argD, drs, List.all_cons, List.all_nil, Bool.and_true, List.getElem?_cons_zero, List.getElem?_cons_succ, List.set_cons_zero, List.set_cons_succ, List.length_cons, List.length_nil, Nat.zero_add, Nat.reduceAdd, Nat.reduceLeDiff, true_and, and_true, decide_eq_true_eq]
      unfold rd
      rw [fl_none fun j h => hj j (by rw [rg_len]; omega)]
      rfl
  · rename_i h0
    refine ⟨⟨ha.1, ha.2, ha.1, ha.2⟩, ?_⟩
    have er : rdAt xs a = none := by unfold rdAt; rw [if_pos (by omega)]
    rw [er, Int.sub_self]
    rfl
/-- a frame -/
def fr (b : List Nat) : List Nat := octs b.length ++ b ++ pr b
/-- the frame at a place -/
def fat (xs : List Nat) (p : Nat) : Option (List Nat × Nat) := match rdAt xs p with
  | none => none
  | some (v, e) => if (xs.length : Int) - e < v + 2 then none else if (xs.drop (v + e)).take 2 ≠ pr ((xs.drop e).take v) then none else some ((xs.drop e).take v, v + e + 2)
def oF : Option (List Nat × Nat) → D
  | none => .non
  | some (b, q) => .tup [.tup (oi b), .int q]
theorem rdAt_some {xs : List Nat} {p v e : Nat} (h : rdAt xs p = some (v, e)) : p < e ∧ e ≤ xs.length := by
  unfold rdAt at h
  rw [if_neg (by omega), Int.toNat_natCast] at h
  unfold rd at h
  cases q : fl (xs.drop p) with
  | none => rw [q] at h; cases h
  | some l =>
    rw [q] at h
    simp only at h
    obtain ⟨f1, f2, _, _⟩ := fl_get q
    rw [List.length_drop] at f2
    split at h
    · cases h
    · cases h
      omega
theorem pys_int (a : List Nat) : D.pys (oi a) = a.map fun x : Nat => PySem.PyData.int x := by
  induction a with
  | nil => rfl
  | cons x a ih =>
    show D.py (D.int x) :: D.pys (oi a) = _ :: _
    rw [ih]; rfl
theorem eqvAll_int : ∀ a b : List Nat, PySem.PyData.eqvAll (a.map fun x : Nat => PySem.PyData.int x) (b.map fun x : Nat => PySem.PyData.int x) = decide (a = b)
  | [], [] => rfl
  | [], _ :: _ => rfl
  | _ :: _, [] => rfl
  | x :: a, y :: b => by
    show (((x : Int) == (y : Int)) && PySem.PyData.eqvAll (a.map fun x : Nat => PySem.PyData.int x) (b.map fun x : Nat => PySem.PyData.int x)) = _
    rw [eqvAll_int a b]
    by_cases h1 : x = y
    · subst h1
      by_cases h2 : a = b
      · subst h2; simp
      · simp [h2]
    · have : ((x : Int) == (y : Int)) = false := by
        rw [beq_eq_false_iff_ne]; omega
      rw [this]; simp [h1]
theorem lay_int : ∀ a : List Nat, PySem.PyData.canLayAll0 (a.map fun x : Nat => PySem.PyData.int x) = true
  | [] => rfl
  | x :: a => by
    show (true && PySem.PyData.canLayAll0 (a.map fun x : Nat => PySem.PyData.int x)) = true
    rw [lay_int a]; rfl
theorem dep_int : ∀ a : List Nat, PySem.PyData.depthAll (a.map fun x : Nat => PySem.PyData.int x) = 0
  | [] => rfl
  | x :: a => by
    show max 0 (PySem.PyData.depthAll (a.map fun x : Nat => PySem.PyData.int x)) = 0
    rw [dep_int a]; rfl
theorem shaped_t (a : List Nat) : PySem.SeqAt.shaped (D.tup (oi a)).py = true := by
  show (PySem.PyData.canLayAll0 (D.pys (oi a)) && decide (PySem.PyData.depthAll (D.pys (oi a)) + 1 ≤ 64)) = true
  rw [pys_int, lay_int, dep_int]; rfl
theorem shaped_l (a : List Nat) : PySem.SeqAt.shaped (D.lst (oi a)).py = true := by
  show (PySem.PyData.canLayAll0 (D.pys (oi a)) && decide (PySem.PyData.depthAll (D.pys (oi a)) + 1 ≤ 64)) = true
  rw [pys_int, lay_int, dep_int]; rfl
theorem neP_t (a b : List Nat) : neP (.tup (oi a)) (.tup (oi b)) = some (.v (.bl (!decide (a = b)))) := by
  show (match (if _ ∧ _ then some (PySem.PyData.eqvAll (D.pys (oi a)) (D.pys (oi b))) else none) with
    | some b => some (PR.v (.bl (!b)))
    | none => none) = _
  rw [if_pos ⟨shaped_t a, shaped_t b⟩, pys_int, pys_int, eqvAll_int]
theorem neP_l (a b : List Nat) : neP (.lst (oi a)) (.lst (oi b)) = some (.v (.bl (!decide (a = b)))) := by
  show (match (if _ ∧ _ then some (PySem.PyData.eqvAll (D.pys (oi a)) (D.pys (oi b))) else none) with
    | some b => some (PR.v (.bl (!b)))
    | none => none) = _
  rw [if_pos ⟨shaped_l a, shaped_l b⟩, pys_int, pys_int, eqvAll_int]
end Fr

set_option Elab.async false
set_option linter.all false
set_option maxRecDepth 100000
set_option maxHeartbeats 4000000
/-! k75: differences of functions of places, their rows modulo a number -/
namespace Pl
def dl : Nat → (Nat → Int) → Nat → Int
  | 0, G, t => G t
  | k + 1, G, t => dl k G (t + 1) - dl k G t
theorem dl_add (F G : Nat → Int) : ∀ (k t : Nat), dl k (fun t => F t + G t) t = dl k F t + dl k G t
  | 0, t => rfl
  | k + 1, t => by
    show dl k _ (t + 1) - dl k _ t = (dl k F (t + 1) - dl k F t) + (dl k G (t + 1) - dl k G t)
    rw [dl_add F G k, dl_add F G k]; omega
theorem dl_mul (c : Int) (F : Nat → Int) : ∀ (k t : Nat), dl k (fun t => c * F t) t = c * dl k F t
  | 0, t => rfl
  | k + 1, t => by
    show dl k _ (t + 1) - dl k _ t = c * (dl k F (t + 1) - dl k F t)
    rw [dl_mul c F k, dl_mul c F k, Int.mul_sub]
theorem dl_lin (c : Int) (F : Nat → Int) : ∀ (k t : Nat), dl (k + 1) (fun t : Nat => ((t : Int) - c) * F t) t = ((t : Int) - c) * dl (k + 1) F t + ((k : Int) + 1) * dl k F (t + 1)
  | 0, t => by
    show (((t + 1 : Nat) : Int) - c) * F (t + 1) - ((t : Int) - c) * F t = ((t : Int) - c) * (F (t + 1) - F t) + ((0 : Int) + 1) * F (t + 1)
    rw [Int.natCast_add, Int.mul_sub, Int.sub_mul, Int.add_mul, Int.sub_mul, Int.sub_mul]
    show (t : Int) * F (t + 1) + 1 * F (t + 1) - c * F (t + 1) - (t * F t - c * F t) = t * F (t + 1) - c * F (t + 1) - (t * F t - c * F t) + (0 + 1) * F (t + 1)
    omega
  | k + 1, t => by
    show dl (k + 1) _ (t + 1) - dl (k + 1) _ t = _
    rw [dl_lin c F k, dl_lin c F k]
    have e1 : dl (k + 1 + 1) F t = dl (k + 1) F (t + 1) - dl (k + 1) F t := rfl
    have e2 : dl (k + 1) F (t + 1) = dl k F (t + 1 + 1) - dl k F (t + 1) := rfl
    rw [e1]
    generalize dl (k + 1) F t = A at *
    rw [Int.natCast_add, Int.natCast_add]
    have e3 : dl k F (t + 1 + 1) = dl (k + 1) F (t + 1) + dl k F (t + 1) := by omega
    rw [e3]
    generalize dl (k + 1) F (t + 1) = B at *
    generalize dl k F (t + 1) = E at *
    generalize (t : Int) = T at *
    generalize (k : Int) = N at *
    show (T + 1 - c) * B + (N + 1) * (B + E) - ((T - c) * A + (N + 1) * E) = (T - c) * (B - A) + (N + 1 + 1) * B
    simp only [Int.sub_mul, Int.mul_sub, Int.add_mul, Int.mul_add, Int.one_mul]
    omega
def Pol (n : Nat) (F : Nat → Int) : Prop := ∀ t, dl n F t = 0
theorem Pol.up {n : Nat} {F : Nat → Int} (h : Pol n F) : Pol (n + 1) F := fun t => by
  show dl n F (t + 1) - dl n F t = 0
  rw [h, h]; rfl
theorem Pol.add {n : Nat} {F G : Nat → Int} (h : Pol n F) (g : Pol n G) : Pol n fun t => F t + G t := fun t => by rw [dl_add, h, g]; rfl
theorem Pol.mul {n : Nat} {F : Nat → Int} (c : Int) (h : Pol n F) : Pol n fun t => c * F t := fun t => by rw [dl_mul, h, Int.mul_zero]
theorem Pol.lin {n : Nat} {F : Nat → Int} (c : Int) (h : Pol n F) : Pol (n + 1) fun t : Nat => ((t : Int) - c) * F t := fun t => by
  rw [dl_lin, h.up, h, Int.mul_zero, Int.mul_zero]; rfl
theorem dl_zero : ∀ (k t : Nat), dl k (fun _ => 0) t = 0
  | 0, t => rfl
  | k + 1, t => by
    show dl k _ (t + 1) - dl k _ t = 0
    rw [dl_zero k, dl_zero k]; rfl
theorem Pol.zero (n : Nat) : Pol n fun _ => 0 := fun t => dl_zero n t
/-- the product of t less each of some numbers -/
def pd : List Int → Int → Int
  | [], _ => 1
  | c :: cs, t => (t - c) * pd cs t
theorem pol_pd : ∀ cs : List Int, Pol (cs.length + 1) fun t : Nat => pd cs t
  | [] => fun t => by show (1 : Int) - 1 = 0; rfl
  | c :: cs => (pol_pd cs).lin c
theorem pd_zero : ∀ {cs : List Int} {t : Int}, t ∈ cs → pd cs t = 0
  | c :: cs, t, h => by
    show (t - c) * pd cs t = 0
    rcases List.mem_cons.mp h with rfl | h
    · rw [Int.sub_self, Int.zero_mul]
    · rw [pd_zero h, Int.mul_zero]
/-! rows -/
def difs (p : Int) (l : List Int) : List Int := (List.range (l.length - 1)).map fun a => (l.getD (a + 1) 0 - l.getD a 0) % p
def hds (p : Int) : Nat → List Int → List Int
  | 0, _ => []
  | n + 1, l => l.getD 0 0 :: hds p n (difs p l)
def stp (p : Int) (ds : List Int) : List Int := ((List.range (ds.length - 1)).map fun a => (ds.getD a 0 + ds.getD (a + 1) 0) % p) ++ ds.drop (ds.length - 1)
def outL (p : Int) : Nat → List Int → List Int
  | 0, _ => []
  | m + 1, ds => ds.getD 0 0 :: outL p m (stp p ds)
def cod (p : Int) (row : List Int) (many : Nat) : List Int := outL p many (hds p row.length row)
def val (p : Int) (n : Nat) (F : Nat → Int) : List Int := (List.range n).map fun t => F t % p
theorem val_len (p : Int) (n : Nat) (F : Nat → Int) : (val p n F).length = n := by unfold val; rw [List.length_map, List.length_range]
theorem getD_map (n k : Nat) (f : Nat → Int) (h : k < n) : ((List.range n).map f).getD k 0 = f k := by
  rw [List.getD_eq_getElem?_getD, List.getElem?_map, List.getElem?_range h]; rfl
theorem val_get {p : Int} {n k : Nat} {F : Nat → Int} (h : k < n) : (val p n F).getD k 0 = F k % p := getD_map n k _ h
theorem difs_val (p : Int) (n : Nat) (F : Nat → Int) : difs p (val p (n + 1) F) = val p n fun t => F (t + 1) - F t := by
  unfold difs
  rw [val_len]
  show (List.range n).map _ = (List.range n).map _
  refine List.map_congr_left fun a ha => ?_
  have := List.mem_range.mp ha
  rw [val_get (by omega), val_get (by omega), ← Int.sub_emod]
theorem hds_val (p : Int) (F : Nat → Int) : ∀ (n i : Nat), hds p n (val p n (dl i F)) = (List.range n).map fun k => dl (i + k) F 0 % p
  | 0, i => rfl
  | n + 1, i => by
    show (val p (n + 1) (dl i F)).getD 0 0 :: hds p n (difs p (val p (n + 1) (dl i F))) = _
    rw [difs_val, val_get (by omega), List.range_succ_eq_map, List.map_cons, List.map_map]
    congr 1
    rw [show (fun t => dl i F (t + 1) - dl i F t) = dl (i + 1) F from rfl, hds_val p F n (i + 1)]
    refine List.map_congr_left fun a _ => ?_
    show dl (i + 1 + a) F 0 % p = dl (i + (a + 1)) F 0 % p
    rw [Nat.add_assoc, Nat.add_comm 1 a]
def tw (p : Int) (n : Nat) (F : Nat → Int) (t : Nat) : List Int := (List.range n).map fun k => dl k F t % p
theorem tw_len (p : Int) (n : Nat) (F : Nat → Int) (t : Nat) : (tw p n F t).length = n := by unfold tw; rw [List.length_map, List.length_range]
theorem tw_get {p : Int} {n k : Nat} {F : Nat → Int} {t : Nat} (h : k < n) : (tw p n F t).getD k 0 = dl k F t % p := getD_map n k _ h
theorem stp_tw {p : Int} {n : Nat} {F : Nat → Int} (h : ∀ t, dl (n + 1) F t % p = 0) (t : Nat) : stp p (tw p (n + 1) F t) = tw p (n + 1) F (t + 1) := by
  unfold stp
  rw [tw_len]
  show (List.range n).map _ ++ List.drop n _ = _
  have e1 : ((List.range n).map fun a => ((tw p (n + 1) F t).getD a 0 + (tw p (n + 1) F t).getD (a + 1) 0) % p) = (List.range n).map fun k => dl k F (t + 1) % p := by
    refine List.map_congr_left fun a ha => ?_
    have := List.mem_range.mp ha
    rw [tw_get (by omega), tw_get (by omega), ← Int.add_emod]
    congr 1
    show dl a F t + (dl a F (t + 1) - dl a F t) = _
    omega
  have e2 : List.drop n (tw p (n + 1) F t) = [dl n F t % p] := by
    unfold tw
    rw [List.range_succ, List.map_append, List.drop_left']
    · rfl
    · rw [List.length_map, List.length_range]
  rw [e1, e2]
  unfold tw
  rw [List.range_succ, List.map_append]
  congr 2
  have := h t
  have e3 : dl n F (t + 1) = dl n F t + dl (n + 1) F t := by
    show _ = dl n F t + (dl n F (t + 1) - dl n F t)
    omega
  show dl n F t % p = dl n F (t + 1) % p
  rw [e3, Int.add_emod, this, Int.add_zero, Int.emod_emod]
theorem outL_tw {p : Int} {n : Nat} {F : Nat → Int} (h : ∀ t, dl (n + 1) F t % p = 0) : ∀ (m t : Nat), outL p m (tw p (n + 1) F t) = (List.range m).map fun j => F (t + j) % p
  | 0, t => rfl
  | m + 1, t => by
    show (tw p (n + 1) F t).getD 0 0 :: outL p m (stp p (tw p (n + 1) F t)) = _
    rw [tw_get (by omega), stp_tw h, outL_tw h m (t + 1), List.range_succ_eq_map, List.map_cons, List.map_map]
    congr 1
    refine List.map_congr_left fun a _ => ?_
    show F (t + 1 + a) % p = F (t + (a + 1)) % p
    rw [Nat.add_assoc, Nat.add_comm 1 a]
/-- a row of so low a degree is spread to its function's worths -/
theorem cod_val {p : Int} {n : Nat} {F : Nat → Int} (h : ∀ t, dl (n + 1) F t % p = 0) (many : Nat) : cod p (val p (n + 1) F) many = val p many F := by
  unfold cod
  rw [val_len, show val p (n + 1) F = val p (n + 1) (dl 0 F) from rfl, hds_val]
  have e : ((List.range (n + 1)).map fun k => dl (0 + k) F 0 % p) = tw p (n + 1) F 0 := by
    unfold tw
    refine List.map_congr_left fun a _ => ?_
    rw [Nat.zero_add]
  rw [e, outL_tw h]
  unfold val
  refine List.map_congr_left fun a _ => ?_
  rw [Nat.zero_add]
/-! residues -/
def Rs (p : Int) (l : List Int) : Prop := ∀ x ∈ l, 0 ≤ x ∧ x < p
theorem Rs.get {p : Int} {l : List Int} (h : Rs p l) {k : Nat} (hk : k < l.length) : 0 ≤ l.getD k 0 ∧ l.getD k 0 < p := by
  rw [List.getD_eq_getElem?_getD, List.getElem?_eq_getElem hk]
  exact h _ (List.getElem_mem hk)
theorem rs_map {p : Int} (hp : 0 < p) (n : Nat) (f : Nat → Int) : Rs p ((List.range n).map fun a => f a % p) := fun x hx => by
  obtain ⟨a, _, rfl⟩ := List.mem_map.mp hx
  exact ⟨Int.emod_nonneg _ (by omega), Int.emod_lt_of_pos _ hp⟩
theorem difs_len (p : Int) (l : List Int) : (difs p l).length = l.length - 1 := by unfold difs; rw [List.length_map, List.length_range]
theorem rs_difs {p : Int} (hp : 0 < p) (l : List Int) : Rs p (difs p l) := rs_map hp _ _
theorem hds_len (p : Int) : ∀ (n : Nat) (l : List Int), (hds p n l).length = n
  | 0, _ => rfl
  | n + 1, l => by
    show (hds p n (difs p l)).length + 1 = n + 1
    rw [hds_len p n]
theorem rs_hds {p : Int} (hp : 0 < p) : ∀ (n : Nat) (l : List Int), Rs p l → l.length = n → Rs p (hds p n l)
  | 0, _, _, _ => fun x hx => by cases hx
  | n + 1, l, h, hl => fun x hx => by
    rcases List.mem_cons.mp hx with rfl | hx
    · exact h.get (by omega)
    · exact rs_hds hp n (difs p l) (rs_difs hp l) (by rw [difs_len]; omega) x hx
theorem stp_len {p : Int} {ds : List Int} (h : ds ≠ []) : (stp p ds).length = ds.length := by
  have := List.length_pos_iff.mpr h
  unfold stp
  rw [List.length_append, List.length_map, List.length_range, List.length_drop]; omega
theorem rs_stp {p : Int} (hp : 0 < p) {ds : List Int} (h : Rs p ds) : Rs p (stp p ds) := fun x hx => by
  unfold stp at hx
  rcases List.mem_append.mp hx with hx | hx
  · exact rs_map hp _ _ x hx
  · exact h x (List.mem_of_mem_drop hx)
theorem outL_len (p : Int) : ∀ (m : Nat) (ds : List Int), (outL p m ds).length = m
  | 0, _ => rfl
  | m + 1, ds => by
    show (outL p m _).length + 1 = m + 1
    rw [outL_len p m]
theorem rs_outL {p : Int} (hp : 0 < p) : ∀ (m : Nat) (ds : List Int), ds ≠ [] → Rs p ds → Rs p (outL p m ds)
  | 0, _, _, _ => fun x hx => by cases hx
  | m + 1, ds, h0, h => fun x hx => by
    have hl := List.length_pos_iff.mpr h0
    rcases List.mem_cons.mp hx with rfl | hx
    · exact h.get hl
    · exact rs_outL hp m (stp p ds) (List.length_pos_iff.mp (by rw [stp_len h0]; exact hl)) (rs_stp hp h) x hx
theorem cod_len (p : Int) (row : List Int) (many : Nat) : (cod p row many).length = many := outL_len _ _ _
theorem hds_ne {p : Int} {row : List Int} (h : row ≠ []) : hds p row.length row ≠ [] := List.length_pos_iff.mp (by rw [hds_len]; exact List.length_pos_iff.mpr h)
theorem rs_cod {p : Int} (hp : 0 < p) {row : List Int} (h0 : row ≠ []) (h : Rs p row) (many : Nat) : Rs p (cod p row many) :=
  rs_outL hp many _ (hds_ne h0) (rs_hds hp _ _ h rfl)
theorem rs_val {p : Int} (hp : 0 < p) (n : Nat) (F : Nat → Int) : Rs p (val p n F) := rs_map hp n F
/-- a row spread to as many places as it has numbers is the row -/
theorem outL_self {p : Int} {R : Nat → Int} {n : Nat} : ∀ (m t : Nat) (ds : List Int), ds.length = n → t + m ≤ n → (∀ k, k + t < n → ds.getD k 0 = dl k R t % p) → outL p m ds = (List.range m).map fun j => R (t + j) % p
  | 0, t, ds, _, _, _ => rfl
  | m + 1, t, ds, hl, ht, h => by
    show ds.getD 0 0 :: outL p m (stp p ds) = _
    have h0 : ds ≠ [] := List.length_pos_iff.mp (by omega)
    rw [h 0 (by omega), List.range_succ_eq_map, List.map_cons, List.map_map, outL_self (n := n) m (t + 1) (stp p ds) (by rw [stp_len h0]; exact hl) (by omega)]
    · congr 1
      refine List.map_congr_left fun a _ => ?_
      show R (t + 1 + a) % p = R (t + (a + 1)) % p
      rw [Nat.add_assoc, Nat.add_comm 1 a]
    · intro k hk
      unfold stp
      rw [List.getD_eq_getElem?_getD, List.getElem?_append_left (by rw [List.length_map, List.length_range]; omega), List.getElem?_map, List.getElem?_range (by omega)]
      show (ds.getD k 0 + ds.getD (k + 1) 0) % p = _
      rw [h k (by omega), h (k + 1) (by omega), ← Int.add_emod]
      congr 1
      show dl k R t + (dl k R (t + 1) - dl k R t) = _
      omega
theorem row_val {p : Int} {row : List Int} (h : Rs p row) : row = val p row.length fun j => row.getD j 0 := by
  refine List.ext_getElem? fun i => ?_
  unfold val
  rw [List.getElem?_map]
  by_cases hi : i < row.length
  · rw [List.getElem?_range hi, List.getElem?_eq_getElem hi]
    have := h.get hi
    show some _ = some (row.getD i 0 % p)
    rw [Int.emod_eq_of_lt this.1 this.2, List.getD_eq_getElem?_getD, List.getElem?_eq_getElem hi]; rfl
  · rw [List.getElem?_eq_none (by omega), List.getElem?_eq_none (by rw [List.length_range]; omega)]; rfl
theorem cod_self {p : Int} {row : List Int} (h : Rs p row) : cod p row row.length = row := by
  unfold cod
  have e := row_val h
  have e2 : hds p row.length row = (List.range row.length).map fun k => dl (0 + k) (fun j => row.getD j 0) 0 % p := by
    conv => lhs; arg 3; rw [e]
    exact hds_val p _ row.length 0
  rw [outL_self (R := fun j => row.getD j 0) row.length 0 (hds p row.length row) (hds_len _ _ _) (by omega)]
  · conv => rhs; rw [e]
    unfold val
    refine List.map_congr_left fun a _ => ?_
    rw [Nat.zero_add]
  · intro k hk
    rw [e2, getD_map _ _ _ (by omega), Nat.zero_add]
end Pl

set_option Elab.async false
set_option linter.all false
set_option maxRecDepth 100000
set_option maxHeartbeats 4000000
/-! k75: primes as they are wanted, Lagrange's sums -/
namespace Pl
def U (p u : Int) : Prop := u ^ (p - 1).toNat % p = 1
structure GoodP (p : Int) : Prop where
  lo : 5 ≤ p
  hi : p ≤ 2305843009213693951
  odd : p % 2 = 1
  un : ∀ k : Nat, 1 ≤ k → k < 64 → (k : Int) < p → U p k
theorem one_mod {p : Int} (h : 5 ≤ p) : (1 : Int) % p = 1 := Int.emod_eq_of_lt (by decide) (by omega)
theorem U.mul {p a b : Int} (h : 5 ≤ p) (ha : U p a) (hb : U p b) : U p (a * b) := by
  unfold U at *
  rw [Int.mul_pow, Int.mul_emod, ha, hb]
  exact one_mod h
theorem U.one {p : Int} (h : 5 ≤ p) : U p 1 := by
  unfold U
  rw [Int.one_pow]; exact one_mod h
theorem neg_pow_even (u : Int) : ∀ m : Nat, (-u) ^ (2 * m) = u ^ (2 * m)
  | 0 => by rw [Nat.mul_zero, Int.pow_zero, Int.pow_zero]
  | m + 1 => by
    rw [show 2 * (m + 1) = 2 * m + 1 + 1 by omega, Int.pow_succ, Int.pow_succ, Int.pow_succ, Int.pow_succ, neg_pow_even u m, Int.mul_assoc, Int.mul_assoc, Int.neg_mul_neg]
theorem U.neg {p u : Int} (h : 5 ≤ p) (ho : p % 2 = 1) (hu : U p u) : U p (-u) := by
  unfold U at *
  obtain ⟨m, hm⟩ : ∃ m : Nat, (p - 1).toNat = 2 * m := ⟨(p - 1).toNat / 2, by omega⟩
  rw [hm] at hu ⊢
  rw [neg_pow_even]; exact hu
theorem GoodP.sub {p : Int} (g : GoodP p) {a b : Nat} (hne : a ≠ b) (ha : a < 64) (hb : b < 64) (hap : (a : Int) < p) (hbp : (b : Int) < p) : U p ((a : Int) - b) := by
  rcases Nat.lt_or_gt_of_ne hne with h | h
  · have := (g.un (b - a) (by omega) (by omega) (by omega)).neg g.lo g.odd
    rw [show -((b - a : Nat) : Int) = (a : Int) - b by omega] at this
    exact this
  · have := g.un (a - b) (by omega) (by omega) (by omega)
    rw [show ((a - b : Nat) : Int) = (a : Int) - b by omega] at this
    exact this
theorem U.pd {p : Int} (h : 5 ≤ p) {t : Int} : ∀ {cs : List Int}, (∀ c ∈ cs, U p (t - c)) → U p (pd cs t)
  | [], _ => U.one h
  | c :: cs, hc => (hc c List.mem_cons_self).mul h (U.pd h fun x hx => hc x (List.mem_cons_of_mem _ hx))
/-- a unit's multiple is 0 of 0 alone -/
theorem U.zero {p u c : Int} (h : 5 ≤ p) (hu : U p u) (hc : c * u % p = 0) : c % p = 0 := by
  unfold U at hu
  have e : (p - 1).toNat = (p - 2).toNat + 1 := by omega
  rw [e, Int.pow_succ] at hu
  have h1 : c * (u ^ (p - 2).toNat * u) % p = c % p := by
    rw [Int.mul_emod, hu, Int.mul_one, Int.emod_emod]
  have h2 : c * (u ^ (p - 2).toNat * u) = (c * u) * u ^ (p - 2).toNat := by
    rw [Int.mul_comm (u ^ _) u, Int.mul_assoc]
  rw [← h1, h2, Int.mul_emod, hc, Int.zero_mul]; rfl
/-! products modulo -/
def fm (p : Int) : Int → List Int → Int
  | x, [] => x
  | x, c :: cs => fm p (x * c % p) cs
theorem fm_app (p : Int) : ∀ (cs ds : List Int) (x : Int), fm p x (cs ++ ds) = fm p (fm p x cs) ds
  | [], _, _ => rfl
  | c :: cs, ds, x => fm_app p cs ds _
theorem mod_mul (a b p : Int) : a % p * b % p = a * b % p := by rw [Int.mul_emod, Int.emod_emod, ← Int.mul_emod]
theorem mul_mod (a b p : Int) : a * (b % p) % p = a * b % p := by rw [Int.mul_emod, Int.emod_emod, ← Int.mul_emod]
theorem mod_add (a b p : Int) : (a % p + b) % p = (a + b) % p := by rw [Int.add_emod, Int.emod_emod, ← Int.add_emod]
theorem add_mod (a b p : Int) : (a + b % p) % p = (a + b) % p := by rw [Int.add_emod, Int.emod_emod, ← Int.add_emod]
theorem pow_mod {a b p : Int} (h : a % p = b % p) : ∀ n : Nat, a ^ n % p = b ^ n % p
  | 0 => by rw [Int.pow_zero, Int.pow_zero]
  | n + 1 => by rw [Int.pow_succ, Int.pow_succ, Int.mul_emod, pow_mod h n, h, ← Int.mul_emod]
theorem fm_pd (p t : Int) : ∀ (cs : List Int) (x : Int), fm p x (cs.map fun c => t - c) % p = x * pd cs t % p
  | [], x => by show x % p = x * 1 % p; rw [Int.mul_one]
  | c :: cs, x => by
    show fm p (x * (t - c) % p) (cs.map fun c => t - c) % p = x * ((t - c) * pd cs t) % p
    rw [fm_pd p t cs, mod_mul, Int.mul_assoc]
theorem fm_range {p : Int} (hp : 0 < p) : ∀ (cs : List Int) (x : Int), 0 ≤ x ∧ x < p → 0 ≤ fm p x cs ∧ fm p x cs < p
  | [], x, h => h
  | c :: cs, x, h => fm_range hp cs _ ⟨Int.emod_nonneg _ (by omega), Int.emod_lt_of_pos _ hp⟩
/-! Lagrange -/
def oth (n h : Nat) : List Int := ((List.range n).filter fun k => k ≠ h).map fun k : Nat => (k : Int)
theorem oth_mem {n h k : Nat} (hk : k < n) (hne : k ≠ h) : (k : Int) ∈ oth n h := List.mem_map.mpr ⟨k, List.mem_filter.mpr ⟨List.mem_range.mpr hk, by simpa using hne⟩, rfl⟩
theorem mem_oth {n h : Nat} {c : Int} (hc : c ∈ oth n h) : ∃ k : Nat, k < n ∧ k ≠ h ∧ c = k := by
  obtain ⟨k, hk, rfl⟩ := List.mem_map.mp hc
  obtain ⟨h1, h2⟩ := List.mem_filter.mp hk
  exact ⟨k, List.mem_range.mp h1, by simpa using h2, rfl⟩
theorem filt_len (h : Nat) : ∀ n : Nat, ((List.range n).filter fun k => k ≠ h).length = if h < n then n - 1 else n
  | 0 => rfl
  | n + 1 => by
    rw [List.range_succ, List.filter_append, List.length_append, filt_len h n]
    by_cases h1 : h = n
    · subst h1
      simp
    · have e : [n].filter (fun k => decide (k ≠ h)) = [n] := by
        rw [List.filter_cons_of_pos (by simp; omega)]; rfl
      rw [e]
      by_cases h2 : h < n
      · rw [if_pos h2, if_pos (by omega)]; simp only [List.length_cons, List.length_nil]; omega
      · rw [if_neg h2, if_neg (by omega)]; rfl
theorem oth_len {n h : Nat} (hh : h < n) : (oth n h).length + 1 = n := by
  unfold oth
  rw [List.length_map, filt_len, if_pos hh]; omega
/-- what each place divides by, inverted -/
def share (p : Int) (n h : Nat) : Int := (fm p 1 ((oth n h).map fun c => (h : Int) - c)) ^ (p - 2).toNat % p
def shares (p : Int) (n : Nat) : List Int := (List.range n).map (share p n)
def lagS (row parts : List Int) (n : Nat) : List Nat → Nat → Int
  | [], _ => 0
  | h :: hs, t => row.getD h 0 * parts.getD h 0 * pd (oth n h) t + lagS row parts n hs t
theorem pol_lagS (row parts : List Int) (n : Nat) : ∀ hs : List Nat, (∀ h ∈ hs, h < n) → Pol n (lagS row parts n hs)
  | [], _ => Pol.zero n
  | h :: hs, H => by
    have e := pol_pd (oth n h)
    rw [oth_len (H h List.mem_cons_self)] at e
    exact (e.mul (row.getD h 0 * parts.getD h 0)).add (pol_lagS row parts n hs fun x hx => H x (List.mem_cons_of_mem _ hx))
theorem lagS_at (row parts : List Int) {n j : Nat} (hj : j < n) : ∀ hs : List Nat, hs.Nodup → lagS row parts n hs j = if j ∈ hs then row.getD j 0 * parts.getD j 0 * pd (oth n j) j else 0
  | [], _ => rfl
  | h :: hs, nd => by
    have nd' := List.nodup_cons.mp nd
    show row.getD h 0 * parts.getD h 0 * pd (oth n h) j + lagS row parts n hs j = _
    rw [lagS_at row parts hj hs nd'.2]
    by_cases e : j = h
    · subst e
      rw [if_neg nd'.1, if_pos List.mem_cons_self, Int.add_zero]
    · rw [pd_zero (oth_mem hj e), Int.mul_zero, Int.zero_add]
      by_cases h2 : j ∈ hs
      · rw [if_pos h2, if_pos (List.mem_cons_of_mem _ h2)]
      · rw [if_neg h2, if_neg (fun z => (List.mem_cons.mp z).elim e h2)]
abbrev lag (p : Int) (row : List Int) (n : Nat) : Nat → Int := lagS row (shares p n) n (List.range n)
theorem pol_lag (p : Int) (row : List Int) (n : Nat) : Pol n (lag p row n) := pol_lagS _ _ _ _ fun _ h => List.mem_range.mp h
theorem lag_at {p : Int} (g : GoodP p) {row : List Int} {n j : Nat} (hn : n ≤ 64) (hp : (n : Int) ≤ p) (hj : j < n) : lag p row n j % p = row.getD j 0 % p := by
  unfold lag
  rw [lagS_at _ _ hj _ List.nodup_range, if_pos (List.mem_range.mpr hj)]
  have hu : U p (pd (oth n j) j) := U.pd g.lo fun c hc => by
    obtain ⟨k, h1, h2, rfl⟩ := mem_oth hc
    exact g.sub (Ne.symm h2) (by omega) (by omega) (by omega) (by omega)
  have e1 : (shares p n).getD j 0 = share p n j := getD_map n j _ hj
  rw [e1]
  unfold share
  rw [Int.mul_assoc]
  have e2 : fm p 1 ((oth n j).map fun c => (j : Int) - c) % p = pd (oth n j) j % p := by rw [fm_pd, Int.one_mul]
  generalize fm p 1 ((oth n j).map fun c => (j : Int) - c) = w at *
  generalize pd (oth n j) (j : Int) = u at *
  have e3 : w ^ (p - 2).toNat * u % p = 1 := by
    unfold U at hu
    have := g.lo
    have e : (p - 1).toNat = (p - 2).toNat + 1 := by omega
    rw [e, Int.pow_succ] at hu
    rw [Int.mul_emod, pow_mod e2, ← Int.mul_emod, hu]
  have e4 : w ^ (p - 2).toNat % p * u % p = 1 := by rw [mod_mul, e3]
  rw [Int.mul_emod, mod_mul, e4, Int.mul_one]
theorem mod0 {n : Nat} {F : Nat → Int} (p : Int) (h : Pol n F) : ∀ t, dl n F t % p = 0 := fun t => by rw [h t]; exact Int.zero_emod p
/-- Lagrange's worths are what spreads -/
theorem cod_lag {p : Int} (g : GoodP p) {row : List Int} (hr : Rs p row) (h0 : row ≠ []) (hn : row.length ≤ 64) (hp : (row.length : Int) ≤ p) (many : Nat) : cod p row many = val p many (lag p row row.length) := by
  obtain ⟨n, hl⟩ : ∃ n, row.length = n + 1 := ⟨row.length - 1, by have := List.length_pos_iff.mpr h0; omega⟩
  have e : row = val p (n + 1) (lag p row row.length) := by
    conv => lhs; rw [row_val hr]
    rw [hl]
    unfold val
    refine List.map_congr_left fun a ha => ?_
    have := List.mem_range.mp ha
    rw [← hl, lag_at g (by omega) (by omega) (by omega)]
  conv => lhs; rw [e]
  exact cod_val (mod0 p (hl ▸ pol_lag p row row.length)) many
/-- a row that differs by a polynomial with roots -/
def rooted (p : Int) (row roots : List Int) (top : Int) : List Int := (List.range row.length).map fun a : Nat => (row.getD a 0 + fm p top (roots.map fun c => (a : Int) - c)) % p
theorem rooted_len (p : Int) (row roots : List Int) (top : Int) : (rooted p row roots top).length = row.length := by unfold rooted; rw [List.length_map, List.length_range]
theorem rooted_eq {p : Int} (g : GoodP p) {row roots : List Int} {top : Int} (hn : row.length ≤ 64) (hp : (row.length : Int) ≤ p) : rooted p row roots top = val p row.length fun t => lag p row row.length t + top * pd roots t := by
  unfold rooted val
  refine List.map_congr_left fun a ha => ?_
  have := List.mem_range.mp ha
  rw [← add_mod, fm_pd, add_mod, ← mod_add (lag p row row.length a), lag_at g hn hp this, mod_add]
theorem cod_rooted {p : Int} (g : GoodP p) {row roots : List Int} {top : Int} (h0 : row ≠ []) (hn : row.length ≤ 64) (hp : (row.length : Int) ≤ p) (hl : roots.length + 1 = row.length) (many : Nat) : cod p (rooted p row roots top) many = val p many fun t => lag p row row.length t + top * pd roots t := by
  rw [rooted_eq g hn hp]
  have := List.length_pos_iff.mpr h0
  have hpol : Pol row.length fun t : Nat => lag p row row.length t + top * pd roots t := (pol_lag p row row.length).add (Pol.mul top (hl ▸ pol_pd roots))
  generalize row.length = n at *
  obtain ⟨n, rfl⟩ : ∃ m, n = m + 1 := ⟨n - 1, by omega⟩
  exact cod_val (mod0 p hpol) many
/-- the places at which the two are alike -/
theorem alike {p : Int} (g : GoodP p) {row roots : List Int} {top : Int} {t many : Nat} (ht : t < many) (hm : many ≤ 64) (hmp : (many : Int) ≤ p) (hr : ∀ c ∈ roots, ∃ k : Nat, k < many ∧ c = k) (h1 : 1 ≤ top) (h2 : top < p) :
    (lag p row row.length t % p = (lag p row row.length t + top * pd roots t) % p) ↔ (t : Int) ∈ roots := by
  have key : (lag p row row.length t % p = (lag p row row.length t + top * pd roots t) % p) ↔ top * pd roots t % p = 0 := by
    generalize lag p row row.length t = A
    generalize top * pd roots t = B
    constructor
    · intro h
      have h3 := Int.emod_emod_of_dvd (A + B - A) (Int.dvd_refl p)
      have h4 : (A + B - A) % p = ((A + B) % p - A % p) % p := Int.sub_emod _ _ _
      rw [← h, Int.sub_self, Int.zero_emod] at h4
      rw [show B = A + B - A by omega]; exact h4
    · intro h
      rw [← add_mod, h, Int.add_zero]
  rw [key]
  constructor
  · intro h
    rcases Decidable.em ((t : Int) ∈ roots) with hm' | hm'
    · exact hm'
    · have hu : U p (pd roots t) := U.pd g.lo fun c hc => by
        obtain ⟨k, hk, rfl⟩ := hr c hc
        exact g.sub (fun e => hm' (e ▸ hc)) (by omega) (by omega) (by omega) (by omega)
      have := hu.zero g.lo h
      rw [Int.emod_eq_of_lt (by omega) h2] at this
      omega
  · intro h
    rw [pd_zero h, Int.mul_zero, Int.zero_emod]
/-- sums of rows -/
theorem val_get2 {p : Int} {n k : Nat} {F : Nat → Int} (h : k < n) : (val p n F).getD k 0 = F k % p := val_get h
theorem cod_sum {p : Int} {n : Nat} {F G : Nat → Int} (hF : Pol (n + 1) F) (hG : Pol (n + 1) G) (l r : Int) (many : Nat) :
    cod p ((List.range (n + 1)).map fun a => (l * (F a % p) + r * (G a % p)) % p) many = (List.range many).map fun a => (l * (F a % p) + r * (G a % p)) % p := by
  have e : ∀ m, ((List.range m).map fun a => (l * (F a % p) + r * (G a % p)) % p) = val p m fun t => l * F t + r * G t := fun m => by
    unfold val
    refine List.map_congr_left fun a _ => ?_
    rw [Int.add_emod, mul_mod, mul_mod, ← Int.add_emod]
  rw [e, e]
  exact cod_val (mod0 p ((hF.mul l).add (hG.mul r))) many
end Pl

set_option Elab.async false
set_option linter.all false
set_option maxRecDepth 100000
set_option maxHeartbeats 4000000
/-! k75: the primes that are drawn -/
namespace Pl
def smallP : List Nat := [2, 3, 5, 7, 11, 13, 17, 19, 23, 29, 31, 37, 41, 43, 47, 53, 59, 61]
theorem small_div : ∀ k, k < 64 → 2 ≤ k → ∃ a ∈ smallP, a ∣ k := by decide
theorem good_of {p : Nat} (h1 : 5 ≤ p) (h2 : p ≤ 2305843009213693951) (h3 : p % 2 = 1) (h4 : ∀ a ∈ smallP, a < p → a ^ (p - 1) % p = 1) : GoodP p where
  lo := by omega
  hi := by omega
  odd := by omega
  un := by
    intro k
    induction k using Nat.strongRecOn with
    | _ k ih =>
      intro hk hk2 hkp
      by_cases e : k = 1
      · subst e; exact U.one (by omega)
      · obtain ⟨a, ha, b, hb⟩ := small_div k hk2 (by omega)
        have hap : 2 ≤ a ∧ a < 64 := by
          have : ∀ a ∈ smallP, 2 ≤ a ∧ a < 64 := by decide
          exact this a ha
        have hb0 : b ≠ 0 := fun z => by subst z; omega
        have hak : a ≤ k := Nat.le_of_dvd (by omega) ⟨b, hb⟩
        have hbk : b < k := by
          rw [hb]
          calc b = 1 * b := (Nat.one_mul b).symm
            _ < a * b := Nat.mul_lt_mul_of_pos_right (by omega) (by omega)
        have ub := ih b hbk (by omega) (by omega) (by omega)
        have ua : U (p : Int) (a : Int) := by
          unfold U
          have := h4 a ha (by omega)
          rw [show ((p : Int) - 1).toNat = p - 1 by omega, ← Int.natCast_pow, ← Int.natCast_emod, this]; rfl
        rw [hb, Int.natCast_mul]
        exact ua.mul (by omega) ub
def anyP (q : Nat) : Bool := (List.range 98).any fun j => Nat.ble ((j + 2) * (j + 2)) q && Nat.beq (q % (j + 2)) 0
def unitsB (q : Nat) : Bool := Nat.beq (q % 2) 1 && smallP.all fun k => Nat.ble q k || Nat.beq (k ^ (q - 1) % q) 1
def chk (q : Nat) : Bool := anyP q || unitsB q
def allB (f : Nat → Bool) : Nat → Nat → Bool
  | _, 0 => true
  | a, n + 1 => f (a + n) && allB f a n
theorem allB_get {f : Nat → Bool} : ∀ {a n : Nat}, allB f a n = true → ∀ i, i < n → f (a + i) = true
  | a, n + 1, h, i, hi => by
    have h : (f (a + n) && allB f a n) = true := h
    rw [Bool.and_eq_true] at h
    by_cases e : i = n
    · subst e; exact h.1
    · exact allB_get h.2 i (by omega)
theorem chk0 : allB chk 5 1000 = true := by decide +kernel
theorem chk1 : allB chk 1005 1000 = true := by decide +kernel
theorem chk2 : allB chk 2005 1000 = true := by decide +kernel
theorem chk3 : allB chk 3005 1000 = true := by decide +kernel
theorem chk4 : allB chk 4005 1000 = true := by decide +kernel
theorem chk5 : allB chk 5005 1000 = true := by decide +kernel
theorem chk6 : allB chk 6005 1000 = true := by decide +kernel
theorem chk7 : allB chk 7005 1000 = true := by decide +kernel
theorem chk8 : allB chk 8005 1000 = true := by decide +kernel
theorem chk9 : allB chk 9005 100 = true := by decide +kernel
theorem chk_all {q : Nat} (h1 : 5 ≤ q) (h2 : q < 9105) : chk q = true := by
  have go : ∀ a n, allB chk a n = true → a ≤ q → q < a + n → chk q = true := fun a n h ha hn => by
    have := allB_get h (q - a) (by omega)
    rw [show a + (q - a) = q by omega] at this
    exact this
  by_cases a1 : q < 1005
  · exact go 5 1000 chk0 h1 (by omega)
  by_cases a2 : q < 2005
  · exact go 1005 1000 chk1 (by omega) (by omega)
  by_cases a3 : q < 3005
  · exact go 2005 1000 chk2 (by omega) (by omega)
  by_cases a4 : q < 4005
  · exact go 3005 1000 chk3 (by omega) (by omega)
  by_cases a5 : q < 5005
  · exact go 4005 1000 chk4 (by omega) (by omega)
  by_cases a6 : q < 6005
  · exact go 5005 1000 chk5 (by omega) (by omega)
  by_cases a7 : q < 7005
  · exact go 6005 1000 chk6 (by omega) (by omega)
  by_cases a8 : q < 8005
  · exact go 7005 1000 chk7 (by omega) (by omega)
  by_cases a9 : q < 9005
  · exact go 8005 1000 chk8 (by omega) (by omega)
  · exact go 9005 100 chk9 (by omega) (by omega)
theorem near_good {q : Nat} (h1 : 5 ≤ q) (h2 : q < 9105) (h : ∀ k : Nat, 2 ≤ k → k < 100 → ¬ (k * k ≤ q ∧ q % k = 0)) : GoodP q := by
  have hc := chk_all h1 h2
  unfold chk at hc
  rw [Bool.or_eq_true] at hc
  rcases hc with hc | hc
  · exfalso
    unfold anyP at hc
    obtain ⟨j, hj, hc⟩ := List.any_eq_true.mp hc
    rw [Bool.and_eq_true] at hc
    exact h (j + 2) (by omega) (by have := List.mem_range.mp hj; omega) ⟨Nat.le_of_ble_eq_true hc.1, Nat.eq_of_beq_eq_true hc.2⟩
  · unfold unitsB at hc
    rw [Bool.and_eq_true] at hc
    refine good_of h1 (by omega) (Nat.eq_of_beq_eq_true hc.1) fun a ha hap => ?_
    have := List.all_eq_true.mp hc.2 a ha
    rw [Bool.or_eq_true] at this
    rcases this with this | this
    · have := Nat.le_of_ble_eq_true this; omega
    · exact Nat.eq_of_beq_eq_true this
/-- fast powers -/
def mpw (p : Nat) : Nat → Nat → Nat → Nat → Nat
  | 0, f, _, _ => f
  | n + 1, f, s, l => mpw p n (bif Nat.beq (l % 2) 1 then f * s % p else f) (s * s % p) (l / 2)
theorem mpw_ok (p : Nat) : ∀ (n f s l : Nat), l < 2 ^ n → mpw p n f s l % p = f * s ^ l % p
  | 0, f, s, l, h => by
    have : l = 0 := by omega
    subst this
    show f % p = f * s ^ 0 % p
    rw [Nat.pow_zero, Nat.mul_one]
  | n + 1, f, s, l, h => by
    show mpw p n _ _ _ % p = _
    rw [mpw_ok p n _ _ _ (by rw [Nat.pow_succ] at h; omega)]
    have e : s ^ l = (s * s) ^ (l / 2) * s ^ (l % 2) := by
      conv => lhs; rw [show l = 2 * (l / 2) + l % 2 by omega]
      rw [Nat.pow_add, Nat.pow_mul, Nat.pow_two]
    rw [e, Nat.mul_mod, Nat.pow_mod (s * s % p), Nat.mod_mod, ← Nat.pow_mod]
    rcases Nat.mod_two_eq_zero_or_one l with h2 | h2
    · rw [h2]
      show (f % p) * ((s * s) ^ (l / 2) % p) % p = _
      rw [← Nat.mul_mod, Nat.pow_zero, Nat.mul_one]
    · rw [h2]
      show (f * s % p % p) * ((s * s) ^ (l / 2) % p) % p = _
      rw [Nat.mod_mod, ← Nat.mul_mod, Nat.pow_one, Nat.mul_assoc, Nat.mul_comm s]
def bigB (p : Nat) : Bool := Nat.ble 100 p && Nat.ble p 2305843009213693951 && Nat.beq (p % 2) 1 && smallP.all fun k => Nat.beq (mpw p 64 1 k (p - 1) % p) 1
theorem big_good {p : Nat} (h : bigB p = true) : GoodP p := by
  unfold bigB at h
  simp only [Bool.and_eq_true] at h
  obtain ⟨⟨⟨h1, h2⟩, h3⟩, h4⟩ := h
  have h1 := Nat.le_of_ble_eq_true h1
  have h2 := Nat.le_of_ble_eq_true h2
  refine good_of (by omega) h2 (Nat.eq_of_beq_eq_true h3) fun a ha _ => ?_
  have := Nat.eq_of_beq_eq_true (List.all_eq_true.mp h4 a ha)
  rw [mpw_ok p 64 1 a (p - 1) (by omega), Nat.one_mul] at this
  exact this
theorem b1 : bigB 2305843009213693951 = true := by decide +kernel
theorem b2 : bigB 2147483647 = true := by decide +kernel
theorem b3 : bigB 4294967291 = true := by decide +kernel
theorem b4 : bigB 998244353 = true := by decide +kernel
theorem b5 : bigB 1000000007 = true := by decide +kernel
theorem b6 : bigB 1945555039024054273 = true := by decide +kernel
theorem b7 : bigB 65537 = true := by decide +kernel
end Pl

set_option Elab.async false
set_option linter.all false
set_option maxRecDepth 100000
set_option maxHeartbeats 4000000
/-! lists of ints; the code's words (k75) -/
namespace Ca
open Z Nu Dq Pl
open L2 (atI ixN)
/-! ranges -/
theorem W_lcR {own : List Nat} {tg : D → Ga → Option Ga} {e : Act R} {Γ : Ga} {Q : List D → Ga → Prop} {n : Nat} (f : Nat → D) (hb : n ≤ 16777216)
    (hs : ∀ i : Nat, i < n → wD (tg (.int i) Γ) fun Γ1 => W e Γ1 fun r Γ3 => wO (mv Γ3 r) fun y' Γ4 => y' = f i ∧ plains own Γ4 = true ∧ wipeΓ own Γ4 = Γ) (hQ : Q ((List.range n).map f) Γ) :
    wO (lcL own tg aYes e ((List.range n).map fun k => D.int (0 + (k : Nat))) Γ []) Q := by
  refine W_lcMap ((List.range n).map f) (by rw [List.length_map, List.length_map]) (by rw [List.length_map, List.length_range]; exact hb) ?_ hQ
  intro i d y hd hy
  have hi : i < n := by
    rcases Nat.lt_or_ge i n with h | h
    · exact h
    · rw [List.getElem?_eq_none (by rw [List.length_map, List.length_range]; exact h)] at hd; cases hd
  rw [List.getElem?_map, List.getElem?_range hi] at hd hy
  cases hd
  cases hy
  show wD (tg (D.int (0 + (i : Int))) Γ) _
  rw [Int.zero_add]
  exact hs i hi
theorem W_forR {ws : List Nat} {tg : D → Ga → Option Ga} {b : ActS} {Γ : Ga} {Q : Fl → Ga → Prop} {n : Nat} (I : Nat → Ga → Prop) (h0 : I 0 Γ)
    (hs : ∀ (i : Nat) (Γ : Ga), i < n → I i Γ → wD (tg (.int i) Γ) fun Γ1 => W b Γ1 fun fl Γ2 => match fl with
      | .nx => I (i + 1) (forget ws Γ2)
      | .ct => I (i + 1) (forget ws Γ2)
      | .bk => Q .nx Γ2
      | .rt r => Q (.rt r) Γ2) (hd : ∀ Γ, I n Γ → Q .nx Γ) : W (forL ws tg b ((List.range n).map fun k => D.int (0 + (k : Nat)))) Γ Q := by
  refine W_forL I h0 ?_ (fun Γ h => hd Γ (by rw [List.length_map, List.length_range] at h; exact h))
  intro i d Γ hd hI
  have hi : i < n := by
    rcases Nat.lt_or_ge i n with h | h
    · exact h
    · rw [List.getElem?_eq_none (by rw [List.length_map, List.length_range]; exact h)] at hd; cases hd
  rw [List.getElem?_map, List.getElem?_range hi] at hd
  cases hd
  show wD (tg (D.int (0 + (i : Int))) Γ) _
  rw [Int.zero_add]
  exact hs i Γ hi hI
theorem zi_range (n : Nat) (g : Nat → Int) : (List.range n).map (fun i => D.int (g i)) = zi ((List.range n).map g) := List.map_map.symm
theorem zl (l : List Int) : (zi l).length = l.length := List.length_map _
/-! equality of lists of ints -/
theorem pys_z : ∀ a : List Int, D.pys (zi a) = a.map fun x => PySem.PyData.int x
  | [] => rfl
  | x :: a => by
    show D.py (D.int x) :: D.pys (zi a) = _ :: _
    rw [pys_z a]; rfl
theorem eqv_z : ∀ a b : List Int, PySem.PyData.eqvAll (a.map fun x => PySem.PyData.int x) (b.map fun x => PySem.PyData.int x) = decide (a = b)
  | [], [] => rfl
  | [], _ :: _ => rfl
  | _ :: _, [] => rfl
  | x :: a, y :: b => by
    show ((x == y) && PySem.PyData.eqvAll (a.map fun x => PySem.PyData.int x) (b.map fun x => PySem.PyData.int x)) = _
    rw [eqv_z a b]
    by_cases h1 : x = y
    · subst h1
      by_cases h2 : a = b
      · subst h2; simp
      · simp [h2]
    · have : (x == y) = false := by rw [beq_eq_false_iff_ne]; exact h1
      rw [this]; simp [h1]
theorem lyz : ∀ a : List Int, PySem.PyData.canLayAll0 (a.map fun x => PySem.PyData.int x) = true
  | [] => rfl
  | x :: a => by
    show (true && PySem.PyData.canLayAll0 (a.map fun x => PySem.PyData.int x)) = true
    rw [lyz a]; rfl
theorem dep_z : ∀ a : List Int, PySem.PyData.depthAll (a.map fun x => PySem.PyData.int x) = 0
  | [] => rfl
  | x :: a => by
    show max 0 (PySem.PyData.depthAll (a.map fun x => PySem.PyData.int x)) = 0
    rw [dep_z a]; rfl
theorem sh_t (a : List Int) : PySem.SeqAt.shaped (D.tup (zi a)).py = true := by
  show (PySem.PyData.canLayAll0 (D.pys (zi a)) && decide (PySem.PyData.depthAll (D.pys (zi a)) + 1 ≤ 64)) = true
  rw [pys_z, lyz, dep_z]; rfl
theorem sh_l (a : List Int) : PySem.SeqAt.shaped (D.lst (zi a)).py = true := by
  show (PySem.PyData.canLayAll0 (D.pys (zi a)) && decide (PySem.PyData.depthAll (D.pys (zi a)) + 1 ≤ 64)) = true
  rw [pys_z, lyz, dep_z]; rfl
theorem eqB_t (a b : List Int) : eqB (.tup (zi a)) (.tup (zi b)) = some (decide (a = b)) := by
  show (if _ ∧ _ then some (PySem.PyData.eqvAll (D.pys (zi a)) (D.pys (zi b))) else none) = _
  rw [if_pos ⟨sh_t a, sh_t b⟩, pys_z, pys_z, eqv_z]
theorem eqB_l (a b : List Int) : eqB (.lst (zi a)) (.lst (zi b)) = some (decide (a = b)) := by
  show (if _ ∧ _ then some (PySem.PyData.eqvAll (D.pys (zi a)) (D.pys (zi b))) else none) = _
  rw [if_pos ⟨sh_l a, sh_l b⟩, pys_z, pys_z, eqv_z]
theorem eqP_zt (a b : List Int) : eqP (.tup (zi a)) (.tup (zi b)) = some (.v (.bl (decide (a = b)))) := by unfold eqP; rw [eqB_t]
theorem eqP_zl (a b : List Int) : eqP (.lst (zi a)) (.lst (zi b)) = some (.v (.bl (decide (a = b)))) := by unfold eqP; rw [eqB_l]
theorem neP_zt (a b : List Int) : neP (.tup (zi a)) (.tup (zi b)) = some (.v (.bl (!decide (a = b)))) := by unfold neP; rw [eqB_t]
theorem neP_zl (a b : List Int) : neP (.lst (zi a)) (.lst (zi b)) = some (.v (.bl (!decide (a = b)))) := by unfold neP; rw [eqB_l]
theorem neP_z0 (a : List Int) : neP (.lst (zi a)) (.lst []) = some (.v (.bl (!decide (a = [])))) := neP_zl a []
/-- _law_any, by deal[0] != [] -/
def tAnyB : Z.St := (.next (.whl [] (.and (.cmp .ne (.ix (.var 0) (.lit (.int 0))) (.lst .nil)) (.cmp .eq (.ix (.ix (.var 0) (.lit (.int 0))) (.neg (.lit (.int 1)))) (.lit (.int 0))))
 (.next (.drop (.pop (.ix (.var 0) (.lit (.int 0)))))
 .nil))
 (.next (.iff (.cmp .ne (.ix (.var 0) (.lit (.int 0))) (.lst .nil))
 (.next (.asg false 2 (.blt .int (.cons (.pop (.ix (.var 0) (.lit (.int 0)))) .nil)))
 (.next (.drop (.app (.ix (.var 0) (.lit (.int 0))) (.cons (.bin .div (.var 2) (.var 1)) .nil)))
 (.next (.ret (.bin .mod (.var 2) (.var 1)))
 .nil)))
 .nil)
 (.next (.sub (.var 0) (.lit (.int 1)) (.bin .mod (.blt .int (.cons (.bin .add (.bin .mul (.ix (.var 0) (.lit (.int 1))) (.lit (.int 48271))) (.lit (.int 31))) .nil)) (.lit (.int 2147483647))))
 (.next (.ret (.bin .mod (.blt .int (.cons (.bin .div (.ix (.var 0) (.lit (.int 1))) (.lit (.int 64))) .nil)) (.var 1)))
 .nil))))
theorem anyB_ok (cal) : AnyOk (runF cal 3 tAnyB) := by
  intro cs m b hl h0 hb
  refine runF_W ?_
  simp -implicitDefEqProofs only [tAnyB, inΓ, dlO, List.map_cons, List.map_nil, List.nil_append, List.cons_append, List.replicate, Nat.reduceSub, sv, ev, CO.p, BO.p, BO.ap, tv, isNop, if_true, if_false, Bool.false_eq_true, reduceIte,
  W_then, W_asg, W_disp, W_nil, W_cons, W_consA, W_consI, W_var, W_val, W_bin, W_chn, W_ix, W_un, W_optN, W_optS, W_sl, W_deal, W_blt, W_isi, W_lrg, W_call, W_prm, W_ite, W_T, W_B, W_not, W_and, W_or, W_seq, W_rng, W_app, W_pop, W_popAt, oneI_i, oneL_l, W_nx, W_drop, W_pure, W_ret, W_if, W_par, W_unp, W_sub, W_yes, W_for, W_aug', W_lc,
  wO_some, wD_some, wD_if, rdO_dat, rdO_own, rdO_deal, mv_val, mv_new, mv_at, mvO_dat, mvO_own, dr_val, dr_new, dr_at, drO_dat, drO_own, dr_at1, dr1_deal, mvA_val, mvA_new, mvA_at, mvAO_dat, mvAO_own, mvAO_deal, toItm_f, itmO_some, toItm_n, toItm_q,
  isDeal_none, isDeal_dat, isDeal_own, isDeal_deal, lstR_at, lstR_at1, lstO_own, lstO_deal, items_at, items_at1, itO_own, it1_deal, putR_at, putR_at1, putO_deal, PR_v, PR_t, PR_l, Rt_d, Rt_q, rtO_some, retR_val, retR_new, retR_newD, retR_at, exitD_none, exitD_some, dealO_deal, intO_int, toB_bl, newO_new, valO_val, thW_nx, thW_bk, thW_ct, thW_rt,
  callW_d, callW_nil, callW_ref, refW_deal, augW_dat, exV, ex1, exI, addP_i, addP_l, addP_t, addI_i, subP_i, mulP_i, mulP_0, divP_i, modP_i, powP_i, cmpP_i, eqP_i, neP_i, isP_nn, isP_in, isP_tn, isP_bn, isnP_nn, isnP_in, isnP_tn, isP_nb, isP_ib, isP_tb, isP_bb, len_l, len_t, int_i, abs_i, tup_l, tup_t, lst_l, lst_t, min_i, max_i, rev_l, neg_i, sum_l, slP_t, slP_l,
  ixP_t, ixP_l, ixR_v, ixR_n, ixR_a, ixW_own, ixW_deal0, ixW_deal1, ixR_1, itemsD_l, itemsD_t, rangeP1, rangeP2, plains, plainO_none, plainO_dat, datO_none, datO_dat, setAll_nil, setAll_cons, setAW_some, setT_t,
  stR_at, stO_deal, setI, setIs, Itm.o, setD, forget_nil, forget_cons, fgO_none, fgO_dat, fgO_own, fgO_deal, wipeΓ, backΓ, argD, drs, List.all_cons, List.all_nil, Bool.and_true, List.getElem?_cons_zero, List.getElem?_cons_succ, List.set_cons_zero, List.set_cons_succ, List.length_cons, List.length_nil, Nat.zero_add, Nat.reduceAdd, Nat.reduceLeDiff, true_and, and_true, decide_eq_true_eq]
  refine W_wh (fun n Γ => ∃ cs : List Int, n = cs.length ∧ n ≤ 63 ∧ Γ = [some (.deal (zi cs) (.int m)), some (.dat (.int b)), none]) (m := cs.length) ⟨cs, rfl, hl, rfl⟩ ?_
  rintro n Γ ⟨cs, rfl, hl, rfl⟩
  simp -implicitDefEqProofs only [neP_z0, sv, ev, CO.p, BO.p, BO.ap, tv, isNop, if_true, if_false, Bool.false_eq_true, reduceIte,
  W_then, W_asg, W_disp, W_nil, W_cons, W_consA, W_consI, W_var, W_val, W_bin, W_chn, W_ix, W_un, W_optN, W_optS, W_sl, W_deal, W_blt, W_isi, W_lrg, W_call, W_prm, W_ite, W_T, W_B, W_not, W_and, W_or, W_seq, W_rng, W_app, W_pop, W_popAt, oneI_i, oneL_l, W_nx, W_drop, W_pure, W_ret, W_if, W_par, W_unp, W_sub, W_yes, W_for, W_aug', W_lc,
  wO_some, wD_some, wD_if, rdO_dat, rdO_own, rdO_deal, mv_val, mv_new, mv_at, mvO_dat, mvO_own, dr_val, dr_new, dr_at, drO_dat, drO_own, dr_at1, dr1_deal, mvA_val, mvA_new, mvA_at, mvAO_dat, mvAO_own, mvAO_deal, toItm_f, itmO_some, toItm_n, toItm_q,
  isDeal_none, isDeal_dat, isDeal_own, isDeal_deal, lstR_at, lstR_at1, lstO_own, lstO_deal, items_at, items_at1, itO_own, it1_deal, putR_at, putR_at1, putO_deal, PR_v, PR_t, PR_l, Rt_d, Rt_q, rtO_some, retR_val, retR_new, retR_newD, retR_at, exitD_none, exitD_some, dealO_deal, intO_int, toB_bl, newO_new, valO_val, thW_nx, thW_bk, thW_ct, thW_rt,
  callW_d, callW_nil, callW_ref, refW_deal, augW_dat, exV, ex1, exI, addP_i, addP_l, addP_t, addI_i, subP_i, mulP_i, mulP_0, divP_i, modP_i, powP_i, cmpP_i, eqP_i, neP_i, isP_nn, isP_in, isP_tn, isP_bn, isnP_nn, isnP_in, isnP_tn, isP_nb, isP_ib, isP_tb, isP_bb, len_l, len_t, int_i, abs_i, tup_l, tup_t, lst_l, lst_t, min_i, max_i, rev_l, neg_i, sum_l, slP_t, slP_l,
  ixP_t, ixP_l, ixR_v, ixR_n, ixR_a, ixW_own, ixW_deal0, ixW_deal1, ixR_1, itemsD_l, itemsD_t, rangeP1, rangeP2, plains, plainO_none, plainO_dat, datO_none, datO_dat, setAll_nil, setAll_cons, setAW_some, setT_t,
  stR_at, stO_deal, setI, setIs, Itm.o, setD, forget_nil, forget_cons, fgO_none, fgO_dat, fgO_own, fgO_deal, wipeΓ, backΓ, argD, drs, List.all_cons, List.all_nil, Bool.and_true, List.getElem?_cons_zero, List.getElem?_cons_succ, List.set_cons_zero, List.set_cons_succ, List.length_cons, List.length_nil, Nat.zero_add, Nat.reduceAdd, Nat.reduceLeDiff, true_and, and_true, decide_eq_true_eq]
  have len : (zi cs).length = cs.length := List.length_map _
  by_cases hc : cs = []
  · subst hc
    rw [if_neg (by simp), if_neg (by simp)]
    refine ⟨.inr (.inl ⟨by decide, by decide⟩), by decide, ?_⟩
    refine ⟨by decide, h0, ?_⟩
    have h1 := Int.emod_nonneg ((m * 48271 + 31) % 2147483647 / 64) (Int.ne_of_gt h0)
    have h2 := Int.emod_lt_of_pos ((m * 48271 + 31) % 2147483647 / 64) h0
    exact ⟨((m * 48271 + 31) % 2147483647 / 64 % b).toNat, [], _, by rw [Int.toNat_of_nonneg h1], by rw [Int.toNat_of_nonneg h1]; exact h2, rfl, by decide⟩
  · have hp := List.length_pos_iff.mpr hc
    rw [if_pos (by simp [hc]), if_pos (by simp [hc]), atI_m1 hc]
    simp -implicitDefEqProofs only [sv, ev, CO.p, BO.p, BO.ap, tv, isNop, if_true, if_false, Bool.false_eq_true, reduceIte,
  W_then, W_asg, W_disp, W_nil, W_cons, W_consA, W_consI, W_var, W_val, W_bin, W_chn, W_ix, W_un, W_optN, W_optS, W_sl, W_deal, W_blt, W_isi, W_lrg, W_call, W_prm, W_ite, W_T, W_B, W_not, W_and, W_or, W_seq, W_rng, W_app, W_pop, W_popAt, oneI_i, oneL_l, W_nx, W_drop, W_pure, W_ret, W_if, W_par, W_unp, W_sub, W_yes, W_for, W_aug', W_lc,
  wO_some, wD_some, wD_if, rdO_dat, rdO_own, rdO_deal, mv_val, mv_new, mv_at, mvO_dat, mvO_own, dr_val, dr_new, dr_at, drO_dat, drO_own, dr_at1, dr1_deal, mvA_val, mvA_new, mvA_at, mvAO_dat, mvAO_own, mvAO_deal, toItm_f, itmO_some, toItm_n, toItm_q,
  isDeal_none, isDeal_dat, isDeal_own, isDeal_deal, lstR_at, lstR_at1, lstO_own, lstO_deal, items_at, items_at1, itO_own, it1_deal, putR_at, putR_at1, putO_deal, PR_v, PR_t, PR_l, Rt_d, Rt_q, rtO_some, retR_val, retR_new, retR_newD, retR_at, exitD_none, exitD_some, dealO_deal, intO_int, toB_bl, newO_new, valO_val, thW_nx, thW_bk, thW_ct, thW_rt,
  callW_d, callW_nil, callW_ref, refW_deal, augW_dat, exV, ex1, exI, addP_i, addP_l, addP_t, addI_i, subP_i, mulP_i, mulP_0, divP_i, modP_i, powP_i, cmpP_i, eqP_i, neP_i, isP_nn, isP_in, isP_tn, isP_bn, isnP_nn, isnP_in, isnP_tn, isP_nb, isP_ib, isP_tb, isP_bb, len_l, len_t, int_i, abs_i, tup_l, tup_t, lst_l, lst_t, min_i, max_i, rev_l, neg_i, sum_l, slP_t, slP_l,
  ixP_t, ixP_l, ixR_v, ixR_n, ixR_a, ixW_own, ixW_deal0, ixW_deal1, ixR_1, itemsD_l, itemsD_t, rangeP1, rangeP2, plains, plainO_none, plainO_dat, datO_none, datO_dat, setAll_nil, setAll_cons, setAW_some, setT_t,
  stR_at, stO_deal, setI, setIs, Itm.o, setD, forget_nil, forget_cons, fgO_none, fgO_dat, fgO_own, fgO_deal, wipeΓ, backΓ, argD, drs, List.all_cons, List.all_nil, Bool.and_true, List.getElem?_cons_zero, List.getElem?_cons_succ, List.set_cons_zero, List.set_cons_succ, List.length_cons, List.length_nil, Nat.zero_add, Nat.reduceAdd, Nat.reduceLeDiff, true_and, and_true, decide_eq_true_eq]
    have gl := get_last hc
    rw [len] at gl
    rw [len, gl]
    split
    · simp -implicitDefEqProofs only [sv, ev, CO.p, BO.p, BO.ap, tv, isNop, if_true, if_false, Bool.false_eq_true, reduceIte,
  W_then, W_asg, W_disp, W_nil, W_cons, W_consA, W_consI, W_var, W_val, W_bin, W_chn, W_ix, W_un, W_optN, W_optS, W_sl, W_deal, W_blt, W_isi, W_lrg, W_call, W_prm, W_ite, W_T, W_B, W_not, W_and, W_or, W_seq, W_rng, W_app, W_pop, W_popAt, oneI_i, oneL_l, W_nx, W_drop, W_pure, W_ret, W_if, W_par, W_unp, W_sub, W_yes, W_for, W_aug', W_lc,
  wO_some, wD_some, wD_if, rdO_dat, rdO_own, rdO_deal, mv_val, mv_new, mv_at, mvO_dat, mvO_own, dr_val, dr_new, dr_at, drO_dat, drO_own, dr_at1, dr1_deal, mvA_val, mvA_new, mvA_at, mvAO_dat, mvAO_own, mvAO_deal, toItm_f, itmO_some, toItm_n, toItm_q,
  isDeal_none, isDeal_dat, isDeal_own, isDeal_deal, lstR_at, lstR_at1, lstO_own, lstO_deal, items_at, items_at1, itO_own, it1_deal, putR_at, putR_at1, putO_deal, PR_v, PR_t, PR_l, Rt_d, Rt_q, rtO_some, retR_val, retR_new, retR_newD, retR_at, exitD_none, exitD_some, dealO_deal, intO_int, toB_bl, newO_new, valO_val, thW_nx, thW_bk, thW_ct, thW_rt,
  callW_d, callW_nil, callW_ref, refW_deal, augW_dat, exV, ex1, exI, addP_i, addP_l, addP_t, addI_i, subP_i, mulP_i, mulP_0, divP_i, modP_i, powP_i, cmpP_i, eqP_i, neP_i, isP_nn, isP_in, isP_tn, isP_bn, isnP_nn, isnP_in, isnP_tn, isP_nb, isP_ib, isP_tb, isP_bb, len_l, len_t, int_i, abs_i, tup_l, tup_t, lst_l, lst_t, min_i, max_i, rev_l, neg_i, sum_l, slP_t, slP_l,
  ixP_t, ixP_l, ixR_v, ixR_n, ixR_a, ixW_own, ixW_deal0, ixW_deal1, ixR_1, itemsD_l, itemsD_t, rangeP1, rangeP2, plains, plainO_none, plainO_dat, datO_none, datO_dat, setAll_nil, setAll_cons, setAW_some, setT_t,
  stR_at, stO_deal, setI, setIs, Itm.o, setD, forget_nil, forget_cons, fgO_none, fgO_dat, fgO_own, fgO_deal, wipeΓ, backΓ, argD, drs, List.all_cons, List.all_nil, Bool.and_true, List.getElem?_cons_zero, List.getElem?_cons_succ, List.set_cons_zero, List.set_cons_succ, List.length_cons, List.length_nil, Nat.zero_add, Nat.reduceAdd, Nat.reduceLeDiff, true_and, and_true, decide_eq_true_eq]
      exact ⟨cs.length - 1, by omega, cs.dropLast, by rw [List.length_dropLast], by omega, by rw [zi_dl]⟩
    · simp -implicitDefEqProofs only [sv, ev, CO.p, BO.p, BO.ap, tv, isNop, if_true, if_false, Bool.false_eq_true, reduceIte,
  W_then, W_asg, W_disp, W_nil, W_cons, W_consA, W_consI, W_var, W_val, W_bin, W_chn, W_ix, W_un, W_optN, W_optS, W_sl, W_deal, W_blt, W_isi, W_lrg, W_call, W_prm, W_ite, W_T, W_B, W_not, W_and, W_or, W_seq, W_rng, W_app, W_pop, W_popAt, oneI_i, oneL_l, W_nx, W_drop, W_pure, W_ret, W_if, W_par, W_unp, W_sub, W_yes, W_for, W_aug', W_lc,
  wO_some, wD_some, wD_if, rdO_dat, rdO_own, rdO_deal, mv_val, mv_new, mv_at, mvO_dat, mvO_own, dr_val, dr_new, dr_at, drO_dat, drO_own, dr_at1, dr1_deal, mvA_val, mvA_new, mvA_at, mvAO_dat, mvAO_own, mvAO_deal, toItm_f, itmO_some, toItm_n, toItm_q,
  isDeal_none, isDeal_dat, isDeal_own, isDeal_deal, lstR_at, lstR_at1, lstO_own, lstO_deal, items_at, items_at1, itO_own, it1_deal, putR_at, putR_at1, putO_deal, PR_v, PR_t, PR_l, Rt_d, Rt_q, rtO_some, retR_val, retR_new, retR_newD, retR_at, exitD_none, exitD_some, dealO_deal, intO_int, toB_bl, newO_new, valO_val, thW_nx, thW_bk, thW_ct, thW_rt,
  callW_d, callW_nil, callW_ref, refW_deal, augW_dat, exV, ex1, exI, addP_i, addP_l, addP_t, addI_i, subP_i, mulP_i, mulP_0, divP_i, modP_i, powP_i, cmpP_i, eqP_i, neP_i, isP_nn, isP_in, isP_tn, isP_bn, isnP_nn, isnP_in, isnP_tn, isP_nb, isP_ib, isP_tb, isP_bb, len_l, len_t, int_i, abs_i, tup_l, tup_t, lst_l, lst_t, min_i, max_i, rev_l, neg_i, sum_l, slP_t, slP_l,
  ixP_t, ixP_l, ixR_v, ixR_n, ixR_a, ixW_own, ixW_deal0, ixW_deal1, ixR_1, itemsD_l, itemsD_t, rangeP1, rangeP2, plains, plainO_none, plainO_dat, datO_none, datO_dat, setAll_nil, setAll_cons, setAW_some, setT_t,
  stR_at, stO_deal, setI, setIs, Itm.o, setD, forget_nil, forget_cons, fgO_none, fgO_dat, fgO_own, fgO_deal, wipeΓ, backΓ, argD, drs, List.all_cons, List.all_nil, Bool.and_true, List.getElem?_cons_zero, List.getElem?_cons_succ, List.set_cons_zero, List.set_cons_succ, List.length_cons, List.length_nil, Nat.zero_add, Nat.reduceAdd, Nat.reduceLeDiff, true_and, and_true, decide_eq_true_eq]
      refine ⟨okDiv_of h0 hb, by rw [zi_dl, List.length_map, List.length_dropLast]; omega, h0, ?_⟩
      have h1 := Int.emod_nonneg (cs.getD (cs.length - 1) 0) (Int.ne_of_gt h0)
      have h2 := Int.emod_lt_of_pos (cs.getD (cs.length - 1) 0) h0
      exact ⟨(cs.getD (cs.length - 1) 0 % b).toNat, cs.dropLast ++ [cs.getD (cs.length - 1) 0 / b], m, by rw [Int.toNat_of_nonneg h1], by rw [Int.toNat_of_nonneg h1]; exact h2, by rw [zi_dl, zi_app]; rfl, by rw [List.length_append, List.length_dropLast]; simp -implicitDefEqProofs only [List.length_cons, List.length_nil]; omega⟩
/-- first_differences -/
def tDif : Z.St := (.next (.par [2, 3] (.conw (.lst .nil) (.cons (.blt .list (.cons (.var 1) .nil)) .nil)))
 (.next (.whl [] (.cmp .ne (.var 3) (.lst .nil))
 (.next (.drop (.app (.var 2) (.cons (.ix (.var 3) (.lit (.int 0))) .nil)))
 (.next (.asg false 3 (.lc [4] (.rng 1 (.cons (.bin .sub (.blt .len (.cons (.var 3) .nil)) (.lit (.int 1))) .nil)) (.nm 4) .nop (.bin .mod (.bin .sub (.ix (.var 3) (.bin .add (.var 4) (.lit (.int 1)))) (.ix (.var 3) (.var 4))) (.var 0))))
 .nil)))
 (.next (.ret (.var 2))
 .nil)))
theorem c1n (i : Nat) : (i : Int) + 1 = ((i + 1 : Nat) : Int) := rfl
theorem difs_zi {p : Int} {l : List Int} : (List.range ((l.length : Int) - 1).toNat).map (fun i => D.int ((l.getD (i + 1) 0 - l.getD i 0) % p)) = zi (difs p l) := by
  rw [show ((l.length : Int) - 1).toNat = l.length - 1 by omega, zi_range]; rfl
theorem dif_ok (cal) (p : Int) (row : List Int) (hp : 0 < p) (hl : row.length ≤ 1000000) : runF cal 5 tDif none [.int p, .tup (zi row)] = some (.dat (.lst (zi (hds p row.length row))), none) := by
  refine wO_eq (runF_W ?_)
  simp -implicitDefEqProofs only [tDif, inΓ, dlO, List.map_cons, List.map_nil, List.nil_append, List.cons_append, List.replicate, Nat.reduceSub, sv, ev, CO.p, BO.p, BO.ap, tv, isNop, if_true, if_false, Bool.false_eq_true, reduceIte,
  W_then, W_asg, W_disp, W_nil, W_cons, W_consA, W_consI, W_var, W_val, W_bin, W_chn, W_ix, W_un, W_optN, W_optS, W_sl, W_deal, W_blt, W_isi, W_lrg, W_call, W_prm, W_ite, W_T, W_B, W_not, W_and, W_or, W_seq, W_rng, W_app, W_pop, W_popAt, oneI_i, oneL_l, W_nx, W_drop, W_pure, W_ret, W_if, W_par, W_unp, W_sub, W_yes, W_for, W_aug', W_lc,
  wO_some, wD_some, wD_if, rdO_dat, rdO_own, rdO_deal, mv_val, mv_new, mv_at, mvO_dat, mvO_own, dr_val, dr_new, dr_at, drO_dat, drO_own, dr_at1, dr1_deal, mvA_val, mvA_new, mvA_at, mvAO_dat, mvAO_own, mvAO_deal, toItm_f, itmO_some, toItm_n, toItm_q,
  isDeal_none, isDeal_dat, isDeal_own, isDeal_deal, lstR_at, lstR_at1, lstO_own, lstO_deal, items_at, items_at1, itO_own, it1_deal, putR_at, putR_at1, putO_deal, PR_v, PR_t, PR_l, Rt_d, Rt_q, rtO_some, retR_val, retR_new, retR_newD, retR_at, exitD_none, exitD_some, dealO_deal, intO_int, toB_bl, newO_new, valO_val, thW_nx, thW_bk, thW_ct, thW_rt,
  callW_d, callW_nil, callW_ref, refW_deal, augW_dat, exV, ex1, exI, addP_i, addP_l, addP_t, addI_i, subP_i, mulP_i, mulP_0, divP_i, modP_i, powP_i, cmpP_i, eqP_i, neP_i, isP_nn, isP_in, isP_tn, isP_bn, isnP_nn, isnP_in, isnP_tn, isP_nb, isP_ib, isP_tb, isP_bb, len_l, len_t, int_i, abs_i, tup_l, tup_t, lst_l, lst_t, min_i, max_i, rev_l, neg_i, sum_l, slP_t, slP_l,
  ixP_t, ixP_l, ixR_v, ixR_n, ixR_a, ixW_own, ixW_deal0, ixW_deal1, ixR_1, itemsD_l, itemsD_t, rangeP1, rangeP2, plains, plainO_none, plainO_dat, datO_none, datO_dat, setAll_nil, setAll_cons, setAW_some, setT_t,
  stR_at, stO_deal, setI, setIs, Itm.o, setD, forget_nil, forget_cons, fgO_none, fgO_dat, fgO_own, fgO_deal, wipeΓ, backΓ, argD, drs, List.all_cons, List.all_nil, Bool.and_true, List.getElem?_cons_zero, List.getElem?_cons_succ, List.set_cons_zero, List.set_cons_succ, List.length_cons, List.length_nil, Nat.zero_add, Nat.reduceAdd, Nat.reduceLeDiff, true_and, and_true, decide_eq_true_eq]
  refine W_wh (fun m Γ => ∃ l dn : List Int, m = l.length ∧ m ≤ row.length ∧ dn.length ≤ row.length ∧ Γ = [some (.dat (.int p)), some (.dat (.tup (zi row))), some (.own (zi dn)), some (.dat (.lst (zi l))), none] ∧ hds p row.length row = dn ++ hds p l.length l) (m := row.length) ⟨row, [], rfl, Nat.le_refl _, Nat.zero_le _, rfl, rfl⟩ ?_
  rintro m Γ ⟨l, dn, rfl, hm, hd, rfl, e⟩
  simp -implicitDefEqProofs only [neP_z0, sv, ev, CO.p, BO.p, BO.ap, tv, isNop, if_true, if_false, Bool.false_eq_true, reduceIte,
  W_then, W_asg, W_disp, W_nil, W_cons, W_consA, W_consI, W_var, W_val, W_bin, W_chn, W_ix, W_un, W_optN, W_optS, W_sl, W_deal, W_blt, W_isi, W_lrg, W_call, W_prm, W_ite, W_T, W_B, W_not, W_and, W_or, W_seq, W_rng, W_app, W_pop, W_popAt, oneI_i, oneL_l, W_nx, W_drop, W_pure, W_ret, W_if, W_par, W_unp, W_sub, W_yes, W_for, W_aug', W_lc,
  wO_some, wD_some, wD_if, rdO_dat, rdO_own, rdO_deal, mv_val, mv_new, mv_at, mvO_dat, mvO_own, dr_val, dr_new, dr_at, drO_dat, drO_own, dr_at1, dr1_deal, mvA_val, mvA_new, mvA_at, mvAO_dat, mvAO_own, mvAO_deal, toItm_f, itmO_some, toItm_n, toItm_q,
  isDeal_none, isDeal_dat, isDeal_own, isDeal_deal, lstR_at, lstR_at1, lstO_own, lstO_deal, items_at, items_at1, itO_own, it1_deal, putR_at, putR_at1, putO_deal, PR_v, PR_t, PR_l, Rt_d, Rt_q, rtO_some, retR_val, retR_new, retR_newD, retR_at, exitD_none, exitD_some, dealO_deal, intO_int, toB_bl, newO_new, valO_val, thW_nx, thW_bk, thW_ct, thW_rt,
  callW_d, callW_nil, callW_ref, refW_deal, augW_dat, exV, ex1, exI, addP_i, addP_l, addP_t, addI_i, subP_i, mulP_i, mulP_0, divP_i, modP_i, powP_i, cmpP_i, eqP_i, neP_i, isP_nn, isP_in, isP_tn, isP_bn, isnP_nn, isnP_in, isnP_tn, isP_nb, isP_ib, isP_tb, isP_bb, len_l, len_t, int_i, abs_i, tup_l, tup_t, lst_l, lst_t, min_i, max_i, rev_l, neg_i, sum_l, slP_t, slP_l,
  ixP_t, ixP_l, ixR_v, ixR_n, ixR_a, ixW_own, ixW_deal0, ixW_deal1, ixR_1, itemsD_l, itemsD_t, rangeP1, rangeP2, plains, plainO_none, plainO_dat, datO_none, datO_dat, setAll_nil, setAll_cons, setAW_some, setT_t,
  stR_at, stO_deal, setI, setIs, Itm.o, setD, forget_nil, forget_cons, fgO_none, fgO_dat, fgO_own, fgO_deal, wipeΓ, backΓ, argD, drs, List.all_cons, List.all_nil, Bool.and_true, List.getElem?_cons_zero, List.getElem?_cons_succ, List.set_cons_zero, List.set_cons_succ, List.length_cons, List.length_nil, Nat.zero_add, Nat.reduceAdd, Nat.reduceLeDiff, true_and, and_true, decide_eq_true_eq]
  by_cases h0 : l = []
  · subst h0
    rw [if_neg (by simp), e, show hds p ([] : List Int).length [] = [] from rfl, List.append_nil]
  · have hlp := List.length_pos_iff.mpr h0
    have hdl : dn.length + l.length = row.length := by
      have := congrArg List.length e
      rw [hds_len, List.length_append, hds_len] at this
      omega
    have a0 : atI (zi l) 0 = some (D.int (l.getD 0 0)) := atI_z (i := 0) hlp
    rw [if_pos (by simp [h0])]
    simp -implicitDefEqProofs only [a0, zl, sv, ev, CO.p, BO.p, BO.ap, tv, isNop, if_true, if_false, Bool.false_eq_true, reduceIte,
  W_then, W_asg, W_disp, W_nil, W_cons, W_consA, W_consI, W_var, W_val, W_bin, W_chn, W_ix, W_un, W_optN, W_optS, W_sl, W_deal, W_blt, W_isi, W_lrg, W_call, W_prm, W_ite, W_T, W_B, W_not, W_and, W_or, W_seq, W_rng, W_app, W_pop, W_popAt, oneI_i, oneL_l, W_nx, W_drop, W_pure, W_ret, W_if, W_par, W_unp, W_sub, W_yes, W_for, W_aug', W_lc,
  wO_some, wD_some, wD_if, rdO_dat, rdO_own, rdO_deal, mv_val, mv_new, mv_at, mvO_dat, mvO_own, dr_val, dr_new, dr_at, drO_dat, drO_own, dr_at1, dr1_deal, mvA_val, mvA_new, mvA_at, mvAO_dat, mvAO_own, mvAO_deal, toItm_f, itmO_some, toItm_n, toItm_q,
  isDeal_none, isDeal_dat, isDeal_own, isDeal_deal, lstR_at, lstR_at1, lstO_own, lstO_deal, items_at, items_at1, itO_own, it1_deal, putR_at, putR_at1, putO_deal, PR_v, PR_t, PR_l, Rt_d, Rt_q, rtO_some, retR_val, retR_new, retR_newD, retR_at, exitD_none, exitD_some, dealO_deal, intO_int, toB_bl, newO_new, valO_val, thW_nx, thW_bk, thW_ct, thW_rt,
  callW_d, callW_nil, callW_ref, refW_deal, augW_dat, exV, ex1, exI, addP_i, addP_l, addP_t, addI_i, subP_i, mulP_i, mulP_0, divP_i, modP_i, powP_i, cmpP_i, eqP_i, neP_i, isP_nn, isP_in, isP_tn, isP_bn, isnP_nn, isnP_in, isnP_tn, isP_nb, isP_ib, isP_tb, isP_bb, len_l, len_t, int_i, abs_i, tup_l, tup_t, lst_l, lst_t, min_i, max_i, rev_l, neg_i, sum_l, slP_t, slP_l,
  ixP_t, ixP_l, ixR_v, ixR_n, ixR_a, ixW_own, ixW_deal0, ixW_deal1, ixR_1, itemsD_l, itemsD_t, rangeP1, rangeP2, plains, plainO_none, plainO_dat, datO_none, datO_dat, setAll_nil, setAll_cons, setAW_some, setT_t,
  stR_at, stO_deal, setI, setIs, Itm.o, setD, forget_nil, forget_cons, fgO_none, fgO_dat, fgO_own, fgO_deal, wipeΓ, backΓ, argD, drs, List.all_cons, List.all_nil, Bool.and_true, List.getElem?_cons_zero, List.getElem?_cons_succ, List.set_cons_zero, List.set_cons_succ, List.length_cons, List.length_nil, Nat.zero_add, Nat.reduceAdd, Nat.reduceLeDiff, true_and, and_true, decide_eq_true_eq]
    refine ⟨by omega, by omega, W_lcR (fun i => D.int ((l.getD (i + 1) 0 - l.getD i 0) % p)) (by omega) ?_ ?_⟩
    · intro i hi
      simp -implicitDefEqProofs only [c1n, atI_z (show i < l.length by omega), atI_z (show i + 1 < l.length by omega), sv, ev, CO.p, BO.p, BO.ap, tv, isNop, if_true, if_false, Bool.false_eq_true, reduceIte,
  W_then, W_asg, W_disp, W_nil, W_cons, W_consA, W_consI, W_var, W_val, W_bin, W_chn, W_ix, W_un, W_optN, W_optS, W_sl, W_deal, W_blt, W_isi, W_lrg, W_call, W_prm, W_ite, W_T, W_B, W_not, W_and, W_or, W_seq, W_rng, W_app, W_pop, W_popAt, oneI_i, oneL_l, W_nx, W_drop, W_pure, W_ret, W_if, W_par, W_unp, W_sub, W_yes, W_for, W_aug', W_lc,
  wO_some, wD_some, wD_if, rdO_dat, rdO_own, rdO_deal, mv_val, mv_new, mv_at, mvO_dat, mvO_own, dr_val, dr_new, dr_at, drO_dat, drO_own, dr_at1, dr1_deal, mvA_val, mvA_new, mvA_at, mvAO_dat, mvAO_own, mvAO_deal, toItm_f, itmO_some, toItm_n, toItm_q,
  isDeal_none, isDeal_dat, isDeal_own, isDeal_deal, lstR_at, lstR_at1, lstO_own, lstO_deal, items_at, items_at1, itO_own, it1_deal, putR_at, putR_at1, putO_deal, PR_v, PR_t, PR_l, Rt_d, Rt_q, rtO_some, retR_val, retR_new, retR_newD, retR_at, exitD_none, exitD_some, dealO_deal, intO_int, toB_bl, newO_new, valO_val, thW_nx, thW_bk, thW_ct, thW_rt,
  callW_d, callW_nil, callW_ref, refW_deal, augW_dat, exV, ex1, exI, addP_i, addP_l, addP_t, addI_i, subP_i, mulP_i, mulP_0, divP_i, modP_i, powP_i, cmpP_i, eqP_i, neP_i, isP_nn, isP_in, isP_tn, isP_bn, isnP_nn, isnP_in, isnP_tn, isP_nb, isP_ib, isP_tb, isP_bb, len_l, len_t, int_i, abs_i, tup_l, tup_t, lst_l, lst_t, min_i, max_i, rev_l, neg_i, sum_l, slP_t, slP_l,
  ixP_t, ixP_l, ixR_v, ixR_n, ixR_a, ixW_own, ixW_deal0, ixW_deal1, ixR_1, itemsD_l, itemsD_t, rangeP1, rangeP2, plains, plainO_none, plainO_dat, datO_none, datO_dat, setAll_nil, setAll_cons, setAW_some, setT_t,
  stR_at, stO_deal, setI, setIs, Itm.o, setD, forget_nil, forget_cons, fgO_none, fgO_dat, fgO_own, fgO_deal, wipeΓ, backΓ, argD, drs, List.all_cons, List.all_nil, Bool.and_true, List.getElem?_cons_zero, List.getElem?_cons_succ, List.set_cons_zero, List.set_cons_succ, List.length_cons, List.length_nil, Nat.zero_add, Nat.reduceAdd, Nat.reduceLeDiff, true_and, and_true, decide_eq_true_eq]
      exact hp
    · simp -implicitDefEqProofs only [sv, ev, CO.p, BO.p, BO.ap, tv, isNop, if_true, if_false, Bool.false_eq_true, reduceIte,
  W_then, W_asg, W_disp, W_nil, W_cons, W_consA, W_consI, W_var, W_val, W_bin, W_chn, W_ix, W_un, W_optN, W_optS, W_sl, W_deal, W_blt, W_isi, W_lrg, W_call, W_prm, W_ite, W_T, W_B, W_not, W_and, W_or, W_seq, W_rng, W_app, W_pop, W_popAt, oneI_i, oneL_l, W_nx, W_drop, W_pure, W_ret, W_if, W_par, W_unp, W_sub, W_yes, W_for, W_aug', W_lc,
  wO_some, wD_some, wD_if, rdO_dat, rdO_own, rdO_deal, mv_val, mv_new, mv_at, mvO_dat, mvO_own, dr_val, dr_new, dr_at, drO_dat, drO_own, dr_at1, dr1_deal, mvA_val, mvA_new, mvA_at, mvAO_dat, mvAO_own, mvAO_deal, toItm_f, itmO_some, toItm_n, toItm_q,
  isDeal_none, isDeal_dat, isDeal_own, isDeal_deal, lstR_at, lstR_at1, lstO_own, lstO_deal, items_at, items_at1, itO_own, it1_deal, putR_at, putR_at1, putO_deal, PR_v, PR_t, PR_l, Rt_d, Rt_q, rtO_some, retR_val, retR_new, retR_newD, retR_at, exitD_none, exitD_some, dealO_deal, intO_int, toB_bl, newO_new, valO_val, thW_nx, thW_bk, thW_ct, thW_rt,
  callW_d, callW_nil, callW_ref, refW_deal, augW_dat, exV, ex1, exI, addP_i, addP_l, addP_t, addI_i, subP_i, mulP_i, mulP_0, divP_i, modP_i, powP_i, cmpP_i, eqP_i, neP_i, isP_nn, isP_in, isP_tn, isP_bn, isnP_nn, isnP_in, isnP_tn, isP_nb, isP_ib, isP_tb, isP_bb, len_l, len_t, int_i, abs_i, tup_l, tup_t, lst_l, lst_t, min_i, max_i, rev_l, neg_i, sum_l, slP_t, slP_l,
  ixP_t, ixP_l, ixR_v, ixR_n, ixR_a, ixW_own, ixW_deal0, ixW_deal1, ixR_1, itemsD_l, itemsD_t, rangeP1, rangeP2, plains, plainO_none, plainO_dat, datO_none, datO_dat, setAll_nil, setAll_cons, setAW_some, setT_t,
  stR_at, stO_deal, setI, setIs, Itm.o, setD, forget_nil, forget_cons, fgO_none, fgO_dat, fgO_own, fgO_deal, wipeΓ, backΓ, argD, drs, List.all_cons, List.all_nil, Bool.and_true, List.getElem?_cons_zero, List.getElem?_cons_succ, List.set_cons_zero, List.set_cons_succ, List.length_cons, List.length_nil, Nat.zero_add, Nat.reduceAdd, Nat.reduceLeDiff, true_and, and_true, decide_eq_true_eq]
      refine ⟨(difs p l).length, by rw [difs_len]; omega, difs p l, dn ++ [l.getD 0 0], rfl, by rw [difs_len]; omega, by rw [List.length_append]; simp -implicitDefEqProofs only [List.length_cons, List.length_nil]; omega, by rw [difs_zi, zi_app]; rfl, ?_⟩
      rw [e, difs_len, List.append_assoc]
      congr 1
      obtain ⟨n, hn⟩ : ∃ n, l.length = n + 1 := ⟨l.length - 1, by omega⟩
      rw [hn]; rfl
/-- stepped -/
def tStp : Z.St := (.next (.asg false 2 (.bin .sub (.blt .len (.cons (.var 1) .nil)) (.lit (.int 1))))
 (.next (.ret (.bin .add (.lc [3] (.rng 1 (.cons (.var 2) .nil)) (.nm 3) .nop (.bin .mod (.bin .add (.ix (.var 1) (.var 3)) (.ix (.var 1) (.bin .add (.var 3) (.lit (.int 1))))) (.var 0))) (.sl (.var 1) (.var 2) .nop)))
 .nil))
theorem stp_zi {p : Int} {l : List Int} : (List.range ((l.length : Int) - 1).toNat).map (fun i => D.int ((l.getD i 0 + l.getD (i + 1) 0) % p)) ++ zi (l.drop (l.length - 1)) = zi (stp p l) := by
  rw [show ((l.length : Int) - 1).toNat = l.length - 1 by omega, zi_range, ← zi_app]; rfl
theorem cut_fz (xs : List Int) (a : Nat) : cut (zi xs) (some (a : Int)) none = zi (xs.drop a) := by
  unfold cut
  rw [HT.sIx_nat, HT.sIx_none, zl]
  rcases Nat.le_total a xs.length with h | h
  · rw [Nat.min_eq_left h, ← List.map_drop, List.take_of_length_le (by rw [List.length_map, List.length_drop]; omega)]
  · rw [Nat.min_eq_right h, Nat.sub_self, List.take_zero, List.drop_of_length_le h]; rfl
theorem cut_tz (xs : List Int) (b : Nat) : cut (zi xs) none (some (b : Int)) = zi (xs.take b) := by
  unfold cut
  rw [HT.sIx_nat, HT.sIx_none, List.drop_zero, Nat.sub_zero, zl]
  rcases Nat.le_total b xs.length with h | h
  · rw [Nat.min_eq_left h, ← List.map_take]
  · rw [Nat.min_eq_right h, List.take_of_length_le (by rw [zl]; omega), List.take_of_length_le h]
theorem stp_ok (cal) (p : Int) (ds : List Int) (hp : 0 < p) (h0 : ds ≠ []) (hl : ds.length ≤ 1000000) : runF cal 4 tStp none [.int p, .lst (zi ds)] = some (.dat (.lst (zi (stp p ds))), none) := by
  refine wO_eq (runF_W ?_)
  have hlp := List.length_pos_iff.mpr h0
  have e1 : (ds.length : Int) - 1 = ((ds.length - 1 : Nat) : Int) := by omega
  simp -implicitDefEqProofs only [tStp, zl, inΓ, dlO, List.map_cons, List.map_nil, List.nil_append, List.cons_append, List.replicate, Nat.reduceSub, sv, ev, CO.p, BO.p, BO.ap, tv, isNop, if_true, if_false, Bool.false_eq_true, reduceIte,
  W_then, W_asg, W_disp, W_nil, W_cons, W_consA, W_consI, W_var, W_val, W_bin, W_chn, W_ix, W_un, W_optN, W_optS, W_sl, W_deal, W_blt, W_isi, W_lrg, W_call, W_prm, W_ite, W_T, W_B, W_not, W_and, W_or, W_seq, W_rng, W_app, W_pop, W_popAt, oneI_i, oneL_l, W_nx, W_drop, W_pure, W_ret, W_if, W_par, W_unp, W_sub, W_yes, W_for, W_aug', W_lc,
  wO_some, wD_some, wD_if, rdO_dat, rdO_own, rdO_deal, mv_val, mv_new, mv_at, mvO_dat, mvO_own, dr_val, dr_new, dr_at, drO_dat, drO_own, dr_at1, dr1_deal, mvA_val, mvA_new, mvA_at, mvAO_dat, mvAO_own, mvAO_deal, toItm_f, itmO_some, toItm_n, toItm_q,
  isDeal_none, isDeal_dat, isDeal_own, isDeal_deal, lstR_at, lstR_at1, lstO_own, lstO_deal, items_at, items_at1, itO_own, it1_deal, putR_at, putR_at1, putO_deal, PR_v, PR_t, PR_l, Rt_d, Rt_q, rtO_some, retR_val, retR_new, retR_newD, retR_at, exitD_none, exitD_some, dealO_deal, intO_int, toB_bl, newO_new, valO_val, thW_nx, thW_bk, thW_ct, thW_rt,
  callW_d, callW_nil, callW_ref, refW_deal, augW_dat, exV, ex1, exI, addP_i, addP_l, addP_t, addI_i, subP_i, mulP_i, mulP_0, divP_i, modP_i, powP_i, cmpP_i, eqP_i, neP_i, isP_nn, isP_in, isP_tn, isP_bn, isnP_nn, isnP_in, isnP_tn, isP_nb, isP_ib, isP_tb, isP_bb, len_l, len_t, int_i, abs_i, tup_l, tup_t, lst_l, lst_t, min_i, max_i, rev_l, neg_i, sum_l, slP_t, slP_l,
  ixP_t, ixP_l, ixR_v, ixR_n, ixR_a, ixW_own, ixW_deal0, ixW_deal1, ixR_1, itemsD_l, itemsD_t, rangeP1, rangeP2, plains, plainO_none, plainO_dat, datO_none, datO_dat, setAll_nil, setAll_cons, setAW_some, setT_t,
  stR_at, stO_deal, setI, setIs, Itm.o, setD, forget_nil, forget_cons, fgO_none, fgO_dat, fgO_own, fgO_deal, wipeΓ, backΓ, argD, drs, List.all_cons, List.all_nil, Bool.and_true, List.getElem?_cons_zero, List.getElem?_cons_succ, List.set_cons_zero, List.set_cons_succ, List.length_cons, List.length_nil, Nat.zero_add, Nat.reduceAdd, Nat.reduceLeDiff, true_and, and_true, decide_eq_true_eq]
  refine ⟨by omega, W_lcR (fun i => D.int ((ds.getD i 0 + ds.getD (i + 1) 0) % p)) (by omega) ?_ ?_⟩
  · intro i hi
    simp -implicitDefEqProofs only [c1n, atI_z (show i < ds.length by omega), atI_z (show i + 1 < ds.length by omega), sv, ev, CO.p, BO.p, BO.ap, tv, isNop, if_true, if_false, Bool.false_eq_true, reduceIte,
  W_then, W_asg, W_disp, W_nil, W_cons, W_consA, W_consI, W_var, W_val, W_bin, W_chn, W_ix, W_un, W_optN, W_optS, W_sl, W_deal, W_blt, W_isi, W_lrg, W_call, W_prm, W_ite, W_T, W_B, W_not, W_and, W_or, W_seq, W_rng, W_app, W_pop, W_popAt, oneI_i, oneL_l, W_nx, W_drop, W_pure, W_ret, W_if, W_par, W_unp, W_sub, W_yes, W_for, W_aug', W_lc,
  wO_some, wD_some, wD_if, rdO_dat, rdO_own, rdO_deal, mv_val, mv_new, mv_at, mvO_dat, mvO_own, dr_val, dr_new, dr_at, drO_dat, drO_own, dr_at1, dr1_deal, mvA_val, mvA_new, mvA_at, mvAO_dat, mvAO_own, mvAO_deal, toItm_f, itmO_some, toItm_n, toItm_q,
  isDeal_none, isDeal_dat, isDeal_own, isDeal_deal, lstR_at, lstR_at1, lstO_own, lstO_deal, items_at, items_at1, itO_own, it1_deal, putR_at, putR_at1, putO_deal, PR_v, PR_t, PR_l, Rt_d, Rt_q, rtO_some, retR_val, retR_new, retR_newD, retR_at, exitD_none, exitD_some, dealO_deal, intO_int, toB_bl, newO_new, valO_val, thW_nx, thW_bk, thW_ct, thW_rt,
  callW_d, callW_nil, callW_ref, refW_deal, augW_dat, exV, ex1, exI, addP_i, addP_l, addP_t, addI_i, subP_i, mulP_i, mulP_0, divP_i, modP_i, powP_i, cmpP_i, eqP_i, neP_i, isP_nn, isP_in, isP_tn, isP_bn, isnP_nn, isnP_in, isnP_tn, isP_nb, isP_ib, isP_tb, isP_bb, len_l, len_t, int_i, abs_i, tup_l, tup_t, lst_l, lst_t, min_i, max_i, rev_l, neg_i, sum_l, slP_t, slP_l,
  ixP_t, ixP_l, ixR_v, ixR_n, ixR_a, ixW_own, ixW_deal0, ixW_deal1, ixR_1, itemsD_l, itemsD_t, rangeP1, rangeP2, plains, plainO_none, plainO_dat, datO_none, datO_dat, setAll_nil, setAll_cons, setAW_some, setT_t,
  stR_at, stO_deal, setI, setIs, Itm.o, setD, forget_nil, forget_cons, fgO_none, fgO_dat, fgO_own, fgO_deal, wipeΓ, backΓ, argD, drs, List.all_cons, List.all_nil, Bool.and_true, List.getElem?_cons_zero, List.getElem?_cons_succ, List.set_cons_zero, List.set_cons_succ, List.length_cons, List.length_nil, Nat.zero_add, Nat.reduceAdd, Nat.reduceLeDiff, true_and, and_true, decide_eq_true_eq]
    exact hp
  · have e2 : cut (zi ds) (some ((ds.length : Int) - 1)) none = zi (ds.drop (ds.length - 1)) := by rw [e1, cut_fz]
    simp -implicitDefEqProofs only [e2, sv, ev, CO.p, BO.p, BO.ap, tv, isNop, if_true, if_false, Bool.false_eq_true, reduceIte,
  W_then, W_asg, W_disp, W_nil, W_cons, W_consA, W_consI, W_var, W_val, W_bin, W_chn, W_ix, W_un, W_optN, W_optS, W_sl, W_deal, W_blt, W_isi, W_lrg, W_call, W_prm, W_ite, W_T, W_B, W_not, W_and, W_or, W_seq, W_rng, W_app, W_pop, W_popAt, oneI_i, oneL_l, W_nx, W_drop, W_pure, W_ret, W_if, W_par, W_unp, W_sub, W_yes, W_for, W_aug', W_lc,
  wO_some, wD_some, wD_if, rdO_dat, rdO_own, rdO_deal, mv_val, mv_new, mv_at, mvO_dat, mvO_own, dr_val, dr_new, dr_at, drO_dat, drO_own, dr_at1, dr1_deal, mvA_val, mvA_new, mvA_at, mvAO_dat, mvAO_own, mvAO_deal, toItm_f, itmO_some, toItm_n, toItm_q,
  isDeal_none, isDeal_dat, isDeal_own, isDeal_deal, lstR_at, lstR_at1, lstO_own, lstO_deal, items_at, items_at1, itO_own, it1_deal, putR_at, putR_at1, putO_deal, PR_v, PR_t, PR_l, Rt_d, Rt_q, rtO_some, retR_val, retR_new, retR_newD, retR_at, exitD_none, exitD_some, dealO_deal, intO_int, toB_bl, newO_new, valO_val, thW_nx, thW_bk, thW_ct, thW_rt,
  callW_d, callW_nil, callW_ref, refW_deal, augW_dat, exV, ex1, exI, addP_i, addP_l, addP_t, addI_i, subP_i, mulP_i, mulP_0, divP_i, modP_i, powP_i, cmpP_i, eqP_i, neP_i, isP_nn, isP_in, isP_tn, isP_bn, isnP_nn, isnP_in, isnP_tn, isP_nb, isP_ib, isP_tb, isP_bb, len_l, len_t, int_i, abs_i, tup_l, tup_t, lst_l, lst_t, min_i, max_i, rev_l, neg_i, sum_l, slP_t, slP_l,
  ixP_t, ixP_l, ixR_v, ixR_n, ixR_a, ixW_own, ixW_deal0, ixW_deal1, ixR_1, itemsD_l, itemsD_t, rangeP1, rangeP2, plains, plainO_none, plainO_dat, datO_none, datO_dat, setAll_nil, setAll_cons, setAW_some, setT_t,
  stR_at, stO_deal, setI, setIs, Itm.o, setD, forget_nil, forget_cons, fgO_none, fgO_dat, fgO_own, fgO_deal, wipeΓ, backΓ, argD, drs, List.all_cons, List.all_nil, Bool.and_true, List.getElem?_cons_zero, List.getElem?_cons_succ, List.set_cons_zero, List.set_cons_succ, List.length_cons, List.length_nil, Nat.zero_add, Nat.reduceAdd, Nat.reduceLeDiff, true_and, and_true, decide_eq_true_eq]
    refine ⟨by rw [List.length_map, List.length_range, zl, List.length_drop]; omega, ?_⟩
    rw [stp_zi]
/-- spread_row; the callees first_differences i, stepped j -/
def tSpr (i j : Nat) : Z.St := (.next (.par [3, 4] (.cons (.call i 2 (.cons (.var 0) (.cons (.var 1) .nil))) (.conw (.lst .nil) .nil)))
 (.next (.loop [5] (.nm 5) (.rng 1 (.cons (.var 2) .nil))
 (.next (.drop (.app (.var 4) (.cons (.bin .mod (.ix (.var 3) (.lit (.int 0))) (.var 0)) .nil)))
 (.next (.asg false 3 (.call j 2 (.cons (.var 0) (.cons (.var 3) .nil))))
 .nil)))
 (.next (.ret (.blt .tuple (.cons (.var 4) .nil)))
 .nil)))
def iter {α : Type} (f : α → α) : Nat → α → α
  | 0, x => x
  | n + 1, x => iter f n (f x)
theorem iter_S {α : Type} (f : α → α) : ∀ (n : Nat) (x : α), iter f (n + 1) x = f (iter f n x)
  | 0, x => rfl
  | n + 1, x => iter_S f n (f x)
theorem outL_app (p : Int) : ∀ (m : Nat) (ds : List Int), outL p (m + 1) ds = outL p m ds ++ [(iter (stp p) m ds).getD 0 0]
  | 0, ds => rfl
  | m + 1, ds => by
    show ds.getD 0 0 :: outL p (m + 1) (stp p ds) = ds.getD 0 0 :: (outL p m (stp p ds) ++ _)
    rw [outL_app p m (stp p ds)]; rfl
theorem iter_len {p : Int} {ds : List Int} (h0 : ds ≠ []) : ∀ m, (iter (stp p) m ds).length = ds.length
  | 0 => rfl
  | m + 1 => by
    have := List.length_pos_iff.mpr h0
    rw [iter_S, stp_len (List.length_pos_iff.mp (by rw [iter_len h0 m]; exact this)), iter_len h0 m]
theorem iter_rs {p : Int} (hp : 0 < p) {ds : List Int} (h : Rs p ds) : ∀ m, Rs p (iter (stp p) m ds)
  | 0 => h
  | m + 1 => by rw [iter_S]; exact rs_stp hp (iter_rs hp h m)
theorem spr_ok (cal : Nat → Sm) (i j : Nat) (p : Int) (row : List Int) (many : Nat) (hp : 0 < p) (h0 : row ≠ []) (hr : Rs p row) (hl : row.length ≤ 1000) (hm : many ≤ 1000) (hi : cal i none [.int p, .tup (zi row)] = some (.dat (.lst (zi (hds p row.length row))), none))
    (hj : ∀ ds : List Int, ds ≠ [] → ds.length ≤ 1000 → cal j none [.int p, .lst (zi ds)] = some (.dat (.lst (zi (stp p ds))), none)) : runF cal 6 (tSpr i j) none [.int p, .tup (zi row), .int many] = some (.dat (.tup (zi (cod p row many))), none) := by
  refine wO_eq (runF_W ?_)
  simp -implicitDefEqProofs only [tSpr, hi, inΓ, dlO, List.map_cons, List.map_nil, List.nil_append, List.cons_append, List.replicate, Nat.reduceSub, sv, ev, CO.p, BO.p, BO.ap, tv, isNop, if_true, if_false, Bool.false_eq_true, reduceIte,
  W_then, W_asg, W_disp, W_nil, W_cons, W_consA, W_consI, W_var, W_val, W_bin, W_chn, W_ix, W_un, W_optN, W_optS, W_sl, W_deal, W_blt, W_isi, W_lrg, W_call, W_prm, W_ite, W_T, W_B, W_not, W_and, W_or, W_seq, W_rng, W_app, W_pop, W_popAt, oneI_i, oneL_l, W_nx, W_drop, W_pure, W_ret, W_if, W_par, W_unp, W_sub, W_yes, W_for, W_aug', W_lc,
  wO_some, wD_some, wD_if, rdO_dat, rdO_own, rdO_deal, mv_val, mv_new, mv_at, mvO_dat, mvO_own, dr_val, dr_new, dr_at, drO_dat, drO_own, dr_at1, dr1_deal, mvA_val, mvA_new, mvA_at, mvAO_dat, mvAO_own, mvAO_deal, toItm_f, itmO_some, toItm_n, toItm_q,
  isDeal_none, isDeal_dat, isDeal_own, isDeal_deal, lstR_at, lstR_at1, lstO_own, lstO_deal, items_at, items_at1, itO_own, it1_deal, putR_at, putR_at1, putO_deal, PR_v, PR_t, PR_l, Rt_d, Rt_q, rtO_some, retR_val, retR_new, retR_newD, retR_at, exitD_none, exitD_some, dealO_deal, intO_int, toB_bl, newO_new, valO_val, thW_nx, thW_bk, thW_ct, thW_rt,
  callW_d, callW_nil, callW_ref, refW_deal, augW_dat, exV, ex1, exI, addP_i, addP_l, addP_t, addI_i, subP_i, mulP_i, mulP_0, divP_i, modP_i, powP_i, cmpP_i, eqP_i, neP_i, isP_nn, isP_in, isP_tn, isP_bn, isnP_nn, isnP_in, isnP_tn, isP_nb, isP_ib, isP_tb, isP_bb, len_l, len_t, int_i, abs_i, tup_l, tup_t, lst_l, lst_t, min_i, max_i, rev_l, neg_i, sum_l, slP_t, slP_l,
  ixP_t, ixP_l, ixR_v, ixR_n, ixR_a, ixW_own, ixW_deal0, ixW_deal1, ixR_1, itemsD_l, itemsD_t, rangeP1, rangeP2, plains, plainO_none, plainO_dat, datO_none, datO_dat, setAll_nil, setAll_cons, setAW_some, setT_t,
  stR_at, stO_deal, setI, setIs, Itm.o, setD, forget_nil, forget_cons, fgO_none, fgO_dat, fgO_own, fgO_deal, wipeΓ, backΓ, argD, drs, List.all_cons, List.all_nil, Bool.and_true, List.getElem?_cons_zero, List.getElem?_cons_succ, List.set_cons_zero, List.set_cons_succ, List.length_cons, List.length_nil, Nat.zero_add, Nat.reduceAdd, Nat.reduceLeDiff, true_and, and_true, decide_eq_true_eq]
  have hne := hds_ne (p := p) h0
  have hrs := rs_hds hp _ _ hr rfl
  have hll := hds_len p row.length row
  unfold cod
  generalize hds p row.length row = ds at *
  refine ⟨by omega, ?_⟩
  refine W_forR (fun n Γ => Γ = [some (.dat (.int p)), some (.dat (.tup (zi row))), some (.dat (.int many)), some (.dat (.lst (zi (iter (stp p) n ds)))), some (.own (zi (outL p n ds))), none]) rfl ?_ ?_
  · rintro n Γ hn rfl
    have l1 := iter_len (p := p) hne n
    have hdp := List.length_pos_iff.mpr hne
    have r1 := (iter_rs hp hrs n).get (k := 0) (by omega)
    have a0 : atI (zi (iter (stp p) n ds)) 0 = some (D.int ((iter (stp p) n ds).getD 0 0)) := atI_z (i := 0) (by omega)
    have hj' := hj (iter (stp p) n ds) (List.length_pos_iff.mp (by omega)) (by omega)
    have e1 : (iter (stp p) n ds).getD 0 0 % p = (iter (stp p) n ds).getD 0 0 := Int.emod_eq_of_lt r1.1 r1.2
    simp -implicitDefEqProofs only [a0, hj', e1, sv, ev, CO.p, BO.p, BO.ap, tv, isNop, if_true, if_false, Bool.false_eq_true, reduceIte,
  W_then, W_asg, W_disp, W_nil, W_cons, W_consA, W_consI, W_var, W_val, W_bin, W_chn, W_ix, W_un, W_optN, W_optS, W_sl, W_deal, W_blt, W_isi, W_lrg, W_call, W_prm, W_ite, W_T, W_B, W_not, W_and, W_or, W_seq, W_rng, W_app, W_pop, W_popAt, oneI_i, oneL_l, W_nx, W_drop, W_pure, W_ret, W_if, W_par, W_unp, W_sub, W_yes, W_for, W_aug', W_lc,
  wO_some, wD_some, wD_if, rdO_dat, rdO_own, rdO_deal, mv_val, mv_new, mv_at, mvO_dat, mvO_own, dr_val, dr_new, dr_at, drO_dat, drO_own, dr_at1, dr1_deal, mvA_val, mvA_new, mvA_at, mvAO_dat, mvAO_own, mvAO_deal, toItm_f, itmO_some, toItm_n, toItm_q,
  isDeal_none, isDeal_dat, isDeal_own, isDeal_deal, lstR_at, lstR_at1, lstO_own, lstO_deal, items_at, items_at1, itO_own, it1_deal, putR_at, putR_at1, putO_deal, PR_v, PR_t, PR_l, Rt_d, Rt_q, rtO_some, retR_val, retR_new, retR_newD, retR_at, exitD_none, exitD_some, dealO_deal, intO_int, toB_bl, newO_new, valO_val, thW_nx, thW_bk, thW_ct, thW_rt,
  callW_d, callW_nil, callW_ref, refW_deal, augW_dat, exV, ex1, exI, addP_i, addP_l, addP_t, addI_i, subP_i, mulP_i, mulP_0, divP_i, modP_i, powP_i, cmpP_i, eqP_i, neP_i, isP_nn, isP_in, isP_tn, isP_bn, isnP_nn, isnP_in, isnP_tn, isP_nb, isP_ib, isP_tb, isP_bb, len_l, len_t, int_i, abs_i, tup_l, tup_t, lst_l, lst_t, min_i, max_i, rev_l, neg_i, sum_l, slP_t, slP_l,
  ixP_t, ixP_l, ixR_v, ixR_n, ixR_a, ixW_own, ixW_deal0, ixW_deal1, ixR_1, itemsD_l, itemsD_t, rangeP1, rangeP2, plains, plainO_none, plainO_dat, datO_none, datO_dat, setAll_nil, setAll_cons, setAW_some, setT_t,
  stR_at, stO_deal, setI, setIs, Itm.o, setD, forget_nil, forget_cons, fgO_none, fgO_dat, fgO_own, fgO_deal, wipeΓ, backΓ, argD, drs, List.all_cons, List.all_nil, Bool.and_true, List.getElem?_cons_zero, List.getElem?_cons_succ, List.set_cons_zero, List.set_cons_succ, List.length_cons, List.length_nil, Nat.zero_add, Nat.reduceAdd, Nat.reduceLeDiff, true_and, and_true, decide_eq_true_eq]
    refine ⟨hp, by rw [zl, outL_len]; omega, ?_⟩
    rw [iter_S, outL_app, zi_app]; rfl
  · rintro Γ rfl
    rw [Int.toNat_natCast]
    simp -implicitDefEqProofs only [sv, ev, CO.p, BO.p, BO.ap, tv, isNop, if_true, if_false, Bool.false_eq_true, reduceIte,
  W_then, W_asg, W_disp, W_nil, W_cons, W_consA, W_consI, W_var, W_val, W_bin, W_chn, W_ix, W_un, W_optN, W_optS, W_sl, W_deal, W_blt, W_isi, W_lrg, W_call, W_prm, W_ite, W_T, W_B, W_not, W_and, W_or, W_seq, W_rng, W_app, W_pop, W_popAt, oneI_i, oneL_l, W_nx, W_drop, W_pure, W_ret, W_if, W_par, W_unp, W_sub, W_yes, W_for, W_aug', W_lc,
  wO_some, wD_some, wD_if, rdO_dat, rdO_own, rdO_deal, mv_val, mv_new, mv_at, mvO_dat, mvO_own, dr_val, dr_new, dr_at, drO_dat, drO_own, dr_at1, dr1_deal, mvA_val, mvA_new, mvA_at, mvAO_dat, mvAO_own, mvAO_deal, toItm_f, itmO_some, toItm_n, toItm_q,
  isDeal_none, isDeal_dat, isDeal_own, isDeal_deal, lstR_at, lstR_at1, lstO_own, lstO_deal, items_at, items_at1, itO_own, it1_deal, putR_at, putR_at1, putO_deal, PR_v, PR_t, PR_l, Rt_d, Rt_q, rtO_some, retR_val, retR_new, retR_newD, retR_at, exitD_none, exitD_some, dealO_deal, intO_int, toB_bl, newO_new, valO_val, thW_nx, thW_bk, thW_ct, thW_rt,
  callW_d, callW_nil, callW_ref, refW_deal, augW_dat, exV, ex1, exI, addP_i, addP_l, addP_t, addI_i, subP_i, mulP_i, mulP_0, divP_i, modP_i, powP_i, cmpP_i, eqP_i, neP_i, isP_nn, isP_in, isP_tn, isP_bn, isnP_nn, isnP_in, isnP_tn, isP_nb, isP_ib, isP_tb, isP_bb, len_l, len_t, int_i, abs_i, tup_l, tup_t, lst_l, lst_t, min_i, max_i, rev_l, neg_i, sum_l, slP_t, slP_l,
  ixP_t, ixP_l, ixR_v, ixR_n, ixR_a, ixW_own, ixW_deal0, ixW_deal1, ixR_1, itemsD_l, itemsD_t, rangeP1, rangeP2, plains, plainO_none, plainO_dat, datO_none, datO_dat, setAll_nil, setAll_cons, setAW_some, setT_t,
  stR_at, stO_deal, setI, setIs, Itm.o, setD, forget_nil, forget_cons, fgO_none, fgO_dat, fgO_own, fgO_deal, wipeΓ, backΓ, argD, drs, List.all_cons, List.all_nil, Bool.and_true, List.getElem?_cons_zero, List.getElem?_cons_succ, List.set_cons_zero, List.set_cons_succ, List.length_cons, List.length_nil, Nat.zero_add, Nat.reduceAdd, Nat.reduceLeDiff, true_and, and_true, decide_eq_true_eq]
/-- is_spread; the callee spread_row -/
def tIss (j : Nat) : Z.St := (.next (.ret (.cmp .eq (.call j 3 (.cons (.var 0) (.cons (.sl (.var 1) .nop (.var 2)) (.cons (.blt .len (.cons (.var 1) .nil)) .nil)))) (.blt .tuple (.cons (.var 1) .nil))))
 .nil)
theorem iss_ok (cal : Nat → Sm) (j : Nat) (p : Int) (row : List Int) (len : Nat) (hj : cal j none [.int p, .tup (zi (row.take len)), .int row.length] = some (.dat (.tup (zi (cod p (row.take len) row.length))), none)) :
    runF cal 3 (tIss j) none [.int p, .tup (zi row), .int len] = some (.dat (.bl (decide (cod p (row.take len) row.length = row))), none) := by
  refine wO_eq (runF_W ?_)
  simp -implicitDefEqProofs only [tIss, cut_tz, zl, hj, eqP_zt, inΓ, dlO, List.map_cons, List.map_nil, List.nil_append, List.cons_append, List.replicate, Nat.reduceSub, sv, ev, CO.p, BO.p, BO.ap, tv, isNop, if_true, if_false, Bool.false_eq_true, reduceIte,
  W_then, W_asg, W_disp, W_nil, W_cons, W_consA, W_consI, W_var, W_val, W_bin, W_chn, W_ix, W_un, W_optN, W_optS, W_sl, W_deal, W_blt, W_isi, W_lrg, W_call, W_prm, W_ite, W_T, W_B, W_not, W_and, W_or, W_seq, W_rng, W_app, W_pop, W_popAt, oneI_i, oneL_l, W_nx, W_drop, W_pure, W_ret, W_if, W_par, W_unp, W_sub, W_yes, W_for, W_aug', W_lc,
  wO_some, wD_some, wD_if, rdO_dat, rdO_own, rdO_deal, mv_val, mv_new, mv_at, mvO_dat, mvO_own, dr_val, dr_new, dr_at, drO_dat, drO_own, dr_at1, dr1_deal, mvA_val, mvA_new, mvA_at, mvAO_dat, mvAO_own, mvAO_deal, toItm_f, itmO_some, toItm_n, toItm_q,
  isDeal_none, isDeal_dat, isDeal_own, isDeal_deal, lstR_at, lstR_at1, lstO_own, lstO_deal, items_at, items_at1, itO_own, it1_deal, putR_at, putR_at1, putO_deal, PR_v, PR_t, PR_l, Rt_d, Rt_q, rtO_some, retR_val, retR_new, retR_newD, retR_at, exitD_none, exitD_some, dealO_deal, intO_int, toB_bl, newO_new, valO_val, thW_nx, thW_bk, thW_ct, thW_rt,
  callW_d, callW_nil, callW_ref, refW_deal, augW_dat, exV, ex1, exI, addP_i, addP_l, addP_t, addI_i, subP_i, mulP_i, mulP_0, divP_i, modP_i, powP_i, cmpP_i, eqP_i, neP_i, isP_nn, isP_in, isP_tn, isP_bn, isnP_nn, isnP_in, isnP_tn, isP_nb, isP_ib, isP_tb, isP_bb, len_l, len_t, int_i, abs_i, tup_l, tup_t, lst_l, lst_t, min_i, max_i, rev_l, neg_i, sum_l, slP_t, slP_l,
  ixP_t, ixP_l, ixR_v, ixR_n, ixR_a, ixW_own, ixW_deal0, ixW_deal1, ixR_1, itemsD_l, itemsD_t, rangeP1, rangeP2, plains, plainO_none, plainO_dat, datO_none, datO_dat, setAll_nil, setAll_cons, setAW_some, setT_t,
  stR_at, stO_deal, setI, setIs, Itm.o, setD, forget_nil, forget_cons, fgO_none, fgO_dat, fgO_own, fgO_deal, wipeΓ, backΓ, argD, drs, List.all_cons, List.all_nil, Bool.and_true, List.getElem?_cons_zero, List.getElem?_cons_succ, List.set_cons_zero, List.set_cons_succ, List.length_cons, List.length_nil, Nat.zero_add, Nat.reduceAdd, Nat.reduceLeDiff, true_and, and_true, decide_eq_true_eq]
end Ca

set_option Elab.async false
set_option linter.all false
set_option maxRecDepth 100000
set_option maxHeartbeats 4000000
/-! k75: the law's own words -/
namespace Ca
open Z Nu Dq Pl
open L2 (atI ixN)
/-- _law_mixed; the callee _law_any -/
def tMixd (i : Nat) : Z.St := (.next (.par [2, 3] (.conw (.blt .list (.cons (.var 1) .nil)) (.conw (.lst .nil) .nil)))
 (.next (.loop [4] (.nm 4) (.rng 1 (.cons (.blt .len (.cons (.var 1) .nil)) .nil))
 (.next (.drop (.app (.var 3) (.cons (.popAt (.var 2) (.cons (.call i 2 (.cons (.var 0) (.cons (.blt .len (.cons (.var 2) .nil)) .nil))) .nil)) .nil)))
 .nil))
 (.next (.ret (.var 3))
 .nil)))
def MixdOk (g : Sm) : Prop := ∀ (cs : List Int) (m : Int) (ds : List D), cs.length ≤ 63 → ds.length ≤ 1000000 → wO (g (some (zi cs, .int m)) [.lst ds]) fun rt q' => ∃ (es : List D) (cs' : List Int) (m' : Int), rt = .dat (.lst es) ∧ es.Perm ds ∧ q' = some (zi cs', .int m') ∧ cs'.length ≤ 63
theorem erase_perm {α : Type} : ∀ {l : List α} {k : Nat} {x : α}, l[k]? = some x → (x :: l.eraseIdx k).Perm l
  | [], _, _, h => by cases h
  | y :: l, 0, x, h => by cases h; exact .refl _
  | y :: l, k + 1, x, h => by
    have := erase_perm (l := l) (k := k) (x := x) (by simpa using h)
    rw [List.eraseIdx_cons_succ]
    exact (List.Perm.swap y x _).trans (this.cons y)
theorem mixd_ok (cal : Nat → Sm) (i : Nat) (hA : AnyOk (cal i)) : MixdOk (runF cal 5 (tMixd i)) := by
  intro cs m ds hl hd
  refine runF_W ?_
  simp -implicitDefEqProofs only [tMixd, inΓ, dlO, List.map_cons, List.map_nil, List.nil_append, List.cons_append, List.replicate, Nat.reduceSub, sv, ev, CO.p, BO.p, BO.ap, tv, isNop, if_true, if_false, Bool.false_eq_true, reduceIte,
  W_then, W_asg, W_disp, W_nil, W_cons, W_consA, W_consI, W_var, W_val, W_bin, W_chn, W_ix, W_un, W_optN, W_optS, W_sl, W_deal, W_blt, W_isi, W_lrg, W_call, W_prm, W_ite, W_T, W_B, W_not, W_and, W_or, W_seq, W_rng, W_app, W_pop, W_popAt, oneI_i, oneL_l, W_nx, W_drop, W_pure, W_ret, W_if, W_par, W_unp, W_sub, W_yes, W_for, W_aug', W_lc,
  wO_some, wD_some, wD_if, rdO_dat, rdO_own, rdO_deal, mv_val, mv_new, mv_at, mvO_dat, mvO_own, dr_val, dr_new, dr_at, drO_dat, drO_own, dr_at1, dr1_deal, mvA_val, mvA_new, mvA_at, mvAO_dat, mvAO_own, mvAO_deal, toItm_f, itmO_some, toItm_n, toItm_q,
  isDeal_none, isDeal_dat, isDeal_own, isDeal_deal, lstR_at, lstR_at1, lstO_own, lstO_deal, items_at, items_at1, itO_own, it1_deal, putR_at, putR_at1, putO_deal, PR_v, PR_t, PR_l, Rt_d, Rt_q, rtO_some, retR_val, retR_new, retR_newD, retR_at, exitD_none, exitD_some, dealO_deal, intO_int, toB_bl, newO_new, valO_val, thW_nx, thW_bk, thW_ct, thW_rt,
  callW_d, callW_nil, callW_ref, refW_deal, augW_dat, exV, ex1, exI, addP_i, addP_l, addP_t, addI_i, subP_i, mulP_i, mulP_0, divP_i, modP_i, powP_i, cmpP_i, eqP_i, neP_i, isP_nn, isP_in, isP_tn, isP_bn, isnP_nn, isnP_in, isnP_tn, isP_nb, isP_ib, isP_tb, isP_bb, len_l, len_t, int_i, abs_i, tup_l, tup_t, lst_l, lst_t, min_i, max_i, rev_l, neg_i, sum_l, slP_t, slP_l,
  ixP_t, ixP_l, ixR_v, ixR_n, ixR_a, ixW_own, ixW_deal0, ixW_deal1, ixR_1, itemsD_l, itemsD_t, rangeP1, rangeP2, plains, plainO_none, plainO_dat, datO_none, datO_dat, setAll_nil, setAll_cons, setAW_some, setT_t,
  stR_at, stO_deal, setI, setIs, Itm.o, setD, forget_nil, forget_cons, fgO_none, fgO_dat, fgO_own, fgO_deal, wipeΓ, backΓ, argD, drs, List.all_cons, List.all_nil, Bool.and_true, List.getElem?_cons_zero, List.getElem?_cons_succ, List.set_cons_zero, List.set_cons_succ, List.length_cons, List.length_nil, Nat.zero_add, Nat.reduceAdd, Nat.reduceLeDiff, true_and, and_true, decide_eq_true_eq]
  refine ⟨by omega, ?_⟩
  refine W_forR (fun n Γ => ∃ (cs : List Int) (m : Int) (l dn : List D), Γ = [some (.deal (zi cs) (.int m)), some (.dat (.lst ds)), some (.own l), some (.own dn), none] ∧ (dn ++ l).Perm ds ∧ dn.length = n ∧ cs.length ≤ 63) ⟨cs, m, ds, [], rfl, .refl _, rfl, hl⟩ ?_ ?_
  · rintro n Γ hn ⟨cs, m, l, dn, rfl, hp, hdn, hl⟩
    have hlen := hp.length_eq
    rw [List.length_append] at hlen
    simp -implicitDefEqProofs only [sv, ev, CO.p, BO.p, BO.ap, tv, isNop, if_true, if_false, Bool.false_eq_true, reduceIte,
  W_then, W_asg, W_disp, W_nil, W_cons, W_consA, W_consI, W_var, W_val, W_bin, W_chn, W_ix, W_un, W_optN, W_optS, W_sl, W_deal, W_blt, W_isi, W_lrg, W_call, W_prm, W_ite, W_T, W_B, W_not, W_and, W_or, W_seq, W_rng, W_app, W_pop, W_popAt, oneI_i, oneL_l, W_nx, W_drop, W_pure, W_ret, W_if, W_par, W_unp, W_sub, W_yes, W_for, W_aug', W_lc,
  wO_some, wD_some, wD_if, rdO_dat, rdO_own, rdO_deal, mv_val, mv_new, mv_at, mvO_dat, mvO_own, dr_val, dr_new, dr_at, drO_dat, drO_own, dr_at1, dr1_deal, mvA_val, mvA_new, mvA_at, mvAO_dat, mvAO_own, mvAO_deal, toItm_f, itmO_some, toItm_n, toItm_q,
  isDeal_none, isDeal_dat, isDeal_own, isDeal_deal, lstR_at, lstR_at1, lstO_own, lstO_deal, items_at, items_at1, itO_own, it1_deal, putR_at, putR_at1, putO_deal, PR_v, PR_t, PR_l, Rt_d, Rt_q, rtO_some, retR_val, retR_new, retR_newD, retR_at, exitD_none, exitD_some, dealO_deal, intO_int, toB_bl, newO_new, valO_val, thW_nx, thW_bk, thW_ct, thW_rt,
  callW_d, callW_nil, callW_ref, refW_deal, augW_dat, exV, ex1, exI, addP_i, addP_l, addP_t, addI_i, subP_i, mulP_i, mulP_0, divP_i, modP_i, powP_i, cmpP_i, eqP_i, neP_i, isP_nn, isP_in, isP_tn, isP_bn, isnP_nn, isnP_in, isnP_tn, isP_nb, isP_ib, isP_tb, isP_bb, len_l, len_t, int_i, abs_i, tup_l, tup_t, lst_l, lst_t, min_i, max_i, rev_l, neg_i, sum_l, slP_t, slP_l,
  ixP_t, ixP_l, ixR_v, ixR_n, ixR_a, ixW_own, ixW_deal0, ixW_deal1, ixR_1, itemsD_l, itemsD_t, rangeP1, rangeP2, plains, plainO_none, plainO_dat, datO_none, datO_dat, setAll_nil, setAll_cons, setAW_some, setT_t,
  stR_at, stO_deal, setI, setIs, Itm.o, setD, forget_nil, forget_cons, fgO_none, fgO_dat, fgO_own, fgO_deal, wipeΓ, backΓ, argD, drs, List.all_cons, List.all_nil, Bool.and_true, List.getElem?_cons_zero, List.getElem?_cons_succ, List.set_cons_zero, List.set_cons_succ, List.length_cons, List.length_nil, Nat.zero_add, Nat.reduceAdd, Nat.reduceLeDiff, true_and, and_true, decide_eq_true_eq]
    refine wO.mono (hA cs m l.length hl (by omega) (by omega)) ?_
    rintro _ _ ⟨v, cs, m, rfl, hv, rfl, hl⟩
    have hg : l[v]? = some l[v] := List.getElem?_eq_getElem (by omega)
    simp -implicitDefEqProofs only [popIx_nat (i := v) (n := l.length) (by omega) (by omega), hg, sv, ev, CO.p, BO.p, BO.ap, tv, isNop, if_true, if_false, Bool.false_eq_true, reduceIte,
  W_then, W_asg, W_disp, W_nil, W_cons, W_consA, W_consI, W_var, W_val, W_bin, W_chn, W_ix, W_un, W_optN, W_optS, W_sl, W_deal, W_blt, W_isi, W_lrg, W_call, W_prm, W_ite, W_T, W_B, W_not, W_and, W_or, W_seq, W_rng, W_app, W_pop, W_popAt, oneI_i, oneL_l, W_nx, W_drop, W_pure, W_ret, W_if, W_par, W_unp, W_sub, W_yes, W_for, W_aug', W_lc,
  wO_some, wD_some, wD_if, rdO_dat, rdO_own, rdO_deal, mv_val, mv_new, mv_at, mvO_dat, mvO_own, dr_val, dr_new, dr_at, drO_dat, drO_own, dr_at1, dr1_deal, mvA_val, mvA_new, mvA_at, mvAO_dat, mvAO_own, mvAO_deal, toItm_f, itmO_some, toItm_n, toItm_q,
  isDeal_none, isDeal_dat, isDeal_own, isDeal_deal, lstR_at, lstR_at1, lstO_own, lstO_deal, items_at, items_at1, itO_own, it1_deal, putR_at, putR_at1, putO_deal, PR_v, PR_t, PR_l, Rt_d, Rt_q, rtO_some, retR_val, retR_new, retR_newD, retR_at, exitD_none, exitD_some, dealO_deal, intO_int, toB_bl, newO_new, valO_val, thW_nx, thW_bk, thW_ct, thW_rt,
  callW_d, callW_nil, callW_ref, refW_deal, augW_dat, exV, ex1, exI, addP_i, addP_l, addP_t, addI_i, subP_i, mulP_i, mulP_0, divP_i, modP_i, powP_i, cmpP_i, eqP_i, neP_i, isP_nn, isP_in, isP_tn, isP_bn, isnP_nn, isnP_in, isnP_tn, isP_nb, isP_ib, isP_tb, isP_bb, len_l, len_t, int_i, abs_i, tup_l, tup_t, lst_l, lst_t, min_i, max_i, rev_l, neg_i, sum_l, slP_t, slP_l,
  ixP_t, ixP_l, ixR_v, ixR_n, ixR_a, ixW_own, ixW_deal0, ixW_deal1, ixR_1, itemsD_l, itemsD_t, rangeP1, rangeP2, plains, plainO_none, plainO_dat, datO_none, datO_dat, setAll_nil, setAll_cons, setAW_some, setT_t,
  stR_at, stO_deal, setI, setIs, Itm.o, setD, forget_nil, forget_cons, fgO_none, fgO_dat, fgO_own, fgO_deal, wipeΓ, backΓ, argD, drs, List.all_cons, List.all_nil, Bool.and_true, List.getElem?_cons_zero, List.getElem?_cons_succ, List.set_cons_zero, List.set_cons_succ, List.length_cons, List.length_nil, Nat.zero_add, Nat.reduceAdd, Nat.reduceLeDiff, true_and, and_true, decide_eq_true_eq]
    refine ⟨by omega, cs, m, _, _, rfl, ?_, by rw [List.length_append, hdn]; rfl, hl⟩
    rw [List.append_assoc]
    exact (List.Perm.append_left dn (erase_perm hg)).trans hp
  · rintro Γ ⟨cs, m, l, dn, rfl, hp, hdn, hl⟩
    have hlen := hp.length_eq
    rw [List.length_append] at hlen
    rw [Int.toNat_natCast] at hdn
    have : l = [] := List.length_eq_zero_iff.mp (by omega)
    subst this
    rw [List.append_nil] at hp
    simp -implicitDefEqProofs only [sv, ev, CO.p, BO.p, BO.ap, tv, isNop, if_true, if_false, Bool.false_eq_true, reduceIte,
  W_then, W_asg, W_disp, W_nil, W_cons, W_consA, W_consI, W_var, W_val, W_bin, W_chn, W_ix, W_un, W_optN, W_optS, W_sl, W_deal, W_blt, W_isi, W_lrg, W_call, W_prm, W_ite, W_T, W_B, W_not, W_and, W_or, W_seq, W_rng, W_app, W_pop, W_popAt, oneI_i, oneL_l, W_nx, W_drop, W_pure, W_ret, W_if, W_par, W_unp, W_sub, W_yes, W_for, W_aug', W_lc,
  wO_some, wD_some, wD_if, rdO_dat, rdO_own, rdO_deal, mv_val, mv_new, mv_at, mvO_dat, mvO_own, dr_val, dr_new, dr_at, drO_dat, drO_own, dr_at1, dr1_deal, mvA_val, mvA_new, mvA_at, mvAO_dat, mvAO_own, mvAO_deal, toItm_f, itmO_some, toItm_n, toItm_q,
  isDeal_none, isDeal_dat, isDeal_own, isDeal_deal, lstR_at, lstR_at1, lstO_own, lstO_deal, items_at, items_at1, itO_own, it1_deal, putR_at, putR_at1, putO_deal, PR_v, PR_t, PR_l, Rt_d, Rt_q, rtO_some, retR_val, retR_new, retR_newD, retR_at, exitD_none, exitD_some, dealO_deal, intO_int, toB_bl, newO_new, valO_val, thW_nx, thW_bk, thW_ct, thW_rt,
  callW_d, callW_nil, callW_ref, refW_deal, augW_dat, exV, ex1, exI, addP_i, addP_l, addP_t, addI_i, subP_i, mulP_i, mulP_0, divP_i, modP_i, powP_i, cmpP_i, eqP_i, neP_i, isP_nn, isP_in, isP_tn, isP_bn, isnP_nn, isnP_in, isnP_tn, isP_nb, isP_ib, isP_tb, isP_bb, len_l, len_t, int_i, abs_i, tup_l, tup_t, lst_l, lst_t, min_i, max_i, rev_l, neg_i, sum_l, slP_t, slP_l,
  ixP_t, ixP_l, ixR_v, ixR_n, ixR_a, ixW_own, ixW_deal0, ixW_deal1, ixR_1, itemsD_l, itemsD_t, rangeP1, rangeP2, plains, plainO_none, plainO_dat, datO_none, datO_dat, setAll_nil, setAll_cons, setAW_some, setT_t,
  stR_at, stO_deal, setI, setIs, Itm.o, setD, forget_nil, forget_cons, fgO_none, fgO_dat, fgO_own, fgO_deal, wipeΓ, backΓ, argD, drs, List.all_cons, List.all_nil, Bool.and_true, List.getElem?_cons_zero, List.getElem?_cons_succ, List.set_cons_zero, List.set_cons_succ, List.length_cons, List.length_nil, Nat.zero_add, Nat.reduceAdd, Nat.reduceLeDiff, true_and, and_true, decide_eq_true_eq]
    exact ⟨dn, cs, m, rfl, hp, rfl, hl⟩
/-- _law_near_prime -/
def tNear : Z.St := (.next (.loop [1] (.nm 1) (.rng 2 (.cons (.var 0) (.cons (.bin .add (.var 0) (.lit (.int 40))) .nil)))
 (.next (.iff (.cmp .eq (.blt .len (.cons (.lc [2] (.rng 2 (.cons (.lit (.int 2)) (.cons (.lit (.int 100)) .nil))) (.nm 2) (.and (.cmp .le (.bin .mul (.var 2) (.var 2)) (.var 1)) (.cmp .eq (.bin .mod (.blt .int (.cons (.var 1) .nil)) (.var 2)) (.lit (.int 0)))) (.var 2)) .nil)) (.lit (.int 0)))
 (.next (.ret (.var 1))
 .nil)
 .nil)
 .nil))
 (.next (.ret (.lit (.int 101)))
 .nil))
def PriR (rt : Rt) (q' q : Dl) : Prop := ∃ p : Int, rt = .dat (.int p) ∧ GoodP p ∧ q' = q
theorem near_ok (cal) (n : Nat) (h1 : 5 ≤ n) (h2 : n ≤ 9005) : wO (runF cal 3 tNear none [.int n]) fun rt q' => PriR rt q' none := by
  refine runF_W ?_
  simp -implicitDefEqProofs only [tNear, inΓ, dlO, List.map_cons, List.map_nil, List.nil_append, List.cons_append, List.replicate, Nat.reduceSub, sv, ev, CO.p, BO.p, BO.ap, tv, isNop, if_true, if_false, Bool.false_eq_true, reduceIte,
  W_then, W_asg, W_disp, W_nil, W_cons, W_consA, W_consI, W_var, W_val, W_bin, W_chn, W_ix, W_un, W_optN, W_optS, W_sl, W_deal, W_blt, W_isi, W_lrg, W_call, W_prm, W_ite, W_T, W_B, W_not, W_and, W_or, W_seq, W_rng, W_app, W_pop, W_popAt, oneI_i, oneL_l, W_nx, W_drop, W_pure, W_ret, W_if, W_par, W_unp, W_sub, W_yes, W_for, W_aug', W_lc,
  wO_some, wD_some, wD_if, rdO_dat, rdO_own, rdO_deal, mv_val, mv_new, mv_at, mvO_dat, mvO_own, dr_val, dr_new, dr_at, drO_dat, drO_own, dr_at1, dr1_deal, mvA_val, mvA_new, mvA_at, mvAO_dat, mvAO_own, mvAO_deal, toItm_f, itmO_some, toItm_n, toItm_q,
  isDeal_none, isDeal_dat, isDeal_own, isDeal_deal, lstR_at, lstR_at1, lstO_own, lstO_deal, items_at, items_at1, itO_own, it1_deal, putR_at, putR_at1, putO_deal, PR_v, PR_t, PR_l, Rt_d, Rt_q, rtO_some, retR_val, retR_new, retR_newD, retR_at, exitD_none, exitD_some, dealO_deal, intO_int, toB_bl, newO_new, valO_val, thW_nx, thW_bk, thW_ct, thW_rt,
  callW_d, callW_nil, callW_ref, refW_deal, augW_dat, exV, ex1, exI, addP_i, addP_l, addP_t, addI_i, subP_i, mulP_i, mulP_0, divP_i, modP_i, powP_i, cmpP_i, eqP_i, neP_i, isP_nn, isP_in, isP_tn, isP_bn, isnP_nn, isnP_in, isnP_tn, isP_nb, isP_ib, isP_tb, isP_bb, len_l, len_t, int_i, abs_i, tup_l, tup_t, lst_l, lst_t, min_i, max_i, rev_l, neg_i, sum_l, slP_t, slP_l,
  ixP_t, ixP_l, ixR_v, ixR_n, ixR_a, ixW_own, ixW_deal0, ixW_deal1, ixR_1, itemsD_l, itemsD_t, rangeP1, rangeP2, plains, plainO_none, plainO_dat, datO_none, datO_dat, setAll_nil, setAll_cons, setAW_some, setT_t,
  stR_at, stO_deal, setI, setIs, Itm.o, setD, forget_nil, forget_cons, fgO_none, fgO_dat, fgO_own, fgO_deal, wipeΓ, backΓ, argD, drs, List.all_cons, List.all_nil, Bool.and_true, List.getElem?_cons_zero, List.getElem?_cons_succ, List.set_cons_zero, List.set_cons_succ, List.length_cons, List.length_nil, Nat.zero_add, Nat.reduceAdd, Nat.reduceLeDiff, true_and, and_true, decide_eq_true_eq]
  refine ⟨by omega, ?_⟩
  refine W_forL (fun i Γ => Γ = [some (.dat (.int n)), none, none]) rfl ?_ ?_
  · rintro i d Γ hd rfl
    rw [show ((n : Int) + 40 - n).toNat = 40 by omega] at hd
    have hi : i < 40 := by
      rcases Nat.lt_or_ge i 40 with h | h
      · exact h
      · rw [List.getElem?_eq_none (by rw [List.length_map, List.length_range]; exact h)] at hd; cases hd
    rw [List.getElem?_map, List.getElem?_range hi] at hd
    cases hd
    simp -implicitDefEqProofs only [sv, ev, CO.p, BO.p, BO.ap, tv, isNop, if_true, if_false, Bool.false_eq_true, reduceIte,
  W_then, W_asg, W_disp, W_nil, W_cons, W_consA, W_consI, W_var, W_val, W_bin, W_chn, W_ix, W_un, W_optN, W_optS, W_sl, W_deal, W_blt, W_isi, W_lrg, W_call, W_prm, W_ite, W_T, W_B, W_not, W_and, W_or, W_seq, W_rng, W_app, W_pop, W_popAt, oneI_i, oneL_l, W_nx, W_drop, W_pure, W_ret, W_if, W_par, W_unp, W_sub, W_yes, W_for, W_aug', W_lc,
  wO_some, wD_some, wD_if, rdO_dat, rdO_own, rdO_deal, mv_val, mv_new, mv_at, mvO_dat, mvO_own, dr_val, dr_new, dr_at, drO_dat, drO_own, dr_at1, dr1_deal, mvA_val, mvA_new, mvA_at, mvAO_dat, mvAO_own, mvAO_deal, toItm_f, itmO_some, toItm_n, toItm_q,
  isDeal_none, isDeal_dat, isDeal_own, isDeal_deal, lstR_at, lstR_at1, lstO_own, lstO_deal, items_at, items_at1, itO_own, it1_deal, putR_at, putR_at1, putO_deal, PR_v, PR_t, PR_l, Rt_d, Rt_q, rtO_some, retR_val, retR_new, retR_newD, retR_at, exitD_none, exitD_some, dealO_deal, intO_int, toB_bl, newO_new, valO_val, thW_nx, thW_bk, thW_ct, thW_rt,
  callW_d, callW_nil, callW_ref, refW_deal, augW_dat, exV, ex1, exI, addP_i, addP_l, addP_t, addI_i, subP_i, mulP_i, mulP_0, divP_i, modP_i, powP_i, cmpP_i, eqP_i, neP_i, isP_nn, isP_in, isP_tn, isP_bn, isnP_nn, isnP_in, isnP_tn, isP_nb, isP_ib, isP_tb, isP_bb, len_l, len_t, int_i, abs_i, tup_l, tup_t, lst_l, lst_t, min_i, max_i, rev_l, neg_i, sum_l, slP_t, slP_l,
  ixP_t, ixP_l, ixR_v, ixR_n, ixR_a, ixW_own, ixW_deal0, ixW_deal1, ixR_1, itemsD_l, itemsD_t, rangeP1, rangeP2, plains, plainO_none, plainO_dat, datO_none, datO_dat, setAll_nil, setAll_cons, setAW_some, setT_t,
  stR_at, stO_deal, setI, setIs, Itm.o, setD, forget_nil, forget_cons, fgO_none, fgO_dat, fgO_own, fgO_deal, wipeΓ, backΓ, argD, drs, List.all_cons, List.all_nil, Bool.and_true, List.getElem?_cons_zero, List.getElem?_cons_succ, List.set_cons_zero, List.set_cons_succ, List.length_cons, List.length_nil, Nat.zero_add, Nat.reduceAdd, Nat.reduceLeDiff, true_and, and_true, decide_eq_true_eq]
    refine ⟨by omega, ?_⟩
    refine W_lcL (fun j Γ acc => Γ = [some (.dat (.int n)), some (.dat (.int (n + i : Nat))), none] ∧ acc.length ≤ j ∧ j ≤ 98 ∧ (acc.length = 0 → ∀ k : Nat, 2 ≤ k → k < 2 + j → ¬ (k * k ≤ n + i ∧ (n + i) % k = 0))) ⟨rfl, by decide, by decide, fun _ k a b => by omega⟩ ?_ ?_
    · rintro j d Γ acc hd ⟨rfl, ha, hj, hk⟩
      rw [show ((100 : Int) - 2).toNat = 98 by decide] at hd
      have hj' : j < 98 := by
        rcases Nat.lt_or_ge j 98 with h | h
        · exact h
        · rw [List.getElem?_eq_none (by rw [List.length_map, List.length_range]; exact h)] at hd; cases hd
      rw [List.getElem?_map, List.getElem?_range hj'] at hd
      cases hd
      have c1 : (2 : Int) + (j : Int) = ((2 + j : Nat) : Int) := by omega
      have c2 : ((2 + j : Nat) : Int) * ((2 + j : Nat) : Int) = (((2 + j) * (2 + j) : Nat) : Int) := by rw [Int.natCast_mul]
      have c3 : ((n + i : Nat) : Int) % ((2 + j : Nat) : Int) = (((n + i) % (2 + j) : Nat) : Int) := by rw [Int.natCast_emod]
      simp -implicitDefEqProofs only [c1, c2, c3, sv, ev, CO.p, BO.p, BO.ap, tv, isNop, if_true, if_false, Bool.false_eq_true, reduceIte,
  W_then, W_asg, W_disp, W_nil, W_cons, W_consA, W_consI, W_var, W_val, W_bin, W_chn, W_ix, W_un, W_optN, W_optS, W_sl, W_deal, W_blt, W_isi, W_lrg, W_call, W_prm, W_ite, W_T, W_B, W_not, W_and, W_or, W_seq, W_rng, W_app, W_pop, W_popAt, oneI_i, oneL_l, W_nx, W_drop, W_pure, W_ret, W_if, W_par, W_unp, W_sub, W_yes, W_for, W_aug', W_lc,
  wO_some, wD_some, wD_if, rdO_dat, rdO_own, rdO_deal, mv_val, mv_new, mv_at, mvO_dat, mvO_own, dr_val, dr_new, dr_at, drO_dat, drO_own, dr_at1, dr1_deal, mvA_val, mvA_new, mvA_at, mvAO_dat, mvAO_own, mvAO_deal, toItm_f, itmO_some, toItm_n, toItm_q,
  isDeal_none, isDeal_dat, isDeal_own, isDeal_deal, lstR_at, lstR_at1, lstO_own, lstO_deal, items_at, items_at1, itO_own, it1_deal, putR_at, putR_at1, putO_deal, PR_v, PR_t, PR_l, Rt_d, Rt_q, rtO_some, retR_val, retR_new, retR_newD, retR_at, exitD_none, exitD_some, dealO_deal, intO_int, toB_bl, newO_new, valO_val, thW_nx, thW_bk, thW_ct, thW_rt,
  callW_d, callW_nil, callW_ref, refW_deal, augW_dat, exV, ex1, exI, addP_i, addP_l, addP_t, addI_i, subP_i, mulP_i, mulP_0, divP_i, modP_i, powP_i, cmpP_i, eqP_i, neP_i, isP_nn, isP_in, isP_tn, isP_bn, isnP_nn, isnP_in, isnP_tn, isP_nb, isP_ib, isP_tb, isP_bb, len_l, len_t, int_i, abs_i, tup_l, tup_t, lst_l, lst_t, min_i, max_i, rev_l, neg_i, sum_l, slP_t, slP_l,
  ixP_t, ixP_l, ixR_v, ixR_n, ixR_a, ixW_own, ixW_deal0, ixW_deal1, ixR_1, itemsD_l, itemsD_t, rangeP1, rangeP2, plains, plainO_none, plainO_dat, datO_none, datO_dat, setAll_nil, setAll_cons, setAW_some, setT_t,
  stR_at, stO_deal, setI, setIs, Itm.o, setD, forget_nil, forget_cons, fgO_none, fgO_dat, fgO_own, fgO_deal, wipeΓ, backΓ, argD, drs, List.all_cons, List.all_nil, Bool.and_true, List.getElem?_cons_zero, List.getElem?_cons_succ, List.set_cons_zero, List.set_cons_succ, List.length_cons, List.length_nil, Nat.zero_add, Nat.reduceAdd, Nat.reduceLeDiff, true_and, and_true, decide_eq_true_eq]
      refine ⟨.inl ⟨by omega, by omega⟩, ?_⟩
      have no : ¬ ((2 + j) * (2 + j) ≤ n + i ∧ (n + i) % (2 + j) = 0) → acc.length ≤ j + 1 ∧ j ≤ 97 ∧ (acc.length = 0 → ∀ k : Nat, 2 ≤ k → k < 2 + (j + 1) → ¬ (k * k ≤ n + i ∧ (n + i) % k = 0)) := fun h => ⟨by omega, by omega, fun h0 k a b => by
        by_cases e : k = 2 + j
        · subst e; exact h
        · exact hk h0 k a (by omega)⟩
      split
      · refine ⟨by omega, ?_⟩
        split
        · refine ⟨by omega, by rw [List.length_append]; simp -implicitDefEqProofs only [List.length_cons, List.length_nil]; omega, by omega, fun h0 => ?_⟩
          rw [List.length_append] at h0
          simp -implicitDefEqProofs only [List.length_cons, List.length_nil] at h0
          omega
        · exact no fun h => by omega
      · exact no fun h => by omega
    · rintro Γ acc ⟨rfl, ha, hj, hk⟩
      rw [List.length_map, List.length_range, show ((100 : Int) - 2).toNat = 98 by decide] at ha hk
      simp -implicitDefEqProofs only [sv, ev, CO.p, BO.p, BO.ap, tv, isNop, if_true, if_false, Bool.false_eq_true, reduceIte,
  W_then, W_asg, W_disp, W_nil, W_cons, W_consA, W_consI, W_var, W_val, W_bin, W_chn, W_ix, W_un, W_optN, W_optS, W_sl, W_deal, W_blt, W_isi, W_lrg, W_call, W_prm, W_ite, W_T, W_B, W_not, W_and, W_or, W_seq, W_rng, W_app, W_pop, W_popAt, oneI_i, oneL_l, W_nx, W_drop, W_pure, W_ret, W_if, W_par, W_unp, W_sub, W_yes, W_for, W_aug', W_lc,
  wO_some, wD_some, wD_if, rdO_dat, rdO_own, rdO_deal, mv_val, mv_new, mv_at, mvO_dat, mvO_own, dr_val, dr_new, dr_at, drO_dat, drO_own, dr_at1, dr1_deal, mvA_val, mvA_new, mvA_at, mvAO_dat, mvAO_own, mvAO_deal, toItm_f, itmO_some, toItm_n, toItm_q,
  isDeal_none, isDeal_dat, isDeal_own, isDeal_deal, lstR_at, lstR_at1, lstO_own, lstO_deal, items_at, items_at1, itO_own, it1_deal, putR_at, putR_at1, putO_deal, PR_v, PR_t, PR_l, Rt_d, Rt_q, rtO_some, retR_val, retR_new, retR_newD, retR_at, exitD_none, exitD_some, dealO_deal, intO_int, toB_bl, newO_new, valO_val, thW_nx, thW_bk, thW_ct, thW_rt,
  callW_d, callW_nil, callW_ref, refW_deal, augW_dat, exV, ex1, exI, addP_i, addP_l, addP_t, addI_i, subP_i, mulP_i, mulP_0, divP_i, modP_i, powP_i, cmpP_i, eqP_i, neP_i, isP_nn, isP_in, isP_tn, isP_bn, isnP_nn, isnP_in, isnP_tn, isP_nb, isP_ib, isP_tb, isP_bb, len_l, len_t, int_i, abs_i, tup_l, tup_t, lst_l, lst_t, min_i, max_i, rev_l, neg_i, sum_l, slP_t, slP_l,
  ixP_t, ixP_l, ixR_v, ixR_n, ixR_a, ixW_own, ixW_deal0, ixW_deal1, ixR_1, itemsD_l, itemsD_t, rangeP1, rangeP2, plains, plainO_none, plainO_dat, datO_none, datO_dat, setAll_nil, setAll_cons, setAW_some, setT_t,
  stR_at, stO_deal, setI, setIs, Itm.o, setD, forget_nil, forget_cons, fgO_none, fgO_dat, fgO_own, fgO_deal, wipeΓ, backΓ, argD, drs, List.all_cons, List.all_nil, Bool.and_true, List.getElem?_cons_zero, List.getElem?_cons_succ, List.set_cons_zero, List.set_cons_succ, List.length_cons, List.length_nil, Nat.zero_add, Nat.reduceAdd, Nat.reduceLeDiff, true_and, and_true, decide_eq_true_eq]
      split
      · rename_i h0
        refine ⟨_, rfl, near_good (q := n + i) (by omega) (by omega) ?_, rfl⟩
        intro k a b
        exact hk (by omega) k a (by omega)
      · simp -implicitDefEqProofs only [sv, ev, CO.p, BO.p, BO.ap, tv, isNop, if_true, if_false, Bool.false_eq_true, reduceIte,
  W_then, W_asg, W_disp, W_nil, W_cons, W_consA, W_consI, W_var, W_val, W_bin, W_chn, W_ix, W_un, W_optN, W_optS, W_sl, W_deal, W_blt, W_isi, W_lrg, W_call, W_prm, W_ite, W_T, W_B, W_not, W_and, W_or, W_seq, W_rng, W_app, W_pop, W_popAt, oneI_i, oneL_l, W_nx, W_drop, W_pure, W_ret, W_if, W_par, W_unp, W_sub, W_yes, W_for, W_aug', W_lc,
  wO_some, wD_some, wD_if, rdO_dat, rdO_own, rdO_deal, mv_val, mv_new, mv_at, mvO_dat, mvO_own, dr_val, dr_new, dr_at, drO_dat, drO_own, dr_at1, dr1_deal, mvA_val, mvA_new, mvA_at, mvAO_dat, mvAO_own, mvAO_deal, toItm_f, itmO_some, toItm_n, toItm_q,
  isDeal_none, isDeal_dat, isDeal_own, isDeal_deal, lstR_at, lstR_at1, lstO_own, lstO_deal, items_at, items_at1, itO_own, it1_deal, putR_at, putR_at1, putO_deal, PR_v, PR_t, PR_l, Rt_d, Rt_q, rtO_some, retR_val, retR_new, retR_newD, retR_at, exitD_none, exitD_some, dealO_deal, intO_int, toB_bl, newO_new, valO_val, thW_nx, thW_bk, thW_ct, thW_rt,
  callW_d, callW_nil, callW_ref, refW_deal, augW_dat, exV, ex1, exI, addP_i, addP_l, addP_t, addI_i, subP_i, mulP_i, mulP_0, divP_i, modP_i, powP_i, cmpP_i, eqP_i, neP_i, isP_nn, isP_in, isP_tn, isP_bn, isnP_nn, isnP_in, isnP_tn, isP_nb, isP_ib, isP_tb, isP_bb, len_l, len_t, int_i, abs_i, tup_l, tup_t, lst_l, lst_t, min_i, max_i, rev_l, neg_i, sum_l, slP_t, slP_l,
  ixP_t, ixP_l, ixR_v, ixR_n, ixR_a, ixW_own, ixW_deal0, ixW_deal1, ixR_1, itemsD_l, itemsD_t, rangeP1, rangeP2, plains, plainO_none, plainO_dat, datO_none, datO_dat, setAll_nil, setAll_cons, setAW_some, setT_t,
  stR_at, stO_deal, setI, setIs, Itm.o, setD, forget_nil, forget_cons, fgO_none, fgO_dat, fgO_own, fgO_deal, wipeΓ, backΓ, argD, drs, List.all_cons, List.all_nil, Bool.and_true, List.getElem?_cons_zero, List.getElem?_cons_succ, List.set_cons_zero, List.set_cons_succ, List.length_cons, List.length_nil, Nat.zero_add, Nat.reduceAdd, Nat.reduceLeDiff, true_and, and_true, decide_eq_true_eq]
  · rintro Γ rfl
    simp -implicitDefEqProofs only [sv, ev, CO.p, BO.p, BO.ap, tv, isNop, if_true, if_false, Bool.false_eq_true, reduceIte,
  W_then, W_asg, W_disp, W_nil, W_cons, W_consA, W_consI, W_var, W_val, W_bin, W_chn, W_ix, W_un, W_optN, W_optS, W_sl, W_deal, W_blt, W_isi, W_lrg, W_call, W_prm, W_ite, W_T, W_B, W_not, W_and, W_or, W_seq, W_rng, W_app, W_pop, W_popAt, oneI_i, oneL_l, W_nx, W_drop, W_pure, W_ret, W_if, W_par, W_unp, W_sub, W_yes, W_for, W_aug', W_lc,
  wO_some, wD_some, wD_if, rdO_dat, rdO_own, rdO_deal, mv_val, mv_new, mv_at, mvO_dat, mvO_own, dr_val, dr_new, dr_at, drO_dat, drO_own, dr_at1, dr1_deal, mvA_val, mvA_new, mvA_at, mvAO_dat, mvAO_own, mvAO_deal, toItm_f, itmO_some, toItm_n, toItm_q,
  isDeal_none, isDeal_dat, isDeal_own, isDeal_deal, lstR_at, lstR_at1, lstO_own, lstO_deal, items_at, items_at1, itO_own, it1_deal, putR_at, putR_at1, putO_deal, PR_v, PR_t, PR_l, Rt_d, Rt_q, rtO_some, retR_val, retR_new, retR_newD, retR_at, exitD_none, exitD_some, dealO_deal, intO_int, toB_bl, newO_new, valO_val, thW_nx, thW_bk, thW_ct, thW_rt,
  callW_d, callW_nil, callW_ref, refW_deal, augW_dat, exV, ex1, exI, addP_i, addP_l, addP_t, addI_i, subP_i, mulP_i, mulP_0, divP_i, modP_i, powP_i, cmpP_i, eqP_i, neP_i, isP_nn, isP_in, isP_tn, isP_bn, isnP_nn, isnP_in, isnP_tn, isP_nb, isP_ib, isP_tb, isP_bb, len_l, len_t, int_i, abs_i, tup_l, tup_t, lst_l, lst_t, min_i, max_i, rev_l, neg_i, sum_l, slP_t, slP_l,
  ixP_t, ixP_l, ixR_v, ixR_n, ixR_a, ixW_own, ixW_deal0, ixW_deal1, ixR_1, itemsD_l, itemsD_t, rangeP1, rangeP2, plains, plainO_none, plainO_dat, datO_none, datO_dat, setAll_nil, setAll_cons, setAW_some, setT_t,
  stR_at, stO_deal, setI, setIs, Itm.o, setD, forget_nil, forget_cons, fgO_none, fgO_dat, fgO_own, fgO_deal, wipeΓ, backΓ, argD, drs, List.all_cons, List.all_nil, Bool.and_true, List.getElem?_cons_zero, List.getElem?_cons_succ, List.set_cons_zero, List.set_cons_succ, List.length_cons, List.length_nil, Nat.zero_add, Nat.reduceAdd, Nat.reduceLeDiff, true_and, and_true, decide_eq_true_eq]
    exact ⟨101, rfl, good_of (p := 101) (by decide) (by decide) (by decide) (by decide +kernel), rfl⟩
/-- _law_prime; the callees _law_any i, _law_of j, _law_near_prime k -/
def tPri (i j k : Nat) : Z.St := (.next (.asg false 1 (.call i 2 (.cons (.var 0) (.cons (.lit (.int 8)) .nil))))
 (.next (.iff (.cmp .lt (.var 1) (.lit (.int 2)))
 (.next (.ret (.bin .add (.lit (.int 5)) (.bin .mul (.lit (.int 2)) (.var 1))))
 .nil)
 .nil)
 (.next (.iff (.cmp .lt (.var 1) (.lit (.int 4)))
 (.next (.ret (.lit (.int 2305843009213693951)))
 .nil)
 .nil)
 (.next (.iff (.cmp .eq (.var 1) (.lit (.int 4)))
 (.next (.ret (.call j 2 (.cons (.var 0) (.cons (.lst (.cons (.lit (.int 2147483647)) (.cons (.lit (.int 4294967291)) (.cons (.lit (.int 998244353)) (.cons (.lit (.int 1000000007)) (.cons (.lit (.int 1945555039024054273)) (.cons (.lit (.int 65537)) .nil))))))) .nil))))
 .nil)
 .nil)
 (.next (.ret (.call k 1 (.cons (.bin .add (.lit (.int 5)) (.call i 2 (.cons (.var 0) (.cons (.lit (.int 9000)) .nil)))) .nil)))
 .nil)))))
def PriOk (g : Sm) : Prop := ∀ (cs : List Int) (m : Int), cs.length ≤ 63 → wO (g (some (zi cs, .int m)) []) fun rt q' => ∃ (p : Int) (cs' : List Int) (m' : Int), rt = .dat (.int p) ∧ GoodP p ∧ q' = some (zi cs', .int m') ∧ cs'.length ≤ 63
theorem pri_ok (cal : Nat → Sm) (i j k : Nat) (hA : AnyOk (cal i)) (hO : OfOk (cal j)) (hN : ∀ n : Nat, 5 ≤ n → n ≤ 9005 → wO (cal k none [.int n]) fun rt q' => PriR rt q' none) : PriOk (runF cal 2 (tPri i j k)) := by
  intro cs m hl
  refine runF_W ?_
  simp -implicitDefEqProofs only [tPri, inΓ, dlO, List.map_cons, List.map_nil, List.nil_append, List.cons_append, List.replicate, Nat.reduceSub, sv, ev, CO.p, BO.p, BO.ap, tv, isNop, if_true, if_false, Bool.false_eq_true, reduceIte,
  W_then, W_asg, W_disp, W_nil, W_cons, W_consA, W_consI, W_var, W_val, W_bin, W_chn, W_ix, W_un, W_optN, W_optS, W_sl, W_deal, W_blt, W_isi, W_lrg, W_call, W_prm, W_ite, W_T, W_B, W_not, W_and, W_or, W_seq, W_rng, W_app, W_pop, W_popAt, oneI_i, oneL_l, W_nx, W_drop, W_pure, W_ret, W_if, W_par, W_unp, W_sub, W_yes, W_for, W_aug', W_lc,
  wO_some, wD_some, wD_if, rdO_dat, rdO_own, rdO_deal, mv_val, mv_new, mv_at, mvO_dat, mvO_own, dr_val, dr_new, dr_at, drO_dat, drO_own, dr_at1, dr1_deal, mvA_val, mvA_new, mvA_at, mvAO_dat, mvAO_own, mvAO_deal, toItm_f, itmO_some, toItm_n, toItm_q,
  isDeal_none, isDeal_dat, isDeal_own, isDeal_deal, lstR_at, lstR_at1, lstO_own, lstO_deal, items_at, items_at1, itO_own, it1_deal, putR_at, putR_at1, putO_deal, PR_v, PR_t, PR_l, Rt_d, Rt_q, rtO_some, retR_val, retR_new, retR_newD, retR_at, exitD_none, exitD_some, dealO_deal, intO_int, toB_bl, newO_new, valO_val, thW_nx, thW_bk, thW_ct, thW_rt,
  callW_d, callW_nil, callW_ref, refW_deal, augW_dat, exV, ex1, exI, addP_i, addP_l, addP_t, addI_i, subP_i, mulP_i, mulP_0, divP_i, modP_i, powP_i, cmpP_i, eqP_i, neP_i, isP_nn, isP_in, isP_tn, isP_bn, isnP_nn, isnP_in, isnP_tn, isP_nb, isP_ib, isP_tb, isP_bb, len_l, len_t, int_i, abs_i, tup_l, tup_t, lst_l, lst_t, min_i, max_i, rev_l, neg_i, sum_l, slP_t, slP_l,
  ixP_t, ixP_l, ixR_v, ixR_n, ixR_a, ixW_own, ixW_deal0, ixW_deal1, ixR_1, itemsD_l, itemsD_t, rangeP1, rangeP2, plains, plainO_none, plainO_dat, datO_none, datO_dat, setAll_nil, setAll_cons, setAW_some, setT_t,
  stR_at, stO_deal, setI, setIs, Itm.o, setD, forget_nil, forget_cons, fgO_none, fgO_dat, fgO_own, fgO_deal, wipeΓ, backΓ, argD, drs, List.all_cons, List.all_nil, Bool.and_true, List.getElem?_cons_zero, List.getElem?_cons_succ, List.set_cons_zero, List.set_cons_succ, List.length_cons, List.length_nil, Nat.zero_add, Nat.reduceAdd, Nat.reduceLeDiff, true_and, and_true, decide_eq_true_eq]
  refine wO.mono (hA cs m 8 hl (by decide) (by decide)) ?_
  rintro _ _ ⟨s, cs, m, rfl, hs, rfl, hl⟩
  simp -implicitDefEqProofs only [sv, ev, CO.p, BO.p, BO.ap, tv, isNop, if_true, if_false, Bool.false_eq_true, reduceIte,
  W_then, W_asg, W_disp, W_nil, W_cons, W_consA, W_consI, W_var, W_val, W_bin, W_chn, W_ix, W_un, W_optN, W_optS, W_sl, W_deal, W_blt, W_isi, W_lrg, W_call, W_prm, W_ite, W_T, W_B, W_not, W_and, W_or, W_seq, W_rng, W_app, W_pop, W_popAt, oneI_i, oneL_l, W_nx, W_drop, W_pure, W_ret, W_if, W_par, W_unp, W_sub, W_yes, W_for, W_aug', W_lc,
  wO_some, wD_some, wD_if, rdO_dat, rdO_own, rdO_deal, mv_val, mv_new, mv_at, mvO_dat, mvO_own, dr_val, dr_new, dr_at, drO_dat, drO_own, dr_at1, dr1_deal, mvA_val, mvA_new, mvA_at, mvAO_dat, mvAO_own, mvAO_deal, toItm_f, itmO_some, toItm_n, toItm_q,
  isDeal_none, isDeal_dat, isDeal_own, isDeal_deal, lstR_at, lstR_at1, lstO_own, lstO_deal, items_at, items_at1, itO_own, it1_deal, putR_at, putR_at1, putO_deal, PR_v, PR_t, PR_l, Rt_d, Rt_q, rtO_some, retR_val, retR_new, retR_newD, retR_at, exitD_none, exitD_some, dealO_deal, intO_int, toB_bl, newO_new, valO_val, thW_nx, thW_bk, thW_ct, thW_rt,
  callW_d, callW_nil, callW_ref, refW_deal, augW_dat, exV, ex1, exI, addP_i, addP_l, addP_t, addI_i, subP_i, mulP_i, mulP_0, divP_i, modP_i, powP_i, cmpP_i, eqP_i, neP_i, isP_nn, isP_in, isP_tn, isP_bn, isnP_nn, isnP_in, isnP_tn, isP_nb, isP_ib, isP_tb, isP_bb, len_l, len_t, int_i, abs_i, tup_l, tup_t, lst_l, lst_t, min_i, max_i, rev_l, neg_i, sum_l, slP_t, slP_l,
  ixP_t, ixP_l, ixR_v, ixR_n, ixR_a, ixW_own, ixW_deal0, ixW_deal1, ixR_1, itemsD_l, itemsD_t, rangeP1, rangeP2, plains, plainO_none, plainO_dat, datO_none, datO_dat, setAll_nil, setAll_cons, setAW_some, setT_t,
  stR_at, stO_deal, setI, setIs, Itm.o, setD, forget_nil, forget_cons, fgO_none, fgO_dat, fgO_own, fgO_deal, wipeΓ, backΓ, argD, drs, List.all_cons, List.all_nil, Bool.and_true, List.getElem?_cons_zero, List.getElem?_cons_succ, List.set_cons_zero, List.set_cons_succ, List.length_cons, List.length_nil, Nat.zero_add, Nat.reduceAdd, Nat.reduceLeDiff, true_and, and_true, decide_eq_true_eq]
  split
  · refine ⟨.inl ⟨by decide, by decide⟩, ?_⟩
    rcases (show s = 0 ∨ s = 1 by omega) with rfl | rfl
    · exact ⟨5, cs, m, rfl, good_of (p := 5) (by decide) (by decide) (by decide) (by decide +kernel), rfl, hl⟩
    · exact ⟨7, cs, m, rfl, good_of (p := 7) (by decide) (by decide) (by decide) (by decide +kernel), rfl, hl⟩
  split
  · exact ⟨_, cs, m, rfl, big_good b1, rfl, hl⟩
  split
  · refine wO.mono (hO cs m _ hl (by simp) (by simp)) ?_
    rintro _ _ ⟨d, cs, m, rfl, hd', rfl, hl⟩
    obtain ⟨p, hp, rfl⟩ : ∃ p : Int, GoodP p ∧ d = .int p := by
      simp -implicitDefEqProofs only [List.mem_cons, List.not_mem_nil, or_false] at hd'
      rcases hd' with rfl | rfl | rfl | rfl | rfl | rfl
      · exact ⟨_, big_good b2, rfl⟩
      · exact ⟨_, big_good b3, rfl⟩
      · exact ⟨_, big_good b4, rfl⟩
      · exact ⟨_, big_good b5, rfl⟩
      · exact ⟨_, big_good b6, rfl⟩
      · exact ⟨_, big_good b7, rfl⟩
    simp -implicitDefEqProofs only [sv, ev, CO.p, BO.p, BO.ap, tv, isNop, if_true, if_false, Bool.false_eq_true, reduceIte,
  W_then, W_asg, W_disp, W_nil, W_cons, W_consA, W_consI, W_var, W_val, W_bin, W_chn, W_ix, W_un, W_optN, W_optS, W_sl, W_deal, W_blt, W_isi, W_lrg, W_call, W_prm, W_ite, W_T, W_B, W_not, W_and, W_or, W_seq, W_rng, W_app, W_pop, W_popAt, oneI_i, oneL_l, W_nx, W_drop, W_pure, W_ret, W_if, W_par, W_unp, W_sub, W_yes, W_for, W_aug', W_lc,
  wO_some, wD_some, wD_if, rdO_dat, rdO_own, rdO_deal, mv_val, mv_new, mv_at, mvO_dat, mvO_own, dr_val, dr_new, dr_at, drO_dat, drO_own, dr_at1, dr1_deal, mvA_val, mvA_new, mvA_at, mvAO_dat, mvAO_own, mvAO_deal, toItm_f, itmO_some, toItm_n, toItm_q,
  isDeal_none, isDeal_dat, isDeal_own, isDeal_deal, lstR_at, lstR_at1, lstO_own, lstO_deal, items_at, items_at1, itO_own, it1_deal, putR_at, putR_at1, putO_deal, PR_v, PR_t, PR_l, Rt_d, Rt_q, rtO_some, retR_val, retR_new, retR_newD, retR_at, exitD_none, exitD_some, dealO_deal, intO_int, toB_bl, newO_new, valO_val, thW_nx, thW_bk, thW_ct, thW_rt,
  callW_d, callW_nil, callW_ref, refW_deal, augW_dat, exV, ex1, exI, addP_i, addP_l, addP_t, addI_i, subP_i, mulP_i, mulP_0, divP_i, modP_i, powP_i, cmpP_i, eqP_i, neP_i, isP_nn, isP_in, isP_tn, isP_bn, isnP_nn, isnP_in, isnP_tn, isP_nb, isP_ib, isP_tb, isP_bb, len_l, len_t, int_i, abs_i, tup_l, tup_t, lst_l, lst_t, min_i, max_i, rev_l, neg_i, sum_l, slP_t, slP_l,
  ixP_t, ixP_l, ixR_v, ixR_n, ixR_a, ixW_own, ixW_deal0, ixW_deal1, ixR_1, itemsD_l, itemsD_t, rangeP1, rangeP2, plains, plainO_none, plainO_dat, datO_none, datO_dat, setAll_nil, setAll_cons, setAW_some, setT_t,
  stR_at, stO_deal, setI, setIs, Itm.o, setD, forget_nil, forget_cons, fgO_none, fgO_dat, fgO_own, fgO_deal, wipeΓ, backΓ, argD, drs, List.all_cons, List.all_nil, Bool.and_true, List.getElem?_cons_zero, List.getElem?_cons_succ, List.set_cons_zero, List.set_cons_succ, List.length_cons, List.length_nil, Nat.zero_add, Nat.reduceAdd, Nat.reduceLeDiff, true_and, and_true, decide_eq_true_eq]
    exact ⟨p, cs, m, rfl, hp, rfl, hl⟩
  · refine wO.mono (hA cs m 9000 hl (by decide) (by decide)) ?_
    rintro _ _ ⟨v, cs, m, rfl, hv, rfl, hl⟩
    have c1 : (5 : Int) + (v : Int) = ((5 + v : Nat) : Int) := by omega
    simp -implicitDefEqProofs only [c1, sv, ev, CO.p, BO.p, BO.ap, tv, isNop, if_true, if_false, Bool.false_eq_true, reduceIte,
  W_then, W_asg, W_disp, W_nil, W_cons, W_consA, W_consI, W_var, W_val, W_bin, W_chn, W_ix, W_un, W_optN, W_optS, W_sl, W_deal, W_blt, W_isi, W_lrg, W_call, W_prm, W_ite, W_T, W_B, W_not, W_and, W_or, W_seq, W_rng, W_app, W_pop, W_popAt, oneI_i, oneL_l, W_nx, W_drop, W_pure, W_ret, W_if, W_par, W_unp, W_sub, W_yes, W_for, W_aug', W_lc,
  wO_some, wD_some, wD_if, rdO_dat, rdO_own, rdO_deal, mv_val, mv_new, mv_at, mvO_dat, mvO_own, dr_val, dr_new, dr_at, drO_dat, drO_own, dr_at1, dr1_deal, mvA_val, mvA_new, mvA_at, mvAO_dat, mvAO_own, mvAO_deal, toItm_f, itmO_some, toItm_n, toItm_q,
  isDeal_none, isDeal_dat, isDeal_own, isDeal_deal, lstR_at, lstR_at1, lstO_own, lstO_deal, items_at, items_at1, itO_own, it1_deal, putR_at, putR_at1, putO_deal, PR_v, PR_t, PR_l, Rt_d, Rt_q, rtO_some, retR_val, retR_new, retR_newD, retR_at, exitD_none, exitD_some, dealO_deal, intO_int, toB_bl, newO_new, valO_val, thW_nx, thW_bk, thW_ct, thW_rt,
  callW_d, callW_nil, callW_ref, refW_deal, augW_dat, exV, ex1, exI, addP_i, addP_l, addP_t, addI_i, subP_i, mulP_i, mulP_0, divP_i, modP_i, powP_i, cmpP_i, eqP_i, neP_i, isP_nn, isP_in, isP_tn, isP_bn, isnP_nn, isnP_in, isnP_tn, isP_nb, isP_ib, isP_tb, isP_bb, len_l, len_t, int_i, abs_i, tup_l, tup_t, lst_l, lst_t, min_i, max_i, rev_l, neg_i, sum_l, slP_t, slP_l,
  ixP_t, ixP_l, ixR_v, ixR_n, ixR_a, ixW_own, ixW_deal0, ixW_deal1, ixR_1, itemsD_l, itemsD_t, rangeP1, rangeP2, plains, plainO_none, plainO_dat, datO_none, datO_dat, setAll_nil, setAll_cons, setAW_some, setT_t,
  stR_at, stO_deal, setI, setIs, Itm.o, setD, forget_nil, forget_cons, fgO_none, fgO_dat, fgO_own, fgO_deal, wipeΓ, backΓ, argD, drs, List.all_cons, List.all_nil, Bool.and_true, List.getElem?_cons_zero, List.getElem?_cons_succ, List.set_cons_zero, List.set_cons_succ, List.length_cons, List.length_nil, Nat.zero_add, Nat.reduceAdd, Nat.reduceLeDiff, true_and, and_true, decide_eq_true_eq]
    refine wO.mono (hN (5 + v) (by omega) (by omega)) ?_
    rintro _ _ ⟨p, rfl, hp, rfl⟩
    simp -implicitDefEqProofs only [sv, ev, CO.p, BO.p, BO.ap, tv, isNop, if_true, if_false, Bool.false_eq_true, reduceIte,
  W_then, W_asg, W_disp, W_nil, W_cons, W_consA, W_consI, W_var, W_val, W_bin, W_chn, W_ix, W_un, W_optN, W_optS, W_sl, W_deal, W_blt, W_isi, W_lrg, W_call, W_prm, W_ite, W_T, W_B, W_not, W_and, W_or, W_seq, W_rng, W_app, W_pop, W_popAt, oneI_i, oneL_l, W_nx, W_drop, W_pure, W_ret, W_if, W_par, W_unp, W_sub, W_yes, W_for, W_aug', W_lc,
  wO_some, wD_some, wD_if, rdO_dat, rdO_own, rdO_deal, mv_val, mv_new, mv_at, mvO_dat, mvO_own, dr_val, dr_new, dr_at, drO_dat, drO_own, dr_at1, dr1_deal, mvA_val, mvA_new, mvA_at, mvAO_dat, mvAO_own, mvAO_deal, toItm_f, itmO_some, toItm_n, toItm_q,
  isDeal_none, isDeal_dat, isDeal_own, isDeal_deal, lstR_at, lstR_at1, lstO_own, lstO_deal, items_at, items_at1, itO_own, it1_deal, putR_at, putR_at1, putO_deal, PR_v, PR_t, PR_l, Rt_d, Rt_q, rtO_some, retR_val, retR_new, retR_newD, retR_at, exitD_none, exitD_some, dealO_deal, intO_int, toB_bl, newO_new, valO_val, thW_nx, thW_bk, thW_ct, thW_rt,
  callW_d, callW_nil, callW_ref, refW_deal, augW_dat, exV, ex1, exI, addP_i, addP_l, addP_t, addI_i, subP_i, mulP_i, mulP_0, divP_i, modP_i, powP_i, cmpP_i, eqP_i, neP_i, isP_nn, isP_in, isP_tn, isP_bn, isnP_nn, isnP_in, isnP_tn, isP_nb, isP_ib, isP_tb, isP_bb, len_l, len_t, int_i, abs_i, tup_l, tup_t, lst_l, lst_t, min_i, max_i, rev_l, neg_i, sum_l, slP_t, slP_l,
  ixP_t, ixP_l, ixR_v, ixR_n, ixR_a, ixW_own, ixW_deal0, ixW_deal1, ixR_1, itemsD_l, itemsD_t, rangeP1, rangeP2, plains, plainO_none, plainO_dat, datO_none, datO_dat, setAll_nil, setAll_cons, setAW_some, setT_t,
  stR_at, stO_deal, setI, setIs, Itm.o, setD, forget_nil, forget_cons, fgO_none, fgO_dat, fgO_own, fgO_deal, wipeΓ, backΓ, argD, drs, List.all_cons, List.all_nil, Bool.and_true, List.getElem?_cons_zero, List.getElem?_cons_succ, List.set_cons_zero, List.set_cons_succ, List.length_cons, List.length_nil, Nat.zero_add, Nat.reduceAdd, Nat.reduceLeDiff, true_and, and_true, decide_eq_true_eq]
    exact ⟨p, cs, m, rfl, hp, rfl, hl⟩
/-- _law_residue; the callee _law_any -/
def tRes (i : Nat) : Z.St := (.next (.asg false 2 (.call i 2 (.cons (.var 0) (.cons (.lit (.int 12)) .nil))))
 (.next (.iff (.cmp .lt (.var 2) (.lit (.int 3)))
 (.next (.ret (.ix (.lst (.cons (.lit (.int 0)) (.cons (.lit (.int 1)) (.cons (.bin .sub (.var 1) (.lit (.int 1))) .nil)))) (.var 2)))
 .nil)
 .nil)
 (.next (.asg false 3 (.lit (.int 0)))
 (.next (.loop [4] (.nm 4) (.rng 1 (.cons (.lit (.int 3)) .nil))
 (.next (.asg false 3 (.bin .add (.bin .mul (.var 3) (.lit (.int 2097152))) (.call i 2 (.cons (.var 0) (.cons (.lit (.int 2097152)) .nil)))))
 .nil))
 (.next (.ret (.bin .mod (.blt .int (.cons (.var 3) .nil)) (.var 1)))
 .nil)))))
def ResOk (g : Sm) : Prop := ∀ (cs : List Int) (m p : Int), cs.length ≤ 63 → 5 ≤ p → p ≤ 2305843009213693951 → wO (g (some (zi cs, .int m)) [.int p]) fun rt q' => ∃ (r : Int) (cs' : List Int) (m' : Int), rt = .dat (.int r) ∧ (0 ≤ r ∧ r < p) ∧ q' = some (zi cs', .int m') ∧ cs'.length ≤ 63
theorem res_ok (cal : Nat → Sm) (i : Nat) (hA : AnyOk (cal i)) : ResOk (runF cal 5 (tRes i)) := by
  intro cs m p hl hp hp2
  refine runF_W ?_
  simp -implicitDefEqProofs only [tRes, inΓ, dlO, List.map_cons, List.map_nil, List.nil_append, List.cons_append, List.replicate, Nat.reduceSub, sv, ev, CO.p, BO.p, BO.ap, tv, isNop, if_true, if_false, Bool.false_eq_true, reduceIte,
  W_then, W_asg, W_disp, W_nil, W_cons, W_consA, W_consI, W_var, W_val, W_bin, W_chn, W_ix, W_un, W_optN, W_optS, W_sl, W_deal, W_blt, W_isi, W_lrg, W_call, W_prm, W_ite, W_T, W_B, W_not, W_and, W_or, W_seq, W_rng, W_app, W_pop, W_popAt, oneI_i, oneL_l, W_nx, W_drop, W_pure, W_ret, W_if, W_par, W_unp, W_sub, W_yes, W_for, W_aug', W_lc,
  wO_some, wD_some, wD_if, rdO_dat, rdO_own, rdO_deal, mv_val, mv_new, mv_at, mvO_dat, mvO_own, dr_val, dr_new, dr_at, drO_dat, drO_own, dr_at1, dr1_deal, mvA_val, mvA_new, mvA_at, mvAO_dat, mvAO_own, mvAO_deal, toItm_f, itmO_some, toItm_n, toItm_q,
  isDeal_none, isDeal_dat, isDeal_own, isDeal_deal, lstR_at, lstR_at1, lstO_own, lstO_deal, items_at, items_at1, itO_own, it1_deal, putR_at, putR_at1, putO_deal, PR_v, PR_t, PR_l, Rt_d, Rt_q, rtO_some, retR_val, retR_new, retR_newD, retR_at, exitD_none, exitD_some, dealO_deal, intO_int, toB_bl, newO_new, valO_val, thW_nx, thW_bk, thW_ct, thW_rt,
  callW_d, callW_nil, callW_ref, refW_deal, augW_dat, exV, ex1, exI, addP_i, addP_l, addP_t, addI_i, subP_i, mulP_i, mulP_0, divP_i, modP_i, powP_i, cmpP_i, eqP_i, neP_i, isP_nn, isP_in, isP_tn, isP_bn, isnP_nn, isnP_in, isnP_tn, isP_nb, isP_ib, isP_tb, isP_bb, len_l, len_t, int_i, abs_i, tup_l, tup_t, lst_l, lst_t, min_i, max_i, rev_l, neg_i, sum_l, slP_t, slP_l,
  ixP_t, ixP_l, ixR_v, ixR_n, ixR_a, ixW_own, ixW_deal0, ixW_deal1, ixR_1, itemsD_l, itemsD_t, rangeP1, rangeP2, plains, plainO_none, plainO_dat, datO_none, datO_dat, setAll_nil, setAll_cons, setAW_some, setT_t,
  stR_at, stO_deal, setI, setIs, Itm.o, setD, forget_nil, forget_cons, fgO_none, fgO_dat, fgO_own, fgO_deal, wipeΓ, backΓ, argD, drs, List.all_cons, List.all_nil, Bool.and_true, List.getElem?_cons_zero, List.getElem?_cons_succ, List.set_cons_zero, List.set_cons_succ, List.length_cons, List.length_nil, Nat.zero_add, Nat.reduceAdd, Nat.reduceLeDiff, true_and, and_true, decide_eq_true_eq]
  refine wO.mono (hA cs m 12 hl (by decide) (by decide)) ?_
  rintro _ _ ⟨s, cs, m, rfl, hs, rfl, hl⟩
  simp -implicitDefEqProofs only [sv, ev, CO.p, BO.p, BO.ap, tv, isNop, if_true, if_false, Bool.false_eq_true, reduceIte,
  W_then, W_asg, W_disp, W_nil, W_cons, W_consA, W_consI, W_var, W_val, W_bin, W_chn, W_ix, W_un, W_optN, W_optS, W_sl, W_deal, W_blt, W_isi, W_lrg, W_call, W_prm, W_ite, W_T, W_B, W_not, W_and, W_or, W_seq, W_rng, W_app, W_pop, W_popAt, oneI_i, oneL_l, W_nx, W_drop, W_pure, W_ret, W_if, W_par, W_unp, W_sub, W_yes, W_for, W_aug', W_lc,
  wO_some, wD_some, wD_if, rdO_dat, rdO_own, rdO_deal, mv_val, mv_new, mv_at, mvO_dat, mvO_own, dr_val, dr_new, dr_at, drO_dat, drO_own, dr_at1, dr1_deal, mvA_val, mvA_new, mvA_at, mvAO_dat, mvAO_own, mvAO_deal, toItm_f, itmO_some, toItm_n, toItm_q,
  isDeal_none, isDeal_dat, isDeal_own, isDeal_deal, lstR_at, lstR_at1, lstO_own, lstO_deal, items_at, items_at1, itO_own, it1_deal, putR_at, putR_at1, putO_deal, PR_v, PR_t, PR_l, Rt_d, Rt_q, rtO_some, retR_val, retR_new, retR_newD, retR_at, exitD_none, exitD_some, dealO_deal, intO_int, toB_bl, newO_new, valO_val, thW_nx, thW_bk, thW_ct, thW_rt,
  callW_d, callW_nil, callW_ref, refW_deal, augW_dat, exV, ex1, exI, addP_i, addP_l, addP_t, addI_i, subP_i, mulP_i, mulP_0, divP_i, modP_i, powP_i, cmpP_i, eqP_i, neP_i, isP_nn, isP_in, isP_tn, isP_bn, isnP_nn, isnP_in, isnP_tn, isP_nb, isP_ib, isP_tb, isP_bb, len_l, len_t, int_i, abs_i, tup_l, tup_t, lst_l, lst_t, min_i, max_i, rev_l, neg_i, sum_l, slP_t, slP_l,
  ixP_t, ixP_l, ixR_v, ixR_n, ixR_a, ixW_own, ixW_deal0, ixW_deal1, ixR_1, itemsD_l, itemsD_t, rangeP1, rangeP2, plains, plainO_none, plainO_dat, datO_none, datO_dat, setAll_nil, setAll_cons, setAW_some, setT_t,
  stR_at, stO_deal, setI, setIs, Itm.o, setD, forget_nil, forget_cons, fgO_none, fgO_dat, fgO_own, fgO_deal, wipeΓ, backΓ, argD, drs, List.all_cons, List.all_nil, Bool.and_true, List.getElem?_cons_zero, List.getElem?_cons_succ, List.set_cons_zero, List.set_cons_succ, List.length_cons, List.length_nil, Nat.zero_add, Nat.reduceAdd, Nat.reduceLeDiff, true_and, and_true, decide_eq_true_eq]
  split
  · rcases (show s = 0 ∨ s = 1 ∨ s = 2 by omega) with rfl | rfl | rfl
    · exact ⟨0, cs, m, rfl, by omega, rfl, hl⟩
    · exact ⟨1, cs, m, rfl, by omega, rfl, hl⟩
    · exact ⟨p - 1, cs, m, rfl, by omega, rfl, hl⟩
  · refine ⟨⟨by decide, by decide⟩, ?_⟩
    refine W_forR (fun n Γ => ∃ (cs : List Int) (m : Int) (z : Int), cs.length ≤ 63 ∧ Γ = [some (.deal (zi cs) (.int m)), some (.dat (.int p)), some (.dat (.int s)), some (.dat (.int z)), none]) ⟨cs, m, 0, hl, rfl⟩ ?_ ?_
    · rintro n Γ hn ⟨cs, m, z, hl, rfl⟩
      simp -implicitDefEqProofs only [sv, ev, CO.p, BO.p, BO.ap, tv, isNop, if_true, if_false, Bool.false_eq_true, reduceIte,
  W_then, W_asg, W_disp, W_nil, W_cons, W_consA, W_consI, W_var, W_val, W_bin, W_chn, W_ix, W_un, W_optN, W_optS, W_sl, W_deal, W_blt, W_isi, W_lrg, W_call, W_prm, W_ite, W_T, W_B, W_not, W_and, W_or, W_seq, W_rng, W_app, W_pop, W_popAt, oneI_i, oneL_l, W_nx, W_drop, W_pure, W_ret, W_if, W_par, W_unp, W_sub, W_yes, W_for, W_aug', W_lc,
  wO_some, wD_some, wD_if, rdO_dat, rdO_own, rdO_deal, mv_val, mv_new, mv_at, mvO_dat, mvO_own, dr_val, dr_new, dr_at, drO_dat, drO_own, dr_at1, dr1_deal, mvA_val, mvA_new, mvA_at, mvAO_dat, mvAO_own, mvAO_deal, toItm_f, itmO_some, toItm_n, toItm_q,
  isDeal_none, isDeal_dat, isDeal_own, isDeal_deal, lstR_at, lstR_at1, lstO_own, lstO_deal, items_at, items_at1, itO_own, it1_deal, putR_at, putR_at1, putO_deal, PR_v, PR_t, PR_l, Rt_d, Rt_q, rtO_some, retR_val, retR_new, retR_newD, retR_at, exitD_none, exitD_some, dealO_deal, intO_int, toB_bl, newO_new, valO_val, thW_nx, thW_bk, thW_ct, thW_rt,
  callW_d, callW_nil, callW_ref, refW_deal, augW_dat, exV, ex1, exI, addP_i, addP_l, addP_t, addI_i, subP_i, mulP_i, mulP_0, divP_i, modP_i, powP_i, cmpP_i, eqP_i, neP_i, isP_nn, isP_in, isP_tn, isP_bn, isnP_nn, isnP_in, isnP_tn, isP_nb, isP_ib, isP_tb, isP_bb, len_l, len_t, int_i, abs_i, tup_l, tup_t, lst_l, lst_t, min_i, max_i, rev_l, neg_i, sum_l, slP_t, slP_l,
  ixP_t, ixP_l, ixR_v, ixR_n, ixR_a, ixW_own, ixW_deal0, ixW_deal1, ixR_1, itemsD_l, itemsD_t, rangeP1, rangeP2, plains, plainO_none, plainO_dat, datO_none, datO_dat, setAll_nil, setAll_cons, setAW_some, setT_t,
  stR_at, stO_deal, setI, setIs, Itm.o, setD, forget_nil, forget_cons, fgO_none, fgO_dat, fgO_own, fgO_deal, wipeΓ, backΓ, argD, drs, List.all_cons, List.all_nil, Bool.and_true, List.getElem?_cons_zero, List.getElem?_cons_succ, List.set_cons_zero, List.set_cons_succ, List.length_cons, List.length_nil, Nat.zero_add, Nat.reduceAdd, Nat.reduceLeDiff, true_and, and_true, decide_eq_true_eq]
      refine ⟨.inr (.inl ⟨by decide, by decide⟩), ?_⟩
      refine wO.mono (hA cs m 2097152 hl (by decide) (by decide)) ?_
      rintro _ _ ⟨v, cs, m, rfl, hv, rfl, hl⟩
      simp -implicitDefEqProofs only [sv, ev, CO.p, BO.p, BO.ap, tv, isNop, if_true, if_false, Bool.false_eq_true, reduceIte,
  W_then, W_asg, W_disp, W_nil, W_cons, W_consA, W_consI, W_var, W_val, W_bin, W_chn, W_ix, W_un, W_optN, W_optS, W_sl, W_deal, W_blt, W_isi, W_lrg, W_call, W_prm, W_ite, W_T, W_B, W_not, W_and, W_or, W_seq, W_rng, W_app, W_pop, W_popAt, oneI_i, oneL_l, W_nx, W_drop, W_pure, W_ret, W_if, W_par, W_unp, W_sub, W_yes, W_for, W_aug', W_lc,
  wO_some, wD_some, wD_if, rdO_dat, rdO_own, rdO_deal, mv_val, mv_new, mv_at, mvO_dat, mvO_own, dr_val, dr_new, dr_at, drO_dat, drO_own, dr_at1, dr1_deal, mvA_val, mvA_new, mvA_at, mvAO_dat, mvAO_own, mvAO_deal, toItm_f, itmO_some, toItm_n, toItm_q,
  isDeal_none, isDeal_dat, isDeal_own, isDeal_deal, lstR_at, lstR_at1, lstO_own, lstO_deal, items_at, items_at1, itO_own, it1_deal, putR_at, putR_at1, putO_deal, PR_v, PR_t, PR_l, Rt_d, Rt_q, rtO_some, retR_val, retR_new, retR_newD, retR_at, exitD_none, exitD_some, dealO_deal, intO_int, toB_bl, newO_new, valO_val, thW_nx, thW_bk, thW_ct, thW_rt,
  callW_d, callW_nil, callW_ref, refW_deal, augW_dat, exV, ex1, exI, addP_i, addP_l, addP_t, addI_i, subP_i, mulP_i, mulP_0, divP_i, modP_i, powP_i, cmpP_i, eqP_i, neP_i, isP_nn, isP_in, isP_tn, isP_bn, isnP_nn, isnP_in, isnP_tn, isP_nb, isP_ib, isP_tb, isP_bb, len_l, len_t, int_i, abs_i, tup_l, tup_t, lst_l, lst_t, min_i, max_i, rev_l, neg_i, sum_l, slP_t, slP_l,
  ixP_t, ixP_l, ixR_v, ixR_n, ixR_a, ixW_own, ixW_deal0, ixW_deal1, ixR_1, itemsD_l, itemsD_t, rangeP1, rangeP2, plains, plainO_none, plainO_dat, datO_none, datO_dat, setAll_nil, setAll_cons, setAW_some, setT_t,
  stR_at, stO_deal, setI, setIs, Itm.o, setD, forget_nil, forget_cons, fgO_none, fgO_dat, fgO_own, fgO_deal, wipeΓ, backΓ, argD, drs, List.all_cons, List.all_nil, Bool.and_true, List.getElem?_cons_zero, List.getElem?_cons_succ, List.set_cons_zero, List.set_cons_succ, List.length_cons, List.length_nil, Nat.zero_add, Nat.reduceAdd, Nat.reduceLeDiff, true_and, and_true, decide_eq_true_eq]
      exact ⟨cs, m, _, hl, rfl⟩
    · rintro Γ ⟨cs, m, z, hl, rfl⟩
      simp -implicitDefEqProofs only [sv, ev, CO.p, BO.p, BO.ap, tv, isNop, if_true, if_false, Bool.false_eq_true, reduceIte,
  W_then, W_asg, W_disp, W_nil, W_cons, W_consA, W_consI, W_var, W_val, W_bin, W_chn, W_ix, W_un, W_optN, W_optS, W_sl, W_deal, W_blt, W_isi, W_lrg, W_call, W_prm, W_ite, W_T, W_B, W_not, W_and, W_or, W_seq, W_rng, W_app, W_pop, W_popAt, oneI_i, oneL_l, W_nx, W_drop, W_pure, W_ret, W_if, W_par, W_unp, W_sub, W_yes, W_for, W_aug', W_lc,
  wO_some, wD_some, wD_if, rdO_dat, rdO_own, rdO_deal, mv_val, mv_new, mv_at, mvO_dat, mvO_own, dr_val, dr_new, dr_at, drO_dat, drO_own, dr_at1, dr1_deal, mvA_val, mvA_new, mvA_at, mvAO_dat, mvAO_own, mvAO_deal, toItm_f, itmO_some, toItm_n, toItm_q,
  isDeal_none, isDeal_dat, isDeal_own, isDeal_deal, lstR_at, lstR_at1, lstO_own, lstO_deal, items_at, items_at1, itO_own, it1_deal, putR_at, putR_at1, putO_deal, PR_v, PR_t, PR_l, Rt_d, Rt_q, rtO_some, retR_val, retR_new, retR_newD, retR_at, exitD_none, exitD_some, dealO_deal, intO_int, toB_bl, newO_new, valO_val, thW_nx, thW_bk, thW_ct, thW_rt,
  callW_d, callW_nil, callW_ref, refW_deal, augW_dat, exV, ex1, exI, addP_i, addP_l, addP_t, addI_i, subP_i, mulP_i, mulP_0, divP_i, modP_i, powP_i, cmpP_i, eqP_i, neP_i, isP_nn, isP_in, isP_tn, isP_bn, isnP_nn, isnP_in, isnP_tn, isP_nb, isP_ib, isP_tb, isP_bb, len_l, len_t, int_i, abs_i, tup_l, tup_t, lst_l, lst_t, min_i, max_i, rev_l, neg_i, sum_l, slP_t, slP_l,
  ixP_t, ixP_l, ixR_v, ixR_n, ixR_a, ixW_own, ixW_deal0, ixW_deal1, ixR_1, itemsD_l, itemsD_t, rangeP1, rangeP2, plains, plainO_none, plainO_dat, datO_none, datO_dat, setAll_nil, setAll_cons, setAW_some, setT_t,
  stR_at, stO_deal, setI, setIs, Itm.o, setD, forget_nil, forget_cons, fgO_none, fgO_dat, fgO_own, fgO_deal, wipeΓ, backΓ, argD, drs, List.all_cons, List.all_nil, Bool.and_true, List.getElem?_cons_zero, List.getElem?_cons_succ, List.set_cons_zero, List.set_cons_succ, List.length_cons, List.length_nil, Nat.zero_add, Nat.reduceAdd, Nat.reduceLeDiff, true_and, and_true, decide_eq_true_eq]
      exact ⟨by omega, z % p, cs, m, rfl, ⟨Int.emod_nonneg _ (by omega), Int.emod_lt_of_pos _ (by omega)⟩, rfl, hl⟩
/-- _law_row; the callee _law_residue -/
def tRow (i : Nat) : Z.St := (.next (.asg true 3 (.lc [4] (.rng 1 (.cons (.blt .min (.cons (.var 2) (.cons (.lit (.int 12)) .nil))) .nil)) (.nm 4) .nop (.call i 2 (.cons (.var 0) (.cons (.var 1) .nil)))))
 (.next (.par [5, 6] (.cons (.call i 2 (.cons (.var 0) (.cons (.var 1) .nil))) (.cons (.call i 2 (.cons (.var 0) (.cons (.var 1) .nil))) .nil)))
 (.next (.loop [4] (.nm 4) (.rng 1 (.cons (.bin .sub (.var 2) (.blt .len (.cons (.var 3) .nil))) .nil))
 (.next (.drop (.app (.var 3) (.cons (.bin .mod (.blt .int (.cons (.bin .add (.bin .add (.bin .mul (.ix (.var 3) (.var 4)) (.var 5)) (.bin .mul (.var 6) (.var 4))) (.lit (.int 1))) .nil)) (.var 1)) .nil)))
 .nil))
 (.next (.ret (.blt .tuple (.cons (.var 3) .nil)))
 .nil))))
def RowOk (g : Sm) : Prop := ∀ (cs : List Int) (m p : Int) (many : Nat), cs.length ≤ 63 → 5 ≤ p → p ≤ 2305843009213693951 → many ≤ 1000 → wO (g (some (zi cs, .int m)) [.int p, .int many]) fun rt q' => ∃ (r : List Int) (cs' : List Int) (m' : Int), rt = .dat (.tup (zi r)) ∧ Rs p r ∧ r.length = many ∧ q' = some (zi cs', .int m') ∧ cs'.length ≤ 63
theorem rs_snoc {p : Int} {l : List Int} {x : Int} (h : Rs p l) (hx : 0 ≤ x ∧ x < p) : Rs p (l ++ [x]) := fun y hy => by
  rcases List.mem_append.mp hy with hy | hy
  · exact h y hy
  · rw [List.mem_singleton.mp hy]; exact hx
theorem row_ok (cal : Nat → Sm) (i : Nat) (hR : ResOk (cal i)) : RowOk (runF cal 7 (tRow i)) := by
  intro cs m p many hl hp hp2 hm
  refine runF_W ?_
  simp -implicitDefEqProofs only [tRow, inΓ, dlO, List.map_cons, List.map_nil, List.nil_append, List.cons_append, List.replicate, Nat.reduceSub, sv, ev, CO.p, BO.p, BO.ap, tv, isNop, if_true, if_false, Bool.false_eq_true, reduceIte,
  W_then, W_asg, W_disp, W_nil, W_cons, W_consA, W_consI, W_var, W_val, W_bin, W_chn, W_ix, W_un, W_optN, W_optS, W_sl, W_deal, W_blt, W_isi, W_lrg, W_call, W_prm, W_ite, W_T, W_B, W_not, W_and, W_or, W_seq, W_rng, W_app, W_pop, W_popAt, oneI_i, oneL_l, W_nx, W_drop, W_pure, W_ret, W_if, W_par, W_unp, W_sub, W_yes, W_for, W_aug', W_lc,
  wO_some, wD_some, wD_if, rdO_dat, rdO_own, rdO_deal, mv_val, mv_new, mv_at, mvO_dat, mvO_own, dr_val, dr_new, dr_at, drO_dat, drO_own, dr_at1, dr1_deal, mvA_val, mvA_new, mvA_at, mvAO_dat, mvAO_own, mvAO_deal, toItm_f, itmO_some, toItm_n, toItm_q,
  isDeal_none, isDeal_dat, isDeal_own, isDeal_deal, lstR_at, lstR_at1, lstO_own, lstO_deal, items_at, items_at1, itO_own, it1_deal, putR_at, putR_at1, putO_deal, PR_v, PR_t, PR_l, Rt_d, Rt_q, rtO_some, retR_val, retR_new, retR_newD, retR_at, exitD_none, exitD_some, dealO_deal, intO_int, toB_bl, newO_new, valO_val, thW_nx, thW_bk, thW_ct, thW_rt,
  callW_d, callW_nil, callW_ref, refW_deal, augW_dat, exV, ex1, exI, addP_i, addP_l, addP_t, addI_i, subP_i, mulP_i, mulP_0, divP_i, modP_i, powP_i, cmpP_i, eqP_i, neP_i, isP_nn, isP_in, isP_tn, isP_bn, isnP_nn, isnP_in, isnP_tn, isP_nb, isP_ib, isP_tb, isP_bb, len_l, len_t, int_i, abs_i, tup_l, tup_t, lst_l, lst_t, min_i, max_i, rev_l, neg_i, sum_l, slP_t, slP_l,
  ixP_t, ixP_l, ixR_v, ixR_n, ixR_a, ixW_own, ixW_deal0, ixW_deal1, ixR_1, itemsD_l, itemsD_t, rangeP1, rangeP2, plains, plainO_none, plainO_dat, datO_none, datO_dat, setAll_nil, setAll_cons, setAW_some, setT_t,
  stR_at, stO_deal, setI, setIs, Itm.o, setD, forget_nil, forget_cons, fgO_none, fgO_dat, fgO_own, fgO_deal, wipeΓ, backΓ, argD, drs, List.all_cons, List.all_nil, Bool.and_true, List.getElem?_cons_zero, List.getElem?_cons_succ, List.set_cons_zero, List.set_cons_succ, List.length_cons, List.length_nil, Nat.zero_add, Nat.reduceAdd, Nat.reduceLeDiff, true_and, and_true, decide_eq_true_eq]
  obtain ⟨a, ha, ha1, ha2⟩ : ∃ a : Nat, (if (12 : Int) < (many : Int) then 12 else (many : Int)) = a ∧ a ≤ many ∧ (many = 0 ∨ 0 < a) := by
    split
    · exact ⟨12, rfl, by omega, by omega⟩
    · exact ⟨many, rfl, by omega, by omega⟩
  rw [ha]
  refine ⟨by omega, ?_⟩
  refine W_lcL (fun n Γ acc => ∃ (cs : List Int) (m : Int) (r : List Int), Γ = [some (.deal (zi cs) (.int m)), some (.dat (.int p)), some (.dat (.int many)), none, none, none, none] ∧ acc = zi r ∧ r.length = n ∧ n ≤ 1000 ∧ Rs p r ∧ cs.length ≤ 63) ⟨cs, m, [], rfl, rfl, rfl, by decide, fun x hx => (by cases hx), hl⟩ ?_ ?_
  · rintro n d Γ acc hd ⟨cs, m, r, rfl, rfl, rfl, hn, hr, hl⟩
    obtain ⟨hi, rfl⟩ := Fr.rg_get hd
    simp -implicitDefEqProofs only [sv, ev, CO.p, BO.p, BO.ap, tv, isNop, if_true, if_false, Bool.false_eq_true, reduceIte,
  W_then, W_asg, W_disp, W_nil, W_cons, W_consA, W_consI, W_var, W_val, W_bin, W_chn, W_ix, W_un, W_optN, W_optS, W_sl, W_deal, W_blt, W_isi, W_lrg, W_call, W_prm, W_ite, W_T, W_B, W_not, W_and, W_or, W_seq, W_rng, W_app, W_pop, W_popAt, oneI_i, oneL_l, W_nx, W_drop, W_pure, W_ret, W_if, W_par, W_unp, W_sub, W_yes, W_for, W_aug', W_lc,
  wO_some, wD_some, wD_if, rdO_dat, rdO_own, rdO_deal, mv_val, mv_new, mv_at, mvO_dat, mvO_own, dr_val, dr_new, dr_at, drO_dat, drO_own, dr_at1, dr1_deal, mvA_val, mvA_new, mvA_at, mvAO_dat, mvAO_own, mvAO_deal, toItm_f, itmO_some, toItm_n, toItm_q,
  isDeal_none, isDeal_dat, isDeal_own, isDeal_deal, lstR_at, lstR_at1, lstO_own, lstO_deal, items_at, items_at1, itO_own, it1_deal, putR_at, putR_at1, putO_deal, PR_v, PR_t, PR_l, Rt_d, Rt_q, rtO_some, retR_val, retR_new, retR_newD, retR_at, exitD_none, exitD_some, dealO_deal, intO_int, toB_bl, newO_new, valO_val, thW_nx, thW_bk, thW_ct, thW_rt,
  callW_d, callW_nil, callW_ref, refW_deal, augW_dat, exV, ex1, exI, addP_i, addP_l, addP_t, addI_i, subP_i, mulP_i, mulP_0, divP_i, modP_i, powP_i, cmpP_i, eqP_i, neP_i, isP_nn, isP_in, isP_tn, isP_bn, isnP_nn, isnP_in, isnP_tn, isP_nb, isP_ib, isP_tb, isP_bb, len_l, len_t, int_i, abs_i, tup_l, tup_t, lst_l, lst_t, min_i, max_i, rev_l, neg_i, sum_l, slP_t, slP_l,
  ixP_t, ixP_l, ixR_v, ixR_n, ixR_a, ixW_own, ixW_deal0, ixW_deal1, ixR_1, itemsD_l, itemsD_t, rangeP1, rangeP2, plains, plainO_none, plainO_dat, datO_none, datO_dat, setAll_nil, setAll_cons, setAW_some, setT_t,
  stR_at, stO_deal, setI, setIs, Itm.o, setD, forget_nil, forget_cons, fgO_none, fgO_dat, fgO_own, fgO_deal, wipeΓ, backΓ, argD, drs, List.all_cons, List.all_nil, Bool.and_true, List.getElem?_cons_zero, List.getElem?_cons_succ, List.set_cons_zero, List.set_cons_succ, List.length_cons, List.length_nil, Nat.zero_add, Nat.reduceAdd, Nat.reduceLeDiff, true_and, and_true, decide_eq_true_eq]
    refine wO.mono (hR cs m p hl hp hp2) ?_
    rintro _ _ ⟨x, cs, m, rfl, hx, rfl, hl⟩
    simp -implicitDefEqProofs only [sv, ev, CO.p, BO.p, BO.ap, tv, isNop, if_true, if_false, Bool.false_eq_true, reduceIte,
  W_then, W_asg, W_disp, W_nil, W_cons, W_consA, W_consI, W_var, W_val, W_bin, W_chn, W_ix, W_un, W_optN, W_optS, W_sl, W_deal, W_blt, W_isi, W_lrg, W_call, W_prm, W_ite, W_T, W_B, W_not, W_and, W_or, W_seq, W_rng, W_app, W_pop, W_popAt, oneI_i, oneL_l, W_nx, W_drop, W_pure, W_ret, W_if, W_par, W_unp, W_sub, W_yes, W_for, W_aug', W_lc,
  wO_some, wD_some, wD_if, rdO_dat, rdO_own, rdO_deal, mv_val, mv_new, mv_at, mvO_dat, mvO_own, dr_val, dr_new, dr_at, drO_dat, drO_own, dr_at1, dr1_deal, mvA_val, mvA_new, mvA_at, mvAO_dat, mvAO_own, mvAO_deal, toItm_f, itmO_some, toItm_n, toItm_q,
  isDeal_none, isDeal_dat, isDeal_own, isDeal_deal, lstR_at, lstR_at1, lstO_own, lstO_deal, items_at, items_at1, itO_own, it1_deal, putR_at, putR_at1, putO_deal, PR_v, PR_t, PR_l, Rt_d, Rt_q, rtO_some, retR_val, retR_new, retR_newD, retR_at, exitD_none, exitD_some, dealO_deal, intO_int, toB_bl, newO_new, valO_val, thW_nx, thW_bk, thW_ct, thW_rt,
  callW_d, callW_nil, callW_ref, refW_deal, augW_dat, exV, ex1, exI, addP_i, addP_l, addP_t, addI_i, subP_i, mulP_i, mulP_0, divP_i, modP_i, powP_i, cmpP_i, eqP_i, neP_i, isP_nn, isP_in, isP_tn, isP_bn, isnP_nn, isnP_in, isnP_tn, isP_nb, isP_ib, isP_tb, isP_bb, len_l, len_t, int_i, abs_i, tup_l, tup_t, lst_l, lst_t, min_i, max_i, rev_l, neg_i, sum_l, slP_t, slP_l,
  ixP_t, ixP_l, ixR_v, ixR_n, ixR_a, ixW_own, ixW_deal0, ixW_deal1, ixR_1, itemsD_l, itemsD_t, rangeP1, rangeP2, plains, plainO_none, plainO_dat, datO_none, datO_dat, setAll_nil, setAll_cons, setAW_some, setT_t,
  stR_at, stO_deal, setI, setIs, Itm.o, setD, forget_nil, forget_cons, fgO_none, fgO_dat, fgO_own, fgO_deal, wipeΓ, backΓ, argD, drs, List.all_cons, List.all_nil, Bool.and_true, List.getElem?_cons_zero, List.getElem?_cons_succ, List.set_cons_zero, List.set_cons_succ, List.length_cons, List.length_nil, Nat.zero_add, Nat.reduceAdd, Nat.reduceLeDiff, true_and, and_true, decide_eq_true_eq]
    refine ⟨by rw [zl]; omega, cs, m, r ++ [x], rfl, by rw [zi_app]; rfl, by rw [List.length_append]; rfl, by omega, rs_snoc hr hx, hl⟩
  · rintro Γ acc ⟨cs, m, r, rfl, rfl, hrn, _, hr, hl⟩
    rw [Fr.rg_len, Int.toNat_natCast] at hrn
    simp -implicitDefEqProofs only [sv, ev, CO.p, BO.p, BO.ap, tv, isNop, if_true, if_false, Bool.false_eq_true, reduceIte,
  W_then, W_asg, W_disp, W_nil, W_cons, W_consA, W_consI, W_var, W_val, W_bin, W_chn, W_ix, W_un, W_optN, W_optS, W_sl, W_deal, W_blt, W_isi, W_lrg, W_call, W_prm, W_ite, W_T, W_B, W_not, W_and, W_or, W_seq, W_rng, W_app, W_pop, W_popAt, oneI_i, oneL_l, W_nx, W_drop, W_pure, W_ret, W_if, W_par, W_unp, W_sub, W_yes, W_for, W_aug', W_lc,
  wO_some, wD_some, wD_if, rdO_dat, rdO_own, rdO_deal, mv_val, mv_new, mv_at, mvO_dat, mvO_own, dr_val, dr_new, dr_at, drO_dat, drO_own, dr_at1, dr1_deal, mvA_val, mvA_new, mvA_at, mvAO_dat, mvAO_own, mvAO_deal, toItm_f, itmO_some, toItm_n, toItm_q,
  isDeal_none, isDeal_dat, isDeal_own, isDeal_deal, lstR_at, lstR_at1, lstO_own, lstO_deal, items_at, items_at1, itO_own, it1_deal, putR_at, putR_at1, putO_deal, PR_v, PR_t, PR_l, Rt_d, Rt_q, rtO_some, retR_val, retR_new, retR_newD, retR_at, exitD_none, exitD_some, dealO_deal, intO_int, toB_bl, newO_new, valO_val, thW_nx, thW_bk, thW_ct, thW_rt,
  callW_d, callW_nil, callW_ref, refW_deal, augW_dat, exV, ex1, exI, addP_i, addP_l, addP_t, addI_i, subP_i, mulP_i, mulP_0, divP_i, modP_i, powP_i, cmpP_i, eqP_i, neP_i, isP_nn, isP_in, isP_tn, isP_bn, isnP_nn, isnP_in, isnP_tn, isP_nb, isP_ib, isP_tb, isP_bb, len_l, len_t, int_i, abs_i, tup_l, tup_t, lst_l, lst_t, min_i, max_i, rev_l, neg_i, sum_l, slP_t, slP_l,
  ixP_t, ixP_l, ixR_v, ixR_n, ixR_a, ixW_own, ixW_deal0, ixW_deal1, ixR_1, itemsD_l, itemsD_t, rangeP1, rangeP2, plains, plainO_none, plainO_dat, datO_none, datO_dat, setAll_nil, setAll_cons, setAW_some, setT_t,
  stR_at, stO_deal, setI, setIs, Itm.o, setD, forget_nil, forget_cons, fgO_none, fgO_dat, fgO_own, fgO_deal, wipeΓ, backΓ, argD, drs, List.all_cons, List.all_nil, Bool.and_true, List.getElem?_cons_zero, List.getElem?_cons_succ, List.set_cons_zero, List.set_cons_succ, List.length_cons, List.length_nil, Nat.zero_add, Nat.reduceAdd, Nat.reduceLeDiff, true_and, and_true, decide_eq_true_eq]
    refine wO.mono (hR cs m p hl hp hp2) ?_
    rintro _ _ ⟨by_, cs, m, rfl, hby, rfl, hl⟩
    simp -implicitDefEqProofs only [sv, ev, CO.p, BO.p, BO.ap, tv, isNop, if_true, if_false, Bool.false_eq_true, reduceIte,
  W_then, W_asg, W_disp, W_nil, W_cons, W_consA, W_consI, W_var, W_val, W_bin, W_chn, W_ix, W_un, W_optN, W_optS, W_sl, W_deal, W_blt, W_isi, W_lrg, W_call, W_prm, W_ite, W_T, W_B, W_not, W_and, W_or, W_seq, W_rng, W_app, W_pop, W_popAt, oneI_i, oneL_l, W_nx, W_drop, W_pure, W_ret, W_if, W_par, W_unp, W_sub, W_yes, W_for, W_aug', W_lc,
  wO_some, wD_some, wD_if, rdO_dat, rdO_own, rdO_deal, mv_val, mv_new, mv_at, mvO_dat, mvO_own, dr_val, dr_new, dr_at, drO_dat, drO_own, dr_at1, dr1_deal, mvA_val, mvA_new, mvA_at, mvAO_dat, mvAO_own, mvAO_deal, toItm_f, itmO_some, toItm_n, toItm_q,
  isDeal_none, isDeal_dat, isDeal_own, isDeal_deal, lstR_at, lstR_at1, lstO_own, lstO_deal, items_at, items_at1, itO_own, it1_deal, putR_at, putR_at1, putO_deal, PR_v, PR_t, PR_l, Rt_d, Rt_q, rtO_some, retR_val, retR_new, retR_newD, retR_at, exitD_none, exitD_some, dealO_deal, intO_int, toB_bl, newO_new, valO_val, thW_nx, thW_bk, thW_ct, thW_rt,
  callW_d, callW_nil, callW_ref, refW_deal, augW_dat, exV, ex1, exI, addP_i, addP_l, addP_t, addI_i, subP_i, mulP_i, mulP_0, divP_i, modP_i, powP_i, cmpP_i, eqP_i, neP_i, isP_nn, isP_in, isP_tn, isP_bn, isnP_nn, isnP_in, isnP_tn, isP_nb, isP_ib, isP_tb, isP_bb, len_l, len_t, int_i, abs_i, tup_l, tup_t, lst_l, lst_t, min_i, max_i, rev_l, neg_i, sum_l, slP_t, slP_l,
  ixP_t, ixP_l, ixR_v, ixR_n, ixR_a, ixW_own, ixW_deal0, ixW_deal1, ixR_1, itemsD_l, itemsD_t, rangeP1, rangeP2, plains, plainO_none, plainO_dat, datO_none, datO_dat, setAll_nil, setAll_cons, setAW_some, setT_t,
  stR_at, stO_deal, setI, setIs, Itm.o, setD, forget_nil, forget_cons, fgO_none, fgO_dat, fgO_own, fgO_deal, wipeΓ, backΓ, argD, drs, List.all_cons, List.all_nil, Bool.and_true, List.getElem?_cons_zero, List.getElem?_cons_succ, List.set_cons_zero, List.set_cons_succ, List.length_cons, List.length_nil, Nat.zero_add, Nat.reduceAdd, Nat.reduceLeDiff, true_and, and_true, decide_eq_true_eq]
    refine wO.mono (hR cs m p hl hp hp2) ?_
    rintro _ _ ⟨add, cs, m, rfl, hadd, rfl, hl⟩
    simp -implicitDefEqProofs only [zl, sv, ev, CO.p, BO.p, BO.ap, tv, isNop, if_true, if_false, Bool.false_eq_true, reduceIte,
  W_then, W_asg, W_disp, W_nil, W_cons, W_consA, W_consI, W_var, W_val, W_bin, W_chn, W_ix, W_un, W_optN, W_optS, W_sl, W_deal, W_blt, W_isi, W_lrg, W_call, W_prm, W_ite, W_T, W_B, W_not, W_and, W_or, W_seq, W_rng, W_app, W_pop, W_popAt, oneI_i, oneL_l, W_nx, W_drop, W_pure, W_ret, W_if, W_par, W_unp, W_sub, W_yes, W_for, W_aug', W_lc,
  wO_some, wD_some, wD_if, rdO_dat, rdO_own, rdO_deal, mv_val, mv_new, mv_at, mvO_dat, mvO_own, dr_val, dr_new, dr_at, drO_dat, drO_own, dr_at1, dr1_deal, mvA_val, mvA_new, mvA_at, mvAO_dat, mvAO_own, mvAO_deal, toItm_f, itmO_some, toItm_n, toItm_q,
  isDeal_none, isDeal_dat, isDeal_own, isDeal_deal, lstR_at, lstR_at1, lstO_own, lstO_deal, items_at, items_at1, itO_own, it1_deal, putR_at, putR_at1, putO_deal, PR_v, PR_t, PR_l, Rt_d, Rt_q, rtO_some, retR_val, retR_new, retR_newD, retR_at, exitD_none, exitD_some, dealO_deal, intO_int, toB_bl, newO_new, valO_val, thW_nx, thW_bk, thW_ct, thW_rt,
  callW_d, callW_nil, callW_ref, refW_deal, augW_dat, exV, ex1, exI, addP_i, addP_l, addP_t, addI_i, subP_i, mulP_i, mulP_0, divP_i, modP_i, powP_i, cmpP_i, eqP_i, neP_i, isP_nn, isP_in, isP_tn, isP_bn, isnP_nn, isnP_in, isnP_tn, isP_nb, isP_ib, isP_tb, isP_bb, len_l, len_t, int_i, abs_i, tup_l, tup_t, lst_l, lst_t, min_i, max_i, rev_l, neg_i, sum_l, slP_t, slP_l,
  ixP_t, ixP_l, ixR_v, ixR_n, ixR_a, ixW_own, ixW_deal0, ixW_deal1, ixR_1, itemsD_l, itemsD_t, rangeP1, rangeP2, plains, plainO_none, plainO_dat, datO_none, datO_dat, setAll_nil, setAll_cons, setAW_some, setT_t,
  stR_at, stO_deal, setI, setIs, Itm.o, setD, forget_nil, forget_cons, fgO_none, fgO_dat, fgO_own, fgO_deal, wipeΓ, backΓ, argD, drs, List.all_cons, List.all_nil, Bool.and_true, List.getElem?_cons_zero, List.getElem?_cons_succ, List.set_cons_zero, List.set_cons_succ, List.length_cons, List.length_nil, Nat.zero_add, Nat.reduceAdd, Nat.reduceLeDiff, true_and, and_true, decide_eq_true_eq]
    refine ⟨by omega, ?_⟩
    refine W_forR (fun n Γ => ∃ (r : List Int), Γ = [some (.deal (zi cs) (.int m)), some (.dat (.int p)), some (.dat (.int many)), some (.own (zi r)), none, some (.dat (.int by_)), some (.dat (.int add))] ∧ r.length = a + n ∧ Rs p r) ⟨r, rfl, by omega, hr⟩ ?_ ?_
    · rintro n Γ hn ⟨r, rfl, hrl, hr⟩
      have hg := hr.get (k := n) (by omega)
      simp -implicitDefEqProofs only [atI_z (show n < r.length by omega), zl, sv, ev, CO.p, BO.p, BO.ap, tv, isNop, if_true, if_false, Bool.false_eq_true, reduceIte,
  W_then, W_asg, W_disp, W_nil, W_cons, W_consA, W_consI, W_var, W_val, W_bin, W_chn, W_ix, W_un, W_optN, W_optS, W_sl, W_deal, W_blt, W_isi, W_lrg, W_call, W_prm, W_ite, W_T, W_B, W_not, W_and, W_or, W_seq, W_rng, W_app, W_pop, W_popAt, oneI_i, oneL_l, W_nx, W_drop, W_pure, W_ret, W_if, W_par, W_unp, W_sub, W_yes, W_for, W_aug', W_lc,
  wO_some, wD_some, wD_if, rdO_dat, rdO_own, rdO_deal, mv_val, mv_new, mv_at, mvO_dat, mvO_own, dr_val, dr_new, dr_at, drO_dat, drO_own, dr_at1, dr1_deal, mvA_val, mvA_new, mvA_at, mvAO_dat, mvAO_own, mvAO_deal, toItm_f, itmO_some, toItm_n, toItm_q,
  isDeal_none, isDeal_dat, isDeal_own, isDeal_deal, lstR_at, lstR_at1, lstO_own, lstO_deal, items_at, items_at1, itO_own, it1_deal, putR_at, putR_at1, putO_deal, PR_v, PR_t, PR_l, Rt_d, Rt_q, rtO_some, retR_val, retR_new, retR_newD, retR_at, exitD_none, exitD_some, dealO_deal, intO_int, toB_bl, newO_new, valO_val, thW_nx, thW_bk, thW_ct, thW_rt,
  callW_d, callW_nil, callW_ref, refW_deal, augW_dat, exV, ex1, exI, addP_i, addP_l, addP_t, addI_i, subP_i, mulP_i, mulP_0, divP_i, modP_i, powP_i, cmpP_i, eqP_i, neP_i, isP_nn, isP_in, isP_tn, isP_bn, isnP_nn, isnP_in, isnP_tn, isP_nb, isP_ib, isP_tb, isP_bb, len_l, len_t, int_i, abs_i, tup_l, tup_t, lst_l, lst_t, min_i, max_i, rev_l, neg_i, sum_l, slP_t, slP_l,
  ixP_t, ixP_l, ixR_v, ixR_n, ixR_a, ixW_own, ixW_deal0, ixW_deal1, ixR_1, itemsD_l, itemsD_t, rangeP1, rangeP2, plains, plainO_none, plainO_dat, datO_none, datO_dat, setAll_nil, setAll_cons, setAW_some, setT_t,
  stR_at, stO_deal, setI, setIs, Itm.o, setD, forget_nil, forget_cons, fgO_none, fgO_dat, fgO_own, fgO_deal, wipeΓ, backΓ, argD, drs, List.all_cons, List.all_nil, Bool.and_true, List.getElem?_cons_zero, List.getElem?_cons_succ, List.set_cons_zero, List.set_cons_succ, List.length_cons, List.length_nil, Nat.zero_add, Nat.reduceAdd, Nat.reduceLeDiff, true_and, and_true, decide_eq_true_eq]
      refine ⟨.inl ⟨by omega, by omega⟩, .inl ⟨by omega, by omega⟩, by omega, by omega, r ++ [(r.getD n 0 * by_ + add * (n : Int) + 1) % p], by rw [zi_app]; rfl, by rw [List.length_append, hrl]; rfl, rs_snoc hr ⟨Int.emod_nonneg _ (by omega), Int.emod_lt_of_pos _ (by omega)⟩⟩
    · rintro Γ ⟨r, rfl, hrl, hr⟩
      simp -implicitDefEqProofs only [sv, ev, CO.p, BO.p, BO.ap, tv, isNop, if_true, if_false, Bool.false_eq_true, reduceIte,
  W_then, W_asg, W_disp, W_nil, W_cons, W_consA, W_consI, W_var, W_val, W_bin, W_chn, W_ix, W_un, W_optN, W_optS, W_sl, W_deal, W_blt, W_isi, W_lrg, W_call, W_prm, W_ite, W_T, W_B, W_not, W_and, W_or, W_seq, W_rng, W_app, W_pop, W_popAt, oneI_i, oneL_l, W_nx, W_drop, W_pure, W_ret, W_if, W_par, W_unp, W_sub, W_yes, W_for, W_aug', W_lc,
  wO_some, wD_some, wD_if, rdO_dat, rdO_own, rdO_deal, mv_val, mv_new, mv_at, mvO_dat, mvO_own, dr_val, dr_new, dr_at, drO_dat, drO_own, dr_at1, dr1_deal, mvA_val, mvA_new, mvA_at, mvAO_dat, mvAO_own, mvAO_deal, toItm_f, itmO_some, toItm_n, toItm_q,
  isDeal_none, isDeal_dat, isDeal_own, isDeal_deal, lstR_at, lstR_at1, lstO_own, lstO_deal, items_at, items_at1, itO_own, it1_deal, putR_at, putR_at1, putO_deal, PR_v, PR_t, PR_l, Rt_d, Rt_q, rtO_some, retR_val, retR_new, retR_newD, retR_at, exitD_none, exitD_some, dealO_deal, intO_int, toB_bl, newO_new, valO_val, thW_nx, thW_bk, thW_ct, thW_rt,
  callW_d, callW_nil, callW_ref, refW_deal, augW_dat, exV, ex1, exI, addP_i, addP_l, addP_t, addI_i, subP_i, mulP_i, mulP_0, divP_i, modP_i, powP_i, cmpP_i, eqP_i, neP_i, isP_nn, isP_in, isP_tn, isP_bn, isnP_nn, isnP_in, isnP_tn, isP_nb, isP_ib, isP_tb, isP_bb, len_l, len_t, int_i, abs_i, tup_l, tup_t, lst_l, lst_t, min_i, max_i, rev_l, neg_i, sum_l, slP_t, slP_l,
  ixP_t, ixP_l, ixR_v, ixR_n, ixR_a, ixW_own, ixW_deal0, ixW_deal1, ixR_1, itemsD_l, itemsD_t, rangeP1, rangeP2, plains, plainO_none, plainO_dat, datO_none, datO_dat, setAll_nil, setAll_cons, setAW_some, setT_t,
  stR_at, stO_deal, setI, setIs, Itm.o, setD, forget_nil, forget_cons, fgO_none, fgO_dat, fgO_own, fgO_deal, wipeΓ, backΓ, argD, drs, List.all_cons, List.all_nil, Bool.and_true, List.getElem?_cons_zero, List.getElem?_cons_succ, List.set_cons_zero, List.set_cons_succ, List.length_cons, List.length_nil, Nat.zero_add, Nat.reduceAdd, Nat.reduceLeDiff, true_and, and_true, decide_eq_true_eq]
      exact ⟨r, cs, m, rfl, hr, by omega, rfl, hl⟩
end Ca

set_option Elab.async false
set_option linter.all false
set_option maxRecDepth 100000
set_option maxHeartbeats 4000000
/-! k75: the law's own reckoning -/
namespace Ca
open Z Nu Dq Pl
open L2 (atI ixN)
/-- _law_put -/
def tPut : Z.St := (.next (.ret (.bin .add (.bin .add (.sl (.var 0) .nop (.var 1)) (.tup (.cons (.var 2) .nil))) (.sl (.var 0) (.bin .add (.var 1) (.lit (.int 1))) .nop)))
 .nil)
theorem cut_td (xs : List D) (b : Nat) : cut xs none (some (b : Int)) = xs.take b := by
  unfold cut
  rw [HT.sIx_nat, HT.sIx_none, List.drop_zero, Nat.sub_zero]
  rcases Nat.le_total b xs.length with h | h
  · rw [Nat.min_eq_left h]
  · rw [Nat.min_eq_right h, List.take_length, List.take_of_length_le h]
theorem cut_fd (xs : List D) (a : Nat) : cut xs (some (a : Int)) none = xs.drop a := by
  unfold cut
  rw [HT.sIx_nat, HT.sIx_none]
  rcases Nat.le_total a xs.length with h | h
  · rw [Nat.min_eq_left h, List.take_of_length_le (by rw [List.length_drop]; omega)]
  · rw [Nat.min_eq_right h, List.drop_length, List.drop_of_length_le h, List.take_nil]
theorem put_ok (cal) (ds : List D) (s : Nat) (x : D) (hl : ds.length ≤ 1000000) (hs : s < ds.length) : runF cal 3 tPut none [.tup ds, .int s, x] = some (.dat (.tup (ds.set s x)), none) := by
  refine wO_eq (runF_W ?_)
  simp -implicitDefEqProofs only [tPut, c1n, cut_td, cut_fd, inΓ, dlO, List.map_cons, List.map_nil, List.nil_append, List.cons_append, List.replicate, Nat.reduceSub, sv, ev, CO.p, BO.p, BO.ap, tv, isNop, if_true, if_false, Bool.false_eq_true, reduceIte,
  W_then, W_asg, W_disp, W_nil, W_cons, W_consA, W_consI, W_var, W_val, W_bin, W_chn, W_ix, W_un, W_optN, W_optS, W_sl, W_deal, W_blt, W_isi, W_lrg, W_call, W_prm, W_ite, W_T, W_B, W_not, W_and, W_or, W_seq, W_rng, W_app, W_pop, W_popAt, oneI_i, oneL_l, W_nx, W_drop, W_pure, W_ret, W_if, W_par, W_unp, W_sub, W_yes, W_for, W_aug', W_lc,
  wO_some, wD_some, wD_if, rdO_dat, rdO_own, rdO_deal, mv_val, mv_new, mv_at, mvO_dat, mvO_own, dr_val, dr_new, dr_at, drO_dat, drO_own, dr_at1, dr1_deal, mvA_val, mvA_new, mvA_at, mvAO_dat, mvAO_own, mvAO_deal, toItm_f, itmO_some, toItm_n, toItm_q,
  isDeal_none, isDeal_dat, isDeal_own, isDeal_deal, lstR_at, lstR_at1, lstO_own, lstO_deal, items_at, items_at1, itO_own, it1_deal, putR_at, putR_at1, putO_deal, PR_v, PR_t, PR_l, Rt_d, Rt_q, rtO_some, retR_val, retR_new, retR_newD, retR_at, exitD_none, exitD_some, dealO_deal, intO_int, toB_bl, newO_new, valO_val, thW_nx, thW_bk, thW_ct, thW_rt,
  callW_d, callW_nil, callW_ref, refW_deal, augW_dat, exV, ex1, exI, addP_i, addP_l, addP_t, addI_i, subP_i, mulP_i, mulP_0, divP_i, modP_i, powP_i, cmpP_i, eqP_i, neP_i, isP_nn, isP_in, isP_tn, isP_bn, isnP_nn, isnP_in, isnP_tn, isP_nb, isP_ib, isP_tb, isP_bb, len_l, len_t, int_i, abs_i, tup_l, tup_t, lst_l, lst_t, min_i, max_i, rev_l, neg_i, sum_l, slP_t, slP_l,
  ixP_t, ixP_l, ixR_v, ixR_n, ixR_a, ixW_own, ixW_deal0, ixW_deal1, ixR_1, itemsD_l, itemsD_t, rangeP1, rangeP2, plains, plainO_none, plainO_dat, datO_none, datO_dat, setAll_nil, setAll_cons, setAW_some, setT_t,
  stR_at, stO_deal, setI, setIs, Itm.o, setD, forget_nil, forget_cons, fgO_none, fgO_dat, fgO_own, fgO_deal, wipeΓ, backΓ, argD, drs, List.all_cons, List.all_nil, Bool.and_true, List.getElem?_cons_zero, List.getElem?_cons_succ, List.set_cons_zero, List.set_cons_succ, List.length_cons, List.length_nil, Nat.zero_add, Nat.reduceAdd, Nat.reduceLeDiff, true_and, and_true, decide_eq_true_eq]
  refine ⟨by rw [List.length_take]; omega, by rw [List.length_append, List.length_take, List.length_drop]; simp -implicitDefEqProofs only [List.length_cons, List.length_nil]; omega, ?_⟩
  rw [List.set_eq_take_append_cons_drop, if_pos hs, List.append_assoc]; rfl
/-- _law_power -/
def tPow : Z.St := (.next (.par [3, 4, 5] (.cons (.lit (.int 1)) (.cons (.bin .mod (.blt .int (.cons (.var 0) .nil)) (.var 2)) (.cons (.var 1) .nil))))
 (.next (.loop [6] (.nm 6) (.rng 1 (.cons (.lit (.int 64)) .nil))
 (.next (.iff (.cmp .eq (.var 5) (.lit (.int 0)))
 (.next (.ret (.var 3))
 .nil)
 .nil)
 (.next (.iff (.cmp .eq (.bin .mod (.blt .int (.cons (.var 5) .nil)) (.lit (.int 2))) (.lit (.int 1)))
 (.next (.asg false 3 (.bin .mod (.blt .int (.cons (.bin .mul (.var 3) (.var 4)) .nil)) (.var 2)))
 .nil)
 .nil)
 (.next (.par [5, 4] (.cons (.bin .div (.var 5) (.lit (.int 2))) (.cons (.bin .mod (.blt .int (.cons (.bin .mul (.var 4) (.var 4)) .nil)) (.var 2)) .nil)))
 .nil))))
 (.next (.ret (.var 3))
 .nil)))
theorem pow_half (s : Int) (l : Nat) : s ^ l = (s * s) ^ (l / 2) * s ^ (l % 2) := by
  conv => lhs; rw [show l = 2 * (l / 2) + l % 2 by omega]
  rw [Int.pow_add, Int.pow_mul, Int.pow_succ, Int.pow_succ, Int.pow_zero, Int.one_mul]
theorem pow_ok (cal) (b p : Int) (e : Nat) (hp : 1 < p) (hp2 : p < 2 ^ 64) (he : e < 2 ^ 64) : runF cal 7 tPow none [.int b, .int e, .int p] = some (.dat (.int (b ^ e % p)), none) := by
  refine wO_eq (runF_W ?_)
  simp -implicitDefEqProofs only [tPow, inΓ, dlO, List.map_cons, List.map_nil, List.nil_append, List.cons_append, List.replicate, Nat.reduceSub, sv, ev, CO.p, BO.p, BO.ap, tv, isNop, if_true, if_false, Bool.false_eq_true, reduceIte,
  W_then, W_asg, W_disp, W_nil, W_cons, W_consA, W_consI, W_var, W_val, W_bin, W_chn, W_ix, W_un, W_optN, W_optS, W_sl, W_deal, W_blt, W_isi, W_lrg, W_call, W_prm, W_ite, W_T, W_B, W_not, W_and, W_or, W_seq, W_rng, W_app, W_pop, W_popAt, oneI_i, oneL_l, W_nx, W_drop, W_pure, W_ret, W_if, W_par, W_unp, W_sub, W_yes, W_for, W_aug', W_lc,
  wO_some, wD_some, wD_if, rdO_dat, rdO_own, rdO_deal, mv_val, mv_new, mv_at, mvO_dat, mvO_own, dr_val, dr_new, dr_at, drO_dat, drO_own, dr_at1, dr1_deal, mvA_val, mvA_new, mvA_at, mvAO_dat, mvAO_own, mvAO_deal, toItm_f, itmO_some, toItm_n, toItm_q,
  isDeal_none, isDeal_dat, isDeal_own, isDeal_deal, lstR_at, lstR_at1, lstO_own, lstO_deal, items_at, items_at1, itO_own, it1_deal, putR_at, putR_at1, putO_deal, PR_v, PR_t, PR_l, Rt_d, Rt_q, rtO_some, retR_val, retR_new, retR_newD, retR_at, exitD_none, exitD_some, dealO_deal, intO_int, toB_bl, newO_new, valO_val, thW_nx, thW_bk, thW_ct, thW_rt,
  callW_d, callW_nil, callW_ref, refW_deal, augW_dat, exV, ex1, exI, addP_i, addP_l, addP_t, addI_i, subP_i, mulP_i, mulP_0, divP_i, modP_i, powP_i, cmpP_i, eqP_i, neP_i, isP_nn, isP_in, isP_tn, isP_bn, isnP_nn, isnP_in, isnP_tn, isP_nb, isP_ib, isP_tb, isP_bb, len_l, len_t, int_i, abs_i, tup_l, tup_t, lst_l, lst_t, min_i, max_i, rev_l, neg_i, sum_l, slP_t, slP_l,
  ixP_t, ixP_l, ixR_v, ixR_n, ixR_a, ixW_own, ixW_deal0, ixW_deal1, ixR_1, itemsD_l, itemsD_t, rangeP1, rangeP2, plains, plainO_none, plainO_dat, datO_none, datO_dat, setAll_nil, setAll_cons, setAW_some, setT_t,
  stR_at, stO_deal, setI, setIs, Itm.o, setD, forget_nil, forget_cons, fgO_none, fgO_dat, fgO_own, fgO_deal, wipeΓ, backΓ, argD, drs, List.all_cons, List.all_nil, Bool.and_true, List.getElem?_cons_zero, List.getElem?_cons_succ, List.set_cons_zero, List.set_cons_succ, List.length_cons, List.length_nil, Nat.zero_add, Nat.reduceAdd, Nat.reduceLeDiff, true_and, and_true, decide_eq_true_eq]
  refine ⟨by omega, ⟨by decide, by decide⟩, ?_⟩
  have fin : ∀ f : Int, 0 ≤ f → f < p → ∀ s : Int, f * s ^ 0 % p = b ^ e % p → f = b ^ e % p := fun f h1 h2 s h => by
    rw [Int.pow_zero, Int.mul_one, Int.emod_eq_of_lt h1 h2] at h; exact h
  refine W_forR (fun n Γ => ∃ (f s : Int) (l : Nat), (0 ≤ f ∧ f < p) ∧ (0 ≤ s ∧ s < p) ∧ l < 2 ^ (64 - n) ∧ f * s ^ l % p = b ^ e % p ∧ Γ = [some (.dat (.int b)), some (.dat (.int e)), some (.dat (.int p)), some (.dat (.int f)), some (.dat (.int s)), some (.dat (.int l)), none]) ⟨1, b % p, e, ⟨by decide, hp⟩, ⟨Int.emod_nonneg _ (by omega), Int.emod_lt_of_pos _ (by omega)⟩, he, ?_, rfl⟩ ?_ ?_
  · rw [Int.one_mul]
    exact pow_mod (Int.emod_emod_of_dvd b (Int.dvd_refl p)) e
  · rintro n Γ hn ⟨f, s, l, ⟨hf1, hf2⟩, ⟨hs1, hs2⟩, hll, he', rfl⟩
    have hn : n < 64 := hn
    have q1 : 0 ≤ s * s % p ∧ s * s % p < p := ⟨Int.emod_nonneg _ (by omega), Int.emod_lt_of_pos _ (by omega)⟩
    have q2 : 0 ≤ f * s % p ∧ f * s % p < p := ⟨Int.emod_nonneg _ (by omega), Int.emod_lt_of_pos _ (by omega)⟩
    have c1 : (l : Int) / 2 = ((l / 2 : Nat) : Int) := by omega
    have hl2 : l / 2 < 2 ^ (64 - (n + 1)) := by
      have : 2 ^ (64 - n) = 2 * 2 ^ (64 - (n + 1)) := by rw [show 64 - n = (64 - (n + 1)) + 1 by omega, Nat.pow_succ, Nat.mul_comm]
      omega
    simp -implicitDefEqProofs only [c1, sv, ev, CO.p, BO.p, BO.ap, tv, isNop, if_true, if_false, Bool.false_eq_true, reduceIte,
  W_then, W_asg, W_disp, W_nil, W_cons, W_consA, W_consI, W_var, W_val, W_bin, W_chn, W_ix, W_un, W_optN, W_optS, W_sl, W_deal, W_blt, W_isi, W_lrg, W_call, W_prm, W_ite, W_T, W_B, W_not, W_and, W_or, W_seq, W_rng, W_app, W_pop, W_popAt, oneI_i, oneL_l, W_nx, W_drop, W_pure, W_ret, W_if, W_par, W_unp, W_sub, W_yes, W_for, W_aug', W_lc,
  wO_some, wD_some, wD_if, rdO_dat, rdO_own, rdO_deal, mv_val, mv_new, mv_at, mvO_dat, mvO_own, dr_val, dr_new, dr_at, drO_dat, drO_own, dr_at1, dr1_deal, mvA_val, mvA_new, mvA_at, mvAO_dat, mvAO_own, mvAO_deal, toItm_f, itmO_some, toItm_n, toItm_q,
  isDeal_none, isDeal_dat, isDeal_own, isDeal_deal, lstR_at, lstR_at1, lstO_own, lstO_deal, items_at, items_at1, itO_own, it1_deal, putR_at, putR_at1, putO_deal, PR_v, PR_t, PR_l, Rt_d, Rt_q, rtO_some, retR_val, retR_new, retR_newD, retR_at, exitD_none, exitD_some, dealO_deal, intO_int, toB_bl, newO_new, valO_val, thW_nx, thW_bk, thW_ct, thW_rt,
  callW_d, callW_nil, callW_ref, refW_deal, augW_dat, exV, ex1, exI, addP_i, addP_l, addP_t, addI_i, subP_i, mulP_i, mulP_0, divP_i, modP_i, powP_i, cmpP_i, eqP_i, neP_i, isP_nn, isP_in, isP_tn, isP_bn, isnP_nn, isnP_in, isnP_tn, isP_nb, isP_ib, isP_tb, isP_bb, len_l, len_t, int_i, abs_i, tup_l, tup_t, lst_l, lst_t, min_i, max_i, rev_l, neg_i, sum_l, slP_t, slP_l,
  ixP_t, ixP_l, ixR_v, ixR_n, ixR_a, ixW_own, ixW_deal0, ixW_deal1, ixR_1, itemsD_l, itemsD_t, rangeP1, rangeP2, plains, plainO_none, plainO_dat, datO_none, datO_dat, setAll_nil, setAll_cons, setAW_some, setT_t,
  stR_at, stO_deal, setI, setIs, Itm.o, setD, forget_nil, forget_cons, fgO_none, fgO_dat, fgO_own, fgO_deal, wipeΓ, backΓ, argD, drs, List.all_cons, List.all_nil, Bool.and_true, List.getElem?_cons_zero, List.getElem?_cons_succ, List.set_cons_zero, List.set_cons_succ, List.length_cons, List.length_nil, Nat.zero_add, Nat.reduceAdd, Nat.reduceLeDiff, true_and, and_true, decide_eq_true_eq]
    split
    · rename_i h0
      have : l = 0 := by omega
      subst this
      exact congrArg (fun z => Rt.dat (.int z)) (fin f hf1 hf2 s he')
    · refine ⟨by decide, ?_⟩
      split
      · rename_i h1
        refine ⟨.inl ⟨by omega, by omega⟩, by omega, by decide, .inl ⟨by omega, by omega⟩, by omega, f * s % p, s * s % p, l / 2, q2, q1, hl2, ?_, rfl⟩
        rw [← he', pow_half s l, show l % 2 = 1 by omega, Int.pow_succ, Int.pow_zero, Int.one_mul, mod_mul, ← mul_mod, pow_mod (Int.emod_emod_of_dvd (s * s) (Int.dvd_refl p)), mul_mod, Int.mul_assoc, Int.mul_comm s]
      · rename_i h1
        refine ⟨by decide, .inl ⟨by omega, by omega⟩, by omega, f, s * s % p, l / 2, ⟨hf1, hf2⟩, q1, hl2, ?_, rfl⟩
        rw [← he', pow_half s l, show l % 2 = 0 by omega, Int.pow_zero, Int.mul_one, ← mul_mod, pow_mod (Int.emod_emod_of_dvd (s * s) (Int.dvd_refl p)), mul_mod]
  · rintro Γ ⟨f, s, l, ⟨hf1, hf2⟩, _, hll, he', rfl⟩
    have hll : l < 2 ^ (64 - 64) := hll
    have : l = 0 := by omega
    subst this
    simp -implicitDefEqProofs only [sv, ev, CO.p, BO.p, BO.ap, tv, isNop, if_true, if_false, Bool.false_eq_true, reduceIte,
  W_then, W_asg, W_disp, W_nil, W_cons, W_consA, W_consI, W_var, W_val, W_bin, W_chn, W_ix, W_un, W_optN, W_optS, W_sl, W_deal, W_blt, W_isi, W_lrg, W_call, W_prm, W_ite, W_T, W_B, W_not, W_and, W_or, W_seq, W_rng, W_app, W_pop, W_popAt, oneI_i, oneL_l, W_nx, W_drop, W_pure, W_ret, W_if, W_par, W_unp, W_sub, W_yes, W_for, W_aug', W_lc,
  wO_some, wD_some, wD_if, rdO_dat, rdO_own, rdO_deal, mv_val, mv_new, mv_at, mvO_dat, mvO_own, dr_val, dr_new, dr_at, drO_dat, drO_own, dr_at1, dr1_deal, mvA_val, mvA_new, mvA_at, mvAO_dat, mvAO_own, mvAO_deal, toItm_f, itmO_some, toItm_n, toItm_q,
  isDeal_none, isDeal_dat, isDeal_own, isDeal_deal, lstR_at, lstR_at1, lstO_own, lstO_deal, items_at, items_at1, itO_own, it1_deal, putR_at, putR_at1, putO_deal, PR_v, PR_t, PR_l, Rt_d, Rt_q, rtO_some, retR_val, retR_new, retR_newD, retR_at, exitD_none, exitD_some, dealO_deal, intO_int, toB_bl, newO_new, valO_val, thW_nx, thW_bk, thW_ct, thW_rt,
  callW_d, callW_nil, callW_ref, refW_deal, augW_dat, exV, ex1, exI, addP_i, addP_l, addP_t, addI_i, subP_i, mulP_i, mulP_0, divP_i, modP_i, powP_i, cmpP_i, eqP_i, neP_i, isP_nn, isP_in, isP_tn, isP_bn, isnP_nn, isnP_in, isnP_tn, isP_nb, isP_ib, isP_tb, isP_bb, len_l, len_t, int_i, abs_i, tup_l, tup_t, lst_l, lst_t, min_i, max_i, rev_l, neg_i, sum_l, slP_t, slP_l,
  ixP_t, ixP_l, ixR_v, ixR_n, ixR_a, ixW_own, ixW_deal0, ixW_deal1, ixR_1, itemsD_l, itemsD_t, rangeP1, rangeP2, plains, plainO_none, plainO_dat, datO_none, datO_dat, setAll_nil, setAll_cons, setAW_some, setT_t,
  stR_at, stO_deal, setI, setIs, Itm.o, setD, forget_nil, forget_cons, fgO_none, fgO_dat, fgO_own, fgO_deal, wipeΓ, backΓ, argD, drs, List.all_cons, List.all_nil, Bool.and_true, List.getElem?_cons_zero, List.getElem?_cons_succ, List.set_cons_zero, List.set_cons_succ, List.length_cons, List.length_nil, Nat.zero_add, Nat.reduceAdd, Nat.reduceLeDiff, true_and, and_true, decide_eq_true_eq]
    exact congrArg (fun z => Rt.dat (.int z)) (fin f hf1 hf2 s he')
/-- _law_inverse; the callee _law_power -/
def tInv (i : Nat) : Z.St := (.next (.ret (.call i 3 (.cons (.var 0) (.cons (.bin .sub (.var 1) (.lit (.int 2))) (.cons (.var 1) .nil)))))
 .nil)
theorem inv_ok (cal : Nat → Sm) (i : Nat) (b p : Int) (h : cal i none [.int b, .int (p - 2), .int p] = some (.dat (.int (b ^ (p - 2).toNat % p)), none)) : runF cal 2 (tInv i) none [.int b, .int p] = some (.dat (.int (b ^ (p - 2).toNat % p)), none) := by
  refine wO_eq (runF_W ?_)
  simp -implicitDefEqProofs only [tInv, h, inΓ, dlO, List.map_cons, List.map_nil, List.nil_append, List.cons_append, List.replicate, Nat.reduceSub, sv, ev, CO.p, BO.p, BO.ap, tv, isNop, if_true, if_false, Bool.false_eq_true, reduceIte,
  W_then, W_asg, W_disp, W_nil, W_cons, W_consA, W_consI, W_var, W_val, W_bin, W_chn, W_ix, W_un, W_optN, W_optS, W_sl, W_deal, W_blt, W_isi, W_lrg, W_call, W_prm, W_ite, W_T, W_B, W_not, W_and, W_or, W_seq, W_rng, W_app, W_pop, W_popAt, oneI_i, oneL_l, W_nx, W_drop, W_pure, W_ret, W_if, W_par, W_unp, W_sub, W_yes, W_for, W_aug', W_lc,
  wO_some, wD_some, wD_if, rdO_dat, rdO_own, rdO_deal, mv_val, mv_new, mv_at, mvO_dat, mvO_own, dr_val, dr_new, dr_at, drO_dat, drO_own, dr_at1, dr1_deal, mvA_val, mvA_new, mvA_at, mvAO_dat, mvAO_own, mvAO_deal, toItm_f, itmO_some, toItm_n, toItm_q,
  isDeal_none, isDeal_dat, isDeal_own, isDeal_deal, lstR_at, lstR_at1, lstO_own, lstO_deal, items_at, items_at1, itO_own, it1_deal, putR_at, putR_at1, putO_deal, PR_v, PR_t, PR_l, Rt_d, Rt_q, rtO_some, retR_val, retR_new, retR_newD, retR_at, exitD_none, exitD_some, dealO_deal, intO_int, toB_bl, newO_new, valO_val, thW_nx, thW_bk, thW_ct, thW_rt,
  callW_d, callW_nil, callW_ref, refW_deal, augW_dat, exV, ex1, exI, addP_i, addP_l, addP_t, addI_i, subP_i, mulP_i, mulP_0, divP_i, modP_i, powP_i, cmpP_i, eqP_i, neP_i, isP_nn, isP_in, isP_tn, isP_bn, isnP_nn, isnP_in, isnP_tn, isP_nb, isP_ib, isP_tb, isP_bb, len_l, len_t, int_i, abs_i, tup_l, tup_t, lst_l, lst_t, min_i, max_i, rev_l, neg_i, sum_l, slP_t, slP_l,
  ixP_t, ixP_l, ixR_v, ixR_n, ixR_a, ixW_own, ixW_deal0, ixW_deal1, ixR_1, itemsD_l, itemsD_t, rangeP1, rangeP2, plains, plainO_none, plainO_dat, datO_none, datO_dat, setAll_nil, setAll_cons, setAW_some, setT_t,
  stR_at, stO_deal, setI, setIs, Itm.o, setD, forget_nil, forget_cons, fgO_none, fgO_dat, fgO_own, fgO_deal, wipeΓ, backΓ, argD, drs, List.all_cons, List.all_nil, Bool.and_true, List.getElem?_cons_zero, List.getElem?_cons_succ, List.set_cons_zero, List.set_cons_succ, List.length_cons, List.length_nil, Nat.zero_add, Nat.reduceAdd, Nat.reduceLeDiff, true_and, and_true, decide_eq_true_eq]
/-- _law_code -/
def tCod : Z.St := (.next (.par [3, 4] (.conw (.lst .nil) (.cons (.blt .list (.cons (.var 1) .nil)) .nil)))
 (.next (.loop [5] (.nm 5) (.rng 1 (.cons (.blt .len (.cons (.var 1) .nil)) .nil))
 (.next (.drop (.app (.var 3) (.cons (.ix (.var 4) (.lit (.int 0))) .nil)))
 (.next (.asg false 4 (.lc [6] (.rng 1 (.cons (.bin .sub (.blt .len (.cons (.var 4) .nil)) (.lit (.int 1))) .nil)) (.nm 6) .nop (.bin .mod (.blt .int (.cons (.bin .sub (.ix (.var 4) (.bin .add (.var 6) (.lit (.int 1)))) (.ix (.var 4) (.var 6))) .nil)) (.var 0))))
 .nil)))
 (.next (.asg true 7 (.lst .nil))
 (.next (.loop [5] (.nm 5) (.rng 1 (.cons (.var 2) .nil))
 (.next (.drop (.app (.var 7) (.cons (.ix (.var 3) (.lit (.int 0))) .nil)))
 (.next (.asg true 3 (.bin .add (.lc [6] (.rng 1 (.cons (.bin .sub (.blt .len (.cons (.var 3) .nil)) (.lit (.int 1))) .nil)) (.nm 6) .nop (.bin .mod (.blt .int (.cons (.bin .add (.ix (.var 3) (.var 6)) (.ix (.var 3) (.bin .add (.var 6) (.lit (.int 1))))) .nil)) (.var 0))) (.sl (.var 3) (.neg (.lit (.int 1))) .nop)))
 .nil)))
 (.next (.ret (.blt .tuple (.cons (.var 7) .nil)))
 .nil)))))
theorem hds_app (p : Int) : ∀ (n : Nat) (l : List Int), hds p (n + 1) l = hds p n l ++ [(iter (difs p) n l).getD 0 0]
  | 0, l => rfl
  | n + 1, l => by
    show l.getD 0 0 :: hds p (n + 1) (difs p l) = l.getD 0 0 :: (hds p n (difs p l) ++ _)
    rw [hds_app p n (difs p l)]; rfl
theorem iterd_len (p : Int) (l : List Int) : ∀ n, (iter (difs p) n l).length = l.length - n
  | 0 => rfl
  | n + 1 => by rw [iter_S, difs_len, iterd_len p l n]; omega
theorem cut_m1z {ds : List Int} (h : ds ≠ []) : cut (zi ds) (some (-1)) none = zi (ds.drop (ds.length - 1)) := by
  have hl := List.length_pos_iff.mpr h
  unfold cut
  rw [zl, HT.sIx_none]
  have e : HT.sIx ds.length 0 (some (-1)) = ds.length - 1 := by
    show (if (-1 : Int) < 0 then ((-1 : Int) + (ds.length : Int)).toNat else min (-1 : Int).toNat ds.length) = _
    rw [if_pos (by decide)]; omega
  rw [e, ← List.map_drop, List.take_of_length_le (by rw [List.length_map, List.length_drop]; omega)]
theorem cod_ok (cal) (p : Int) (row : List Int) (many : Nat) (hp : 0 < p) (h0 : row ≠ []) (hl : row.length ≤ 1000) (hm : many ≤ 1000) : runF cal 8 tCod none [.int p, .tup (zi row), .int many] = some (.dat (.tup (zi (cod p row many))), none) := by
  refine wO_eq (runF_W ?_)
  simp -implicitDefEqProofs only [tCod, zl, inΓ, dlO, List.map_cons, List.map_nil, List.nil_append, List.cons_append, List.replicate, Nat.reduceSub, sv, ev, CO.p, BO.p, BO.ap, tv, isNop, if_true, if_false, Bool.false_eq_true, reduceIte,
  W_then, W_asg, W_disp, W_nil, W_cons, W_consA, W_consI, W_var, W_val, W_bin, W_chn, W_ix, W_un, W_optN, W_optS, W_sl, W_deal, W_blt, W_isi, W_lrg, W_call, W_prm, W_ite, W_T, W_B, W_not, W_and, W_or, W_seq, W_rng, W_app, W_pop, W_popAt, oneI_i, oneL_l, W_nx, W_drop, W_pure, W_ret, W_if, W_par, W_unp, W_sub, W_yes, W_for, W_aug', W_lc,
  wO_some, wD_some, wD_if, rdO_dat, rdO_own, rdO_deal, mv_val, mv_new, mv_at, mvO_dat, mvO_own, dr_val, dr_new, dr_at, drO_dat, drO_own, dr_at1, dr1_deal, mvA_val, mvA_new, mvA_at, mvAO_dat, mvAO_own, mvAO_deal, toItm_f, itmO_some, toItm_n, toItm_q,
  isDeal_none, isDeal_dat, isDeal_own, isDeal_deal, lstR_at, lstR_at1, lstO_own, lstO_deal, items_at, items_at1, itO_own, it1_deal, putR_at, putR_at1, putO_deal, PR_v, PR_t, PR_l, Rt_d, Rt_q, rtO_some, retR_val, retR_new, retR_newD, retR_at, exitD_none, exitD_some, dealO_deal, intO_int, toB_bl, newO_new, valO_val, thW_nx, thW_bk, thW_ct, thW_rt,
  callW_d, callW_nil, callW_ref, refW_deal, augW_dat, exV, ex1, exI, addP_i, addP_l, addP_t, addI_i, subP_i, mulP_i, mulP_0, divP_i, modP_i, powP_i, cmpP_i, eqP_i, neP_i, isP_nn, isP_in, isP_tn, isP_bn, isnP_nn, isnP_in, isnP_tn, isP_nb, isP_ib, isP_tb, isP_bb, len_l, len_t, int_i, abs_i, tup_l, tup_t, lst_l, lst_t, min_i, max_i, rev_l, neg_i, sum_l, slP_t, slP_l,
  ixP_t, ixP_l, ixR_v, ixR_n, ixR_a, ixW_own, ixW_deal0, ixW_deal1, ixR_1, itemsD_l, itemsD_t, rangeP1, rangeP2, plains, plainO_none, plainO_dat, datO_none, datO_dat, setAll_nil, setAll_cons, setAW_some, setT_t,
  stR_at, stO_deal, setI, setIs, Itm.o, setD, forget_nil, forget_cons, fgO_none, fgO_dat, fgO_own, fgO_deal, wipeΓ, backΓ, argD, drs, List.all_cons, List.all_nil, Bool.and_true, List.getElem?_cons_zero, List.getElem?_cons_succ, List.set_cons_zero, List.set_cons_succ, List.length_cons, List.length_nil, Nat.zero_add, Nat.reduceAdd, Nat.reduceLeDiff, true_and, and_true, decide_eq_true_eq]
  refine ⟨by omega, ?_⟩
  refine W_forR (fun n Γ => Γ = [some (.dat (.int p)), some (.dat (.tup (zi row))), some (.dat (.int many)), some (.own (zi (hds p n row))), some (.dat (.lst (zi (iter (difs p) n row)))), none, none, none]) rfl ?_ ?_
  · rintro n Γ hn rfl
    have l1 := iterd_len p row n
    have a0 : atI (zi (iter (difs p) n row)) 0 = some (D.int ((iter (difs p) n row).getD 0 0)) := atI_z (i := 0) (by omega)
    rw [hds_app, iter_S]
    generalize iter (difs p) n row = l at *
    simp -implicitDefEqProofs only [a0, zl, sv, ev, CO.p, BO.p, BO.ap, tv, isNop, if_true, if_false, Bool.false_eq_true, reduceIte,
  W_then, W_asg, W_disp, W_nil, W_cons, W_consA, W_consI, W_var, W_val, W_bin, W_chn, W_ix, W_un, W_optN, W_optS, W_sl, W_deal, W_blt, W_isi, W_lrg, W_call, W_prm, W_ite, W_T, W_B, W_not, W_and, W_or, W_seq, W_rng, W_app, W_pop, W_popAt, oneI_i, oneL_l, W_nx, W_drop, W_pure, W_ret, W_if, W_par, W_unp, W_sub, W_yes, W_for, W_aug', W_lc,
  wO_some, wD_some, wD_if, rdO_dat, rdO_own, rdO_deal, mv_val, mv_new, mv_at, mvO_dat, mvO_own, dr_val, dr_new, dr_at, drO_dat, drO_own, dr_at1, dr1_deal, mvA_val, mvA_new, mvA_at, mvAO_dat, mvAO_own, mvAO_deal, toItm_f, itmO_some, toItm_n, toItm_q,
  isDeal_none, isDeal_dat, isDeal_own, isDeal_deal, lstR_at, lstR_at1, lstO_own, lstO_deal, items_at, items_at1, itO_own, it1_deal, putR_at, putR_at1, putO_deal, PR_v, PR_t, PR_l, Rt_d, Rt_q, rtO_some, retR_val, retR_new, retR_newD, retR_at, exitD_none, exitD_some, dealO_deal, intO_int, toB_bl, newO_new, valO_val, thW_nx, thW_bk, thW_ct, thW_rt,
  callW_d, callW_nil, callW_ref, refW_deal, augW_dat, exV, ex1, exI, addP_i, addP_l, addP_t, addI_i, subP_i, mulP_i, mulP_0, divP_i, modP_i, powP_i, cmpP_i, eqP_i, neP_i, isP_nn, isP_in, isP_tn, isP_bn, isnP_nn, isnP_in, isnP_tn, isP_nb, isP_ib, isP_tb, isP_bb, len_l, len_t, int_i, abs_i, tup_l, tup_t, lst_l, lst_t, min_i, max_i, rev_l, neg_i, sum_l, slP_t, slP_l,
  ixP_t, ixP_l, ixR_v, ixR_n, ixR_a, ixW_own, ixW_deal0, ixW_deal1, ixR_1, itemsD_l, itemsD_t, rangeP1, rangeP2, plains, plainO_none, plainO_dat, datO_none, datO_dat, setAll_nil, setAll_cons, setAW_some, setT_t,
  stR_at, stO_deal, setI, setIs, Itm.o, setD, forget_nil, forget_cons, fgO_none, fgO_dat, fgO_own, fgO_deal, wipeΓ, backΓ, argD, drs, List.all_cons, List.all_nil, Bool.and_true, List.getElem?_cons_zero, List.getElem?_cons_succ, List.set_cons_zero, List.set_cons_succ, List.length_cons, List.length_nil, Nat.zero_add, Nat.reduceAdd, Nat.reduceLeDiff, true_and, and_true, decide_eq_true_eq]
    refine ⟨by rw [hds_len]; omega, by omega, W_lcR (fun i => D.int ((l.getD (i + 1) 0 - l.getD i 0) % p)) (by omega) ?_ ?_⟩
    · intro i hi
      simp -implicitDefEqProofs only [c1n, atI_z (show i < l.length by omega), atI_z (show i + 1 < l.length by omega), sv, ev, CO.p, BO.p, BO.ap, tv, isNop, if_true, if_false, Bool.false_eq_true, reduceIte,
  W_then, W_asg, W_disp, W_nil, W_cons, W_consA, W_consI, W_var, W_val, W_bin, W_chn, W_ix, W_un, W_optN, W_optS, W_sl, W_deal, W_blt, W_isi, W_lrg, W_call, W_prm, W_ite, W_T, W_B, W_not, W_and, W_or, W_seq, W_rng, W_app, W_pop, W_popAt, oneI_i, oneL_l, W_nx, W_drop, W_pure, W_ret, W_if, W_par, W_unp, W_sub, W_yes, W_for, W_aug', W_lc,
  wO_some, wD_some, wD_if, rdO_dat, rdO_own, rdO_deal, mv_val, mv_new, mv_at, mvO_dat, mvO_own, dr_val, dr_new, dr_at, drO_dat, drO_own, dr_at1, dr1_deal, mvA_val, mvA_new, mvA_at, mvAO_dat, mvAO_own, mvAO_deal, toItm_f, itmO_some, toItm_n, toItm_q,
  isDeal_none, isDeal_dat, isDeal_own, isDeal_deal, lstR_at, lstR_at1, lstO_own, lstO_deal, items_at, items_at1, itO_own, it1_deal, putR_at, putR_at1, putO_deal, PR_v, PR_t, PR_l, Rt_d, Rt_q, rtO_some, retR_val, retR_new, retR_newD, retR_at, exitD_none, exitD_some, dealO_deal, intO_int, toB_bl, newO_new, valO_val, thW_nx, thW_bk, thW_ct, thW_rt,
  callW_d, callW_nil, callW_ref, refW_deal, augW_dat, exV, ex1, exI, addP_i, addP_l, addP_t, addI_i, subP_i, mulP_i, mulP_0, divP_i, modP_i, powP_i, cmpP_i, eqP_i, neP_i, isP_nn, isP_in, isP_tn, isP_bn, isnP_nn, isnP_in, isnP_tn, isP_nb, isP_ib, isP_tb, isP_bb, len_l, len_t, int_i, abs_i, tup_l, tup_t, lst_l, lst_t, min_i, max_i, rev_l, neg_i, sum_l, slP_t, slP_l,
  ixP_t, ixP_l, ixR_v, ixR_n, ixR_a, ixW_own, ixW_deal0, ixW_deal1, ixR_1, itemsD_l, itemsD_t, rangeP1, rangeP2, plains, plainO_none, plainO_dat, datO_none, datO_dat, setAll_nil, setAll_cons, setAW_some, setT_t,
  stR_at, stO_deal, setI, setIs, Itm.o, setD, forget_nil, forget_cons, fgO_none, fgO_dat, fgO_own, fgO_deal, wipeΓ, backΓ, argD, drs, List.all_cons, List.all_nil, Bool.and_true, List.getElem?_cons_zero, List.getElem?_cons_succ, List.set_cons_zero, List.set_cons_succ, List.length_cons, List.length_nil, Nat.zero_add, Nat.reduceAdd, Nat.reduceLeDiff, true_and, and_true, decide_eq_true_eq]
      exact hp
    · simp -implicitDefEqProofs only [sv, ev, CO.p, BO.p, BO.ap, tv, isNop, if_true, if_false, Bool.false_eq_true, reduceIte,
  W_then, W_asg, W_disp, W_nil, W_cons, W_consA, W_consI, W_var, W_val, W_bin, W_chn, W_ix, W_un, W_optN, W_optS, W_sl, W_deal, W_blt, W_isi, W_lrg, W_call, W_prm, W_ite, W_T, W_B, W_not, W_and, W_or, W_seq, W_rng, W_app, W_pop, W_popAt, oneI_i, oneL_l, W_nx, W_drop, W_pure, W_ret, W_if, W_par, W_unp, W_sub, W_yes, W_for, W_aug', W_lc,
  wO_some, wD_some, wD_if, rdO_dat, rdO_own, rdO_deal, mv_val, mv_new, mv_at, mvO_dat, mvO_own, dr_val, dr_new, dr_at, drO_dat, drO_own, dr_at1, dr1_deal, mvA_val, mvA_new, mvA_at, mvAO_dat, mvAO_own, mvAO_deal, toItm_f, itmO_some, toItm_n, toItm_q,
  isDeal_none, isDeal_dat, isDeal_own, isDeal_deal, lstR_at, lstR_at1, lstO_own, lstO_deal, items_at, items_at1, itO_own, it1_deal, putR_at, putR_at1, putO_deal, PR_v, PR_t, PR_l, Rt_d, Rt_q, rtO_some, retR_val, retR_new, retR_newD, retR_at, exitD_none, exitD_some, dealO_deal, intO_int, toB_bl, newO_new, valO_val, thW_nx, thW_bk, thW_ct, thW_rt,
  callW_d, callW_nil, callW_ref, refW_deal, augW_dat, exV, ex1, exI, addP_i, addP_l, addP_t, addI_i, subP_i, mulP_i, mulP_0, divP_i, modP_i, powP_i, cmpP_i, eqP_i, neP_i, isP_nn, isP_in, isP_tn, isP_bn, isnP_nn, isnP_in, isnP_tn, isP_nb, isP_ib, isP_tb, isP_bb, len_l, len_t, int_i, abs_i, tup_l, tup_t, lst_l, lst_t, min_i, max_i, rev_l, neg_i, sum_l, slP_t, slP_l,
  ixP_t, ixP_l, ixR_v, ixR_n, ixR_a, ixW_own, ixW_deal0, ixW_deal1, ixR_1, itemsD_l, itemsD_t, rangeP1, rangeP2, plains, plainO_none, plainO_dat, datO_none, datO_dat, setAll_nil, setAll_cons, setAW_some, setT_t,
  stR_at, stO_deal, setI, setIs, Itm.o, setD, forget_nil, forget_cons, fgO_none, fgO_dat, fgO_own, fgO_deal, wipeΓ, backΓ, argD, drs, List.all_cons, List.all_nil, Bool.and_true, List.getElem?_cons_zero, List.getElem?_cons_succ, List.set_cons_zero, List.set_cons_succ, List.length_cons, List.length_nil, Nat.zero_add, Nat.reduceAdd, Nat.reduceLeDiff, true_and, and_true, decide_eq_true_eq]
      rw [difs_zi, zi_app]; rfl
  · rintro Γ rfl
    rw [Int.toNat_natCast]
    have hne := hds_ne (p := p) h0
    have hll := hds_len p row.length row
    unfold cod
    generalize hds p row.length row = ds at *
    generalize iter (difs p) row.length row = junk at *
    simp -implicitDefEqProofs only [sv, ev, CO.p, BO.p, BO.ap, tv, isNop, if_true, if_false, Bool.false_eq_true, reduceIte,
  W_then, W_asg, W_disp, W_nil, W_cons, W_consA, W_consI, W_var, W_val, W_bin, W_chn, W_ix, W_un, W_optN, W_optS, W_sl, W_deal, W_blt, W_isi, W_lrg, W_call, W_prm, W_ite, W_T, W_B, W_not, W_and, W_or, W_seq, W_rng, W_app, W_pop, W_popAt, oneI_i, oneL_l, W_nx, W_drop, W_pure, W_ret, W_if, W_par, W_unp, W_sub, W_yes, W_for, W_aug', W_lc,
  wO_some, wD_some, wD_if, rdO_dat, rdO_own, rdO_deal, mv_val, mv_new, mv_at, mvO_dat, mvO_own, dr_val, dr_new, dr_at, drO_dat, drO_own, dr_at1, dr1_deal, mvA_val, mvA_new, mvA_at, mvAO_dat, mvAO_own, mvAO_deal, toItm_f, itmO_some, toItm_n, toItm_q,
  isDeal_none, isDeal_dat, isDeal_own, isDeal_deal, lstR_at, lstR_at1, lstO_own, lstO_deal, items_at, items_at1, itO_own, it1_deal, putR_at, putR_at1, putO_deal, PR_v, PR_t, PR_l, Rt_d, Rt_q, rtO_some, retR_val, retR_new, retR_newD, retR_at, exitD_none, exitD_some, dealO_deal, intO_int, toB_bl, newO_new, valO_val, thW_nx, thW_bk, thW_ct, thW_rt,
  callW_d, callW_nil, callW_ref, refW_deal, augW_dat, exV, ex1, exI, addP_i, addP_l, addP_t, addI_i, subP_i, mulP_i, mulP_0, divP_i, modP_i, powP_i, cmpP_i, eqP_i, neP_i, isP_nn, isP_in, isP_tn, isP_bn, isnP_nn, isnP_in, isnP_tn, isP_nb, isP_ib, isP_tb, isP_bb, len_l, len_t, int_i, abs_i, tup_l, tup_t, lst_l, lst_t, min_i, max_i, rev_l, neg_i, sum_l, slP_t, slP_l,
  ixP_t, ixP_l, ixR_v, ixR_n, ixR_a, ixW_own, ixW_deal0, ixW_deal1, ixR_1, itemsD_l, itemsD_t, rangeP1, rangeP2, plains, plainO_none, plainO_dat, datO_none, datO_dat, setAll_nil, setAll_cons, setAW_some, setT_t,
  stR_at, stO_deal, setI, setIs, Itm.o, setD, forget_nil, forget_cons, fgO_none, fgO_dat, fgO_own, fgO_deal, wipeΓ, backΓ, argD, drs, List.all_cons, List.all_nil, Bool.and_true, List.getElem?_cons_zero, List.getElem?_cons_succ, List.set_cons_zero, List.set_cons_succ, List.length_cons, List.length_nil, Nat.zero_add, Nat.reduceAdd, Nat.reduceLeDiff, true_and, and_true, decide_eq_true_eq]
    refine ⟨by omega, ?_⟩
    refine W_forR (fun n Γ => Γ = [some (.dat (.int p)), some (.dat (.tup (zi row))), some (.dat (.int many)), some (.own (zi (iter (stp p) n ds))), some (.dat (.lst (zi junk))), none, none, some (.own (zi (outL p n ds)))]) rfl ?_ ?_
    · rintro n Γ hn rfl
      have l1 := iter_len (p := p) hne n
      have hdp := List.length_pos_iff.mpr hne
      have a0 : atI (zi (iter (stp p) n ds)) 0 = some (D.int ((iter (stp p) n ds).getD 0 0)) := atI_z (i := 0) (by omega)
      rw [iter_S, outL_app]
      have hne2 : iter (stp p) n ds ≠ [] := List.length_pos_iff.mp (by omega)
      have hol := outL_len p n ds
      generalize iter (stp p) n ds = l at *
      simp -implicitDefEqProofs only [a0, zl, sv, ev, CO.p, BO.p, BO.ap, tv, isNop, if_true, if_false, Bool.false_eq_true, reduceIte,
  W_then, W_asg, W_disp, W_nil, W_cons, W_consA, W_consI, W_var, W_val, W_bin, W_chn, W_ix, W_un, W_optN, W_optS, W_sl, W_deal, W_blt, W_isi, W_lrg, W_call, W_prm, W_ite, W_T, W_B, W_not, W_and, W_or, W_seq, W_rng, W_app, W_pop, W_popAt, oneI_i, oneL_l, W_nx, W_drop, W_pure, W_ret, W_if, W_par, W_unp, W_sub, W_yes, W_for, W_aug', W_lc,
  wO_some, wD_some, wD_if, rdO_dat, rdO_own, rdO_deal, mv_val, mv_new, mv_at, mvO_dat, mvO_own, dr_val, dr_new, dr_at, drO_dat, drO_own, dr_at1, dr1_deal, mvA_val, mvA_new, mvA_at, mvAO_dat, mvAO_own, mvAO_deal, toItm_f, itmO_some, toItm_n, toItm_q,
  isDeal_none, isDeal_dat, isDeal_own, isDeal_deal, lstR_at, lstR_at1, lstO_own, lstO_deal, items_at, items_at1, itO_own, it1_deal, putR_at, putR_at1, putO_deal, PR_v, PR_t, PR_l, Rt_d, Rt_q, rtO_some, retR_val, retR_new, retR_newD, retR_at, exitD_none, exitD_some, dealO_deal, intO_int, toB_bl, newO_new, valO_val, thW_nx, thW_bk, thW_ct, thW_rt,
  callW_d, callW_nil, callW_ref, refW_deal, augW_dat, exV, ex1, exI, addP_i, addP_l, addP_t, addI_i, subP_i, mulP_i, mulP_0, divP_i, modP_i, powP_i, cmpP_i, eqP_i, neP_i, isP_nn, isP_in, isP_tn, isP_bn, isnP_nn, isnP_in, isnP_tn, isP_nb, isP_ib, isP_tb, isP_bb, len_l, len_t, int_i, abs_i, tup_l, tup_t, lst_l, lst_t, min_i, max_i, rev_l, neg_i, sum_l, slP_t, slP_l,
  ixP_t, ixP_l, ixR_v, ixR_n, ixR_a, ixW_own, ixW_deal0, ixW_deal1, ixR_1, itemsD_l, itemsD_t, rangeP1, rangeP2, plains, plainO_none, plainO_dat, datO_none, datO_dat, setAll_nil, setAll_cons, setAW_some, setT_t,
  stR_at, stO_deal, setI, setIs, Itm.o, setD, forget_nil, forget_cons, fgO_none, fgO_dat, fgO_own, fgO_deal, wipeΓ, backΓ, argD, drs, List.all_cons, List.all_nil, Bool.and_true, List.getElem?_cons_zero, List.getElem?_cons_succ, List.set_cons_zero, List.set_cons_succ, List.length_cons, List.length_nil, Nat.zero_add, Nat.reduceAdd, Nat.reduceLeDiff, true_and, and_true, decide_eq_true_eq]
      refine ⟨by omega, by omega, W_lcR (fun i => D.int ((l.getD i 0 + l.getD (i + 1) 0) % p)) (by omega) ?_ ?_⟩
      · intro i hi
        simp -implicitDefEqProofs only [c1n, atI_z (show i < l.length by omega), atI_z (show i + 1 < l.length by omega), sv, ev, CO.p, BO.p, BO.ap, tv, isNop, if_true, if_false, Bool.false_eq_true, reduceIte,
  W_then, W_asg, W_disp, W_nil, W_cons, W_consA, W_consI, W_var, W_val, W_bin, W_chn, W_ix, W_un, W_optN, W_optS, W_sl, W_deal, W_blt, W_isi, W_lrg, W_call, W_prm, W_ite, W_T, W_B, W_not, W_and, W_or, W_seq, W_rng, W_app, W_pop, W_popAt, oneI_i, oneL_l, W_nx, W_drop, W_pure, W_ret, W_if, W_par, W_unp, W_sub, W_yes, W_for, W_aug', W_lc,
  wO_some, wD_some, wD_if, rdO_dat, rdO_own, rdO_deal, mv_val, mv_new, mv_at, mvO_dat, mvO_own, dr_val, dr_new, dr_at, drO_dat, drO_own, dr_at1, dr1_deal, mvA_val, mvA_new, mvA_at, mvAO_dat, mvAO_own, mvAO_deal, toItm_f, itmO_some, toItm_n, toItm_q,
  isDeal_none, isDeal_dat, isDeal_own, isDeal_deal, lstR_at, lstR_at1, lstO_own, lstO_deal, items_at, items_at1, itO_own, it1_deal, putR_at, putR_at1, putO_deal, PR_v, PR_t, PR_l, Rt_d, Rt_q, rtO_some, retR_val, retR_new, retR_newD, retR_at, exitD_none, exitD_some, dealO_deal, intO_int, toB_bl, newO_new, valO_val, thW_nx, thW_bk, thW_ct, thW_rt,
  callW_d, callW_nil, callW_ref, refW_deal, augW_dat, exV, ex1, exI, addP_i, addP_l, addP_t, addI_i, subP_i, mulP_i, mulP_0, divP_i, modP_i, powP_i, cmpP_i, eqP_i, neP_i, isP_nn, isP_in, isP_tn, isP_bn, isnP_nn, isnP_in, isnP_tn, isP_nb, isP_ib, isP_tb, isP_bb, len_l, len_t, int_i, abs_i, tup_l, tup_t, lst_l, lst_t, min_i, max_i, rev_l, neg_i, sum_l, slP_t, slP_l,
  ixP_t, ixP_l, ixR_v, ixR_n, ixR_a, ixW_own, ixW_deal0, ixW_deal1, ixR_1, itemsD_l, itemsD_t, rangeP1, rangeP2, plains, plainO_none, plainO_dat, datO_none, datO_dat, setAll_nil, setAll_cons, setAW_some, setT_t,
  stR_at, stO_deal, setI, setIs, Itm.o, setD, forget_nil, forget_cons, fgO_none, fgO_dat, fgO_own, fgO_deal, wipeΓ, backΓ, argD, drs, List.all_cons, List.all_nil, Bool.and_true, List.getElem?_cons_zero, List.getElem?_cons_succ, List.set_cons_zero, List.set_cons_succ, List.length_cons, List.length_nil, Nat.zero_add, Nat.reduceAdd, Nat.reduceLeDiff, true_and, and_true, decide_eq_true_eq]
        exact hp
      · simp -implicitDefEqProofs only [cut_m1z hne2, sv, ev, CO.p, BO.p, BO.ap, tv, isNop, if_true, if_false, Bool.false_eq_true, reduceIte,
  W_then, W_asg, W_disp, W_nil, W_cons, W_consA, W_consI, W_var, W_val, W_bin, W_chn, W_ix, W_un, W_optN, W_optS, W_sl, W_deal, W_blt, W_isi, W_lrg, W_call, W_prm, W_ite, W_T, W_B, W_not, W_and, W_or, W_seq, W_rng, W_app, W_pop, W_popAt, oneI_i, oneL_l, W_nx, W_drop, W_pure, W_ret, W_if, W_par, W_unp, W_sub, W_yes, W_for, W_aug', W_lc,
  wO_some, wD_some, wD_if, rdO_dat, rdO_own, rdO_deal, mv_val, mv_new, mv_at, mvO_dat, mvO_own, dr_val, dr_new, dr_at, drO_dat, drO_own, dr_at1, dr1_deal, mvA_val, mvA_new, mvA_at, mvAO_dat, mvAO_own, mvAO_deal, toItm_f, itmO_some, toItm_n, toItm_q,
  isDeal_none, isDeal_dat, isDeal_own, isDeal_deal, lstR_at, lstR_at1, lstO_own, lstO_deal, items_at, items_at1, itO_own, it1_deal, putR_at, putR_at1, putO_deal, PR_v, PR_t, PR_l, Rt_d, Rt_q, rtO_some, retR_val, retR_new, retR_newD, retR_at, exitD_none, exitD_some, dealO_deal, intO_int, toB_bl, newO_new, valO_val, thW_nx, thW_bk, thW_ct, thW_rt,
  callW_d, callW_nil, callW_ref, refW_deal, augW_dat, exV, ex1, exI, addP_i, addP_l, addP_t, addI_i, subP_i, mulP_i, mulP_0, divP_i, modP_i, powP_i, cmpP_i, eqP_i, neP_i, isP_nn, isP_in, isP_tn, isP_bn, isnP_nn, isnP_in, isnP_tn, isP_nb, isP_ib, isP_tb, isP_bb, len_l, len_t, int_i, abs_i, tup_l, tup_t, lst_l, lst_t, min_i, max_i, rev_l, neg_i, sum_l, slP_t, slP_l,
  ixP_t, ixP_l, ixR_v, ixR_n, ixR_a, ixW_own, ixW_deal0, ixW_deal1, ixR_1, itemsD_l, itemsD_t, rangeP1, rangeP2, plains, plainO_none, plainO_dat, datO_none, datO_dat, setAll_nil, setAll_cons, setAW_some, setT_t,
  stR_at, stO_deal, setI, setIs, Itm.o, setD, forget_nil, forget_cons, fgO_none, fgO_dat, fgO_own, fgO_deal, wipeΓ, backΓ, argD, drs, List.all_cons, List.all_nil, Bool.and_true, List.getElem?_cons_zero, List.getElem?_cons_succ, List.set_cons_zero, List.set_cons_succ, List.length_cons, List.length_nil, Nat.zero_add, Nat.reduceAdd, Nat.reduceLeDiff, true_and, and_true, decide_eq_true_eq]
        refine ⟨by rw [List.length_map, List.length_range, zl, List.length_drop]; omega, ?_⟩
        rw [stp_zi, zi_app]; rfl
    · rintro Γ rfl
      rw [Int.toNat_natCast]
      simp -implicitDefEqProofs only [sv, ev, CO.p, BO.p, BO.ap, tv, isNop, if_true, if_false, Bool.false_eq_true, reduceIte,
  W_then, W_asg, W_disp, W_nil, W_cons, W_consA, W_consI, W_var, W_val, W_bin, W_chn, W_ix, W_un, W_optN, W_optS, W_sl, W_deal, W_blt, W_isi, W_lrg, W_call, W_prm, W_ite, W_T, W_B, W_not, W_and, W_or, W_seq, W_rng, W_app, W_pop, W_popAt, oneI_i, oneL_l, W_nx, W_drop, W_pure, W_ret, W_if, W_par, W_unp, W_sub, W_yes, W_for, W_aug', W_lc,
  wO_some, wD_some, wD_if, rdO_dat, rdO_own, rdO_deal, mv_val, mv_new, mv_at, mvO_dat, mvO_own, dr_val, dr_new, dr_at, drO_dat, drO_own, dr_at1, dr1_deal, mvA_val, mvA_new, mvA_at, mvAO_dat, mvAO_own, mvAO_deal, toItm_f, itmO_some, toItm_n, toItm_q,
  isDeal_none, isDeal_dat, isDeal_own, isDeal_deal, lstR_at, lstR_at1, lstO_own, lstO_deal, items_at, items_at1, itO_own, it1_deal, putR_at, putR_at1, putO_deal, PR_v, PR_t, PR_l, Rt_d, Rt_q, rtO_some, retR_val, retR_new, retR_newD, retR_at, exitD_none, exitD_some, dealO_deal, intO_int, toB_bl, newO_new, valO_val, thW_nx, thW_bk, thW_ct, thW_rt,
  callW_d, callW_nil, callW_ref, refW_deal, augW_dat, exV, ex1, exI, addP_i, addP_l, addP_t, addI_i, subP_i, mulP_i, mulP_0, divP_i, modP_i, powP_i, cmpP_i, eqP_i, neP_i, isP_nn, isP_in, isP_tn, isP_bn, isnP_nn, isnP_in, isnP_tn, isP_nb, isP_ib, isP_tb, isP_bb, len_l, len_t, int_i, abs_i, tup_l, tup_t, lst_l, lst_t, min_i, max_i, rev_l, neg_i, sum_l, slP_t, slP_l,
  ixP_t, ixP_l, ixR_v, ixR_n, ixR_a, ixW_own, ixW_deal0, ixW_deal1, ixR_1, itemsD_l, itemsD_t, rangeP1, rangeP2, plains, plainO_none, plainO_dat, datO_none, datO_dat, setAll_nil, setAll_cons, setAW_some, setT_t,
  stR_at, stO_deal, setI, setIs, Itm.o, setD, forget_nil, forget_cons, fgO_none, fgO_dat, fgO_own, fgO_deal, wipeΓ, backΓ, argD, drs, List.all_cons, List.all_nil, Bool.and_true, List.getElem?_cons_zero, List.getElem?_cons_succ, List.set_cons_zero, List.set_cons_succ, List.length_cons, List.length_nil, Nat.zero_add, Nat.reduceAdd, Nat.reduceLeDiff, true_and, and_true, decide_eq_true_eq]
/-- _law_shares_of; the callee _law_inverse -/
def tSha (i : Nat) : Z.St := (.next (.asg true 2 (.lst .nil))
 (.next (.loop [3, 4, 5] (.nm 3) (.rng 1 (.cons (.var 1) .nil))
 (.next (.asg false 4 (.lit (.int 1)))
 (.next (.loop [5] (.nm 5) (.rng 1 (.cons (.var 1) .nil))
 (.next (.iff (.cmp .ne (.var 5) (.var 3))
 (.next (.asg false 4 (.bin .mod (.blt .int (.cons (.bin .mul (.var 4) (.bin .sub (.var 3) (.var 5))) .nil)) (.var 0)))
 .nil)
 .nil)
 .nil))
 (.next (.drop (.app (.var 2) (.cons (.call i 2 (.cons (.var 4) (.cons (.var 0) .nil))) .nil)))
 .nil))))
 (.next (.ret (.var 2))
 .nil)))
theorem oth_S (m h : Nat) : oth (m + 1) h = oth m h ++ if m ≠ h then [(m : Int)] else [] := by
  unfold oth
  rw [List.range_succ, List.filter_append, List.map_append]
  congr 1
  by_cases e : m = h
  · subst e; simp
  · simp [e]
theorem sha_ok (cal : Nat → Sm) (i : Nat) (p : Int) (n : Nat) (hp : 1 < p) (hp2 : p < 2 ^ 64) (hn : n ≤ 1000) (h : ∀ b : Int, 0 ≤ b → b < p → cal i none [.int b, .int p] = some (.dat (.int (b ^ (p - 2).toNat % p)), none)) : runF cal 6 (tSha i) none [.int p, .int n] = some (.dat (.lst (zi (shares p n))), none) := by
  refine wO_eq (runF_W ?_)
  simp -implicitDefEqProofs only [tSha, inΓ, dlO, List.map_cons, List.map_nil, List.nil_append, List.cons_append, List.replicate, Nat.reduceSub, sv, ev, CO.p, BO.p, BO.ap, tv, isNop, if_true, if_false, Bool.false_eq_true, reduceIte,
  W_then, W_asg, W_disp, W_nil, W_cons, W_consA, W_consI, W_var, W_val, W_bin, W_chn, W_ix, W_un, W_optN, W_optS, W_sl, W_deal, W_blt, W_isi, W_lrg, W_call, W_prm, W_ite, W_T, W_B, W_not, W_and, W_or, W_seq, W_rng, W_app, W_pop, W_popAt, oneI_i, oneL_l, W_nx, W_drop, W_pure, W_ret, W_if, W_par, W_unp, W_sub, W_yes, W_for, W_aug', W_lc,
  wO_some, wD_some, wD_if, rdO_dat, rdO_own, rdO_deal, mv_val, mv_new, mv_at, mvO_dat, mvO_own, dr_val, dr_new, dr_at, drO_dat, drO_own, dr_at1, dr1_deal, mvA_val, mvA_new, mvA_at, mvAO_dat, mvAO_own, mvAO_deal, toItm_f, itmO_some, toItm_n, toItm_q,
  isDeal_none, isDeal_dat, isDeal_own, isDeal_deal, lstR_at, lstR_at1, lstO_own, lstO_deal, items_at, items_at1, itO_own, it1_deal, putR_at, putR_at1, putO_deal, PR_v, PR_t, PR_l, Rt_d, Rt_q, rtO_some, retR_val, retR_new, retR_newD, retR_at, exitD_none, exitD_some, dealO_deal, intO_int, toB_bl, newO_new, valO_val, thW_nx, thW_bk, thW_ct, thW_rt,
  callW_d, callW_nil, callW_ref, refW_deal, augW_dat, exV, ex1, exI, addP_i, addP_l, addP_t, addI_i, subP_i, mulP_i, mulP_0, divP_i, modP_i, powP_i, cmpP_i, eqP_i, neP_i, isP_nn, isP_in, isP_tn, isP_bn, isnP_nn, isnP_in, isnP_tn, isP_nb, isP_ib, isP_tb, isP_bb, len_l, len_t, int_i, abs_i, tup_l, tup_t, lst_l, lst_t, min_i, max_i, rev_l, neg_i, sum_l, slP_t, slP_l,
  ixP_t, ixP_l, ixR_v, ixR_n, ixR_a, ixW_own, ixW_deal0, ixW_deal1, ixR_1, itemsD_l, itemsD_t, rangeP1, rangeP2, plains, plainO_none, plainO_dat, datO_none, datO_dat, setAll_nil, setAll_cons, setAW_some, setT_t,
  stR_at, stO_deal, setI, setIs, Itm.o, setD, forget_nil, forget_cons, fgO_none, fgO_dat, fgO_own, fgO_deal, wipeΓ, backΓ, argD, drs, List.all_cons, List.all_nil, Bool.and_true, List.getElem?_cons_zero, List.getElem?_cons_succ, List.set_cons_zero, List.set_cons_succ, List.length_cons, List.length_nil, Nat.zero_add, Nat.reduceAdd, Nat.reduceLeDiff, true_and, and_true, decide_eq_true_eq]
  refine ⟨by omega, ?_⟩
  refine W_forR (fun k Γ => Γ = [some (.dat (.int p)), some (.dat (.int n)), some (.own (zi ((List.range k).map (share p n)))), none, none, none]) rfl ?_ ?_
  · rintro k Γ hk rfl
    simp -implicitDefEqProofs only [sv, ev, CO.p, BO.p, BO.ap, tv, isNop, if_true, if_false, Bool.false_eq_true, reduceIte,
  W_then, W_asg, W_disp, W_nil, W_cons, W_consA, W_consI, W_var, W_val, W_bin, W_chn, W_ix, W_un, W_optN, W_optS, W_sl, W_deal, W_blt, W_isi, W_lrg, W_call, W_prm, W_ite, W_T, W_B, W_not, W_and, W_or, W_seq, W_rng, W_app, W_pop, W_popAt, oneI_i, oneL_l, W_nx, W_drop, W_pure, W_ret, W_if, W_par, W_unp, W_sub, W_yes, W_for, W_aug', W_lc,
  wO_some, wD_some, wD_if, rdO_dat, rdO_own, rdO_deal, mv_val, mv_new, mv_at, mvO_dat, mvO_own, dr_val, dr_new, dr_at, drO_dat, drO_own, dr_at1, dr1_deal, mvA_val, mvA_new, mvA_at, mvAO_dat, mvAO_own, mvAO_deal, toItm_f, itmO_some, toItm_n, toItm_q,
  isDeal_none, isDeal_dat, isDeal_own, isDeal_deal, lstR_at, lstR_at1, lstO_own, lstO_deal, items_at, items_at1, itO_own, it1_deal, putR_at, putR_at1, putO_deal, PR_v, PR_t, PR_l, Rt_d, Rt_q, rtO_some, retR_val, retR_new, retR_newD, retR_at, exitD_none, exitD_some, dealO_deal, intO_int, toB_bl, newO_new, valO_val, thW_nx, thW_bk, thW_ct, thW_rt,
  callW_d, callW_nil, callW_ref, refW_deal, augW_dat, exV, ex1, exI, addP_i, addP_l, addP_t, addI_i, subP_i, mulP_i, mulP_0, divP_i, modP_i, powP_i, cmpP_i, eqP_i, neP_i, isP_nn, isP_in, isP_tn, isP_bn, isnP_nn, isnP_in, isnP_tn, isP_nb, isP_ib, isP_tb, isP_bb, len_l, len_t, int_i, abs_i, tup_l, tup_t, lst_l, lst_t, min_i, max_i, rev_l, neg_i, sum_l, slP_t, slP_l,
  ixP_t, ixP_l, ixR_v, ixR_n, ixR_a, ixW_own, ixW_deal0, ixW_deal1, ixR_1, itemsD_l, itemsD_t, rangeP1, rangeP2, plains, plainO_none, plainO_dat, datO_none, datO_dat, setAll_nil, setAll_cons, setAW_some, setT_t,
  stR_at, stO_deal, setI, setIs, Itm.o, setD, forget_nil, forget_cons, fgO_none, fgO_dat, fgO_own, fgO_deal, wipeΓ, backΓ, argD, drs, List.all_cons, List.all_nil, Bool.and_true, List.getElem?_cons_zero, List.getElem?_cons_succ, List.set_cons_zero, List.set_cons_succ, List.length_cons, List.length_nil, Nat.zero_add, Nat.reduceAdd, Nat.reduceLeDiff, true_and, and_true, decide_eq_true_eq]
    refine ⟨by omega, ?_⟩
    refine W_forR (fun j Γ => Γ = [some (.dat (.int p)), some (.dat (.int n)), some (.own (zi ((List.range k).map (share p n)))), some (.dat (.int k)), some (.dat (.int (fm p 1 ((oth j k).map fun c => (k : Int) - c)))), none]) rfl ?_ ?_
    · rintro j Γ hj rfl
      have hr := fm_range (p := p) (by omega) ((oth j k).map fun c => (k : Int) - c) 1 ⟨by decide, hp⟩
      simp -implicitDefEqProofs only [sv, ev, CO.p, BO.p, BO.ap, tv, isNop, if_true, if_false, Bool.false_eq_true, reduceIte,
  W_then, W_asg, W_disp, W_nil, W_cons, W_consA, W_consI, W_var, W_val, W_bin, W_chn, W_ix, W_un, W_optN, W_optS, W_sl, W_deal, W_blt, W_isi, W_lrg, W_call, W_prm, W_ite, W_T, W_B, W_not, W_and, W_or, W_seq, W_rng, W_app, W_pop, W_popAt, oneI_i, oneL_l, W_nx, W_drop, W_pure, W_ret, W_if, W_par, W_unp, W_sub, W_yes, W_for, W_aug', W_lc,
  wO_some, wD_some, wD_if, rdO_dat, rdO_own, rdO_deal, mv_val, mv_new, mv_at, mvO_dat, mvO_own, dr_val, dr_new, dr_at, drO_dat, drO_own, dr_at1, dr1_deal, mvA_val, mvA_new, mvA_at, mvAO_dat, mvAO_own, mvAO_deal, toItm_f, itmO_some, toItm_n, toItm_q,
  isDeal_none, isDeal_dat, isDeal_own, isDeal_deal, lstR_at, lstR_at1, lstO_own, lstO_deal, items_at, items_at1, itO_own, it1_deal, putR_at, putR_at1, putO_deal, PR_v, PR_t, PR_l, Rt_d, Rt_q, rtO_some, retR_val, retR_new, retR_newD, retR_at, exitD_none, exitD_some, dealO_deal, intO_int, toB_bl, newO_new, valO_val, thW_nx, thW_bk, thW_ct, thW_rt,
  callW_d, callW_nil, callW_ref, refW_deal, augW_dat, exV, ex1, exI, addP_i, addP_l, addP_t, addI_i, subP_i, mulP_i, mulP_0, divP_i, modP_i, powP_i, cmpP_i, eqP_i, neP_i, isP_nn, isP_in, isP_tn, isP_bn, isnP_nn, isnP_in, isnP_tn, isP_nb, isP_ib, isP_tb, isP_bb, len_l, len_t, int_i, abs_i, tup_l, tup_t, lst_l, lst_t, min_i, max_i, rev_l, neg_i, sum_l, slP_t, slP_l,
  ixP_t, ixP_l, ixR_v, ixR_n, ixR_a, ixW_own, ixW_deal0, ixW_deal1, ixR_1, itemsD_l, itemsD_t, rangeP1, rangeP2, plains, plainO_none, plainO_dat, datO_none, datO_dat, setAll_nil, setAll_cons, setAW_some, setT_t,
  stR_at, stO_deal, setI, setIs, Itm.o, setD, forget_nil, forget_cons, fgO_none, fgO_dat, fgO_own, fgO_deal, wipeΓ, backΓ, argD, drs, List.all_cons, List.all_nil, Bool.and_true, List.getElem?_cons_zero, List.getElem?_cons_succ, List.set_cons_zero, List.set_cons_succ, List.length_cons, List.length_nil, Nat.zero_add, Nat.reduceAdd, Nat.reduceLeDiff, true_and, and_true, decide_eq_true_eq]
      rw [oth_S]
      split
      · rename_i hne
        simp at hne
        rw [if_pos (by omega), List.map_append, fm_app]
        refine ⟨.inl ⟨by omega, by omega⟩, by omega, ?_⟩
        rfl
      · rename_i hne
        simp at hne
        rw [if_neg (by omega), List.append_nil]
    · rintro Γ rfl
      rw [Int.toNat_natCast]
      have hr := fm_range (p := p) (by omega) ((oth n k).map fun c => (k : Int) - c) 1 ⟨by decide, hp⟩
      simp -implicitDefEqProofs only [h _ hr.1 hr.2, sv, ev, CO.p, BO.p, BO.ap, tv, isNop, if_true, if_false, Bool.false_eq_true, reduceIte,
  W_then, W_asg, W_disp, W_nil, W_cons, W_consA, W_consI, W_var, W_val, W_bin, W_chn, W_ix, W_un, W_optN, W_optS, W_sl, W_deal, W_blt, W_isi, W_lrg, W_call, W_prm, W_ite, W_T, W_B, W_not, W_and, W_or, W_seq, W_rng, W_app, W_pop, W_popAt, oneI_i, oneL_l, W_nx, W_drop, W_pure, W_ret, W_if, W_par, W_unp, W_sub, W_yes, W_for, W_aug', W_lc,
  wO_some, wD_some, wD_if, rdO_dat, rdO_own, rdO_deal, mv_val, mv_new, mv_at, mvO_dat, mvO_own, dr_val, dr_new, dr_at, drO_dat, drO_own, dr_at1, dr1_deal, mvA_val, mvA_new, mvA_at, mvAO_dat, mvAO_own, mvAO_deal, toItm_f, itmO_some, toItm_n, toItm_q,
  isDeal_none, isDeal_dat, isDeal_own, isDeal_deal, lstR_at, lstR_at1, lstO_own, lstO_deal, items_at, items_at1, itO_own, it1_deal, putR_at, putR_at1, putO_deal, PR_v, PR_t, PR_l, Rt_d, Rt_q, rtO_some, retR_val, retR_new, retR_newD, retR_at, exitD_none, exitD_some, dealO_deal, intO_int, toB_bl, newO_new, valO_val, thW_nx, thW_bk, thW_ct, thW_rt,
  callW_d, callW_nil, callW_ref, refW_deal, augW_dat, exV, ex1, exI, addP_i, addP_l, addP_t, addI_i, subP_i, mulP_i, mulP_0, divP_i, modP_i, powP_i, cmpP_i, eqP_i, neP_i, isP_nn, isP_in, isP_tn, isP_bn, isnP_nn, isnP_in, isnP_tn, isP_nb, isP_ib, isP_tb, isP_bb, len_l, len_t, int_i, abs_i, tup_l, tup_t, lst_l, lst_t, min_i, max_i, rev_l, neg_i, sum_l, slP_t, slP_l,
  ixP_t, ixP_l, ixR_v, ixR_n, ixR_a, ixW_own, ixW_deal0, ixW_deal1, ixR_1, itemsD_l, itemsD_t, rangeP1, rangeP2, plains, plainO_none, plainO_dat, datO_none, datO_dat, setAll_nil, setAll_cons, setAW_some, setT_t,
  stR_at, stO_deal, setI, setIs, Itm.o, setD, forget_nil, forget_cons, fgO_none, fgO_dat, fgO_own, fgO_deal, wipeΓ, backΓ, argD, drs, List.all_cons, List.all_nil, Bool.and_true, List.getElem?_cons_zero, List.getElem?_cons_succ, List.set_cons_zero, List.set_cons_succ, List.length_cons, List.length_nil, Nat.zero_add, Nat.reduceAdd, Nat.reduceLeDiff, true_and, and_true, decide_eq_true_eq]
      refine ⟨by rw [zl, List.length_map, List.length_range]; omega, ?_⟩
      rw [List.range_succ, List.map_append, zi_app]; rfl
  · rintro Γ rfl
    rw [Int.toNat_natCast]
    simp -implicitDefEqProofs only [sv, ev, CO.p, BO.p, BO.ap, tv, isNop, if_true, if_false, Bool.false_eq_true, reduceIte,
  W_then, W_asg, W_disp, W_nil, W_cons, W_consA, W_consI, W_var, W_val, W_bin, W_chn, W_ix, W_un, W_optN, W_optS, W_sl, W_deal, W_blt, W_isi, W_lrg, W_call, W_prm, W_ite, W_T, W_B, W_not, W_and, W_or, W_seq, W_rng, W_app, W_pop, W_popAt, oneI_i, oneL_l, W_nx, W_drop, W_pure, W_ret, W_if, W_par, W_unp, W_sub, W_yes, W_for, W_aug', W_lc,
  wO_some, wD_some, wD_if, rdO_dat, rdO_own, rdO_deal, mv_val, mv_new, mv_at, mvO_dat, mvO_own, dr_val, dr_new, dr_at, drO_dat, drO_own, dr_at1, dr1_deal, mvA_val, mvA_new, mvA_at, mvAO_dat, mvAO_own, mvAO_deal, toItm_f, itmO_some, toItm_n, toItm_q,
  isDeal_none, isDeal_dat, isDeal_own, isDeal_deal, lstR_at, lstR_at1, lstO_own, lstO_deal, items_at, items_at1, itO_own, it1_deal, putR_at, putR_at1, putO_deal, PR_v, PR_t, PR_l, Rt_d, Rt_q, rtO_some, retR_val, retR_new, retR_newD, retR_at, exitD_none, exitD_some, dealO_deal, intO_int, toB_bl, newO_new, valO_val, thW_nx, thW_bk, thW_ct, thW_rt,
  callW_d, callW_nil, callW_ref, refW_deal, augW_dat, exV, ex1, exI, addP_i, addP_l, addP_t, addI_i, subP_i, mulP_i, mulP_0, divP_i, modP_i, powP_i, cmpP_i, eqP_i, neP_i, isP_nn, isP_in, isP_tn, isP_bn, isnP_nn, isnP_in, isnP_tn, isP_nb, isP_ib, isP_tb, isP_bb, len_l, len_t, int_i, abs_i, tup_l, tup_t, lst_l, lst_t, min_i, max_i, rev_l, neg_i, sum_l, slP_t, slP_l,
  ixP_t, ixP_l, ixR_v, ixR_n, ixR_a, ixW_own, ixW_deal0, ixW_deal1, ixR_1, itemsD_l, itemsD_t, rangeP1, rangeP2, plains, plainO_none, plainO_dat, datO_none, datO_dat, setAll_nil, setAll_cons, setAW_some, setT_t,
  stR_at, stO_deal, setI, setIs, Itm.o, setD, forget_nil, forget_cons, fgO_none, fgO_dat, fgO_own, fgO_deal, wipeΓ, backΓ, argD, drs, List.all_cons, List.all_nil, Bool.and_true, List.getElem?_cons_zero, List.getElem?_cons_succ, List.set_cons_zero, List.set_cons_succ, List.length_cons, List.length_nil, Nat.zero_add, Nat.reduceAdd, Nat.reduceLeDiff, true_and, and_true, decide_eq_true_eq]
    rfl
/-- _law_worth_at -/
def tWat : Z.St := (.next (.asg false 4 (.lit (.int 0)))
 (.next (.loop [5, 6, 7] (.nm 5) (.rng 1 (.cons (.blt .len (.cons (.var 1) .nil)) .nil))
 (.next (.asg false 6 (.bin .mul (.ix (.var 1) (.var 5)) (.ix (.var 2) (.var 5))))
 (.next (.loop [7] (.nm 7) (.rng 1 (.cons (.blt .len (.cons (.var 1) .nil)) .nil))
 (.next (.iff (.cmp .ne (.var 7) (.var 5))
 (.next (.asg false 6 (.bin .mod (.blt .int (.cons (.bin .mul (.var 6) (.bin .sub (.var 3) (.var 7))) .nil)) (.var 0)))
 .nil)
 .nil)
 .nil))
 (.next (.aug .add 4 (.var 6))
 .nil))))
 (.next (.ret (.bin .mod (.blt .int (.cons (.var 4) .nil)) (.var 0)))
 .nil)))
theorem lagS_app (row parts : List Int) (n : Nat) : ∀ (a b : List Nat) (t : Nat), lagS row parts n (a ++ b) t = lagS row parts n a t + lagS row parts n b t
  | [], b, t => (Int.zero_add _).symm
  | h :: a, b, t => by
    show _ + lagS row parts n (a ++ b) t = _ + lagS row parts n a t + _
    rw [lagS_app row parts n a b t, Int.add_assoc]
theorem wat_ok (cal) (p : Int) (row : List Int) (at_ : Nat) (hp : 1 < p) (hp2 : p < 2 ^ 64) (hr : Rs p row) (hn : row.length ≤ 1000) (ha : at_ ≤ 1000) : runF cal 8 tWat none [.int p, .tup (zi row), .lst (zi (shares p row.length)), .int at_] = some (.dat (.int (lag p row row.length at_ % p)), none) := by
  refine wO_eq (runF_W ?_)
  simp -implicitDefEqProofs only [tWat, zl, inΓ, dlO, List.map_cons, List.map_nil, List.nil_append, List.cons_append, List.replicate, Nat.reduceSub, sv, ev, CO.p, BO.p, BO.ap, tv, isNop, if_true, if_false, Bool.false_eq_true, reduceIte,
  W_then, W_asg, W_disp, W_nil, W_cons, W_consA, W_consI, W_var, W_val, W_bin, W_chn, W_ix, W_un, W_optN, W_optS, W_sl, W_deal, W_blt, W_isi, W_lrg, W_call, W_prm, W_ite, W_T, W_B, W_not, W_and, W_or, W_seq, W_rng, W_app, W_pop, W_popAt, oneI_i, oneL_l, W_nx, W_drop, W_pure, W_ret, W_if, W_par, W_unp, W_sub, W_yes, W_for, W_aug', W_lc,
  wO_some, wD_some, wD_if, rdO_dat, rdO_own, rdO_deal, mv_val, mv_new, mv_at, mvO_dat, mvO_own, dr_val, dr_new, dr_at, drO_dat, drO_own, dr_at1, dr1_deal, mvA_val, mvA_new, mvA_at, mvAO_dat, mvAO_own, mvAO_deal, toItm_f, itmO_some, toItm_n, toItm_q,
  isDeal_none, isDeal_dat, isDeal_own, isDeal_deal, lstR_at, lstR_at1, lstO_own, lstO_deal, items_at, items_at1, itO_own, it1_deal, putR_at, putR_at1, putO_deal, PR_v, PR_t, PR_l, Rt_d, Rt_q, rtO_some, retR_val, retR_new, retR_newD, retR_at, exitD_none, exitD_some, dealO_deal, intO_int, toB_bl, newO_new, valO_val, thW_nx, thW_bk, thW_ct, thW_rt,
  callW_d, callW_nil, callW_ref, refW_deal, augW_dat, exV, ex1, exI, addP_i, addP_l, addP_t, addI_i, subP_i, mulP_i, mulP_0, divP_i, modP_i, powP_i, cmpP_i, eqP_i, neP_i, isP_nn, isP_in, isP_tn, isP_bn, isnP_nn, isnP_in, isnP_tn, isP_nb, isP_ib, isP_tb, isP_bb, len_l, len_t, int_i, abs_i, tup_l, tup_t, lst_l, lst_t, min_i, max_i, rev_l, neg_i, sum_l, slP_t, slP_l,
  ixP_t, ixP_l, ixR_v, ixR_n, ixR_a, ixW_own, ixW_deal0, ixW_deal1, ixR_1, itemsD_l, itemsD_t, rangeP1, rangeP2, plains, plainO_none, plainO_dat, datO_none, datO_dat, setAll_nil, setAll_cons, setAW_some, setT_t,
  stR_at, stO_deal, setI, setIs, Itm.o, setD, forget_nil, forget_cons, fgO_none, fgO_dat, fgO_own, fgO_deal, wipeΓ, backΓ, argD, drs, List.all_cons, List.all_nil, Bool.and_true, List.getElem?_cons_zero, List.getElem?_cons_succ, List.set_cons_zero, List.set_cons_succ, List.length_cons, List.length_nil, Nat.zero_add, Nat.reduceAdd, Nat.reduceLeDiff, true_and, and_true, decide_eq_true_eq]
  refine ⟨by omega, ?_⟩
  have sl : (shares p row.length).length = row.length := by unfold shares; rw [List.length_map, List.length_range]
  refine W_forR (fun k Γ => ∃ z : Int, z % p = lagS row (shares p row.length) row.length (List.range k) at_ % p ∧ Γ = [some (.dat (.int p)), some (.dat (.tup (zi row))), some (.dat (.lst (zi (shares p row.length)))), some (.dat (.int at_)), some (.dat (.int z)), none, none, none]) ⟨0, rfl, rfl⟩ ?_ ?_
  · rintro k Γ hk ⟨z, hz, rfl⟩
    have hk : k < row.length := hk
    have hg := hr.get hk
    simp -implicitDefEqProofs only [atI_z hk, atI_z (show k < (shares p row.length).length by omega), zl, sv, ev, CO.p, BO.p, BO.ap, tv, isNop, if_true, if_false, Bool.false_eq_true, reduceIte,
  W_then, W_asg, W_disp, W_nil, W_cons, W_consA, W_consI, W_var, W_val, W_bin, W_chn, W_ix, W_un, W_optN, W_optS, W_sl, W_deal, W_blt, W_isi, W_lrg, W_call, W_prm, W_ite, W_T, W_B, W_not, W_and, W_or, W_seq, W_rng, W_app, W_pop, W_popAt, oneI_i, oneL_l, W_nx, W_drop, W_pure, W_ret, W_if, W_par, W_unp, W_sub, W_yes, W_for, W_aug', W_lc,
  wO_some, wD_some, wD_if, rdO_dat, rdO_own, rdO_deal, mv_val, mv_new, mv_at, mvO_dat, mvO_own, dr_val, dr_new, dr_at, drO_dat, drO_own, dr_at1, dr1_deal, mvA_val, mvA_new, mvA_at, mvAO_dat, mvAO_own, mvAO_deal, toItm_f, itmO_some, toItm_n, toItm_q,
  isDeal_none, isDeal_dat, isDeal_own, isDeal_deal, lstR_at, lstR_at1, lstO_own, lstO_deal, items_at, items_at1, itO_own, it1_deal, putR_at, putR_at1, putO_deal, PR_v, PR_t, PR_l, Rt_d, Rt_q, rtO_some, retR_val, retR_new, retR_newD, retR_at, exitD_none, exitD_some, dealO_deal, intO_int, toB_bl, newO_new, valO_val, thW_nx, thW_bk, thW_ct, thW_rt,
  callW_d, callW_nil, callW_ref, refW_deal, augW_dat, exV, ex1, exI, addP_i, addP_l, addP_t, addI_i, subP_i, mulP_i, mulP_0, divP_i, modP_i, powP_i, cmpP_i, eqP_i, neP_i, isP_nn, isP_in, isP_tn, isP_bn, isnP_nn, isnP_in, isnP_tn, isP_nb, isP_ib, isP_tb, isP_bb, len_l, len_t, int_i, abs_i, tup_l, tup_t, lst_l, lst_t, min_i, max_i, rev_l, neg_i, sum_l, slP_t, slP_l,
  ixP_t, ixP_l, ixR_v, ixR_n, ixR_a, ixW_own, ixW_deal0, ixW_deal1, ixR_1, itemsD_l, itemsD_t, rangeP1, rangeP2, plains, plainO_none, plainO_dat, datO_none, datO_dat, setAll_nil, setAll_cons, setAW_some, setT_t,
  stR_at, stO_deal, setI, setIs, Itm.o, setD, forget_nil, forget_cons, fgO_none, fgO_dat, fgO_own, fgO_deal, wipeΓ, backΓ, argD, drs, List.all_cons, List.all_nil, Bool.and_true, List.getElem?_cons_zero, List.getElem?_cons_succ, List.set_cons_zero, List.set_cons_succ, List.length_cons, List.length_nil, Nat.zero_add, Nat.reduceAdd, Nat.reduceLeDiff, true_and, and_true, decide_eq_true_eq]
    refine ⟨.inl ⟨by omega, by omega⟩, by omega, ?_⟩
    refine W_forR (fun j Γ => Γ = [some (.dat (.int p)), some (.dat (.tup (zi row))), some (.dat (.lst (zi (shares p row.length)))), some (.dat (.int at_)), some (.dat (.int z)), some (.dat (.int k)), some (.dat (.int (fm p (row.getD k 0 * (shares p row.length).getD k 0) ((oth j k).map fun c => (at_ : Int) - c)))), none]) rfl ?_ ?_
    · rintro j Γ hj rfl
      have hj : j < row.length := hj
      simp -implicitDefEqProofs only [sv, ev, CO.p, BO.p, BO.ap, tv, isNop, if_true, if_false, Bool.false_eq_true, reduceIte,
  W_then, W_asg, W_disp, W_nil, W_cons, W_consA, W_consI, W_var, W_val, W_bin, W_chn, W_ix, W_un, W_optN, W_optS, W_sl, W_deal, W_blt, W_isi, W_lrg, W_call, W_prm, W_ite, W_T, W_B, W_not, W_and, W_or, W_seq, W_rng, W_app, W_pop, W_popAt, oneI_i, oneL_l, W_nx, W_drop, W_pure, W_ret, W_if, W_par, W_unp, W_sub, W_yes, W_for, W_aug', W_lc,
  wO_some, wD_some, wD_if, rdO_dat, rdO_own, rdO_deal, mv_val, mv_new, mv_at, mvO_dat, mvO_own, dr_val, dr_new, dr_at, drO_dat, drO_own, dr_at1, dr1_deal, mvA_val, mvA_new, mvA_at, mvAO_dat, mvAO_own, mvAO_deal, toItm_f, itmO_some, toItm_n, toItm_q,
  isDeal_none, isDeal_dat, isDeal_own, isDeal_deal, lstR_at, lstR_at1, lstO_own, lstO_deal, items_at, items_at1, itO_own, it1_deal, putR_at, putR_at1, putO_deal, PR_v, PR_t, PR_l, Rt_d, Rt_q, rtO_some, retR_val, retR_new, retR_newD, retR_at, exitD_none, exitD_some, dealO_deal, intO_int, toB_bl, newO_new, valO_val, thW_nx, thW_bk, thW_ct, thW_rt,
  callW_d, callW_nil, callW_ref, refW_deal, augW_dat, exV, ex1, exI, addP_i, addP_l, addP_t, addI_i, subP_i, mulP_i, mulP_0, divP_i, modP_i, powP_i, cmpP_i, eqP_i, neP_i, isP_nn, isP_in, isP_tn, isP_bn, isnP_nn, isnP_in, isnP_tn, isP_nb, isP_ib, isP_tb, isP_bb, len_l, len_t, int_i, abs_i, tup_l, tup_t, lst_l, lst_t, min_i, max_i, rev_l, neg_i, sum_l, slP_t, slP_l,
  ixP_t, ixP_l, ixR_v, ixR_n, ixR_a, ixW_own, ixW_deal0, ixW_deal1, ixR_1, itemsD_l, itemsD_t, rangeP1, rangeP2, plains, plainO_none, plainO_dat, datO_none, datO_dat, setAll_nil, setAll_cons, setAW_some, setT_t,
  stR_at, stO_deal, setI, setIs, Itm.o, setD, forget_nil, forget_cons, fgO_none, fgO_dat, fgO_own, fgO_deal, wipeΓ, backΓ, argD, drs, List.all_cons, List.all_nil, Bool.and_true, List.getElem?_cons_zero, List.getElem?_cons_succ, List.set_cons_zero, List.set_cons_succ, List.length_cons, List.length_nil, Nat.zero_add, Nat.reduceAdd, Nat.reduceLeDiff, true_and, and_true, decide_eq_true_eq]
      rw [oth_S]
      split
      · rename_i hne
        simp at hne
        rw [if_pos (by omega), List.map_append, fm_app]
        refine ⟨.inr (.inl ⟨by omega, by omega⟩), by omega, ?_⟩
        rfl
      · rename_i hne
        simp at hne
        rw [if_neg (by omega), List.append_nil]
    · rintro Γ rfl
      rw [Int.toNat_natCast]
      simp -implicitDefEqProofs only [sv, ev, CO.p, BO.p, BO.ap, tv, isNop, if_true, if_false, Bool.false_eq_true, reduceIte,
  W_then, W_asg, W_disp, W_nil, W_cons, W_consA, W_consI, W_var, W_val, W_bin, W_chn, W_ix, W_un, W_optN, W_optS, W_sl, W_deal, W_blt, W_isi, W_lrg, W_call, W_prm, W_ite, W_T, W_B, W_not, W_and, W_or, W_seq, W_rng, W_app, W_pop, W_popAt, oneI_i, oneL_l, W_nx, W_drop, W_pure, W_ret, W_if, W_par, W_unp, W_sub, W_yes, W_for, W_aug', W_lc,
  wO_some, wD_some, wD_if, rdO_dat, rdO_own, rdO_deal, mv_val, mv_new, mv_at, mvO_dat, mvO_own, dr_val, dr_new, dr_at, drO_dat, drO_own, dr_at1, dr1_deal, mvA_val, mvA_new, mvA_at, mvAO_dat, mvAO_own, mvAO_deal, toItm_f, itmO_some, toItm_n, toItm_q,
  isDeal_none, isDeal_dat, isDeal_own, isDeal_deal, lstR_at, lstR_at1, lstO_own, lstO_deal, items_at, items_at1, itO_own, it1_deal, putR_at, putR_at1, putO_deal, PR_v, PR_t, PR_l, Rt_d, Rt_q, rtO_some, retR_val, retR_new, retR_newD, retR_at, exitD_none, exitD_some, dealO_deal, intO_int, toB_bl, newO_new, valO_val, thW_nx, thW_bk, thW_ct, thW_rt,
  callW_d, callW_nil, callW_ref, refW_deal, augW_dat, exV, ex1, exI, addP_i, addP_l, addP_t, addI_i, subP_i, mulP_i, mulP_0, divP_i, modP_i, powP_i, cmpP_i, eqP_i, neP_i, isP_nn, isP_in, isP_tn, isP_bn, isnP_nn, isnP_in, isnP_tn, isP_nb, isP_ib, isP_tb, isP_bb, len_l, len_t, int_i, abs_i, tup_l, tup_t, lst_l, lst_t, min_i, max_i, rev_l, neg_i, sum_l, slP_t, slP_l,
  ixP_t, ixP_l, ixR_v, ixR_n, ixR_a, ixW_own, ixW_deal0, ixW_deal1, ixR_1, itemsD_l, itemsD_t, rangeP1, rangeP2, plains, plainO_none, plainO_dat, datO_none, datO_dat, setAll_nil, setAll_cons, setAW_some, setT_t,
  stR_at, stO_deal, setI, setIs, Itm.o, setD, forget_nil, forget_cons, fgO_none, fgO_dat, fgO_own, fgO_deal, wipeΓ, backΓ, argD, drs, List.all_cons, List.all_nil, Bool.and_true, List.getElem?_cons_zero, List.getElem?_cons_succ, List.set_cons_zero, List.set_cons_succ, List.length_cons, List.length_nil, Nat.zero_add, Nat.reduceAdd, Nat.reduceLeDiff, true_and, and_true, decide_eq_true_eq]
      refine ⟨_, ?_, rfl⟩
      rw [List.range_succ, lagS_app, Int.add_emod, hz, fm_pd, ← Int.add_emod]
      congr 2
      exact (Int.add_zero _).symm
  · rintro Γ ⟨z, hz, rfl⟩
    rw [Int.toNat_natCast] at hz
    simp -implicitDefEqProofs only [hz, sv, ev, CO.p, BO.p, BO.ap, tv, isNop, if_true, if_false, Bool.false_eq_true, reduceIte,
  W_then, W_asg, W_disp, W_nil, W_cons, W_consA, W_consI, W_var, W_val, W_bin, W_chn, W_ix, W_un, W_optN, W_optS, W_sl, W_deal, W_blt, W_isi, W_lrg, W_call, W_prm, W_ite, W_T, W_B, W_not, W_and, W_or, W_seq, W_rng, W_app, W_pop, W_popAt, oneI_i, oneL_l, W_nx, W_drop, W_pure, W_ret, W_if, W_par, W_unp, W_sub, W_yes, W_for, W_aug', W_lc,
  wO_some, wD_some, wD_if, rdO_dat, rdO_own, rdO_deal, mv_val, mv_new, mv_at, mvO_dat, mvO_own, dr_val, dr_new, dr_at, drO_dat, drO_own, dr_at1, dr1_deal, mvA_val, mvA_new, mvA_at, mvAO_dat, mvAO_own, mvAO_deal, toItm_f, itmO_some, toItm_n, toItm_q,
  isDeal_none, isDeal_dat, isDeal_own, isDeal_deal, lstR_at, lstR_at1, lstO_own, lstO_deal, items_at, items_at1, itO_own, it1_deal, putR_at, putR_at1, putO_deal, PR_v, PR_t, PR_l, Rt_d, Rt_q, rtO_some, retR_val, retR_new, retR_newD, retR_at, exitD_none, exitD_some, dealO_deal, intO_int, toB_bl, newO_new, valO_val, thW_nx, thW_bk, thW_ct, thW_rt,
  callW_d, callW_nil, callW_ref, refW_deal, augW_dat, exV, ex1, exI, addP_i, addP_l, addP_t, addI_i, subP_i, mulP_i, mulP_0, divP_i, modP_i, powP_i, cmpP_i, eqP_i, neP_i, isP_nn, isP_in, isP_tn, isP_bn, isnP_nn, isnP_in, isnP_tn, isP_nb, isP_ib, isP_tb, isP_bb, len_l, len_t, int_i, abs_i, tup_l, tup_t, lst_l, lst_t, min_i, max_i, rev_l, neg_i, sum_l, slP_t, slP_l,
  ixP_t, ixP_l, ixR_v, ixR_n, ixR_a, ixW_own, ixW_deal0, ixW_deal1, ixR_1, itemsD_l, itemsD_t, rangeP1, rangeP2, plains, plainO_none, plainO_dat, datO_none, datO_dat, setAll_nil, setAll_cons, setAW_some, setT_t,
  stR_at, stO_deal, setI, setIs, Itm.o, setD, forget_nil, forget_cons, fgO_none, fgO_dat, fgO_own, fgO_deal, wipeΓ, backΓ, argD, drs, List.all_cons, List.all_nil, Bool.and_true, List.getElem?_cons_zero, List.getElem?_cons_succ, List.set_cons_zero, List.set_cons_succ, List.length_cons, List.length_nil, Nat.zero_add, Nat.reduceAdd, Nat.reduceLeDiff, true_and, and_true, decide_eq_true_eq]
    omega
/-- _law_rooted_row -/
def tRoo : Z.St := (.next (.asg true 4 (.lst .nil))
 (.next (.loop [5, 6, 7] (.nm 5) (.rng 1 (.cons (.blt .len (.cons (.var 1) .nil)) .nil))
 (.next (.asg false 6 (.var 3))
 (.next (.loop [7] (.nm 7) (.var 2)
 (.next (.asg false 6 (.bin .mod (.blt .int (.cons (.bin .mul (.var 6) (.bin .sub (.var 5) (.var 7))) .nil)) (.var 0)))
 .nil))
 (.next (.drop (.app (.var 4) (.cons (.bin .mod (.blt .int (.cons (.bin .add (.ix (.var 1) (.var 5)) (.var 6)) .nil)) (.var 0)) .nil)))
 .nil))))
 (.next (.ret (.blt .tuple (.cons (.var 4) .nil)))
 .nil)))
theorem roo_ok (cal) (p : Int) (row roots : List Int) (top : Int) (hp : 1 < p) (hp2 : p < 2 ^ 64) (ht : 0 ≤ top ∧ top < p) (hn : row.length ≤ 1000) : runF cal 8 tRoo none [.int p, .tup (zi row), .lst (zi roots), .int top] = some (.dat (.tup (zi (rooted p row roots top))), none) := by
  refine wO_eq (runF_W ?_)
  simp -implicitDefEqProofs only [tRoo, zl, inΓ, dlO, List.map_cons, List.map_nil, List.nil_append, List.cons_append, List.replicate, Nat.reduceSub, sv, ev, CO.p, BO.p, BO.ap, tv, isNop, if_true, if_false, Bool.false_eq_true, reduceIte,
  W_then, W_asg, W_disp, W_nil, W_cons, W_consA, W_consI, W_var, W_val, W_bin, W_chn, W_ix, W_un, W_optN, W_optS, W_sl, W_deal, W_blt, W_isi, W_lrg, W_call, W_prm, W_ite, W_T, W_B, W_not, W_and, W_or, W_seq, W_rng, W_app, W_pop, W_popAt, oneI_i, oneL_l, W_nx, W_drop, W_pure, W_ret, W_if, W_par, W_unp, W_sub, W_yes, W_for, W_aug', W_lc,
  wO_some, wD_some, wD_if, rdO_dat, rdO_own, rdO_deal, mv_val, mv_new, mv_at, mvO_dat, mvO_own, dr_val, dr_new, dr_at, drO_dat, drO_own, dr_at1, dr1_deal, mvA_val, mvA_new, mvA_at, mvAO_dat, mvAO_own, mvAO_deal, toItm_f, itmO_some, toItm_n, toItm_q,
  isDeal_none, isDeal_dat, isDeal_own, isDeal_deal, lstR_at, lstR_at1, lstO_own, lstO_deal, items_at, items_at1, itO_own, it1_deal, putR_at, putR_at1, putO_deal, PR_v, PR_t, PR_l, Rt_d, Rt_q, rtO_some, retR_val, retR_new, retR_newD, retR_at, exitD_none, exitD_some, dealO_deal, intO_int, toB_bl, newO_new, valO_val, thW_nx, thW_bk, thW_ct, thW_rt,
  callW_d, callW_nil, callW_ref, refW_deal, augW_dat, exV, ex1, exI, addP_i, addP_l, addP_t, addI_i, subP_i, mulP_i, mulP_0, divP_i, modP_i, powP_i, cmpP_i, eqP_i, neP_i, isP_nn, isP_in, isP_tn, isP_bn, isnP_nn, isnP_in, isnP_tn, isP_nb, isP_ib, isP_tb, isP_bb, len_l, len_t, int_i, abs_i, tup_l, tup_t, lst_l, lst_t, min_i, max_i, rev_l, neg_i, sum_l, slP_t, slP_l,
  ixP_t, ixP_l, ixR_v, ixR_n, ixR_a, ixW_own, ixW_deal0, ixW_deal1, ixR_1, itemsD_l, itemsD_t, rangeP1, rangeP2, plains, plainO_none, plainO_dat, datO_none, datO_dat, setAll_nil, setAll_cons, setAW_some, setT_t,
  stR_at, stO_deal, setI, setIs, Itm.o, setD, forget_nil, forget_cons, fgO_none, fgO_dat, fgO_own, fgO_deal, wipeΓ, backΓ, argD, drs, List.all_cons, List.all_nil, Bool.and_true, List.getElem?_cons_zero, List.getElem?_cons_succ, List.set_cons_zero, List.set_cons_succ, List.length_cons, List.length_nil, Nat.zero_add, Nat.reduceAdd, Nat.reduceLeDiff, true_and, and_true, decide_eq_true_eq]
  refine ⟨by omega, ?_⟩
  refine W_forR (fun k Γ => Γ = [some (.dat (.int p)), some (.dat (.tup (zi row))), some (.dat (.lst (zi roots))), some (.dat (.int top)), some (.own (zi ((List.range k).map fun a : Nat => (row.getD a 0 + fm p top (roots.map fun c => (a : Int) - c)) % p))), none, none, none]) rfl ?_ ?_
  · rintro k Γ hk rfl
    have hk : k < row.length := hk
    simp -implicitDefEqProofs only [sv, ev, CO.p, BO.p, BO.ap, tv, isNop, if_true, if_false, Bool.false_eq_true, reduceIte,
  W_then, W_asg, W_disp, W_nil, W_cons, W_consA, W_consI, W_var, W_val, W_bin, W_chn, W_ix, W_un, W_optN, W_optS, W_sl, W_deal, W_blt, W_isi, W_lrg, W_call, W_prm, W_ite, W_T, W_B, W_not, W_and, W_or, W_seq, W_rng, W_app, W_pop, W_popAt, oneI_i, oneL_l, W_nx, W_drop, W_pure, W_ret, W_if, W_par, W_unp, W_sub, W_yes, W_for, W_aug', W_lc,
  wO_some, wD_some, wD_if, rdO_dat, rdO_own, rdO_deal, mv_val, mv_new, mv_at, mvO_dat, mvO_own, dr_val, dr_new, dr_at, drO_dat, drO_own, dr_at1, dr1_deal, mvA_val, mvA_new, mvA_at, mvAO_dat, mvAO_own, mvAO_deal, toItm_f, itmO_some, toItm_n, toItm_q,
  isDeal_none, isDeal_dat, isDeal_own, isDeal_deal, lstR_at, lstR_at1, lstO_own, lstO_deal, items_at, items_at1, itO_own, it1_deal, putR_at, putR_at1, putO_deal, PR_v, PR_t, PR_l, Rt_d, Rt_q, rtO_some, retR_val, retR_new, retR_newD, retR_at, exitD_none, exitD_some, dealO_deal, intO_int, toB_bl, newO_new, valO_val, thW_nx, thW_bk, thW_ct, thW_rt,
  callW_d, callW_nil, callW_ref, refW_deal, augW_dat, exV, ex1, exI, addP_i, addP_l, addP_t, addI_i, subP_i, mulP_i, mulP_0, divP_i, modP_i, powP_i, cmpP_i, eqP_i, neP_i, isP_nn, isP_in, isP_tn, isP_bn, isnP_nn, isnP_in, isnP_tn, isP_nb, isP_ib, isP_tb, isP_bb, len_l, len_t, int_i, abs_i, tup_l, tup_t, lst_l, lst_t, min_i, max_i, rev_l, neg_i, sum_l, slP_t, slP_l,
  ixP_t, ixP_l, ixR_v, ixR_n, ixR_a, ixW_own, ixW_deal0, ixW_deal1, ixR_1, itemsD_l, itemsD_t, rangeP1, rangeP2, plains, plainO_none, plainO_dat, datO_none, datO_dat, setAll_nil, setAll_cons, setAW_some, setT_t,
  stR_at, stO_deal, setI, setIs, Itm.o, setD, forget_nil, forget_cons, fgO_none, fgO_dat, fgO_own, fgO_deal, wipeΓ, backΓ, argD, drs, List.all_cons, List.all_nil, Bool.and_true, List.getElem?_cons_zero, List.getElem?_cons_succ, List.set_cons_zero, List.set_cons_succ, List.length_cons, List.length_nil, Nat.zero_add, Nat.reduceAdd, Nat.reduceLeDiff, true_and, and_true, decide_eq_true_eq]
    refine W_forL (fun j Γ => Γ = [some (.dat (.int p)), some (.dat (.tup (zi row))), some (.dat (.lst (zi roots))), some (.dat (.int top)), some (.own (zi ((List.range k).map fun a : Nat => (row.getD a 0 + fm p top (roots.map fun c => (a : Int) - c)) % p))), some (.dat (.int k)), some (.dat (.int (fm p top ((roots.take j).map fun c => (k : Int) - c)))), none]) rfl ?_ ?_
    · rintro j d Γ hd rfl
      rw [List.getElem?_map] at hd
      cases q : roots[j]? with
      | none => rw [q] at hd; cases hd
      | some c =>
        rw [q] at hd
        cases hd
        have hr := fm_range (p := p) (by omega) ((roots.take j).map fun c => (k : Int) - c) top ht
        simp -implicitDefEqProofs only [sv, ev, CO.p, BO.p, BO.ap, tv, isNop, if_true, if_false, Bool.false_eq_true, reduceIte,
  W_then, W_asg, W_disp, W_nil, W_cons, W_consA, W_consI, W_var, W_val, W_bin, W_chn, W_ix, W_un, W_optN, W_optS, W_sl, W_deal, W_blt, W_isi, W_lrg, W_call, W_prm, W_ite, W_T, W_B, W_not, W_and, W_or, W_seq, W_rng, W_app, W_pop, W_popAt, oneI_i, oneL_l, W_nx, W_drop, W_pure, W_ret, W_if, W_par, W_unp, W_sub, W_yes, W_for, W_aug', W_lc,
  wO_some, wD_some, wD_if, rdO_dat, rdO_own, rdO_deal, mv_val, mv_new, mv_at, mvO_dat, mvO_own, dr_val, dr_new, dr_at, drO_dat, drO_own, dr_at1, dr1_deal, mvA_val, mvA_new, mvA_at, mvAO_dat, mvAO_own, mvAO_deal, toItm_f, itmO_some, toItm_n, toItm_q,
  isDeal_none, isDeal_dat, isDeal_own, isDeal_deal, lstR_at, lstR_at1, lstO_own, lstO_deal, items_at, items_at1, itO_own, it1_deal, putR_at, putR_at1, putO_deal, PR_v, PR_t, PR_l, Rt_d, Rt_q, rtO_some, retR_val, retR_new, retR_newD, retR_at, exitD_none, exitD_some, dealO_deal, intO_int, toB_bl, newO_new, valO_val, thW_nx, thW_bk, thW_ct, thW_rt,
  callW_d, callW_nil, callW_ref, refW_deal, augW_dat, exV, ex1, exI, addP_i, addP_l, addP_t, addI_i, subP_i, mulP_i, mulP_0, divP_i, modP_i, powP_i, cmpP_i, eqP_i, neP_i, isP_nn, isP_in, isP_tn, isP_bn, isnP_nn, isnP_in, isnP_tn, isP_nb, isP_ib, isP_tb, isP_bb, len_l, len_t, int_i, abs_i, tup_l, tup_t, lst_l, lst_t, min_i, max_i, rev_l, neg_i, sum_l, slP_t, slP_l,
  ixP_t, ixP_l, ixR_v, ixR_n, ixR_a, ixW_own, ixW_deal0, ixW_deal1, ixR_1, itemsD_l, itemsD_t, rangeP1, rangeP2, plains, plainO_none, plainO_dat, datO_none, datO_dat, setAll_nil, setAll_cons, setAW_some, setT_t,
  stR_at, stO_deal, setI, setIs, Itm.o, setD, forget_nil, forget_cons, fgO_none, fgO_dat, fgO_own, fgO_deal, wipeΓ, backΓ, argD, drs, List.all_cons, List.all_nil, Bool.and_true, List.getElem?_cons_zero, List.getElem?_cons_succ, List.set_cons_zero, List.set_cons_succ, List.length_cons, List.length_nil, Nat.zero_add, Nat.reduceAdd, Nat.reduceLeDiff, true_and, and_true, decide_eq_true_eq]
        refine ⟨.inl ⟨by omega, by omega⟩, by omega, ?_⟩
        rw [List.take_succ, q, List.map_append, fm_app]
        rfl
    · rintro Γ rfl
      rw [zl, List.take_length]
      simp -implicitDefEqProofs only [atI_z hk, sv, ev, CO.p, BO.p, BO.ap, tv, isNop, if_true, if_false, Bool.false_eq_true, reduceIte,
  W_then, W_asg, W_disp, W_nil, W_cons, W_consA, W_consI, W_var, W_val, W_bin, W_chn, W_ix, W_un, W_optN, W_optS, W_sl, W_deal, W_blt, W_isi, W_lrg, W_call, W_prm, W_ite, W_T, W_B, W_not, W_and, W_or, W_seq, W_rng, W_app, W_pop, W_popAt, oneI_i, oneL_l, W_nx, W_drop, W_pure, W_ret, W_if, W_par, W_unp, W_sub, W_yes, W_for, W_aug', W_lc,
  wO_some, wD_some, wD_if, rdO_dat, rdO_own, rdO_deal, mv_val, mv_new, mv_at, mvO_dat, mvO_own, dr_val, dr_new, dr_at, drO_dat, drO_own, dr_at1, dr1_deal, mvA_val, mvA_new, mvA_at, mvAO_dat, mvAO_own, mvAO_deal, toItm_f, itmO_some, toItm_n, toItm_q,
  isDeal_none, isDeal_dat, isDeal_own, isDeal_deal, lstR_at, lstR_at1, lstO_own, lstO_deal, items_at, items_at1, itO_own, it1_deal, putR_at, putR_at1, putO_deal, PR_v, PR_t, PR_l, Rt_d, Rt_q, rtO_some, retR_val, retR_new, retR_newD, retR_at, exitD_none, exitD_some, dealO_deal, intO_int, toB_bl, newO_new, valO_val, thW_nx, thW_bk, thW_ct, thW_rt,
  callW_d, callW_nil, callW_ref, refW_deal, augW_dat, exV, ex1, exI, addP_i, addP_l, addP_t, addI_i, subP_i, mulP_i, mulP_0, divP_i, modP_i, powP_i, cmpP_i, eqP_i, neP_i, isP_nn, isP_in, isP_tn, isP_bn, isnP_nn, isnP_in, isnP_tn, isP_nb, isP_ib, isP_tb, isP_bb, len_l, len_t, int_i, abs_i, tup_l, tup_t, lst_l, lst_t, min_i, max_i, rev_l, neg_i, sum_l, slP_t, slP_l,
  ixP_t, ixP_l, ixR_v, ixR_n, ixR_a, ixW_own, ixW_deal0, ixW_deal1, ixR_1, itemsD_l, itemsD_t, rangeP1, rangeP2, plains, plainO_none, plainO_dat, datO_none, datO_dat, setAll_nil, setAll_cons, setAW_some, setT_t,
  stR_at, stO_deal, setI, setIs, Itm.o, setD, forget_nil, forget_cons, fgO_none, fgO_dat, fgO_own, fgO_deal, wipeΓ, backΓ, argD, drs, List.all_cons, List.all_nil, Bool.and_true, List.getElem?_cons_zero, List.getElem?_cons_succ, List.set_cons_zero, List.set_cons_succ, List.length_cons, List.length_nil, Nat.zero_add, Nat.reduceAdd, Nat.reduceLeDiff, true_and, and_true, decide_eq_true_eq]
      refine ⟨by omega, by rw [zl, List.length_map, List.length_range]; omega, ?_⟩
      rw [List.range_succ, List.map_append, zi_app]; rfl
  · rintro Γ rfl
    rw [Int.toNat_natCast]
    simp -implicitDefEqProofs only [sv, ev, CO.p, BO.p, BO.ap, tv, isNop, if_true, if_false, Bool.false_eq_true, reduceIte,
  W_then, W_asg, W_disp, W_nil, W_cons, W_consA, W_consI, W_var, W_val, W_bin, W_chn, W_ix, W_un, W_optN, W_optS, W_sl, W_deal, W_blt, W_isi, W_lrg, W_call, W_prm, W_ite, W_T, W_B, W_not, W_and, W_or, W_seq, W_rng, W_app, W_pop, W_popAt, oneI_i, oneL_l, W_nx, W_drop, W_pure, W_ret, W_if, W_par, W_unp, W_sub, W_yes, W_for, W_aug', W_lc,
  wO_some, wD_some, wD_if, rdO_dat, rdO_own, rdO_deal, mv_val, mv_new, mv_at, mvO_dat, mvO_own, dr_val, dr_new, dr_at, drO_dat, drO_own, dr_at1, dr1_deal, mvA_val, mvA_new, mvA_at, mvAO_dat, mvAO_own, mvAO_deal, toItm_f, itmO_some, toItm_n, toItm_q,
  isDeal_none, isDeal_dat, isDeal_own, isDeal_deal, lstR_at, lstR_at1, lstO_own, lstO_deal, items_at, items_at1, itO_own, it1_deal, putR_at, putR_at1, putO_deal, PR_v, PR_t, PR_l, Rt_d, Rt_q, rtO_some, retR_val, retR_new, retR_newD, retR_at, exitD_none, exitD_some, dealO_deal, intO_int, toB_bl, newO_new, valO_val, thW_nx, thW_bk, thW_ct, thW_rt,
  callW_d, callW_nil, callW_ref, refW_deal, augW_dat, exV, ex1, exI, addP_i, addP_l, addP_t, addI_i, subP_i, mulP_i, mulP_0, divP_i, modP_i, powP_i, cmpP_i, eqP_i, neP_i, isP_nn, isP_in, isP_tn, isP_bn, isnP_nn, isnP_in, isnP_tn, isP_nb, isP_ib, isP_tb, isP_bb, len_l, len_t, int_i, abs_i, tup_l, tup_t, lst_l, lst_t, min_i, max_i, rev_l, neg_i, sum_l, slP_t, slP_l,
  ixP_t, ixP_l, ixR_v, ixR_n, ixR_a, ixW_own, ixW_deal0, ixW_deal1, ixR_1, itemsD_l, itemsD_t, rangeP1, rangeP2, plains, plainO_none, plainO_dat, datO_none, datO_dat, setAll_nil, setAll_cons, setAW_some, setT_t,
  stR_at, stO_deal, setI, setIs, Itm.o, setD, forget_nil, forget_cons, fgO_none, fgO_dat, fgO_own, fgO_deal, wipeΓ, backΓ, argD, drs, List.all_cons, List.all_nil, Bool.and_true, List.getElem?_cons_zero, List.getElem?_cons_succ, List.set_cons_zero, List.set_cons_succ, List.length_cons, List.length_nil, Nat.zero_add, Nat.reduceAdd, Nat.reduceLeDiff, true_and, and_true, decide_eq_true_eq]
    rfl
/-- _law_is_code; the callee _law_code -/
def tIsc (j : Nat) : Z.St := (.next (.ret (.cmp .eq (.call j 3 (.cons (.var 0) (.cons (.sl (.var 1) .nop (.var 2)) (.cons (.blt .len (.cons (.var 1) .nil)) .nil)))) (.var 1)))
 .nil)
theorem isc_ok (cal : Nat → Sm) (j : Nat) (p : Int) (row : List Int) (len : Nat) (hj : cal j none [.int p, .tup (zi (row.take len)), .int row.length] = some (.dat (.tup (zi (cod p (row.take len) row.length))), none)) :
    runF cal 3 (tIsc j) none [.int p, .tup (zi row), .int len] = some (.dat (.bl (decide (cod p (row.take len) row.length = row))), none) := by
  refine wO_eq (runF_W ?_)
  simp -implicitDefEqProofs only [tIsc, cut_tz, zl, hj, eqP_zt, inΓ, dlO, List.map_cons, List.map_nil, List.nil_append, List.cons_append, List.replicate, Nat.reduceSub, sv, ev, CO.p, BO.p, BO.ap, tv, isNop, if_true, if_false, Bool.false_eq_true, reduceIte,
  W_then, W_asg, W_disp, W_nil, W_cons, W_consA, W_consI, W_var, W_val, W_bin, W_chn, W_ix, W_un, W_optN, W_optS, W_sl, W_deal, W_blt, W_isi, W_lrg, W_call, W_prm, W_ite, W_T, W_B, W_not, W_and, W_or, W_seq, W_rng, W_app, W_pop, W_popAt, oneI_i, oneL_l, W_nx, W_drop, W_pure, W_ret, W_if, W_par, W_unp, W_sub, W_yes, W_for, W_aug', W_lc,
  wO_some, wD_some, wD_if, rdO_dat, rdO_own, rdO_deal, mv_val, mv_new, mv_at, mvO_dat, mvO_own, dr_val, dr_new, dr_at, drO_dat, drO_own, dr_at1, dr1_deal, mvA_val, mvA_new, mvA_at, mvAO_dat, mvAO_own, mvAO_deal, toItm_f, itmO_some, toItm_n, toItm_q,
  isDeal_none, isDeal_dat, isDeal_own, isDeal_deal, lstR_at, lstR_at1, lstO_own, lstO_deal, items_at, items_at1, itO_own, it1_deal, putR_at, putR_at1, putO_deal, PR_v, PR_t, PR_l, Rt_d, Rt_q, rtO_some, retR_val, retR_new, retR_newD, retR_at, exitD_none, exitD_some, dealO_deal, intO_int, toB_bl, newO_new, valO_val, thW_nx, thW_bk, thW_ct, thW_rt,
  callW_d, callW_nil, callW_ref, refW_deal, augW_dat, exV, ex1, exI, addP_i, addP_l, addP_t, addI_i, subP_i, mulP_i, mulP_0, divP_i, modP_i, powP_i, cmpP_i, eqP_i, neP_i, isP_nn, isP_in, isP_tn, isP_bn, isnP_nn, isnP_in, isnP_tn, isP_nb, isP_ib, isP_tb, isP_bb, len_l, len_t, int_i, abs_i, tup_l, tup_t, lst_l, lst_t, min_i, max_i, rev_l, neg_i, sum_l, slP_t, slP_l,
  ixP_t, ixP_l, ixR_v, ixR_n, ixR_a, ixW_own, ixW_deal0, ixW_deal1, ixR_1, itemsD_l, itemsD_t, rangeP1, rangeP2, plains, plainO_none, plainO_dat, datO_none, datO_dat, setAll_nil, setAll_cons, setAW_some, setT_t,
  stR_at, stO_deal, setI, setIs, Itm.o, setD, forget_nil, forget_cons, fgO_none, fgO_dat, fgO_own, fgO_deal, wipeΓ, backΓ, argD, drs, List.all_cons, List.all_nil, Bool.and_true, List.getElem?_cons_zero, List.getElem?_cons_succ, List.set_cons_zero, List.set_cons_succ, List.length_cons, List.length_nil, Nat.zero_add, Nat.reduceAdd, Nat.reduceLeDiff, true_and, and_true, decide_eq_true_eq]
end Ca

set_option Elab.async false
set_option linter.all false
set_option maxRecDepth 100000
set_option maxHeartbeats 4000000
/-! k75: whether answers are alike (by calls of itself); the law -/
namespace Ca
open Z Nu Dq Pl
open L2 (atI ixN)
/-- _law_same; the callee itself -/
def tSameB (j : Nat) : Z.St := (.next (.iff (.isi [.tuple] (.var 1))
 (.next (.iff (.or (.not (.isi [.tuple] (.var 0))) (.cmp .ne (.blt .len (.cons (.var 0) .nil)) (.blt .len (.cons (.var 1) .nil))))
 (.next (.ret (.lit (.bl false)))
 .nil)
 .nil)
 (.next (.ret (.cmp .eq (.blt .len (.cons (.lc [2] (.rng 1 (.cons (.blt .len (.cons (.var 1) .nil)) .nil)) (.nm 2) (.not (.call j 2 (.cons (.ix (.var 0) (.var 2)) (.cons (.ix (.var 1) (.var 2)) .nil)))) (.var 2)) .nil)) (.lit (.int 0))))
 .nil))
 .nil)
 (.next (.iff (.cmp .is (.var 1) (.lit .non))
 (.next (.ret (.cmp .is (.var 0) (.lit .non)))
 .nil)
 .nil)
 (.next (.iff (.or (.cmp .is (.var 1) (.lit (.bl true))) (.cmp .is (.var 1) (.lit (.bl false))))
 (.next (.ret (.ite (.var 1) (.cmp .is (.var 0) (.lit (.bl true))) (.cmp .is (.var 0) (.lit (.bl false)))))
 .nil)
 .nil)
 (.next (.iff (.isi [.str] (.var 1))
 (.next (.ret (.and (.isi [.str] (.var 0)) (.cmp .eq (.var 0) (.var 1))))
 .nil)
 .nil)
 (.next (.ret (.and (.isi [.int] (.var 0)) (.and (.not (.isi [.bool] (.var 0))) (.cmp .eq (.var 0) (.var 1)))))
 .nil)))))
theorem sameB_p (cal : Nat → Sm) (j : Nat) (d : D) (h : plain d = true) : runF cal 3 (tSameB j) none [d, d] = some (.dat (.bl true), none) := by
  refine wO_eq (runF_W ?_)
  obtain ⟨hT, _⟩ := plain_isi h
  cases d with
  | non =>
    simp -implicitDefEqProofs only [tSameB, hT, inΓ, dlO, List.map_cons, List.map_nil, List.nil_append, List.cons_append, List.replicate, Nat.reduceSub, sv, ev, CO.p, BO.p, BO.ap, tv, isNop, if_true, if_false, Bool.false_eq_true, reduceIte,
  W_then, W_asg, W_disp, W_nil, W_cons, W_consA, W_consI, W_var, W_val, W_bin, W_chn, W_ix, W_un, W_optN, W_optS, W_sl, W_deal, W_blt, W_isi, W_lrg, W_call, W_prm, W_ite, W_T, W_B, W_not, W_and, W_or, W_seq, W_rng, W_app, W_pop, W_popAt, oneI_i, oneL_l, W_nx, W_drop, W_pure, W_ret, W_if, W_par, W_unp, W_sub, W_yes, W_for, W_aug', W_lc,
  wO_some, wD_some, wD_if, rdO_dat, rdO_own, rdO_deal, mv_val, mv_new, mv_at, mvO_dat, mvO_own, dr_val, dr_new, dr_at, drO_dat, drO_own, dr_at1, dr1_deal, mvA_val, mvA_new, mvA_at, mvAO_dat, mvAO_own, mvAO_deal, toItm_f, itmO_some, toItm_n, toItm_q,
  isDeal_none, isDeal_dat, isDeal_own, isDeal_deal, lstR_at, lstR_at1, lstO_own, lstO_deal, items_at, items_at1, itO_own, it1_deal, putR_at, putR_at1, putO_deal, PR_v, PR_t, PR_l, Rt_d, Rt_q, rtO_some, retR_val, retR_new, retR_newD, retR_at, exitD_none, exitD_some, dealO_deal, intO_int, toB_bl, newO_new, valO_val, thW_nx, thW_bk, thW_ct, thW_rt,
  callW_d, callW_nil, callW_ref, refW_deal, augW_dat, exV, ex1, exI, addP_i, addP_l, addP_t, addI_i, subP_i, mulP_i, mulP_0, divP_i, modP_i, powP_i, cmpP_i, eqP_i, neP_i, isP_nn, isP_in, isP_tn, isP_bn, isnP_nn, isnP_in, isnP_tn, isP_nb, isP_ib, isP_tb, isP_bb, len_l, len_t, int_i, abs_i, tup_l, tup_t, lst_l, lst_t, min_i, max_i, rev_l, neg_i, sum_l, slP_t, slP_l,
  ixP_t, ixP_l, ixR_v, ixR_n, ixR_a, ixW_own, ixW_deal0, ixW_deal1, ixR_1, itemsD_l, itemsD_t, rangeP1, rangeP2, plains, plainO_none, plainO_dat, datO_none, datO_dat, setAll_nil, setAll_cons, setAW_some, setT_t,
  stR_at, stO_deal, setI, setIs, Itm.o, setD, forget_nil, forget_cons, fgO_none, fgO_dat, fgO_own, fgO_deal, wipeΓ, backΓ, argD, drs, List.all_cons, List.all_nil, Bool.and_true, List.getElem?_cons_zero, List.getElem?_cons_succ, List.set_cons_zero, List.set_cons_succ, List.length_cons, List.length_nil, Nat.zero_add, Nat.reduceAdd, Nat.reduceLeDiff, true_and, and_true, decide_eq_true_eq]
  | bl b =>
    cases b <;> simp -implicitDefEqProofs only [tSameB, hT, inΓ, dlO, List.map_cons, List.map_nil, List.nil_append, List.cons_append, List.replicate, Nat.reduceSub, sv, ev, CO.p, BO.p, BO.ap, tv, isNop, if_true, if_false, Bool.false_eq_true, reduceIte,
  W_then, W_asg, W_disp, W_nil, W_cons, W_consA, W_consI, W_var, W_val, W_bin, W_chn, W_ix, W_un, W_optN, W_optS, W_sl, W_deal, W_blt, W_isi, W_lrg, W_call, W_prm, W_ite, W_T, W_B, W_not, W_and, W_or, W_seq, W_rng, W_app, W_pop, W_popAt, oneI_i, oneL_l, W_nx, W_drop, W_pure, W_ret, W_if, W_par, W_unp, W_sub, W_yes, W_for, W_aug', W_lc,
  wO_some, wD_some, wD_if, rdO_dat, rdO_own, rdO_deal, mv_val, mv_new, mv_at, mvO_dat, mvO_own, dr_val, dr_new, dr_at, drO_dat, drO_own, dr_at1, dr1_deal, mvA_val, mvA_new, mvA_at, mvAO_dat, mvAO_own, mvAO_deal, toItm_f, itmO_some, toItm_n, toItm_q,
  isDeal_none, isDeal_dat, isDeal_own, isDeal_deal, lstR_at, lstR_at1, lstO_own, lstO_deal, items_at, items_at1, itO_own, it1_deal, putR_at, putR_at1, putO_deal, PR_v, PR_t, PR_l, Rt_d, Rt_q, rtO_some, retR_val, retR_new, retR_newD, retR_at, exitD_none, exitD_some, dealO_deal, intO_int, toB_bl, newO_new, valO_val, thW_nx, thW_bk, thW_ct, thW_rt,
  callW_d, callW_nil, callW_ref, refW_deal, augW_dat, exV, ex1, exI, addP_i, addP_l, addP_t, addI_i, subP_i, mulP_i, mulP_0, divP_i, modP_i, powP_i, cmpP_i, eqP_i, neP_i, isP_nn, isP_in, isP_tn, isP_bn, isnP_nn, isnP_in, isnP_tn, isP_nb, isP_ib, isP_tb, isP_bb, len_l, len_t, int_i, abs_i, tup_l, tup_t, lst_l, lst_t, min_i, max_i, rev_l, neg_i, sum_l, slP_t, slP_l,
  ixP_t, ixP_l, ixR_v, ixR_n, ixR_a, ixW_own, ixW_deal0, ixW_deal1, ixR_1, itemsD_l, itemsD_t, rangeP1, rangeP2, plains, plainO_none, plainO_dat, datO_none, datO_dat, setAll_nil, setAll_cons, setAW_some, setT_t,
  stR_at, stO_deal, setI, setIs, Itm.o, setD, forget_nil, forget_cons, fgO_none, fgO_dat, fgO_own, fgO_deal, wipeΓ, backΓ, argD, drs, List.all_cons, List.all_nil, Bool.and_true, List.getElem?_cons_zero, List.getElem?_cons_succ, List.set_cons_zero, List.set_cons_succ, List.length_cons, List.length_nil, Nat.zero_add, Nat.reduceAdd, Nat.reduceLeDiff, true_and, and_true, decide_eq_true_eq]
    all_goals rfl
  | int i =>
    simp -implicitDefEqProofs only [tSameB, hT, inΓ, dlO, List.map_cons, List.map_nil, List.nil_append, List.cons_append, List.replicate, Nat.reduceSub, sv, ev, CO.p, BO.p, BO.ap, tv, isNop, if_true, if_false, Bool.false_eq_true, reduceIte,
  W_then, W_asg, W_disp, W_nil, W_cons, W_consA, W_consI, W_var, W_val, W_bin, W_chn, W_ix, W_un, W_optN, W_optS, W_sl, W_deal, W_blt, W_isi, W_lrg, W_call, W_prm, W_ite, W_T, W_B, W_not, W_and, W_or, W_seq, W_rng, W_app, W_pop, W_popAt, oneI_i, oneL_l, W_nx, W_drop, W_pure, W_ret, W_if, W_par, W_unp, W_sub, W_yes, W_for, W_aug', W_lc,
  wO_some, wD_some, wD_if, rdO_dat, rdO_own, rdO_deal, mv_val, mv_new, mv_at, mvO_dat, mvO_own, dr_val, dr_new, dr_at, drO_dat, drO_own, dr_at1, dr1_deal, mvA_val, mvA_new, mvA_at, mvAO_dat, mvAO_own, mvAO_deal, toItm_f, itmO_some, toItm_n, toItm_q,
  isDeal_none, isDeal_dat, isDeal_own, isDeal_deal, lstR_at, lstR_at1, lstO_own, lstO_deal, items_at, items_at1, itO_own, it1_deal, putR_at, putR_at1, putO_deal, PR_v, PR_t, PR_l, Rt_d, Rt_q, rtO_some, retR_val, retR_new, retR_newD, retR_at, exitD_none, exitD_some, dealO_deal, intO_int, toB_bl, newO_new, valO_val, thW_nx, thW_bk, thW_ct, thW_rt,
  callW_d, callW_nil, callW_ref, refW_deal, augW_dat, exV, ex1, exI, addP_i, addP_l, addP_t, addI_i, subP_i, mulP_i, mulP_0, divP_i, modP_i, powP_i, cmpP_i, eqP_i, neP_i, isP_nn, isP_in, isP_tn, isP_bn, isnP_nn, isnP_in, isnP_tn, isP_nb, isP_ib, isP_tb, isP_bb, len_l, len_t, int_i, abs_i, tup_l, tup_t, lst_l, lst_t, min_i, max_i, rev_l, neg_i, sum_l, slP_t, slP_l,
  ixP_t, ixP_l, ixR_v, ixR_n, ixR_a, ixW_own, ixW_deal0, ixW_deal1, ixR_1, itemsD_l, itemsD_t, rangeP1, rangeP2, plains, plainO_none, plainO_dat, datO_none, datO_dat, setAll_nil, setAll_cons, setAW_some, setT_t,
  stR_at, stO_deal, setI, setIs, Itm.o, setD, forget_nil, forget_cons, fgO_none, fgO_dat, fgO_own, fgO_deal, wipeΓ, backΓ, argD, drs, List.all_cons, List.all_nil, Bool.and_true, List.getElem?_cons_zero, List.getElem?_cons_succ, List.set_cons_zero, List.set_cons_succ, List.length_cons, List.length_nil, Nat.zero_add, Nat.reduceAdd, Nat.reduceLeDiff, true_and, and_true, decide_eq_true_eq]
    simp [isiB]
  | str z =>
    simp -implicitDefEqProofs only [tSameB, hT, inΓ, dlO, List.map_cons, List.map_nil, List.nil_append, List.cons_append, List.replicate, Nat.reduceSub, sv, ev, CO.p, BO.p, BO.ap, tv, isNop, if_true, if_false, Bool.false_eq_true, reduceIte,
  W_then, W_asg, W_disp, W_nil, W_cons, W_consA, W_consI, W_var, W_val, W_bin, W_chn, W_ix, W_un, W_optN, W_optS, W_sl, W_deal, W_blt, W_isi, W_lrg, W_call, W_prm, W_ite, W_T, W_B, W_not, W_and, W_or, W_seq, W_rng, W_app, W_pop, W_popAt, oneI_i, oneL_l, W_nx, W_drop, W_pure, W_ret, W_if, W_par, W_unp, W_sub, W_yes, W_for, W_aug', W_lc,
  wO_some, wD_some, wD_if, rdO_dat, rdO_own, rdO_deal, mv_val, mv_new, mv_at, mvO_dat, mvO_own, dr_val, dr_new, dr_at, drO_dat, drO_own, dr_at1, dr1_deal, mvA_val, mvA_new, mvA_at, mvAO_dat, mvAO_own, mvAO_deal, toItm_f, itmO_some, toItm_n, toItm_q,
  isDeal_none, isDeal_dat, isDeal_own, isDeal_deal, lstR_at, lstR_at1, lstO_own, lstO_deal, items_at, items_at1, itO_own, it1_deal, putR_at, putR_at1, putO_deal, PR_v, PR_t, PR_l, Rt_d, Rt_q, rtO_some, retR_val, retR_new, retR_newD, retR_at, exitD_none, exitD_some, dealO_deal, intO_int, toB_bl, newO_new, valO_val, thW_nx, thW_bk, thW_ct, thW_rt,
  callW_d, callW_nil, callW_ref, refW_deal, augW_dat, exV, ex1, exI, addP_i, addP_l, addP_t, addI_i, subP_i, mulP_i, mulP_0, divP_i, modP_i, powP_i, cmpP_i, eqP_i, neP_i, isP_nn, isP_in, isP_tn, isP_bn, isnP_nn, isnP_in, isnP_tn, isP_nb, isP_ib, isP_tb, isP_bb, len_l, len_t, int_i, abs_i, tup_l, tup_t, lst_l, lst_t, min_i, max_i, rev_l, neg_i, sum_l, slP_t, slP_l,
  ixP_t, ixP_l, ixR_v, ixR_n, ixR_a, ixW_own, ixW_deal0, ixW_deal1, ixR_1, itemsD_l, itemsD_t, rangeP1, rangeP2, plains, plainO_none, plainO_dat, datO_none, datO_dat, setAll_nil, setAll_cons, setAW_some, setT_t,
  stR_at, stO_deal, setI, setIs, Itm.o, setD, forget_nil, forget_cons, fgO_none, fgO_dat, fgO_own, fgO_deal, wipeΓ, backΓ, argD, drs, List.all_cons, List.all_nil, Bool.and_true, List.getElem?_cons_zero, List.getElem?_cons_succ, List.set_cons_zero, List.set_cons_succ, List.length_cons, List.length_nil, Nat.zero_add, Nat.reduceAdd, Nat.reduceLeDiff, true_and, and_true, decide_eq_true_eq]
    simp [isiB, isP, isB, eqP, eqB, wD, wO, toB, PR.r, retR, mv]
  | _ => cases h
theorem sameB_t (cal : Nat → Sm) (j : Nat) (ds : List D) (hl : ds.length ≤ 1000000) (h : ∀ d ∈ ds, cal j none [d, d] = some (.dat (.bl true), none)) : runF cal 3 (tSameB j) none [.tup ds, .tup ds] = some (.dat (.bl true), none) := by
  refine wO_eq (runF_W ?_)
  have e1 : [Ty.tuple].any (isiB (D.tup ds)) = true := rfl
  have e2 : (!decide ((ds.length : Int) = (ds.length : Int))) = false := by simp
  simp -implicitDefEqProofs only [tSameB, e1, e2, Bool.not_true, inΓ, dlO, List.map_cons, List.map_nil, List.nil_append, List.cons_append, List.replicate, Nat.reduceSub, sv, ev, CO.p, BO.p, BO.ap, tv, isNop, if_true, if_false, Bool.false_eq_true, reduceIte,
  W_then, W_asg, W_disp, W_nil, W_cons, W_consA, W_consI, W_var, W_val, W_bin, W_chn, W_ix, W_un, W_optN, W_optS, W_sl, W_deal, W_blt, W_isi, W_lrg, W_call, W_prm, W_ite, W_T, W_B, W_not, W_and, W_or, W_seq, W_rng, W_app, W_pop, W_popAt, oneI_i, oneL_l, W_nx, W_drop, W_pure, W_ret, W_if, W_par, W_unp, W_sub, W_yes, W_for, W_aug', W_lc,
  wO_some, wD_some, wD_if, rdO_dat, rdO_own, rdO_deal, mv_val, mv_new, mv_at, mvO_dat, mvO_own, dr_val, dr_new, dr_at, drO_dat, drO_own, dr_at1, dr1_deal, mvA_val, mvA_new, mvA_at, mvAO_dat, mvAO_own, mvAO_deal, toItm_f, itmO_some, toItm_n, toItm_q,
  isDeal_none, isDeal_dat, isDeal_own, isDeal_deal, lstR_at, lstR_at1, lstO_own, lstO_deal, items_at, items_at1, itO_own, it1_deal, putR_at, putR_at1, putO_deal, PR_v, PR_t, PR_l, Rt_d, Rt_q, rtO_some, retR_val, retR_new, retR_newD, retR_at, exitD_none, exitD_some, dealO_deal, intO_int, toB_bl, newO_new, valO_val, thW_nx, thW_bk, thW_ct, thW_rt,
  callW_d, callW_nil, callW_ref, refW_deal, augW_dat, exV, ex1, exI, addP_i, addP_l, addP_t, addI_i, subP_i, mulP_i, mulP_0, divP_i, modP_i, powP_i, cmpP_i, eqP_i, neP_i, isP_nn, isP_in, isP_tn, isP_bn, isnP_nn, isnP_in, isnP_tn, isP_nb, isP_ib, isP_tb, isP_bb, len_l, len_t, int_i, abs_i, tup_l, tup_t, lst_l, lst_t, min_i, max_i, rev_l, neg_i, sum_l, slP_t, slP_l,
  ixP_t, ixP_l, ixR_v, ixR_n, ixR_a, ixW_own, ixW_deal0, ixW_deal1, ixR_1, itemsD_l, itemsD_t, rangeP1, rangeP2, plains, plainO_none, plainO_dat, datO_none, datO_dat, setAll_nil, setAll_cons, setAW_some, setT_t,
  stR_at, stO_deal, setI, setIs, Itm.o, setD, forget_nil, forget_cons, fgO_none, fgO_dat, fgO_own, fgO_deal, wipeΓ, backΓ, argD, drs, List.all_cons, List.all_nil, Bool.and_true, List.getElem?_cons_zero, List.getElem?_cons_succ, List.set_cons_zero, List.set_cons_succ, List.length_cons, List.length_nil, Nat.zero_add, Nat.reduceAdd, Nat.reduceLeDiff, true_and, and_true, decide_eq_true_eq]
  refine ⟨by omega, ?_⟩
  refine W_lcL (fun i Γ acc => Γ = [some (.dat (.tup ds)), some (.dat (.tup ds)), none] ∧ acc = []) ⟨rfl, rfl⟩ ?_ ?_
  · rintro i d Γ acc hd ⟨rfl, rfl⟩
    have hi : i < ds.length := by
      rcases Nat.lt_or_ge i ds.length with h | h
      · exact h
      · rw [List.getElem?_eq_none (by rw [List.length_map, List.length_range]; omega)] at hd; cases hd
    rw [List.getElem?_map, List.getElem?_range (by omega)] at hd
    cases hd
    have hg : ds[i]? = some ds[i] := List.getElem?_eq_getElem hi
    have c0 : (0 : Int) + (i : Int) = (i : Int) := Int.zero_add _
    simp -implicitDefEqProofs only [c0, atI_d hg, h ds[i] (List.getElem_mem hi), Bool.not_true, sv, ev, CO.p, BO.p, BO.ap, tv, isNop, if_true, if_false, Bool.false_eq_true, reduceIte,
  W_then, W_asg, W_disp, W_nil, W_cons, W_consA, W_consI, W_var, W_val, W_bin, W_chn, W_ix, W_un, W_optN, W_optS, W_sl, W_deal, W_blt, W_isi, W_lrg, W_call, W_prm, W_ite, W_T, W_B, W_not, W_and, W_or, W_seq, W_rng, W_app, W_pop, W_popAt, oneI_i, oneL_l, W_nx, W_drop, W_pure, W_ret, W_if, W_par, W_unp, W_sub, W_yes, W_for, W_aug', W_lc,
  wO_some, wD_some, wD_if, rdO_dat, rdO_own, rdO_deal, mv_val, mv_new, mv_at, mvO_dat, mvO_own, dr_val, dr_new, dr_at, drO_dat, drO_own, dr_at1, dr1_deal, mvA_val, mvA_new, mvA_at, mvAO_dat, mvAO_own, mvAO_deal, toItm_f, itmO_some, toItm_n, toItm_q,
  isDeal_none, isDeal_dat, isDeal_own, isDeal_deal, lstR_at, lstR_at1, lstO_own, lstO_deal, items_at, items_at1, itO_own, it1_deal, putR_at, putR_at1, putO_deal, PR_v, PR_t, PR_l, Rt_d, Rt_q, rtO_some, retR_val, retR_new, retR_newD, retR_at, exitD_none, exitD_some, dealO_deal, intO_int, toB_bl, newO_new, valO_val, thW_nx, thW_bk, thW_ct, thW_rt,
  callW_d, callW_nil, callW_ref, refW_deal, augW_dat, exV, ex1, exI, addP_i, addP_l, addP_t, addI_i, subP_i, mulP_i, mulP_0, divP_i, modP_i, powP_i, cmpP_i, eqP_i, neP_i, isP_nn, isP_in, isP_tn, isP_bn, isnP_nn, isnP_in, isnP_tn, isP_nb, isP_ib, isP_tb, isP_bb, len_l, len_t, int_i, abs_i, tup_l, tup_t, lst_l, lst_t, min_i, max_i, rev_l, neg_i, sum_l, slP_t, slP_l,
  ixP_t, ixP_l, ixR_v, ixR_n, ixR_a, ixW_own, ixW_deal0, ixW_deal1, ixR_1, itemsD_l, itemsD_t, rangeP1, rangeP2, plains, plainO_none, plainO_dat, datO_none, datO_dat, setAll_nil, setAll_cons, setAW_some, setT_t,
  stR_at, stO_deal, setI, setIs, Itm.o, setD, forget_nil, forget_cons, fgO_none, fgO_dat, fgO_own, fgO_deal, wipeΓ, backΓ, argD, drs, List.all_cons, List.all_nil, Bool.and_true, List.getElem?_cons_zero, List.getElem?_cons_succ, List.set_cons_zero, List.set_cons_succ, List.length_cons, List.length_nil, Nat.zero_add, Nat.reduceAdd, Nat.reduceLeDiff, true_and, and_true, decide_eq_true_eq]
  · rintro Γ acc ⟨rfl, rfl⟩
    simp -implicitDefEqProofs only [sv, ev, CO.p, BO.p, BO.ap, tv, isNop, if_true, if_false, Bool.false_eq_true, reduceIte,
  W_then, W_asg, W_disp, W_nil, W_cons, W_consA, W_consI, W_var, W_val, W_bin, W_chn, W_ix, W_un, W_optN, W_optS, W_sl, W_deal, W_blt, W_isi, W_lrg, W_call, W_prm, W_ite, W_T, W_B, W_not, W_and, W_or, W_seq, W_rng, W_app, W_pop, W_popAt, oneI_i, oneL_l, W_nx, W_drop, W_pure, W_ret, W_if, W_par, W_unp, W_sub, W_yes, W_for, W_aug', W_lc,
  wO_some, wD_some, wD_if, rdO_dat, rdO_own, rdO_deal, mv_val, mv_new, mv_at, mvO_dat, mvO_own, dr_val, dr_new, dr_at, drO_dat, drO_own, dr_at1, dr1_deal, mvA_val, mvA_new, mvA_at, mvAO_dat, mvAO_own, mvAO_deal, toItm_f, itmO_some, toItm_n, toItm_q,
  isDeal_none, isDeal_dat, isDeal_own, isDeal_deal, lstR_at, lstR_at1, lstO_own, lstO_deal, items_at, items_at1, itO_own, it1_deal, putR_at, putR_at1, putO_deal, PR_v, PR_t, PR_l, Rt_d, Rt_q, rtO_some, retR_val, retR_new, retR_newD, retR_at, exitD_none, exitD_some, dealO_deal, intO_int, toB_bl, newO_new, valO_val, thW_nx, thW_bk, thW_ct, thW_rt,
  callW_d, callW_nil, callW_ref, refW_deal, augW_dat, exV, ex1, exI, addP_i, addP_l, addP_t, addI_i, subP_i, mulP_i, mulP_0, divP_i, modP_i, powP_i, cmpP_i, eqP_i, neP_i, isP_nn, isP_in, isP_tn, isP_bn, isnP_nn, isnP_in, isnP_tn, isP_nb, isP_ib, isP_tb, isP_bb, len_l, len_t, int_i, abs_i, tup_l, tup_t, lst_l, lst_t, min_i, max_i, rev_l, neg_i, sum_l, slP_t, slP_l,
  ixP_t, ixP_l, ixR_v, ixR_n, ixR_a, ixW_own, ixW_deal0, ixW_deal1, ixR_1, itemsD_l, itemsD_t, rangeP1, rangeP2, plains, plainO_none, plainO_dat, datO_none, datO_dat, setAll_nil, setAll_cons, setAW_some, setT_t,
  stR_at, stO_deal, setI, setIs, Itm.o, setD, forget_nil, forget_cons, fgO_none, fgO_dat, fgO_own, fgO_deal, wipeΓ, backΓ, argD, drs, List.all_cons, List.all_nil, Bool.and_true, List.getElem?_cons_zero, List.getElem?_cons_succ, List.set_cons_zero, List.set_cons_succ, List.length_cons, List.length_nil, Nat.zero_add, Nat.reduceAdd, Nat.reduceLeDiff, true_and, and_true, decide_eq_true_eq]
    rfl
end Ca

set_option Elab.async false
set_option linter.all false
set_option maxRecDepth 100000
set_option maxHeartbeats 4000000
/-! k75: the law -/
namespace Ca
open Z Nu Dq Pl
open L2 (atI ixN)
def tLaw : Z.St := (.next (.asg true 1 (.call 4 2 (.cons (.var 0) (.cons (.lit (.int 75)) .nil))))
 (.next (.asg false 2 (.call 11 1 (.cons (.var 1) .nil)))
 (.next (.asg false 3 (.bin .add (.lit (.int 1)) (.call 5 2 (.cons (.var 1) (.cons (.blt .min (.cons (.var 2) (.cons (.lit (.int 16)) .nil))) .nil)))))
 (.next (.asg false 4 (.call 6 2 (.cons (.var 1) (.cons (.lst (.cons (.var 3) (.cons (.blt .min (.cons (.var 2) (.cons (.lit (.int 64)) .nil))) (.cons (.bin .add (.var 3) (.call 5 2 (.cons (.var 1) (.cons (.bin .add (.bin .sub (.blt .min (.cons (.var 2) (.cons (.lit (.int 64)) .nil))) (.var 3)) (.lit (.int 1))) .nil)))) .nil)))) .nil))))
 (.next (.par [5, 6] (.cons (.call 13 3 (.cons (.var 1) (.cons (.var 2) (.cons (.var 3) .nil)))) (.cons (.call 18 2 (.cons (.var 2) (.cons (.var 3) .nil))) .nil)))
 (.next (.asg false 7 (.blt .tuple (.cons (.lc [8] (.rng 1 (.cons (.var 4) .nil)) (.nm 8) .nop (.call 19 4 (.cons (.var 2) (.cons (.var 5) (.cons (.var 6) (.cons (.var 8) .nil)))))) .nil)))
 (.next (.asg false 9 (.blt .sorted (.cons (.sl (.call 7 2 (.cons (.var 1) (.cons (.lrg (.var 4)) .nil))) .nop (.bin .sub (.var 3) (.lit (.int 1)))) .nil)))
 (.next (.asg false 10 (.call 20 4 (.cons (.var 2) (.cons (.var 5) (.cons (.var 9) (.cons (.bin .add (.lit (.int 1)) (.call 5 2 (.cons (.var 1) (.cons (.bin .sub (.var 2) (.lit (.int 1))) .nil)))) .nil))))))
 (.next (.par [11, 12] (.cons (.call 2 3 (.cons (.var 2) (.cons (.var 5) (.cons (.var 4) .nil)))) (.cons (.kall 2 3 ["p", "row", "many"] [0, 1, 2] (.cons (.var 2) (.cons (.var 10) (.cons (.var 4) .nil)))) .nil)))
 (.next (.asg false 13 (.lst (.cons (.tup (.cons (.var 11) (.cons (.var 7) .nil))) (.cons (.tup (.cons (.var 12) (.cons (.call 17 3 (.cons (.var 2) (.cons (.var 10) (.cons (.var 4) .nil)))) .nil))) (.cons (.tup (.cons (.call 3 3 (.cons (.var 2) (.cons (.var 7) (.cons (.var 3) .nil)))) (.cons (.lit (.bl true)) .nil))) (.cons (.tup (.cons (.kall 3 3 ["p", "row", "length"] [0, 1, 2] (.cons (.var 2) (.cons (.var 7) (.cons (.var 4) .nil)))) (.cons (.lit (.bl true)) .nil))) .nil))))))
 (.next (.iff (.or (.not (.call 9 1 (.cons (.var 13) .nil))) (.cmp .ne (.lc [8] (.rng 1 (.cons (.var 4) .nil)) (.nm 8) (.cmp .eq (.ix (.var 11) (.var 8)) (.ix (.var 12) (.var 8))) (.var 8)) (.var 9)))
 (.next (.ret (.lit (.bl false)))
 .nil)
 .nil)
 (.next (.asg false 14 (.call 5 2 (.cons (.var 1) (.cons (.var 4) .nil))))
 (.next (.asg false 15 (.call 14 3 (.cons (.var 7) (.cons (.var 14) (.cons (.bin .mod (.blt .int (.cons (.bin .add (.bin .add (.ix (.var 7) (.var 14)) (.lit (.int 1))) (.call 5 2 (.cons (.var 1) (.cons (.bin .sub (.var 2) (.lit (.int 1))) .nil)))) .nil)) (.var 2)) .nil)))))
 (.next (.loop [16] (.nm 16) (.lst (.cons (.var 3) (.cons (.lit (.int 1)) (.cons (.var 4) (.cons (.bin .add (.lit (.int 1)) (.call 5 2 (.cons (.var 1) (.cons (.var 4) .nil)))) .nil)))))
 (.next (.asg false 13 (.bin .add (.var 13) (.lst (.cons (.tup (.cons (.call 3 3 (.cons (.var 2) (.cons (.var 15) (.cons (.var 16) .nil)))) (.cons (.call 21 3 (.cons (.var 2) (.cons (.var 15) (.cons (.var 16) .nil)))) .nil))) (.cons (.tup (.cons (.call 3 3 (.cons (.var 2) (.cons (.var 7) (.cons (.var 16) .nil)))) (.cons (.call 21 3 (.cons (.var 2) (.cons (.var 7) (.cons (.var 16) .nil)))) .nil))) .nil)))))
 .nil))
 (.next (.par [17, 18] (.cons (.call 12 2 (.cons (.var 1) (.cons (.var 2) .nil))) (.cons (.call 12 2 (.cons (.var 1) (.cons (.var 2) .nil))) .nil)))
 (.next (.asg false 19 (.blt .tuple (.cons (.lc [8] (.rng 1 (.cons (.var 3) .nil)) (.nm 8) .nop (.bin .mod (.blt .int (.cons (.bin .add (.bin .mul (.var 17) (.ix (.var 5) (.var 8))) (.bin .mul (.var 18) (.ix (.var 10) (.var 8)))) .nil)) (.var 2))) .nil)))
 (.next (.asg false 20 (.blt .tuple (.cons (.lc [8] (.rng 1 (.cons (.var 4) .nil)) (.nm 8) .nop (.bin .mod (.blt .int (.cons (.bin .add (.bin .mul (.var 17) (.ix (.var 11) (.var 8))) (.bin .mul (.var 18) (.ix (.var 12) (.var 8)))) .nil)) (.var 2))) .nil)))
 (.next (.ret (.call 9 1 (.cons (.bin .add (.var 13) (.lst (.cons (.tup (.cons (.call 2 3 (.cons (.var 2) (.cons (.var 19) (.cons (.var 4) .nil)))) (.cons (.var 20) .nil))) (.cons (.tup (.cons (.call 2 3 (.cons (.var 2) (.cons (.var 5) (.cons (.var 4) .nil)))) (.cons (.var 7) .nil))) .nil)))) .nil)))
 .nil))))))))))))))))))
theorem prm3 (x y z : D) : prm D.non [0, 1, 2] [x, y, z] = [x, y, z] := rfl
def gdB (d : D) : Prop := plain d = true ∨ ∃ ds, d = .tup ds ∧ ds.length ≤ 1000 ∧ ∀ x ∈ ds, plain x = true
theorem gdB_z {l : List Int} (h : l.length ≤ 1000) : gdB (.tup (zi l)) := .inr ⟨_, rfl, by rw [zl]; exact h, fun x hx => by
  obtain ⟨i, _, rfl⟩ := List.mem_map.mp hx
  rfl⟩
theorem gdB_b (b : Bool) : gdB (.bl b) := .inl rfl
structure Cal (cal : Nat → Sm) (ns : List Int) : Prop where
  hD : wO (cal 4 none [.scr ns, .int 75]) fun rt q' => ∃ (cs : List Int) (m : Int), rt = .deal (zi cs) (.int m) ∧ q' = none ∧ cs.length ≤ 63
  hA : AnyOk (cal 5)
  hO : OfOk (cal 6)
  hM : MixdOk (cal 7)
  hP : PriOk (cal 11)
  hR : ResOk (cal 12)
  hW : RowOk (cal 13)
  h2 : ∀ (p : Int) (row : List Int) (M : Nat), GoodP p → row ≠ [] → Rs p row → row.length ≤ 100 → M ≤ 100 → cal 2 none [.int p, .tup (zi row), .int M] = some (.dat (.tup (zi (cod p row M))), none)
  h17 : ∀ (p : Int) (row : List Int) (M : Nat), GoodP p → row ≠ [] → Rs p row → row.length ≤ 100 → M ≤ 100 → cal 17 none [.int p, .tup (zi row), .int M] = some (.dat (.tup (zi (cod p row M))), none)
  h3 : ∀ (p : Int) (row : List Int) (k : Nat), GoodP p → row ≠ [] → Rs p row → row.length ≤ 100 → 1 ≤ k → cal 3 none [.int p, .tup (zi row), .int k] = some (.dat (.bl (decide (cod p (row.take k) row.length = row))), none)
  h21 : ∀ (p : Int) (row : List Int) (k : Nat), GoodP p → row ≠ [] → Rs p row → row.length ≤ 100 → 1 ≤ k → cal 21 none [.int p, .tup (zi row), .int k] = some (.dat (.bl (decide (cod p (row.take k) row.length = row))), none)
  h14 : ∀ (ds : List D) (s : Nat) (x : D), ds.length ≤ 1000 → s < ds.length → cal 14 none [.tup ds, .int s, x] = some (.dat (.tup (ds.set s x)), none)
  h18 : ∀ (p : Int) (n : Nat), GoodP p → n ≤ 100 → cal 18 none [.int p, .int n] = some (.dat (.lst (zi (shares p n))), none)
  h19 : ∀ (p : Int) (row : List Int) (a : Nat), GoodP p → Rs p row → row.length ≤ 100 → a ≤ 100 → cal 19 none [.int p, .tup (zi row), .lst (zi (shares p row.length)), .int a] = some (.dat (.int (lag p row row.length a % p)), none)
  h20 : ∀ (p : Int) (row roots : List Int) (top : Int), GoodP p → 0 ≤ top ∧ top < p → row.length ≤ 100 → cal 20 none [.int p, .tup (zi row), .lst (zi roots), .int top] = some (.dat (.tup (zi (rooted p row roots top))), none)
  hL : ∀ es : List D, (∀ d ∈ es, gdB d) → cal 9 none [.lst (dbl es)] = some (.dat (.bl true), none)
/-- things that are ints in another order -/
theorem perm_zi {es : List D} {l : List Int} (h : es.Perm (zi l)) : ∃ zs : List Int, es = zi zs ∧ zs.Perm l := by
  let f : D → Int := fun d => match d with
    | .int i => i
    | _ => 0
  refine ⟨es.map f, ?_, ?_⟩
  · have : ∀ d ∈ es, D.int (f d) = d := fun d hd => by
      obtain ⟨i, _, rfl⟩ := List.mem_map.mp (h.mem_iff.mp hd)
      rfl
    show es = List.map D.int (List.map f es)
    rw [List.map_map]
    conv => lhs; rw [← List.map_id es]
    exact List.map_congr_left fun d hd => (this d hd).symm
  · have := h.map f
    rw [show List.map f (zi l) = l by
      show List.map f (List.map D.int l) = l
      rw [List.map_map]
      exact List.map_id l] at this
    exact this
theorem sort_z (l : List Int) : Blt.sorted.p [.lst (zi l)] = some (.l (zi (sortL l))) := by
  show (match toInts (l.map D.int) with
    | some ns => some (PR.l ((sortL ns).map D.int))
    | none => none) = _
  rw [toInts_map]
/-- the drawn places in rising order are those of a range that are drawn -/
theorem sort_filt {M : Nat} {l : List Int} (nd : l.Nodup) (hm : ∀ c ∈ l, ∃ k : Nat, k < M ∧ c = k) : sortL l = ((List.range M).filter fun t : Nat => decide ((t : Int) ∈ l)).map fun t : Nat => (t : Int) := by
  refine (sortL_of ?_ ?_).symm
  · refine (List.perm_ext_iff_of_nodup ?_ nd).mpr fun a => ?_
    · refine List.Pairwise.map _ (R := fun a b => a ≠ b) (fun a b h => by omega) ?_
      exact (List.nodup_range).filter _
    · constructor
      · intro h
        obtain ⟨t, ht, rfl⟩ := List.mem_map.mp h
        simpa using (List.mem_filter.mp ht).2
      · intro h
        obtain ⟨k, hk, rfl⟩ := hm a h
        exact List.mem_map.mpr ⟨k, List.mem_filter.mpr ⟨List.mem_range.mpr hk, by simpa using h⟩, rfl⟩
  · refine List.Pairwise.map _ (R := fun a b => a < b) (fun a b h => by omega) ?_
    exact List.pairwise_lt_range.filter _
theorem set_zi (l : List Int) (s : Nat) (x : Int) : (zi l).set s (D.int x) = zi (l.set s x) := List.map_set.symm
theorem rs_set {p : Int} {l : List Int} (h : Rs p l) (s : Nat) {x : Int} (hx : 0 ≤ x ∧ x < p) : Rs p (l.set s x) := fun y hy => by
  rcases List.mem_or_eq_of_mem_set hy with hy | rfl
  · exact h y hy
  · exact hx
theorem W_lcF {own : List Nat} {tg : D → Ga → Option Ga} {c : Act Bool} {e : Act R} {Γ : Ga} {Q : List D → Ga → Prop} {n : Nat} (f : Nat → Bool) (hb : n ≤ 16777216)
    (hs : ∀ i : Nat, i < n → wD (tg (.int i) Γ) fun Γ1 => W c Γ1 fun b Γ2 => b = f i ∧ if b = true then W e Γ2 fun r Γ3 => wO (mv Γ3 r) fun y Γ4 => plains own Γ4 = true ∧ y = .int i ∧ wipeΓ own Γ4 = Γ else plains own Γ2 = true ∧ wipeΓ own Γ2 = Γ)
    (hQ : Q (zi (((List.range n).filter f).map fun t : Nat => (t : Int))) Γ) : wO (lcL own tg c e ((List.range n).map fun k => D.int (0 + (k : Nat))) Γ []) Q := by
  refine W_lcL (fun i Γ' acc => Γ' = Γ ∧ acc = zi (((List.range i).filter f).map fun t : Nat => (t : Int)) ∧ i ≤ n) ⟨rfl, rfl, Nat.zero_le _⟩ ?_ ?_
  · rintro i d Γ' acc hd ⟨rfl, rfl, _⟩
    have hi : i < n := by
      rcases Nat.lt_or_ge i n with h | h
      · exact h
      · rw [List.getElem?_eq_none (by rw [List.length_map, List.length_range]; exact h)] at hd; cases hd
    rw [List.getElem?_map, List.getElem?_range hi] at hd
    cases hd
    have h := hs i hi
    have hlen : (zi (((List.range i).filter f).map fun t : Nat => (t : Int))).length < 16777216 := by
      rw [zl, List.length_map]
      have := List.length_filter_le f (List.range i)
      rw [List.length_range] at this
      omega
    show wD (tg (D.int (0 + (i : Int))) Γ') _
    rw [Int.zero_add]
    cases q : tg (D.int i) Γ' with
    | none => rw [q] at h; exact h.elim
    | some Γ1 =>
      rw [q] at h
      refine W.mono h ?_
      rintro b Γ2 ⟨rfl, h2⟩
      have e1 : List.range (i + 1) = List.range i ++ [i] := List.range_succ
      cases hf : f i with
      | true =>
        rw [hf, if_pos rfl] at h2
        rw [if_pos rfl]
        refine W.mono h2 fun r Γ3 h3 => ?_
        cases q3 : mv Γ3 r with
        | none => rw [q3] at h3; exact h3.elim
        | some x =>
          obtain ⟨y, Γ4⟩ := x
          rw [q3] at h3
          obtain ⟨h4, rfl, h5⟩ := h3
          refine ⟨h4, hlen, h5, ?_, hi⟩
          rw [e1, List.filter_append, List.map_append, zi_app, List.filter_cons_of_pos hf]; rfl
      | false =>
        rw [hf, if_neg (by decide)] at h2
        rw [if_neg (by decide)]
        refine ⟨h2.1, h2.2, ?_, hi⟩
        rw [e1, List.filter_append, List.map_append, zi_app, List.filter_cons_of_neg (by rw [hf]; decide)]
        show _ = _ ++ []
        rw [List.append_nil]
  · rintro Γ' acc ⟨rfl, rfl, _⟩
    rw [List.length_map, List.length_range]
    exact hQ
end Ca

set_option Elab.async false
set_option linter.all false
set_option maxRecDepth 100000
set_option maxHeartbeats 4000000
/-! k75: the law -/
namespace Ca
open Z Nu Dq Pl
open L2 (atI ixN)
theorem law_ok (cal : Nat → Sm) (ns : List Int) (c : Cal cal ns) : runF cal 21 tLaw none [.scr ns] = some (.dat (.bl true), none) := by
  refine wO_eq (runF_W ?_)
  simp -implicitDefEqProofs only [tLaw, inΓ, dlO, List.map_cons, List.map_nil, List.nil_append, List.cons_append, List.replicate, Nat.reduceSub, sv, ev, CO.p, BO.p, BO.ap, tv, isNop, if_true, if_false, Bool.false_eq_true, reduceIte,
  W_then, W_asg, W_disp, W_nil, W_cons, W_consA, W_consI, W_var, W_val, W_bin, W_chn, W_ix, W_un, W_optN, W_optS, W_sl, W_deal, W_blt, W_isi, W_lrg, W_call, W_prm, W_ite, W_T, W_B, W_not, W_and, W_or, W_seq, W_rng, W_app, W_pop, W_popAt, oneI_i, oneL_l, W_nx, W_drop, W_pure, W_ret, W_if, W_par, W_unp, W_sub, W_yes, W_for, W_aug', W_lc,
  wO_some, wD_some, wD_if, rdO_dat, rdO_own, rdO_deal, mv_val, mv_new, mv_at, mvO_dat, mvO_own, dr_val, dr_new, dr_at, drO_dat, drO_own, dr_at1, dr1_deal, mvA_val, mvA_new, mvA_at, mvAO_dat, mvAO_own, mvAO_deal, toItm_f, itmO_some, toItm_n, toItm_q,
  isDeal_none, isDeal_dat, isDeal_own, isDeal_deal, lstR_at, lstR_at1, lstO_own, lstO_deal, items_at, items_at1, itO_own, it1_deal, putR_at, putR_at1, putO_deal, PR_v, PR_t, PR_l, Rt_d, Rt_q, rtO_some, retR_val, retR_new, retR_newD, retR_at, exitD_none, exitD_some, dealO_deal, intO_int, toB_bl, newO_new, valO_val, thW_nx, thW_bk, thW_ct, thW_rt,
  callW_d, callW_nil, callW_ref, refW_deal, augW_dat, exV, ex1, exI, addP_i, addP_l, addP_t, addI_i, subP_i, mulP_i, mulP_0, divP_i, modP_i, powP_i, cmpP_i, eqP_i, neP_i, isP_nn, isP_in, isP_tn, isP_bn, isnP_nn, isnP_in, isnP_tn, isP_nb, isP_ib, isP_tb, isP_bb, len_l, len_t, int_i, abs_i, tup_l, tup_t, lst_l, lst_t, min_i, max_i, rev_l, neg_i, sum_l, slP_t, slP_l,
  ixP_t, ixP_l, ixR_v, ixR_n, ixR_a, ixW_own, ixW_deal0, ixW_deal1, ixR_1, itemsD_l, itemsD_t, rangeP1, rangeP2, plains, plainO_none, plainO_dat, datO_none, datO_dat, setAll_nil, setAll_cons, setAW_some, setT_t,
  stR_at, stO_deal, setI, setIs, Itm.o, setD, forget_nil, forget_cons, fgO_none, fgO_dat, fgO_own, fgO_deal, wipeΓ, backΓ, argD, drs, List.all_cons, List.all_nil, Bool.and_true, List.getElem?_cons_zero, List.getElem?_cons_succ, List.set_cons_zero, List.set_cons_succ, List.length_cons, List.length_nil, Nat.zero_add, Nat.reduceAdd, Nat.reduceLeDiff, true_and, and_true, decide_eq_true_eq]
  refine wO.mono c.hD ?_
  rintro _ _ ⟨cs, m, rfl, rfl, hl⟩
  simp -implicitDefEqProofs only [sv, ev, CO.p, BO.p, BO.ap, tv, isNop, if_true, if_false, Bool.false_eq_true, reduceIte,
  W_then, W_asg, W_disp, W_nil, W_cons, W_consA, W_consI, W_var, W_val, W_bin, W_chn, W_ix, W_un, W_optN, W_optS, W_sl, W_deal, W_blt, W_isi, W_lrg, W_call, W_prm, W_ite, W_T, W_B, W_not, W_and, W_or, W_seq, W_rng, W_app, W_pop, W_popAt, oneI_i, oneL_l, W_nx, W_drop, W_pure, W_ret, W_if, W_par, W_unp, W_sub, W_yes, W_for, W_aug', W_lc,
  wO_some, wD_some, wD_if, rdO_dat, rdO_own, rdO_deal, mv_val, mv_new, mv_at, mvO_dat, mvO_own, dr_val, dr_new, dr_at, drO_dat, drO_own, dr_at1, dr1_deal, mvA_val, mvA_new, mvA_at, mvAO_dat, mvAO_own, mvAO_deal, toItm_f, itmO_some, toItm_n, toItm_q,
  isDeal_none, isDeal_dat, isDeal_own, isDeal_deal, lstR_at, lstR_at1, lstO_own, lstO_deal, items_at, items_at1, itO_own, it1_deal, putR_at, putR_at1, putO_deal, PR_v, PR_t, PR_l, Rt_d, Rt_q, rtO_some, retR_val, retR_new, retR_newD, retR_at, exitD_none, exitD_some, dealO_deal, intO_int, toB_bl, newO_new, valO_val, thW_nx, thW_bk, thW_ct, thW_rt,
  callW_d, callW_nil, callW_ref, refW_deal, augW_dat, exV, ex1, exI, addP_i, addP_l, addP_t, addI_i, subP_i, mulP_i, mulP_0, divP_i, modP_i, powP_i, cmpP_i, eqP_i, neP_i, isP_nn, isP_in, isP_tn, isP_bn, isnP_nn, isnP_in, isnP_tn, isP_nb, isP_ib, isP_tb, isP_bb, len_l, len_t, int_i, abs_i, tup_l, tup_t, lst_l, lst_t, min_i, max_i, rev_l, neg_i, sum_l, slP_t, slP_l,
  ixP_t, ixP_l, ixR_v, ixR_n, ixR_a, ixW_own, ixW_deal0, ixW_deal1, ixR_1, itemsD_l, itemsD_t, rangeP1, rangeP2, plains, plainO_none, plainO_dat, datO_none, datO_dat, setAll_nil, setAll_cons, setAW_some, setT_t,
  stR_at, stO_deal, setI, setIs, Itm.o, setD, forget_nil, forget_cons, fgO_none, fgO_dat, fgO_own, fgO_deal, wipeΓ, backΓ, argD, drs, List.all_cons, List.all_nil, Bool.and_true, List.getElem?_cons_zero, List.getElem?_cons_succ, List.set_cons_zero, List.set_cons_succ, List.length_cons, List.length_nil, Nat.zero_add, Nat.reduceAdd, Nat.reduceLeDiff, true_and, and_true, decide_eq_true_eq]
  refine wO.mono (c.hP cs m hl) ?_
  rintro _ _ ⟨p, cs, m, rfl, g, rfl, hl⟩
  have hlo := g.lo
  have hhi := g.hi
  simp -implicitDefEqProofs only [sv, ev, CO.p, BO.p, BO.ap, tv, isNop, if_true, if_false, Bool.false_eq_true, reduceIte,
  W_then, W_asg, W_disp, W_nil, W_cons, W_consA, W_consI, W_var, W_val, W_bin, W_chn, W_ix, W_un, W_optN, W_optS, W_sl, W_deal, W_blt, W_isi, W_lrg, W_call, W_prm, W_ite, W_T, W_B, W_not, W_and, W_or, W_seq, W_rng, W_app, W_pop, W_popAt, oneI_i, oneL_l, W_nx, W_drop, W_pure, W_ret, W_if, W_par, W_unp, W_sub, W_yes, W_for, W_aug', W_lc,
  wO_some, wD_some, wD_if, rdO_dat, rdO_own, rdO_deal, mv_val, mv_new, mv_at, mvO_dat, mvO_own, dr_val, dr_new, dr_at, drO_dat, drO_own, dr_at1, dr1_deal, mvA_val, mvA_new, mvA_at, mvAO_dat, mvAO_own, mvAO_deal, toItm_f, itmO_some, toItm_n, toItm_q,
  isDeal_none, isDeal_dat, isDeal_own, isDeal_deal, lstR_at, lstR_at1, lstO_own, lstO_deal, items_at, items_at1, itO_own, it1_deal, putR_at, putR_at1, putO_deal, PR_v, PR_t, PR_l, Rt_d, Rt_q, rtO_some, retR_val, retR_new, retR_newD, retR_at, exitD_none, exitD_some, dealO_deal, intO_int, toB_bl, newO_new, valO_val, thW_nx, thW_bk, thW_ct, thW_rt,
  callW_d, callW_nil, callW_ref, refW_deal, augW_dat, exV, ex1, exI, addP_i, addP_l, addP_t, addI_i, subP_i, mulP_i, mulP_0, divP_i, modP_i, powP_i, cmpP_i, eqP_i, neP_i, isP_nn, isP_in, isP_tn, isP_bn, isnP_nn, isnP_in, isnP_tn, isP_nb, isP_ib, isP_tb, isP_bb, len_l, len_t, int_i, abs_i, tup_l, tup_t, lst_l, lst_t, min_i, max_i, rev_l, neg_i, sum_l, slP_t, slP_l,
  ixP_t, ixP_l, ixR_v, ixR_n, ixR_a, ixW_own, ixW_deal0, ixW_deal1, ixR_1, itemsD_l, itemsD_t, rangeP1, rangeP2, plains, plainO_none, plainO_dat, datO_none, datO_dat, setAll_nil, setAll_cons, setAW_some, setT_t,
  stR_at, stO_deal, setI, setIs, Itm.o, setD, forget_nil, forget_cons, fgO_none, fgO_dat, fgO_own, fgO_deal, wipeΓ, backΓ, argD, drs, List.all_cons, List.all_nil, Bool.and_true, List.getElem?_cons_zero, List.getElem?_cons_succ, List.set_cons_zero, List.set_cons_succ, List.length_cons, List.length_nil, Nat.zero_add, Nat.reduceAdd, Nat.reduceLeDiff, true_and, and_true, decide_eq_true_eq]
  refine wO.mono (c.hA cs m (if 16 < p then 16 else p) hl (by split <;> omega) (by split <;> omega)) ?_
  rintro _ _ ⟨v, cs, m, rfl, hv, rfl, hl⟩
  obtain ⟨n, hn1, hn2, hn3, hn4⟩ : ∃ n : Nat, (1 : Int) + (v : Int) = (n : Int) ∧ 1 ≤ n ∧ n ≤ 16 ∧ (n : Int) ≤ p := ⟨1 + v, by omega, by omega, by split at hv <;> omega, by split at hv <;> omega⟩
  obtain ⟨mm, hm1, hm2, hm3⟩ : ∃ mm : Nat, (if (64 : Int) < p then 64 else p) = (mm : Int) ∧ mm ≤ 64 ∧ (mm : Int) ≤ p ∧ (mm : Int) ≤ p ∧ n ≤ mm := ⟨(if (64 : Int) < p then 64 else p).toNat, by split <;> omega, by split <;> omega, by split <;> omega, by split <;> omega, by split <;> omega⟩
  simp -implicitDefEqProofs only [hn1, hm1, sv, ev, CO.p, BO.p, BO.ap, tv, isNop, if_true, if_false, Bool.false_eq_true, reduceIte,
  W_then, W_asg, W_disp, W_nil, W_cons, W_consA, W_consI, W_var, W_val, W_bin, W_chn, W_ix, W_un, W_optN, W_optS, W_sl, W_deal, W_blt, W_isi, W_lrg, W_call, W_prm, W_ite, W_T, W_B, W_not, W_and, W_or, W_seq, W_rng, W_app, W_pop, W_popAt, oneI_i, oneL_l, W_nx, W_drop, W_pure, W_ret, W_if, W_par, W_unp, W_sub, W_yes, W_for, W_aug', W_lc,
  wO_some, wD_some, wD_if, rdO_dat, rdO_own, rdO_deal, mv_val, mv_new, mv_at, mvO_dat, mvO_own, dr_val, dr_new, dr_at, drO_dat, drO_own, dr_at1, dr1_deal, mvA_val, mvA_new, mvA_at, mvAO_dat, mvAO_own, mvAO_deal, toItm_f, itmO_some, toItm_n, toItm_q,
  isDeal_none, isDeal_dat, isDeal_own, isDeal_deal, lstR_at, lstR_at1, lstO_own, lstO_deal, items_at, items_at1, itO_own, it1_deal, putR_at, putR_at1, putO_deal, PR_v, PR_t, PR_l, Rt_d, Rt_q, rtO_some, retR_val, retR_new, retR_newD, retR_at, exitD_none, exitD_some, dealO_deal, intO_int, toB_bl, newO_new, valO_val, thW_nx, thW_bk, thW_ct, thW_rt,
  callW_d, callW_nil, callW_ref, refW_deal, augW_dat, exV, ex1, exI, addP_i, addP_l, addP_t, addI_i, subP_i, mulP_i, mulP_0, divP_i, modP_i, powP_i, cmpP_i, eqP_i, neP_i, isP_nn, isP_in, isP_tn, isP_bn, isnP_nn, isnP_in, isnP_tn, isP_nb, isP_ib, isP_tb, isP_bb, len_l, len_t, int_i, abs_i, tup_l, tup_t, lst_l, lst_t, min_i, max_i, rev_l, neg_i, sum_l, slP_t, slP_l,
  ixP_t, ixP_l, ixR_v, ixR_n, ixR_a, ixW_own, ixW_deal0, ixW_deal1, ixR_1, itemsD_l, itemsD_t, rangeP1, rangeP2, plains, plainO_none, plainO_dat, datO_none, datO_dat, setAll_nil, setAll_cons, setAW_some, setT_t,
  stR_at, stO_deal, setI, setIs, Itm.o, setD, forget_nil, forget_cons, fgO_none, fgO_dat, fgO_own, fgO_deal, wipeΓ, backΓ, argD, drs, List.all_cons, List.all_nil, Bool.and_true, List.getElem?_cons_zero, List.getElem?_cons_succ, List.set_cons_zero, List.set_cons_succ, List.length_cons, List.length_nil, Nat.zero_add, Nat.reduceAdd, Nat.reduceLeDiff, true_and, and_true, decide_eq_true_eq]
  clear hv hn1
  refine wO.mono (c.hA cs m ((mm : Int) - n + 1) hl (by omega) (by omega)) ?_
  rintro _ _ ⟨v2, cs, m, rfl, hv2, rfl, hl⟩
  simp -implicitDefEqProofs only [sv, ev, CO.p, BO.p, BO.ap, tv, isNop, if_true, if_false, Bool.false_eq_true, reduceIte,
  W_then, W_asg, W_disp, W_nil, W_cons, W_consA, W_consI, W_var, W_val, W_bin, W_chn, W_ix, W_un, W_optN, W_optS, W_sl, W_deal, W_blt, W_isi, W_lrg, W_call, W_prm, W_ite, W_T, W_B, W_not, W_and, W_or, W_seq, W_rng, W_app, W_pop, W_popAt, oneI_i, oneL_l, W_nx, W_drop, W_pure, W_ret, W_if, W_par, W_unp, W_sub, W_yes, W_for, W_aug', W_lc,
  wO_some, wD_some, wD_if, rdO_dat, rdO_own, rdO_deal, mv_val, mv_new, mv_at, mvO_dat, mvO_own, dr_val, dr_new, dr_at, drO_dat, drO_own, dr_at1, dr1_deal, mvA_val, mvA_new, mvA_at, mvAO_dat, mvAO_own, mvAO_deal, toItm_f, itmO_some, toItm_n, toItm_q,
  isDeal_none, isDeal_dat, isDeal_own, isDeal_deal, lstR_at, lstR_at1, lstO_own, lstO_deal, items_at, items_at1, itO_own, it1_deal, putR_at, putR_at1, putO_deal, PR_v, PR_t, PR_l, Rt_d, Rt_q, rtO_some, retR_val, retR_new, retR_newD, retR_at, exitD_none, exitD_some, dealO_deal, intO_int, toB_bl, newO_new, valO_val, thW_nx, thW_bk, thW_ct, thW_rt,
  callW_d, callW_nil, callW_ref, refW_deal, augW_dat, exV, ex1, exI, addP_i, addP_l, addP_t, addI_i, subP_i, mulP_i, mulP_0, divP_i, modP_i, powP_i, cmpP_i, eqP_i, neP_i, isP_nn, isP_in, isP_tn, isP_bn, isnP_nn, isnP_in, isnP_tn, isP_nb, isP_ib, isP_tb, isP_bb, len_l, len_t, int_i, abs_i, tup_l, tup_t, lst_l, lst_t, min_i, max_i, rev_l, neg_i, sum_l, slP_t, slP_l,
  ixP_t, ixP_l, ixR_v, ixR_n, ixR_a, ixW_own, ixW_deal0, ixW_deal1, ixR_1, itemsD_l, itemsD_t, rangeP1, rangeP2, plains, plainO_none, plainO_dat, datO_none, datO_dat, setAll_nil, setAll_cons, setAW_some, setT_t,
  stR_at, stO_deal, setI, setIs, Itm.o, setD, forget_nil, forget_cons, fgO_none, fgO_dat, fgO_own, fgO_deal, wipeΓ, backΓ, argD, drs, List.all_cons, List.all_nil, Bool.and_true, List.getElem?_cons_zero, List.getElem?_cons_succ, List.set_cons_zero, List.set_cons_succ, List.length_cons, List.length_nil, Nat.zero_add, Nat.reduceAdd, Nat.reduceLeDiff, true_and, and_true, decide_eq_true_eq]
  refine wO.mono (c.hO cs m _ hl (by simp) (by simp)) ?_
  rintro _ _ ⟨d, cs, m, rfl, hd', rfl, hl⟩
  obtain ⟨M, hM1, hM2, hM3, rfl⟩ : ∃ M : Nat, n ≤ M ∧ M ≤ 64 ∧ (M : Int) ≤ p ∧ d = .int M := by
    simp -implicitDefEqProofs only [List.mem_cons, List.not_mem_nil, or_false] at hd'
    rcases hd' with rfl | rfl | rfl
    · exact ⟨n, by omega, by omega, by omega, rfl⟩
    · exact ⟨mm, by omega, by omega, by omega, rfl⟩
    · exact ⟨n + v2, by omega, by omega, by omega, by rw [Int.natCast_add]⟩
  clear hd' hv2 hm1 hm2 hm3
  simp -implicitDefEqProofs only [sv, ev, CO.p, BO.p, BO.ap, tv, isNop, if_true, if_false, Bool.false_eq_true, reduceIte,
  W_then, W_asg, W_disp, W_nil, W_cons, W_consA, W_consI, W_var, W_val, W_bin, W_chn, W_ix, W_un, W_optN, W_optS, W_sl, W_deal, W_blt, W_isi, W_lrg, W_call, W_prm, W_ite, W_T, W_B, W_not, W_and, W_or, W_seq, W_rng, W_app, W_pop, W_popAt, oneI_i, oneL_l, W_nx, W_drop, W_pure, W_ret, W_if, W_par, W_unp, W_sub, W_yes, W_for, W_aug', W_lc,
  wO_some, wD_some, wD_if, rdO_dat, rdO_own, rdO_deal, mv_val, mv_new, mv_at, mvO_dat, mvO_own, dr_val, dr_new, dr_at, drO_dat, drO_own, dr_at1, dr1_deal, mvA_val, mvA_new, mvA_at, mvAO_dat, mvAO_own, mvAO_deal, toItm_f, itmO_some, toItm_n, toItm_q,
  isDeal_none, isDeal_dat, isDeal_own, isDeal_deal, lstR_at, lstR_at1, lstO_own, lstO_deal, items_at, items_at1, itO_own, it1_deal, putR_at, putR_at1, putO_deal, PR_v, PR_t, PR_l, Rt_d, Rt_q, rtO_some, retR_val, retR_new, retR_newD, retR_at, exitD_none, exitD_some, dealO_deal, intO_int, toB_bl, newO_new, valO_val, thW_nx, thW_bk, thW_ct, thW_rt,
  callW_d, callW_nil, callW_ref, refW_deal, augW_dat, exV, ex1, exI, addP_i, addP_l, addP_t, addI_i, subP_i, mulP_i, mulP_0, divP_i, modP_i, powP_i, cmpP_i, eqP_i, neP_i, isP_nn, isP_in, isP_tn, isP_bn, isnP_nn, isnP_in, isnP_tn, isP_nb, isP_ib, isP_tb, isP_bb, len_l, len_t, int_i, abs_i, tup_l, tup_t, lst_l, lst_t, min_i, max_i, rev_l, neg_i, sum_l, slP_t, slP_l,
  ixP_t, ixP_l, ixR_v, ixR_n, ixR_a, ixW_own, ixW_deal0, ixW_deal1, ixR_1, itemsD_l, itemsD_t, rangeP1, rangeP2, plains, plainO_none, plainO_dat, datO_none, datO_dat, setAll_nil, setAll_cons, setAW_some, setT_t,
  stR_at, stO_deal, setI, setIs, Itm.o, setD, forget_nil, forget_cons, fgO_none, fgO_dat, fgO_own, fgO_deal, wipeΓ, backΓ, argD, drs, List.all_cons, List.all_nil, Bool.and_true, List.getElem?_cons_zero, List.getElem?_cons_succ, List.set_cons_zero, List.set_cons_succ, List.length_cons, List.length_nil, Nat.zero_add, Nat.reduceAdd, Nat.reduceLeDiff, true_and, and_true, decide_eq_true_eq]
  refine wO.mono (c.hW cs m p n hl hlo hhi (by omega)) ?_
  rintro _ _ ⟨row, cs, m, rfl, hr, hrn, rfl, hl⟩
  subst hrn
  have h0 : row ≠ [] := List.length_pos_iff.mp (by omega)
  simp -implicitDefEqProofs only [c.h18 p row.length g (by omega), sv, ev, CO.p, BO.p, BO.ap, tv, isNop, if_true, if_false, Bool.false_eq_true, reduceIte,
  W_then, W_asg, W_disp, W_nil, W_cons, W_consA, W_consI, W_var, W_val, W_bin, W_chn, W_ix, W_un, W_optN, W_optS, W_sl, W_deal, W_blt, W_isi, W_lrg, W_call, W_prm, W_ite, W_T, W_B, W_not, W_and, W_or, W_seq, W_rng, W_app, W_pop, W_popAt, oneI_i, oneL_l, W_nx, W_drop, W_pure, W_ret, W_if, W_par, W_unp, W_sub, W_yes, W_for, W_aug', W_lc,
  wO_some, wD_some, wD_if, rdO_dat, rdO_own, rdO_deal, mv_val, mv_new, mv_at, mvO_dat, mvO_own, dr_val, dr_new, dr_at, drO_dat, drO_own, dr_at1, dr1_deal, mvA_val, mvA_new, mvA_at, mvAO_dat, mvAO_own, mvAO_deal, toItm_f, itmO_some, toItm_n, toItm_q,
  isDeal_none, isDeal_dat, isDeal_own, isDeal_deal, lstR_at, lstR_at1, lstO_own, lstO_deal, items_at, items_at1, itO_own, it1_deal, putR_at, putR_at1, putO_deal, PR_v, PR_t, PR_l, Rt_d, Rt_q, rtO_some, retR_val, retR_new, retR_newD, retR_at, exitD_none, exitD_some, dealO_deal, intO_int, toB_bl, newO_new, valO_val, thW_nx, thW_bk, thW_ct, thW_rt,
  callW_d, callW_nil, callW_ref, refW_deal, augW_dat, exV, ex1, exI, addP_i, addP_l, addP_t, addI_i, subP_i, mulP_i, mulP_0, divP_i, modP_i, powP_i, cmpP_i, eqP_i, neP_i, isP_nn, isP_in, isP_tn, isP_bn, isnP_nn, isnP_in, isnP_tn, isP_nb, isP_ib, isP_tb, isP_bb, len_l, len_t, int_i, abs_i, tup_l, tup_t, lst_l, lst_t, min_i, max_i, rev_l, neg_i, sum_l, slP_t, slP_l,
  ixP_t, ixP_l, ixR_v, ixR_n, ixR_a, ixW_own, ixW_deal0, ixW_deal1, ixR_1, itemsD_l, itemsD_t, rangeP1, rangeP2, plains, plainO_none, plainO_dat, datO_none, datO_dat, setAll_nil, setAll_cons, setAW_some, setT_t,
  stR_at, stO_deal, setI, setIs, Itm.o, setD, forget_nil, forget_cons, fgO_none, fgO_dat, fgO_own, fgO_deal, wipeΓ, backΓ, argD, drs, List.all_cons, List.all_nil, Bool.and_true, List.getElem?_cons_zero, List.getElem?_cons_succ, List.set_cons_zero, List.set_cons_succ, List.length_cons, List.length_nil, Nat.zero_add, Nat.reduceAdd, Nat.reduceLeDiff, true_and, and_true, decide_eq_true_eq]
  refine ⟨by omega, ?_⟩
  refine W_lcR (fun a => D.int (lag p row row.length a % p)) (by omega) ?_ ?_
  · intro a ha
    simp -implicitDefEqProofs only [c.h19 p row a g hr (by omega) (by omega), sv, ev, CO.p, BO.p, BO.ap, tv, isNop, if_true, if_false, Bool.false_eq_true, reduceIte,
  W_then, W_asg, W_disp, W_nil, W_cons, W_consA, W_consI, W_var, W_val, W_bin, W_chn, W_ix, W_un, W_optN, W_optS, W_sl, W_deal, W_blt, W_isi, W_lrg, W_call, W_prm, W_ite, W_T, W_B, W_not, W_and, W_or, W_seq, W_rng, W_app, W_pop, W_popAt, oneI_i, oneL_l, W_nx, W_drop, W_pure, W_ret, W_if, W_par, W_unp, W_sub, W_yes, W_for, W_aug', W_lc,
  wO_some, wD_some, wD_if, rdO_dat, rdO_own, rdO_deal, mv_val, mv_new, mv_at, mvO_dat, mvO_own, dr_val, dr_new, dr_at, drO_dat, drO_own, dr_at1, dr1_deal, mvA_val, mvA_new, mvA_at, mvAO_dat, mvAO_own, mvAO_deal, toItm_f, itmO_some, toItm_n, toItm_q,
  isDeal_none, isDeal_dat, isDeal_own, isDeal_deal, lstR_at, lstR_at1, lstO_own, lstO_deal, items_at, items_at1, itO_own, it1_deal, putR_at, putR_at1, putO_deal, PR_v, PR_t, PR_l, Rt_d, Rt_q, rtO_some, retR_val, retR_new, retR_newD, retR_at, exitD_none, exitD_some, dealO_deal, intO_int, toB_bl, newO_new, valO_val, thW_nx, thW_bk, thW_ct, thW_rt,
  callW_d, callW_nil, callW_ref, refW_deal, augW_dat, exV, ex1, exI, addP_i, addP_l, addP_t, addI_i, subP_i, mulP_i, mulP_0, divP_i, modP_i, powP_i, cmpP_i, eqP_i, neP_i, isP_nn, isP_in, isP_tn, isP_bn, isnP_nn, isnP_in, isnP_tn, isP_nb, isP_ib, isP_tb, isP_bb, len_l, len_t, int_i, abs_i, tup_l, tup_t, lst_l, lst_t, min_i, max_i, rev_l, neg_i, sum_l, slP_t, slP_l,
  ixP_t, ixP_l, ixR_v, ixR_n, ixR_a, ixW_own, ixW_deal0, ixW_deal1, ixR_1, itemsD_l, itemsD_t, rangeP1, rangeP2, plains, plainO_none, plainO_dat, datO_none, datO_dat, setAll_nil, setAll_cons, setAW_some, setT_t,
  stR_at, stO_deal, setI, setIs, Itm.o, setD, forget_nil, forget_cons, fgO_none, fgO_dat, fgO_own, fgO_deal, wipeΓ, backΓ, argD, drs, List.all_cons, List.all_nil, Bool.and_true, List.getElem?_cons_zero, List.getElem?_cons_succ, List.set_cons_zero, List.set_cons_succ, List.length_cons, List.length_nil, Nat.zero_add, Nat.reduceAdd, Nat.reduceLeDiff, true_and, and_true, decide_eq_true_eq]
  have hcod := cod_lag g hr h0 (by omega) hn4 M
  have hself : cod p row row.length = row := cod_self hr
  have hlagrow := cod_lag g hr h0 (by omega) hn4 row.length
  have hp0 : (0 : Int) < p := by omega
  have hval : (List.range ((M : Int)).toNat).map (fun a => D.int (lag p row row.length a % p)) = zi (val p M (lag p row row.length)) := by rw [Int.toNat_natCast, zi_range]; rfl
  simp -implicitDefEqProofs only [hval, sv, ev, CO.p, BO.p, BO.ap, tv, isNop, if_true, if_false, Bool.false_eq_true, reduceIte,
  W_then, W_asg, W_disp, W_nil, W_cons, W_consA, W_consI, W_var, W_val, W_bin, W_chn, W_ix, W_un, W_optN, W_optS, W_sl, W_deal, W_blt, W_isi, W_lrg, W_call, W_prm, W_ite, W_T, W_B, W_not, W_and, W_or, W_seq, W_rng, W_app, W_pop, W_popAt, oneI_i, oneL_l, W_nx, W_drop, W_pure, W_ret, W_if, W_par, W_unp, W_sub, W_yes, W_for, W_aug', W_lc,
  wO_some, wD_some, wD_if, rdO_dat, rdO_own, rdO_deal, mv_val, mv_new, mv_at, mvO_dat, mvO_own, dr_val, dr_new, dr_at, drO_dat, drO_own, dr_at1, dr1_deal, mvA_val, mvA_new, mvA_at, mvAO_dat, mvAO_own, mvAO_deal, toItm_f, itmO_some, toItm_n, toItm_q,
  isDeal_none, isDeal_dat, isDeal_own, isDeal_deal, lstR_at, lstR_at1, lstO_own, lstO_deal, items_at, items_at1, itO_own, it1_deal, putR_at, putR_at1, putO_deal, PR_v, PR_t, PR_l, Rt_d, Rt_q, rtO_some, retR_val, retR_new, retR_newD, retR_at, exitD_none, exitD_some, dealO_deal, intO_int, toB_bl, newO_new, valO_val, thW_nx, thW_bk, thW_ct, thW_rt,
  callW_d, callW_nil, callW_ref, refW_deal, augW_dat, exV, ex1, exI, addP_i, addP_l, addP_t, addI_i, subP_i, mulP_i, mulP_0, divP_i, modP_i, powP_i, cmpP_i, eqP_i, neP_i, isP_nn, isP_in, isP_tn, isP_bn, isnP_nn, isnP_in, isnP_tn, isP_nb, isP_ib, isP_tb, isP_bb, len_l, len_t, int_i, abs_i, tup_l, tup_t, lst_l, lst_t, min_i, max_i, rev_l, neg_i, sum_l, slP_t, slP_l,
  ixP_t, ixP_l, ixR_v, ixR_n, ixR_a, ixW_own, ixW_deal0, ixW_deal1, ixR_1, itemsD_l, itemsD_t, rangeP1, rangeP2, plains, plainO_none, plainO_dat, datO_none, datO_dat, setAll_nil, setAll_cons, setAW_some, setT_t,
  stR_at, stO_deal, setI, setIs, Itm.o, setD, forget_nil, forget_cons, fgO_none, fgO_dat, fgO_own, fgO_deal, wipeΓ, backΓ, argD, drs, List.all_cons, List.all_nil, Bool.and_true, List.getElem?_cons_zero, List.getElem?_cons_succ, List.set_cons_zero, List.set_cons_succ, List.length_cons, List.length_nil, Nat.zero_add, Nat.reduceAdd, Nat.reduceLeDiff, true_and, and_true, decide_eq_true_eq]
  refine ⟨⟨by omega, by omega⟩, ?_⟩
  refine wO.mono (c.hM cs m ((List.range ((M : Int)).toNat).map fun k => D.int (k : Nat)) hl (by rw [List.length_map, List.length_range]; omega)) ?_
  rintro _ _ ⟨es, cs, m, rfl, hperm, rfl, hl⟩
  rw [Int.toNat_natCast, zi_range] at hperm
  obtain ⟨zs_, rfl, hzp⟩ := perm_zi hperm
  have hcut : cut (zi zs_) none (some ((row.length : Int) - 1)) = zi (zs_.take (row.length - 1)) := by
    rw [show (row.length : Int) - 1 = ((row.length - 1 : Nat) : Int) by omega, cut_tz]
  have hzl : zs_.length = M := by rw [hzp.length_eq, List.length_map, List.length_range]
  have hnd : (zs_.take (row.length - 1)).Nodup := List.Nodup.sublist (List.take_sublist _ _) (hzp.nodup_iff.mpr (List.Pairwise.map _ (R := fun a b => a ≠ b) (fun a b h => by omega) List.nodup_range))
  have hmem : ∀ c ∈ zs_.take (row.length - 1), ∃ k : Nat, k < M ∧ c = k := fun c hc => by
    have := hzp.mem_iff.mp (List.mem_of_mem_take hc)
    obtain ⟨k, hk, rfl⟩ := List.mem_map.mp this
    exact ⟨k, List.mem_range.mp hk, rfl⟩
  have hsf := sort_filt hnd hmem
  have hsl : (sortL (zs_.take (row.length - 1))).length + 1 = row.length := by
    rw [(sortL_perm _).length_eq, List.length_take]; omega
  have hsm : ∀ c, c ∈ sortL (zs_.take (row.length - 1)) ↔ c ∈ zs_.take (row.length - 1) := fun c => (sortL_perm _).mem_iff
  simp -implicitDefEqProofs only [hcut, sort_z, sv, ev, CO.p, BO.p, BO.ap, tv, isNop, if_true, if_false, Bool.false_eq_true, reduceIte,
  W_then, W_asg, W_disp, W_nil, W_cons, W_consA, W_consI, W_var, W_val, W_bin, W_chn, W_ix, W_un, W_optN, W_optS, W_sl, W_deal, W_blt, W_isi, W_lrg, W_call, W_prm, W_ite, W_T, W_B, W_not, W_and, W_or, W_seq, W_rng, W_app, W_pop, W_popAt, oneI_i, oneL_l, W_nx, W_drop, W_pure, W_ret, W_if, W_par, W_unp, W_sub, W_yes, W_for, W_aug', W_lc,
  wO_some, wD_some, wD_if, rdO_dat, rdO_own, rdO_deal, mv_val, mv_new, mv_at, mvO_dat, mvO_own, dr_val, dr_new, dr_at, drO_dat, drO_own, dr_at1, dr1_deal, mvA_val, mvA_new, mvA_at, mvAO_dat, mvAO_own, mvAO_deal, toItm_f, itmO_some, toItm_n, toItm_q,
  isDeal_none, isDeal_dat, isDeal_own, isDeal_deal, lstR_at, lstR_at1, lstO_own, lstO_deal, items_at, items_at1, itO_own, it1_deal, putR_at, putR_at1, putO_deal, PR_v, PR_t, PR_l, Rt_d, Rt_q, rtO_some, retR_val, retR_new, retR_newD, retR_at, exitD_none, exitD_some, dealO_deal, intO_int, toB_bl, newO_new, valO_val, thW_nx, thW_bk, thW_ct, thW_rt,
  callW_d, callW_nil, callW_ref, refW_deal, augW_dat, exV, ex1, exI, addP_i, addP_l, addP_t, addI_i, subP_i, mulP_i, mulP_0, divP_i, modP_i, powP_i, cmpP_i, eqP_i, neP_i, isP_nn, isP_in, isP_tn, isP_bn, isnP_nn, isnP_in, isnP_tn, isP_nb, isP_ib, isP_tb, isP_bb, len_l, len_t, int_i, abs_i, tup_l, tup_t, lst_l, lst_t, min_i, max_i, rev_l, neg_i, sum_l, slP_t, slP_l,
  ixP_t, ixP_l, ixR_v, ixR_n, ixR_a, ixW_own, ixW_deal0, ixW_deal1, ixR_1, itemsD_l, itemsD_t, rangeP1, rangeP2, plains, plainO_none, plainO_dat, datO_none, datO_dat, setAll_nil, setAll_cons, setAW_some, setT_t,
  stR_at, stO_deal, setI, setIs, Itm.o, setD, forget_nil, forget_cons, fgO_none, fgO_dat, fgO_own, fgO_deal, wipeΓ, backΓ, argD, drs, List.all_cons, List.all_nil, Bool.and_true, List.getElem?_cons_zero, List.getElem?_cons_succ, List.set_cons_zero, List.set_cons_succ, List.length_cons, List.length_nil, Nat.zero_add, Nat.reduceAdd, Nat.reduceLeDiff, true_and, and_true, decide_eq_true_eq]
  generalize sortL (zs_.take (row.length - 1)) = roots at *
  refine wO.mono (c.hA cs m (p - 1) hl (by omega) (by omega)) ?_
  rintro _ _ ⟨v3, cs, m, rfl, hv3, rfl, hl⟩
  obtain ⟨top, ht1, ht2, ht3⟩ : ∃ top : Int, (1 : Int) + (v3 : Int) = top ∧ 1 ≤ top ∧ top < p := ⟨1 + v3, rfl, by omega, by omega⟩
  have hroo := rooted_eq (roots := roots) (top := top) g (show row.length ≤ 64 by omega) hn4
  have hrool := rooted_len p row roots top
  have hcodr := cod_rooted (roots := roots) (top := top) g h0 (show row.length ≤ 64 by omega) hn4 hsl M
  have hrr : Rs p (rooted p row roots top) := by rw [hroo]; exact rs_val hp0 _ _
  have halike : ∀ t, t < M → ((lag p row row.length t % p = (lag p row row.length t + top * pd roots t) % p) ↔ (t : Int) ∈ roots) := fun t ht => alike g ht (by omega) (by omega) (fun c hc => hmem c ((hsm c).mp hc)) ht2 ht3
  have hpolF := pol_lag p row row.length
  have hpolG : Pol row.length fun t : Nat => lag p row row.length t + top * pd roots t := hpolF.add (Pol.mul top (hsl ▸ pol_pd roots))
  simp -implicitDefEqProofs only [ht1, c.h20 p row roots top g ⟨by omega, ht3⟩ (by omega), sv, ev, CO.p, BO.p, BO.ap, tv, isNop, if_true, if_false, Bool.false_eq_true, reduceIte,
  W_then, W_asg, W_disp, W_nil, W_cons, W_consA, W_consI, W_var, W_val, W_bin, W_chn, W_ix, W_un, W_optN, W_optS, W_sl, W_deal, W_blt, W_isi, W_lrg, W_call, W_prm, W_ite, W_T, W_B, W_not, W_and, W_or, W_seq, W_rng, W_app, W_pop, W_popAt, oneI_i, oneL_l, W_nx, W_drop, W_pure, W_ret, W_if, W_par, W_unp, W_sub, W_yes, W_for, W_aug', W_lc,
  wO_some, wD_some, wD_if, rdO_dat, rdO_own, rdO_deal, mv_val, mv_new, mv_at, mvO_dat, mvO_own, dr_val, dr_new, dr_at, drO_dat, drO_own, dr_at1, dr1_deal, mvA_val, mvA_new, mvA_at, mvAO_dat, mvAO_own, mvAO_deal, toItm_f, itmO_some, toItm_n, toItm_q,
  isDeal_none, isDeal_dat, isDeal_own, isDeal_deal, lstR_at, lstR_at1, lstO_own, lstO_deal, items_at, items_at1, itO_own, it1_deal, putR_at, putR_at1, putO_deal, PR_v, PR_t, PR_l, Rt_d, Rt_q, rtO_some, retR_val, retR_new, retR_newD, retR_at, exitD_none, exitD_some, dealO_deal, intO_int, toB_bl, newO_new, valO_val, thW_nx, thW_bk, thW_ct, thW_rt,
  callW_d, callW_nil, callW_ref, refW_deal, augW_dat, exV, ex1, exI, addP_i, addP_l, addP_t, addI_i, subP_i, mulP_i, mulP_0, divP_i, modP_i, powP_i, cmpP_i, eqP_i, neP_i, isP_nn, isP_in, isP_tn, isP_bn, isnP_nn, isnP_in, isnP_tn, isP_nb, isP_ib, isP_tb, isP_bb, len_l, len_t, int_i, abs_i, tup_l, tup_t, lst_l, lst_t, min_i, max_i, rev_l, neg_i, sum_l, slP_t, slP_l,
  ixP_t, ixP_l, ixR_v, ixR_n, ixR_a, ixW_own, ixW_deal0, ixW_deal1, ixR_1, itemsD_l, itemsD_t, rangeP1, rangeP2, plains, plainO_none, plainO_dat, datO_none, datO_dat, setAll_nil, setAll_cons, setAW_some, setT_t,
  stR_at, stO_deal, setI, setIs, Itm.o, setD, forget_nil, forget_cons, fgO_none, fgO_dat, fgO_own, fgO_deal, wipeΓ, backΓ, argD, drs, List.all_cons, List.all_nil, Bool.and_true, List.getElem?_cons_zero, List.getElem?_cons_succ, List.set_cons_zero, List.set_cons_succ, List.length_cons, List.length_nil, Nat.zero_add, Nat.reduceAdd, Nat.reduceLeDiff, true_and, and_true, decide_eq_true_eq]
  have o0 : rooted p row roots top ≠ [] := List.length_pos_iff.mp (by omega)
  have T1 := c.h2 p row M g h0 hr (by omega) (by omega)
  have T2 := c.h2 p (rooted p row roots top) M g o0 hrr (by omega) (by omega)
  have T3 := c.h17 p (rooted p row roots top) M g o0 hrr (by omega) (by omega)
  rw [hcod] at T1
  rw [hcodr] at T2 T3
  have hF : Rs p (val p M (lag p row row.length)) := rs_val hp0 _ _
  have hFl := val_len p M (lag p row row.length)
  have hGl := val_len p M fun t => lag p row row.length t + top * pd roots t
  have hFg : ∀ a, a < M → (val p M (lag p row row.length)).getD a 0 = lag p row row.length a % p := fun a ha => val_get ha
  have hGg : ∀ a, a < M → (val p M fun t => lag p row row.length t + top * pd roots t).getD a 0 = (lag p row row.length a + top * pd roots a) % p := fun a ha => val_get ha
  have hOg : ∀ a, a < row.length → (rooted p row roots top).getD a 0 = (lag p row row.length a + top * pd roots a) % p := fun a ha => by rw [hroo]; exact val_get ha
  have hRg : ∀ a, a < row.length → row.getD a 0 = lag p row row.length a % p := fun a ha => by
    have h1 := lag_at g (row := row) (n := row.length) (by omega) hn4 ha
    have h2 := hr.get ha
    rw [h1, Int.emod_eq_of_lt h2.1 h2.2]
  have htake : (val p M (lag p row row.length)).take row.length = row := by
    have e : row = val p row.length (lag p row row.length) := hself.symm.trans hlagrow
    conv => rhs; rw [e]
    unfold val
    rw [← List.map_take, List.take_range, Nat.min_eq_left (by omega)]
  have hF0 : val p M (lag p row row.length) ≠ [] := List.length_pos_iff.mp (by omega)
  have S1 := c.h3 p (val p M (lag p row row.length)) row.length g hF0 hF (by omega) (by omega)
  rw [htake, hFl, hcod, decide_eq_true rfl] at S1
  have S2 := c.h3 p (val p M (lag p row row.length)) M g hF0 hF (by omega) (by omega)
  have hFself : cod p (val p M (lag p row row.length)) M = val p M (lag p row row.length) := by
    have := cod_self hF
    rw [hFl] at this; exact this
  rw [List.take_of_length_le (by omega), hFl, hFself, decide_eq_true rfl] at S2
  have hsum := fun l r => cod_sum (p := p) (n := row.length - 1) (F := lag p row row.length) (G := fun t => lag p row row.length t + top * pd roots t) (by rw [show row.length - 1 + 1 = row.length by omega]; exact hpolF) (by rw [show row.length - 1 + 1 = row.length by omega]; exact hpolG) l r M
  rw [show row.length - 1 + 1 = row.length by omega] at hsum
  have h3 := fun (l : List Int) k => c.h3 p l k g
  have h21 := fun (l : List Int) k => c.h21 p l k g
  have hrooR : row.length = (rooted p row roots top).length := hrool.symm
  have h2b := fun (l : List Int) => c.h2 p l M g
  clear hcodr hroo hpolF hpolG hcod hlagrow hself htake hFself hcut hzp hzl hnd hperm hval
  generalize hD1 : val p M (lag p row row.length) = due at *
  generalize hB1 : (val p M fun t => lag p row row.length t + top * pd roots t) = bes at *
  generalize hO1 : rooted p row roots top = oth_ at *
  clear hD1 hB1 hO1
  simp -implicitDefEqProofs only [T1, T2, T3, S1, S2, prm3, List.map_cons, List.map_nil, sv, ev, CO.p, BO.p, BO.ap, tv, isNop, if_true, if_false, Bool.false_eq_true, reduceIte,
  W_then, W_asg, W_disp, W_nil, W_cons, W_consA, W_consI, W_var, W_val, W_bin, W_chn, W_ix, W_un, W_optN, W_optS, W_sl, W_deal, W_blt, W_isi, W_lrg, W_call, W_prm, W_ite, W_T, W_B, W_not, W_and, W_or, W_seq, W_rng, W_app, W_pop, W_popAt, oneI_i, oneL_l, W_nx, W_drop, W_pure, W_ret, W_if, W_par, W_unp, W_sub, W_yes, W_for, W_aug', W_lc,
  wO_some, wD_some, wD_if, rdO_dat, rdO_own, rdO_deal, mv_val, mv_new, mv_at, mvO_dat, mvO_own, dr_val, dr_new, dr_at, drO_dat, drO_own, dr_at1, dr1_deal, mvA_val, mvA_new, mvA_at, mvAO_dat, mvAO_own, mvAO_deal, toItm_f, itmO_some, toItm_n, toItm_q,
  isDeal_none, isDeal_dat, isDeal_own, isDeal_deal, lstR_at, lstR_at1, lstO_own, lstO_deal, items_at, items_at1, itO_own, it1_deal, putR_at, putR_at1, putO_deal, PR_v, PR_t, PR_l, Rt_d, Rt_q, rtO_some, retR_val, retR_new, retR_newD, retR_at, exitD_none, exitD_some, dealO_deal, intO_int, toB_bl, newO_new, valO_val, thW_nx, thW_bk, thW_ct, thW_rt,
  callW_d, callW_nil, callW_ref, refW_deal, augW_dat, exV, ex1, exI, addP_i, addP_l, addP_t, addI_i, subP_i, mulP_i, mulP_0, divP_i, modP_i, powP_i, cmpP_i, eqP_i, neP_i, isP_nn, isP_in, isP_tn, isP_bn, isnP_nn, isnP_in, isnP_tn, isP_nb, isP_ib, isP_tb, isP_bb, len_l, len_t, int_i, abs_i, tup_l, tup_t, lst_l, lst_t, min_i, max_i, rev_l, neg_i, sum_l, slP_t, slP_l,
  ixP_t, ixP_l, ixR_v, ixR_n, ixR_a, ixW_own, ixW_deal0, ixW_deal1, ixR_1, itemsD_l, itemsD_t, rangeP1, rangeP2, plains, plainO_none, plainO_dat, datO_none, datO_dat, setAll_nil, setAll_cons, setAW_some, setT_t,
  stR_at, stO_deal, setI, setIs, Itm.o, setD, forget_nil, forget_cons, fgO_none, fgO_dat, fgO_own, fgO_deal, wipeΓ, backΓ, argD, drs, List.all_cons, List.all_nil, Bool.and_true, List.getElem?_cons_zero, List.getElem?_cons_succ, List.set_cons_zero, List.set_cons_succ, List.length_cons, List.length_nil, Nat.zero_add, Nat.reduceAdd, Nat.reduceLeDiff, true_and, and_true, decide_eq_true_eq]
  have L1 := c.hL [.tup (zi due), .tup (zi bes), .bl true, .bl true] (fun d hd => by
    simp -implicitDefEqProofs only [List.mem_cons, List.not_mem_nil, or_false] at hd
    rcases hd with rfl | rfl | rfl | rfl
    · exact gdB_z (by omega)
    · exact gdB_z (by omega)
    · exact gdB_b _
    · exact gdB_b _)
  have L1' : cal 9 none [.lst [.tup [.tup (zi due), .tup (zi due)], .tup [.tup (zi bes), .tup (zi bes)], .tup [.bl true, .bl true], .tup [.bl true, .bl true]]] = some (.dat (.bl true), none) := L1
  simp -implicitDefEqProofs only [L1', Bool.not_true, sv, ev, CO.p, BO.p, BO.ap, tv, isNop, if_true, if_false, Bool.false_eq_true, reduceIte,
  W_then, W_asg, W_disp, W_nil, W_cons, W_consA, W_consI, W_var, W_val, W_bin, W_chn, W_ix, W_un, W_optN, W_optS, W_sl, W_deal, W_blt, W_isi, W_lrg, W_call, W_prm, W_ite, W_T, W_B, W_not, W_and, W_or, W_seq, W_rng, W_app, W_pop, W_popAt, oneI_i, oneL_l, W_nx, W_drop, W_pure, W_ret, W_if, W_par, W_unp, W_sub, W_yes, W_for, W_aug', W_lc,
  wO_some, wD_some, wD_if, rdO_dat, rdO_own, rdO_deal, mv_val, mv_new, mv_at, mvO_dat, mvO_own, dr_val, dr_new, dr_at, drO_dat, drO_own, dr_at1, dr1_deal, mvA_val, mvA_new, mvA_at, mvAO_dat, mvAO_own, mvAO_deal, toItm_f, itmO_some, toItm_n, toItm_q,
  isDeal_none, isDeal_dat, isDeal_own, isDeal_deal, lstR_at, lstR_at1, lstO_own, lstO_deal, items_at, items_at1, itO_own, it1_deal, putR_at, putR_at1, putO_deal, PR_v, PR_t, PR_l, Rt_d, Rt_q, rtO_some, retR_val, retR_new, retR_newD, retR_at, exitD_none, exitD_some, dealO_deal, intO_int, toB_bl, newO_new, valO_val, thW_nx, thW_bk, thW_ct, thW_rt,
  callW_d, callW_nil, callW_ref, refW_deal, augW_dat, exV, ex1, exI, addP_i, addP_l, addP_t, addI_i, subP_i, mulP_i, mulP_0, divP_i, modP_i, powP_i, cmpP_i, eqP_i, neP_i, isP_nn, isP_in, isP_tn, isP_bn, isnP_nn, isnP_in, isnP_tn, isP_nb, isP_ib, isP_tb, isP_bb, len_l, len_t, int_i, abs_i, tup_l, tup_t, lst_l, lst_t, min_i, max_i, rev_l, neg_i, sum_l, slP_t, slP_l,
  ixP_t, ixP_l, ixR_v, ixR_n, ixR_a, ixW_own, ixW_deal0, ixW_deal1, ixR_1, itemsD_l, itemsD_t, rangeP1, rangeP2, plains, plainO_none, plainO_dat, datO_none, datO_dat, setAll_nil, setAll_cons, setAW_some, setT_t,
  stR_at, stO_deal, setI, setIs, Itm.o, setD, forget_nil, forget_cons, fgO_none, fgO_dat, fgO_own, fgO_deal, wipeΓ, backΓ, argD, drs, List.all_cons, List.all_nil, Bool.and_true, List.getElem?_cons_zero, List.getElem?_cons_succ, List.set_cons_zero, List.set_cons_succ, List.length_cons, List.length_nil, Nat.zero_add, Nat.reduceAdd, Nat.reduceLeDiff, true_and, and_true, decide_eq_true_eq]
  refine ⟨by omega, ?_⟩
  refine W_lcF (n := ((M : Int)).toNat) (fun t => decide ((t : Int) ∈ roots)) (by omega) ?_ ?_
  · intro t ht
    have ht : t < M := ht
    simp -implicitDefEqProofs only [atI_z (show t < due.length by omega), atI_z (show t < bes.length by omega), hFg t ht, hGg t ht, sv, ev, CO.p, BO.p, BO.ap, tv, isNop, if_true, if_false, Bool.false_eq_true, reduceIte,
  W_then, W_asg, W_disp, W_nil, W_cons, W_consA, W_consI, W_var, W_val, W_bin, W_chn, W_ix, W_un, W_optN, W_optS, W_sl, W_deal, W_blt, W_isi, W_lrg, W_call, W_prm, W_ite, W_T, W_B, W_not, W_and, W_or, W_seq, W_rng, W_app, W_pop, W_popAt, oneI_i, oneL_l, W_nx, W_drop, W_pure, W_ret, W_if, W_par, W_unp, W_sub, W_yes, W_for, W_aug', W_lc,
  wO_some, wD_some, wD_if, rdO_dat, rdO_own, rdO_deal, mv_val, mv_new, mv_at, mvO_dat, mvO_own, dr_val, dr_new, dr_at, drO_dat, drO_own, dr_at1, dr1_deal, mvA_val, mvA_new, mvA_at, mvAO_dat, mvAO_own, mvAO_deal, toItm_f, itmO_some, toItm_n, toItm_q,
  isDeal_none, isDeal_dat, isDeal_own, isDeal_deal, lstR_at, lstR_at1, lstO_own, lstO_deal, items_at, items_at1, itO_own, it1_deal, putR_at, putR_at1, putO_deal, PR_v, PR_t, PR_l, Rt_d, Rt_q, rtO_some, retR_val, retR_new, retR_newD, retR_at, exitD_none, exitD_some, dealO_deal, intO_int, toB_bl, newO_new, valO_val, thW_nx, thW_bk, thW_ct, thW_rt,
  callW_d, callW_nil, callW_ref, refW_deal, augW_dat, exV, ex1, exI, addP_i, addP_l, addP_t, addI_i, subP_i, mulP_i, mulP_0, divP_i, modP_i, powP_i, cmpP_i, eqP_i, neP_i, isP_nn, isP_in, isP_tn, isP_bn, isnP_nn, isnP_in, isnP_tn, isP_nb, isP_ib, isP_tb, isP_bb, len_l, len_t, int_i, abs_i, tup_l, tup_t, lst_l, lst_t, min_i, max_i, rev_l, neg_i, sum_l, slP_t, slP_l,
  ixP_t, ixP_l, ixR_v, ixR_n, ixR_a, ixW_own, ixW_deal0, ixW_deal1, ixR_1, itemsD_l, itemsD_t, rangeP1, rangeP2, plains, plainO_none, plainO_dat, datO_none, datO_dat, setAll_nil, setAll_cons, setAW_some, setT_t,
  stR_at, stO_deal, setI, setIs, Itm.o, setD, forget_nil, forget_cons, fgO_none, fgO_dat, fgO_own, fgO_deal, wipeΓ, backΓ, argD, drs, List.all_cons, List.all_nil, Bool.and_true, List.getElem?_cons_zero, List.getElem?_cons_succ, List.set_cons_zero, List.set_cons_succ, List.length_cons, List.length_nil, Nat.zero_add, Nat.reduceAdd, Nat.reduceLeDiff, true_and, and_true, decide_eq_true_eq]
    refine ⟨?_, ?_⟩
    · rw [decide_eq_decide]; exact halike t ht
    · split <;> trivial
  rw [Int.toNat_natCast]
  have hfilt : ((List.range M).filter fun t : Nat => decide ((t : Int) ∈ roots)).map (fun t : Nat => (t : Int)) = roots := by
    rw [hsf]
    congr 1
    refine List.filter_congr fun t _ => ?_
    rw [decide_eq_decide, ← hsf]
    exact hsm t
  have hne : (!decide (roots = roots)) = false := by simp
  simp -implicitDefEqProofs only [hfilt, neP_zl, hne, sv, ev, CO.p, BO.p, BO.ap, tv, isNop, if_true, if_false, Bool.false_eq_true, reduceIte,
  W_then, W_asg, W_disp, W_nil, W_cons, W_consA, W_consI, W_var, W_val, W_bin, W_chn, W_ix, W_un, W_optN, W_optS, W_sl, W_deal, W_blt, W_isi, W_lrg, W_call, W_prm, W_ite, W_T, W_B, W_not, W_and, W_or, W_seq, W_rng, W_app, W_pop, W_popAt, oneI_i, oneL_l, W_nx, W_drop, W_pure, W_ret, W_if, W_par, W_unp, W_sub, W_yes, W_for, W_aug', W_lc,
  wO_some, wD_some, wD_if, rdO_dat, rdO_own, rdO_deal, mv_val, mv_new, mv_at, mvO_dat, mvO_own, dr_val, dr_new, dr_at, drO_dat, drO_own, dr_at1, dr1_deal, mvA_val, mvA_new, mvA_at, mvAO_dat, mvAO_own, mvAO_deal, toItm_f, itmO_some, toItm_n, toItm_q,
  isDeal_none, isDeal_dat, isDeal_own, isDeal_deal, lstR_at, lstR_at1, lstO_own, lstO_deal, items_at, items_at1, itO_own, it1_deal, putR_at, putR_at1, putO_deal, PR_v, PR_t, PR_l, Rt_d, Rt_q, rtO_some, retR_val, retR_new, retR_newD, retR_at, exitD_none, exitD_some, dealO_deal, intO_int, toB_bl, newO_new, valO_val, thW_nx, thW_bk, thW_ct, thW_rt,
  callW_d, callW_nil, callW_ref, refW_deal, augW_dat, exV, ex1, exI, addP_i, addP_l, addP_t, addI_i, subP_i, mulP_i, mulP_0, divP_i, modP_i, powP_i, cmpP_i, eqP_i, neP_i, isP_nn, isP_in, isP_tn, isP_bn, isnP_nn, isnP_in, isnP_tn, isP_nb, isP_ib, isP_tb, isP_bb, len_l, len_t, int_i, abs_i, tup_l, tup_t, lst_l, lst_t, min_i, max_i, rev_l, neg_i, sum_l, slP_t, slP_l,
  ixP_t, ixP_l, ixR_v, ixR_n, ixR_a, ixW_own, ixW_deal0, ixW_deal1, ixR_1, itemsD_l, itemsD_t, rangeP1, rangeP2, plains, plainO_none, plainO_dat, datO_none, datO_dat, setAll_nil, setAll_cons, setAW_some, setT_t,
  stR_at, stO_deal, setI, setIs, Itm.o, setD, forget_nil, forget_cons, fgO_none, fgO_dat, fgO_own, fgO_deal, wipeΓ, backΓ, argD, drs, List.all_cons, List.all_nil, Bool.and_true, List.getElem?_cons_zero, List.getElem?_cons_succ, List.set_cons_zero, List.set_cons_succ, List.length_cons, List.length_nil, Nat.zero_add, Nat.reduceAdd, Nat.reduceLeDiff, true_and, and_true, decide_eq_true_eq]
  refine wO.mono (c.hA cs m (M : Int) hl (by omega) (by omega)) ?_
  rintro _ _ ⟨sp, cs, m, rfl, hsp, rfl, hl⟩
  have hsp : sp < M := by omega
  simp -implicitDefEqProofs only [atI_z (show sp < due.length by omega), sv, ev, CO.p, BO.p, BO.ap, tv, isNop, if_true, if_false, Bool.false_eq_true, reduceIte,
  W_then, W_asg, W_disp, W_nil, W_cons, W_consA, W_consI, W_var, W_val, W_bin, W_chn, W_ix, W_un, W_optN, W_optS, W_sl, W_deal, W_blt, W_isi, W_lrg, W_call, W_prm, W_ite, W_T, W_B, W_not, W_and, W_or, W_seq, W_rng, W_app, W_pop, W_popAt, oneI_i, oneL_l, W_nx, W_drop, W_pure, W_ret, W_if, W_par, W_unp, W_sub, W_yes, W_for, W_aug', W_lc,
  wO_some, wD_some, wD_if, rdO_dat, rdO_own, rdO_deal, mv_val, mv_new, mv_at, mvO_dat, mvO_own, dr_val, dr_new, dr_at, drO_dat, drO_own, dr_at1, dr1_deal, mvA_val, mvA_new, mvA_at, mvAO_dat, mvAO_own, mvAO_deal, toItm_f, itmO_some, toItm_n, toItm_q,
  isDeal_none, isDeal_dat, isDeal_own, isDeal_deal, lstR_at, lstR_at1, lstO_own, lstO_deal, items_at, items_at1, itO_own, it1_deal, putR_at, putR_at1, putO_deal, PR_v, PR_t, PR_l, Rt_d, Rt_q, rtO_some, retR_val, retR_new, retR_newD, retR_at, exitD_none, exitD_some, dealO_deal, intO_int, toB_bl, newO_new, valO_val, thW_nx, thW_bk, thW_ct, thW_rt,
  callW_d, callW_nil, callW_ref, refW_deal, augW_dat, exV, ex1, exI, addP_i, addP_l, addP_t, addI_i, subP_i, mulP_i, mulP_0, divP_i, modP_i, powP_i, cmpP_i, eqP_i, neP_i, isP_nn, isP_in, isP_tn, isP_bn, isnP_nn, isnP_in, isnP_tn, isP_nb, isP_ib, isP_tb, isP_bb, len_l, len_t, int_i, abs_i, tup_l, tup_t, lst_l, lst_t, min_i, max_i, rev_l, neg_i, sum_l, slP_t, slP_l,
  ixP_t, ixP_l, ixR_v, ixR_n, ixR_a, ixW_own, ixW_deal0, ixW_deal1, ixR_1, itemsD_l, itemsD_t, rangeP1, rangeP2, plains, plainO_none, plainO_dat, datO_none, datO_dat, setAll_nil, setAll_cons, setAW_some, setT_t,
  stR_at, stO_deal, setI, setIs, Itm.o, setD, forget_nil, forget_cons, fgO_none, fgO_dat, fgO_own, fgO_deal, wipeΓ, backΓ, argD, drs, List.all_cons, List.all_nil, Bool.and_true, List.getElem?_cons_zero, List.getElem?_cons_succ, List.set_cons_zero, List.set_cons_succ, List.length_cons, List.length_nil, Nat.zero_add, Nat.reduceAdd, Nat.reduceLeDiff, true_and, and_true, decide_eq_true_eq]
  refine wO.mono (c.hA cs m (p - 1) hl (by omega) (by omega)) ?_
  rintro _ _ ⟨v4, cs, m, rfl, hv4, rfl, hl⟩
  simp -implicitDefEqProofs only [sv, ev, CO.p, BO.p, BO.ap, tv, isNop, if_true, if_false, Bool.false_eq_true, reduceIte,
  W_then, W_asg, W_disp, W_nil, W_cons, W_consA, W_consI, W_var, W_val, W_bin, W_chn, W_ix, W_un, W_optN, W_optS, W_sl, W_deal, W_blt, W_isi, W_lrg, W_call, W_prm, W_ite, W_T, W_B, W_not, W_and, W_or, W_seq, W_rng, W_app, W_pop, W_popAt, oneI_i, oneL_l, W_nx, W_drop, W_pure, W_ret, W_if, W_par, W_unp, W_sub, W_yes, W_for, W_aug', W_lc,
  wO_some, wD_some, wD_if, rdO_dat, rdO_own, rdO_deal, mv_val, mv_new, mv_at, mvO_dat, mvO_own, dr_val, dr_new, dr_at, drO_dat, drO_own, dr_at1, dr1_deal, mvA_val, mvA_new, mvA_at, mvAO_dat, mvAO_own, mvAO_deal, toItm_f, itmO_some, toItm_n, toItm_q,
  isDeal_none, isDeal_dat, isDeal_own, isDeal_deal, lstR_at, lstR_at1, lstO_own, lstO_deal, items_at, items_at1, itO_own, it1_deal, putR_at, putR_at1, putO_deal, PR_v, PR_t, PR_l, Rt_d, Rt_q, rtO_some, retR_val, retR_new, retR_newD, retR_at, exitD_none, exitD_some, dealO_deal, intO_int, toB_bl, newO_new, valO_val, thW_nx, thW_bk, thW_ct, thW_rt,
  callW_d, callW_nil, callW_ref, refW_deal, augW_dat, exV, ex1, exI, addP_i, addP_l, addP_t, addI_i, subP_i, mulP_i, mulP_0, divP_i, modP_i, powP_i, cmpP_i, eqP_i, neP_i, isP_nn, isP_in, isP_tn, isP_bn, isnP_nn, isnP_in, isnP_tn, isP_nb, isP_ib, isP_tb, isP_bb, len_l, len_t, int_i, abs_i, tup_l, tup_t, lst_l, lst_t, min_i, max_i, rev_l, neg_i, sum_l, slP_t, slP_l,
  ixP_t, ixP_l, ixR_v, ixR_n, ixR_a, ixW_own, ixW_deal0, ixW_deal1, ixR_1, itemsD_l, itemsD_t, rangeP1, rangeP2, plains, plainO_none, plainO_dat, datO_none, datO_dat, setAll_nil, setAll_cons, setAW_some, setT_t,
  stR_at, stO_deal, setI, setIs, Itm.o, setD, forget_nil, forget_cons, fgO_none, fgO_dat, fgO_own, fgO_deal, wipeΓ, backΓ, argD, drs, List.all_cons, List.all_nil, Bool.and_true, List.getElem?_cons_zero, List.getElem?_cons_succ, List.set_cons_zero, List.set_cons_succ, List.length_cons, List.length_nil, Nat.zero_add, Nat.reduceAdd, Nat.reduceLeDiff, true_and, and_true, decide_eq_true_eq]
  refine ⟨hp0, ?_⟩
  have hx : 0 ≤ (due.getD sp 0 + 1 + (v4 : Int)) % p ∧ (due.getD sp 0 + 1 + (v4 : Int)) % p < p := ⟨Int.emod_nonneg _ (by omega), Int.emod_lt_of_pos _ hp0⟩
  generalize (due.getD sp 0 + 1 + (v4 : Int)) % p = x at *
  have hB := rs_set hF sp hx
  have hBl : (due.set sp x).length = M := by rw [List.length_set]; exact hFl
  simp -implicitDefEqProofs only [c.h14 (zi due) sp (.int x) (by rw [zl]; omega) (by rw [zl]; omega), set_zi, sv, ev, CO.p, BO.p, BO.ap, tv, isNop, if_true, if_false, Bool.false_eq_true, reduceIte,
  W_then, W_asg, W_disp, W_nil, W_cons, W_consA, W_consI, W_var, W_val, W_bin, W_chn, W_ix, W_un, W_optN, W_optS, W_sl, W_deal, W_blt, W_isi, W_lrg, W_call, W_prm, W_ite, W_T, W_B, W_not, W_and, W_or, W_seq, W_rng, W_app, W_pop, W_popAt, oneI_i, oneL_l, W_nx, W_drop, W_pure, W_ret, W_if, W_par, W_unp, W_sub, W_yes, W_for, W_aug', W_lc,
  wO_some, wD_some, wD_if, rdO_dat, rdO_own, rdO_deal, mv_val, mv_new, mv_at, mvO_dat, mvO_own, dr_val, dr_new, dr_at, drO_dat, drO_own, dr_at1, dr1_deal, mvA_val, mvA_new, mvA_at, mvAO_dat, mvAO_own, mvAO_deal, toItm_f, itmO_some, toItm_n, toItm_q,
  isDeal_none, isDeal_dat, isDeal_own, isDeal_deal, lstR_at, lstR_at1, lstO_own, lstO_deal, items_at, items_at1, itO_own, it1_deal, putR_at, putR_at1, putO_deal, PR_v, PR_t, PR_l, Rt_d, Rt_q, rtO_some, retR_val, retR_new, retR_newD, retR_at, exitD_none, exitD_some, dealO_deal, intO_int, toB_bl, newO_new, valO_val, thW_nx, thW_bk, thW_ct, thW_rt,
  callW_d, callW_nil, callW_ref, refW_deal, augW_dat, exV, ex1, exI, addP_i, addP_l, addP_t, addI_i, subP_i, mulP_i, mulP_0, divP_i, modP_i, powP_i, cmpP_i, eqP_i, neP_i, isP_nn, isP_in, isP_tn, isP_bn, isnP_nn, isnP_in, isnP_tn, isP_nb, isP_ib, isP_tb, isP_bb, len_l, len_t, int_i, abs_i, tup_l, tup_t, lst_l, lst_t, min_i, max_i, rev_l, neg_i, sum_l, slP_t, slP_l,
  ixP_t, ixP_l, ixR_v, ixR_n, ixR_a, ixW_own, ixW_deal0, ixW_deal1, ixR_1, itemsD_l, itemsD_t, rangeP1, rangeP2, plains, plainO_none, plainO_dat, datO_none, datO_dat, setAll_nil, setAll_cons, setAW_some, setT_t,
  stR_at, stO_deal, setI, setIs, Itm.o, setD, forget_nil, forget_cons, fgO_none, fgO_dat, fgO_own, fgO_deal, wipeΓ, backΓ, argD, drs, List.all_cons, List.all_nil, Bool.and_true, List.getElem?_cons_zero, List.getElem?_cons_succ, List.set_cons_zero, List.set_cons_succ, List.length_cons, List.length_nil, Nat.zero_add, Nat.reduceAdd, Nat.reduceLeDiff, true_and, and_true, decide_eq_true_eq]
  generalize due.set sp x = bent at *
  have hB0 : bent ≠ [] := List.length_pos_iff.mp (by omega)
  refine wO.mono (c.hA cs m (M : Int) hl (by omega) (by omega)) ?_
  rintro _ _ ⟨v5, cs, m, rfl, hv5, rfl, hl⟩
  simp -implicitDefEqProofs only [sv, ev, CO.p, BO.p, BO.ap, tv, isNop, if_true, if_false, Bool.false_eq_true, reduceIte,
  W_then, W_asg, W_disp, W_nil, W_cons, W_consA, W_consI, W_var, W_val, W_bin, W_chn, W_ix, W_un, W_optN, W_optS, W_sl, W_deal, W_blt, W_isi, W_lrg, W_call, W_prm, W_ite, W_T, W_B, W_not, W_and, W_or, W_seq, W_rng, W_app, W_pop, W_popAt, oneI_i, oneL_l, W_nx, W_drop, W_pure, W_ret, W_if, W_par, W_unp, W_sub, W_yes, W_for, W_aug', W_lc,
  wO_some, wD_some, wD_if, rdO_dat, rdO_own, rdO_deal, mv_val, mv_new, mv_at, mvO_dat, mvO_own, dr_val, dr_new, dr_at, drO_dat, drO_own, dr_at1, dr1_deal, mvA_val, mvA_new, mvA_at, mvAO_dat, mvAO_own, mvAO_deal, toItm_f, itmO_some, toItm_n, toItm_q,
  isDeal_none, isDeal_dat, isDeal_own, isDeal_deal, lstR_at, lstR_at1, lstO_own, lstO_deal, items_at, items_at1, itO_own, it1_deal, putR_at, putR_at1, putO_deal, PR_v, PR_t, PR_l, Rt_d, Rt_q, rtO_some, retR_val, retR_new, retR_newD, retR_at, exitD_none, exitD_some, dealO_deal, intO_int, toB_bl, newO_new, valO_val, thW_nx, thW_bk, thW_ct, thW_rt,
  callW_d, callW_nil, callW_ref, refW_deal, augW_dat, exV, ex1, exI, addP_i, addP_l, addP_t, addI_i, subP_i, mulP_i, mulP_0, divP_i, modP_i, powP_i, cmpP_i, eqP_i, neP_i, isP_nn, isP_in, isP_tn, isP_bn, isnP_nn, isnP_in, isnP_tn, isP_nb, isP_ib, isP_tb, isP_bb, len_l, len_t, int_i, abs_i, tup_l, tup_t, lst_l, lst_t, min_i, max_i, rev_l, neg_i, sum_l, slP_t, slP_l,
  ixP_t, ixP_l, ixR_v, ixR_n, ixR_a, ixW_own, ixW_deal0, ixW_deal1, ixR_1, itemsD_l, itemsD_t, rangeP1, rangeP2, plains, plainO_none, plainO_dat, datO_none, datO_dat, setAll_nil, setAll_cons, setAW_some, setT_t,
  stR_at, stO_deal, setI, setIs, Itm.o, setD, forget_nil, forget_cons, fgO_none, fgO_dat, fgO_own, fgO_deal, wipeΓ, backΓ, argD, drs, List.all_cons, List.all_nil, Bool.and_true, List.getElem?_cons_zero, List.getElem?_cons_succ, List.set_cons_zero, List.set_cons_succ, List.length_cons, List.length_nil, Nat.zero_add, Nat.reduceAdd, Nat.reduceLeDiff, true_and, and_true, decide_eq_true_eq]
  have hks : ∀ d ∈ [D.int (row.length : Nat), D.int 1, D.int (M : Nat), D.int (1 + (v5 : Int))], ∃ k : Nat, 1 ≤ k ∧ d = .int k := by
    intro d hd
    simp -implicitDefEqProofs only [List.mem_cons, List.not_mem_nil, or_false] at hd
    rcases hd with rfl | rfl | rfl | rfl
    · exact ⟨row.length, by omega, rfl⟩
    · exact ⟨1, by omega, rfl⟩
    · exact ⟨M, by omega, rfl⟩
    · exact ⟨1 + v5, by omega, by rw [Int.natCast_add]; rfl⟩
  generalize hq : [D.int (row.length : Nat), D.int 1, D.int (M : Nat), D.int (1 + (v5 : Int))] = ks at *
  have hkl : ks.length = 4 := by rw [← hq]; rfl
  clear hq
  refine W_forL (fun i Γ => ∃ es : List D, Γ = [some (.dat (.scr ns)), some (.deal (zi cs) (.int m)), some (.dat (.int p)), some (.dat (.int row.length)), some (.dat (.int M)), some (.dat (.tup (zi row))), some (.dat (.lst (zi (shares p row.length)))), some (.dat (.tup (zi due))), none, some (.dat (.lst (zi roots))), some (.dat (.tup (zi oth_))), some (.dat (.tup (zi due))), some (.dat (.tup (zi bes))), some (.dat (.lst (dbl es))), some (.dat (.int sp)), some (.dat (.tup (zi bent))), none, none, none, none, none] ∧ (∀ d ∈ es, gdB d) ∧ es.length ≤ 4 + 2 * i ∧ i ≤ 4) ⟨[.tup (zi due), .tup (zi bes), .bl true, .bl true], rfl, ?_, Nat.le_refl 4, by decide⟩ ?_ ?_
  · intro d hd
    simp -implicitDefEqProofs only [List.mem_cons, List.not_mem_nil, or_false] at hd
    rcases hd with rfl | rfl | rfl | rfl
    · exact gdB_z (by omega)
    · exact gdB_z (by omega)
    · exact gdB_b _
    · exact gdB_b _
  · rintro i d Γ hd ⟨es, rfl, hes, hel, hi⟩
    obtain ⟨k, hk, rfl⟩ := hks d (List.mem_of_getElem? hd)
    have hi : i < 4 := by
      rcases Nat.lt_or_ge i 4 with h | h
      · exact h
      · rw [List.getElem?_eq_none (by omega)] at hd; cases hd
    have led : (dbl es).length = es.length := List.length_map _
    simp -implicitDefEqProofs only [h3 bent k hB0 hB (by omega) hk, h21 bent k hB0 hB (by omega) hk, h3 due k hF0 hF (by omega) hk, h21 due k hF0 hF (by omega) hk, led, sv, ev, CO.p, BO.p, BO.ap, tv, isNop, if_true, if_false, Bool.false_eq_true, reduceIte,
  W_then, W_asg, W_disp, W_nil, W_cons, W_consA, W_consI, W_var, W_val, W_bin, W_chn, W_ix, W_un, W_optN, W_optS, W_sl, W_deal, W_blt, W_isi, W_lrg, W_call, W_prm, W_ite, W_T, W_B, W_not, W_and, W_or, W_seq, W_rng, W_app, W_pop, W_popAt, oneI_i, oneL_l, W_nx, W_drop, W_pure, W_ret, W_if, W_par, W_unp, W_sub, W_yes, W_for, W_aug', W_lc,
  wO_some, wD_some, wD_if, rdO_dat, rdO_own, rdO_deal, mv_val, mv_new, mv_at, mvO_dat, mvO_own, dr_val, dr_new, dr_at, drO_dat, drO_own, dr_at1, dr1_deal, mvA_val, mvA_new, mvA_at, mvAO_dat, mvAO_own, mvAO_deal, toItm_f, itmO_some, toItm_n, toItm_q,
  isDeal_none, isDeal_dat, isDeal_own, isDeal_deal, lstR_at, lstR_at1, lstO_own, lstO_deal, items_at, items_at1, itO_own, it1_deal, putR_at, putR_at1, putO_deal, PR_v, PR_t, PR_l, Rt_d, Rt_q, rtO_some, retR_val, retR_new, retR_newD, retR_at, exitD_none, exitD_some, dealO_deal, intO_int, toB_bl, newO_new, valO_val, thW_nx, thW_bk, thW_ct, thW_rt,
  callW_d, callW_nil, callW_ref, refW_deal, augW_dat, exV, ex1, exI, addP_i, addP_l, addP_t, addI_i, subP_i, mulP_i, mulP_0, divP_i, modP_i, powP_i, cmpP_i, eqP_i, neP_i, isP_nn, isP_in, isP_tn, isP_bn, isnP_nn, isnP_in, isnP_tn, isP_nb, isP_ib, isP_tb, isP_bb, len_l, len_t, int_i, abs_i, tup_l, tup_t, lst_l, lst_t, min_i, max_i, rev_l, neg_i, sum_l, slP_t, slP_l,
  ixP_t, ixP_l, ixR_v, ixR_n, ixR_a, ixW_own, ixW_deal0, ixW_deal1, ixR_1, itemsD_l, itemsD_t, rangeP1, rangeP2, plains, plainO_none, plainO_dat, datO_none, datO_dat, setAll_nil, setAll_cons, setAW_some, setT_t,
  stR_at, stO_deal, setI, setIs, Itm.o, setD, forget_nil, forget_cons, fgO_none, fgO_dat, fgO_own, fgO_deal, wipeΓ, backΓ, argD, drs, List.all_cons, List.all_nil, Bool.and_true, List.getElem?_cons_zero, List.getElem?_cons_succ, List.set_cons_zero, List.set_cons_succ, List.length_cons, List.length_nil, Nat.zero_add, Nat.reduceAdd, Nat.reduceLeDiff, true_and, and_true, decide_eq_true_eq]
    refine ⟨by omega, es ++ [.bl (decide (cod p (bent.take k) bent.length = bent)), .bl (decide (cod p (due.take k) due.length = due))], by rw [show dbl (es ++ [D.bl (decide (cod p (bent.take k) bent.length = bent)), D.bl (decide (cod p (due.take k) due.length = due))]) = dbl es ++ dbl [D.bl (decide (cod p (bent.take k) bent.length = bent)), D.bl (decide (cod p (due.take k) due.length = due))] from List.map_append]; rfl, ?_, by rw [List.length_append]; simp -implicitDefEqProofs only [List.length_cons, List.length_nil]; omega, by omega⟩
    intro d hd
    simp -implicitDefEqProofs only [List.mem_append, List.mem_cons, List.not_mem_nil, or_false] at hd
    rcases hd with hd | rfl | rfl
    · exact hes d hd
    · exact gdB_b _
    · exact gdB_b _
  · rintro Γ ⟨es, rfl, hes, hel, hi⟩
    rw [hkl] at hel
    simp -implicitDefEqProofs only [sv, ev, CO.p, BO.p, BO.ap, tv, isNop, if_true, if_false, Bool.false_eq_true, reduceIte,
  W_then, W_asg, W_disp, W_nil, W_cons, W_consA, W_consI, W_var, W_val, W_bin, W_chn, W_ix, W_un, W_optN, W_optS, W_sl, W_deal, W_blt, W_isi, W_lrg, W_call, W_prm, W_ite, W_T, W_B, W_not, W_and, W_or, W_seq, W_rng, W_app, W_pop, W_popAt, oneI_i, oneL_l, W_nx, W_drop, W_pure, W_ret, W_if, W_par, W_unp, W_sub, W_yes, W_for, W_aug', W_lc,
  wO_some, wD_some, wD_if, rdO_dat, rdO_own, rdO_deal, mv_val, mv_new, mv_at, mvO_dat, mvO_own, dr_val, dr_new, dr_at, drO_dat, drO_own, dr_at1, dr1_deal, mvA_val, mvA_new, mvA_at, mvAO_dat, mvAO_own, mvAO_deal, toItm_f, itmO_some, toItm_n, toItm_q,
  isDeal_none, isDeal_dat, isDeal_own, isDeal_deal, lstR_at, lstR_at1, lstO_own, lstO_deal, items_at, items_at1, itO_own, it1_deal, putR_at, putR_at1, putO_deal, PR_v, PR_t, PR_l, Rt_d, Rt_q, rtO_some, retR_val, retR_new, retR_newD, retR_at, exitD_none, exitD_some, dealO_deal, intO_int, toB_bl, newO_new, valO_val, thW_nx, thW_bk, thW_ct, thW_rt,
  callW_d, callW_nil, callW_ref, refW_deal, augW_dat, exV, ex1, exI, addP_i, addP_l, addP_t, addI_i, subP_i, mulP_i, mulP_0, divP_i, modP_i, powP_i, cmpP_i, eqP_i, neP_i, isP_nn, isP_in, isP_tn, isP_bn, isnP_nn, isnP_in, isnP_tn, isP_nb, isP_ib, isP_tb, isP_bb, len_l, len_t, int_i, abs_i, tup_l, tup_t, lst_l, lst_t, min_i, max_i, rev_l, neg_i, sum_l, slP_t, slP_l,
  ixP_t, ixP_l, ixR_v, ixR_n, ixR_a, ixW_own, ixW_deal0, ixW_deal1, ixR_1, itemsD_l, itemsD_t, rangeP1, rangeP2, plains, plainO_none, plainO_dat, datO_none, datO_dat, setAll_nil, setAll_cons, setAW_some, setT_t,
  stR_at, stO_deal, setI, setIs, Itm.o, setD, forget_nil, forget_cons, fgO_none, fgO_dat, fgO_own, fgO_deal, wipeΓ, backΓ, argD, drs, List.all_cons, List.all_nil, Bool.and_true, List.getElem?_cons_zero, List.getElem?_cons_succ, List.set_cons_zero, List.set_cons_succ, List.length_cons, List.length_nil, Nat.zero_add, Nat.reduceAdd, Nat.reduceLeDiff, true_and, and_true, decide_eq_true_eq]
    refine wO.mono (c.hR cs m p hl hlo hhi) ?_
    rintro _ _ ⟨a, cs, m, rfl, ha, rfl, hl⟩
    simp -implicitDefEqProofs only [sv, ev, CO.p, BO.p, BO.ap, tv, isNop, if_true, if_false, Bool.false_eq_true, reduceIte,
  W_then, W_asg, W_disp, W_nil, W_cons, W_consA, W_consI, W_var, W_val, W_bin, W_chn, W_ix, W_un, W_optN, W_optS, W_sl, W_deal, W_blt, W_isi, W_lrg, W_call, W_prm, W_ite, W_T, W_B, W_not, W_and, W_or, W_seq, W_rng, W_app, W_pop, W_popAt, oneI_i, oneL_l, W_nx, W_drop, W_pure, W_ret, W_if, W_par, W_unp, W_sub, W_yes, W_for, W_aug', W_lc,
  wO_some, wD_some, wD_if, rdO_dat, rdO_own, rdO_deal, mv_val, mv_new, mv_at, mvO_dat, mvO_own, dr_val, dr_new, dr_at, drO_dat, drO_own, dr_at1, dr1_deal, mvA_val, mvA_new, mvA_at, mvAO_dat, mvAO_own, mvAO_deal, toItm_f, itmO_some, toItm_n, toItm_q,
  isDeal_none, isDeal_dat, isDeal_own, isDeal_deal, lstR_at, lstR_at1, lstO_own, lstO_deal, items_at, items_at1, itO_own, it1_deal, putR_at, putR_at1, putO_deal, PR_v, PR_t, PR_l, Rt_d, Rt_q, rtO_some, retR_val, retR_new, retR_newD, retR_at, exitD_none, exitD_some, dealO_deal, intO_int, toB_bl, newO_new, valO_val, thW_nx, thW_bk, thW_ct, thW_rt,
  callW_d, callW_nil, callW_ref, refW_deal, augW_dat, exV, ex1, exI, addP_i, addP_l, addP_t, addI_i, subP_i, mulP_i, mulP_0, divP_i, modP_i, powP_i, cmpP_i, eqP_i, neP_i, isP_nn, isP_in, isP_tn, isP_bn, isnP_nn, isnP_in, isnP_tn, isP_nb, isP_ib, isP_tb, isP_bb, len_l, len_t, int_i, abs_i, tup_l, tup_t, lst_l, lst_t, min_i, max_i, rev_l, neg_i, sum_l, slP_t, slP_l,
  ixP_t, ixP_l, ixR_v, ixR_n, ixR_a, ixW_own, ixW_deal0, ixW_deal1, ixR_1, itemsD_l, itemsD_t, rangeP1, rangeP2, plains, plainO_none, plainO_dat, datO_none, datO_dat, setAll_nil, setAll_cons, setAW_some, setT_t,
  stR_at, stO_deal, setI, setIs, Itm.o, setD, forget_nil, forget_cons, fgO_none, fgO_dat, fgO_own, fgO_deal, wipeΓ, backΓ, argD, drs, List.all_cons, List.all_nil, Bool.and_true, List.getElem?_cons_zero, List.getElem?_cons_succ, List.set_cons_zero, List.set_cons_succ, List.length_cons, List.length_nil, Nat.zero_add, Nat.reduceAdd, Nat.reduceLeDiff, true_and, and_true, decide_eq_true_eq]
    refine wO.mono (c.hR cs m p hl hlo hhi) ?_
    rintro _ _ ⟨b, cs, m, rfl, hb, rfl, hl⟩
    simp -implicitDefEqProofs only [sv, ev, CO.p, BO.p, BO.ap, tv, isNop, if_true, if_false, Bool.false_eq_true, reduceIte,
  W_then, W_asg, W_disp, W_nil, W_cons, W_consA, W_consI, W_var, W_val, W_bin, W_chn, W_ix, W_un, W_optN, W_optS, W_sl, W_deal, W_blt, W_isi, W_lrg, W_call, W_prm, W_ite, W_T, W_B, W_not, W_and, W_or, W_seq, W_rng, W_app, W_pop, W_popAt, oneI_i, oneL_l, W_nx, W_drop, W_pure, W_ret, W_if, W_par, W_unp, W_sub, W_yes, W_for, W_aug', W_lc,
  wO_some, wD_some, wD_if, rdO_dat, rdO_own, rdO_deal, mv_val, mv_new, mv_at, mvO_dat, mvO_own, dr_val, dr_new, dr_at, drO_dat, drO_own, dr_at1, dr1_deal, mvA_val, mvA_new, mvA_at, mvAO_dat, mvAO_own, mvAO_deal, toItm_f, itmO_some, toItm_n, toItm_q,
  isDeal_none, isDeal_dat, isDeal_own, isDeal_deal, lstR_at, lstR_at1, lstO_own, lstO_deal, items_at, items_at1, itO_own, it1_deal, putR_at, putR_at1, putO_deal, PR_v, PR_t, PR_l, Rt_d, Rt_q, rtO_some, retR_val, retR_new, retR_newD, retR_at, exitD_none, exitD_some, dealO_deal, intO_int, toB_bl, newO_new, valO_val, thW_nx, thW_bk, thW_ct, thW_rt,
  callW_d, callW_nil, callW_ref, refW_deal, augW_dat, exV, ex1, exI, addP_i, addP_l, addP_t, addI_i, subP_i, mulP_i, mulP_0, divP_i, modP_i, powP_i, cmpP_i, eqP_i, neP_i, isP_nn, isP_in, isP_tn, isP_bn, isnP_nn, isnP_in, isnP_tn, isP_nb, isP_ib, isP_tb, isP_bb, len_l, len_t, int_i, abs_i, tup_l, tup_t, lst_l, lst_t, min_i, max_i, rev_l, neg_i, sum_l, slP_t, slP_l,
  ixP_t, ixP_l, ixR_v, ixR_n, ixR_a, ixW_own, ixW_deal0, ixW_deal1, ixR_1, itemsD_l, itemsD_t, rangeP1, rangeP2, plains, plainO_none, plainO_dat, datO_none, datO_dat, setAll_nil, setAll_cons, setAW_some, setT_t,
  stR_at, stO_deal, setI, setIs, Itm.o, setD, forget_nil, forget_cons, fgO_none, fgO_dat, fgO_own, fgO_deal, wipeΓ, backΓ, argD, drs, List.all_cons, List.all_nil, Bool.and_true, List.getElem?_cons_zero, List.getElem?_cons_succ, List.set_cons_zero, List.set_cons_succ, List.length_cons, List.length_nil, Nat.zero_add, Nat.reduceAdd, Nat.reduceLeDiff, true_and, and_true, decide_eq_true_eq]
    refine ⟨by omega, ?_⟩
    refine W_lcR (n := ((row.length : Int)).toNat) (fun t => D.int ((a * (lag p row row.length t % p) + b * ((lag p row row.length t + top * pd roots t) % p)) % p)) (by omega) ?_ ?_
    · intro t ht
      have ht : t < row.length := ht
      simp -implicitDefEqProofs only [atI_z ht, atI_z (show t < oth_.length by omega), hRg t ht, hOg t ht, sv, ev, CO.p, BO.p, BO.ap, tv, isNop, if_true, if_false, Bool.false_eq_true, reduceIte,
  W_then, W_asg, W_disp, W_nil, W_cons, W_consA, W_consI, W_var, W_val, W_bin, W_chn, W_ix, W_un, W_optN, W_optS, W_sl, W_deal, W_blt, W_isi, W_lrg, W_call, W_prm, W_ite, W_T, W_B, W_not, W_and, W_or, W_seq, W_rng, W_app, W_pop, W_popAt, oneI_i, oneL_l, W_nx, W_drop, W_pure, W_ret, W_if, W_par, W_unp, W_sub, W_yes, W_for, W_aug', W_lc,
  wO_some, wD_some, wD_if, rdO_dat, rdO_own, rdO_deal, mv_val, mv_new, mv_at, mvO_dat, mvO_own, dr_val, dr_new, dr_at, drO_dat, drO_own, dr_at1, dr1_deal, mvA_val, mvA_new, mvA_at, mvAO_dat, mvAO_own, mvAO_deal, toItm_f, itmO_some, toItm_n, toItm_q,
  isDeal_none, isDeal_dat, isDeal_own, isDeal_deal, lstR_at, lstR_at1, lstO_own, lstO_deal, items_at, items_at1, itO_own, it1_deal, putR_at, putR_at1, putO_deal, PR_v, PR_t, PR_l, Rt_d, Rt_q, rtO_some, retR_val, retR_new, retR_newD, retR_at, exitD_none, exitD_some, dealO_deal, intO_int, toB_bl, newO_new, valO_val, thW_nx, thW_bk, thW_ct, thW_rt,
  callW_d, callW_nil, callW_ref, refW_deal, augW_dat, exV, ex1, exI, addP_i, addP_l, addP_t, addI_i, subP_i, mulP_i, mulP_0, divP_i, modP_i, powP_i, cmpP_i, eqP_i, neP_i, isP_nn, isP_in, isP_tn, isP_bn, isnP_nn, isnP_in, isnP_tn, isP_nb, isP_ib, isP_tb, isP_bb, len_l, len_t, int_i, abs_i, tup_l, tup_t, lst_l, lst_t, min_i, max_i, rev_l, neg_i, sum_l, slP_t, slP_l,
  ixP_t, ixP_l, ixR_v, ixR_n, ixR_a, ixW_own, ixW_deal0, ixW_deal1, ixR_1, itemsD_l, itemsD_t, rangeP1, rangeP2, plains, plainO_none, plainO_dat, datO_none, datO_dat, setAll_nil, setAll_cons, setAW_some, setT_t,
  stR_at, stO_deal, setI, setIs, Itm.o, setD, forget_nil, forget_cons, fgO_none, fgO_dat, fgO_own, fgO_deal, wipeΓ, backΓ, argD, drs, List.all_cons, List.all_nil, Bool.and_true, List.getElem?_cons_zero, List.getElem?_cons_succ, List.set_cons_zero, List.set_cons_succ, List.length_cons, List.length_nil, Nat.zero_add, Nat.reduceAdd, Nat.reduceLeDiff, true_and, and_true, decide_eq_true_eq]
      exact ⟨.inl ⟨by omega, by omega⟩, .inl ⟨by omega, by omega⟩, by omega⟩
    simp -implicitDefEqProofs only [sv, ev, CO.p, BO.p, BO.ap, tv, isNop, if_true, if_false, Bool.false_eq_true, reduceIte,
  W_then, W_asg, W_disp, W_nil, W_cons, W_consA, W_consI, W_var, W_val, W_bin, W_chn, W_ix, W_un, W_optN, W_optS, W_sl, W_deal, W_blt, W_isi, W_lrg, W_call, W_prm, W_ite, W_T, W_B, W_not, W_and, W_or, W_seq, W_rng, W_app, W_pop, W_popAt, oneI_i, oneL_l, W_nx, W_drop, W_pure, W_ret, W_if, W_par, W_unp, W_sub, W_yes, W_for, W_aug', W_lc,
  wO_some, wD_some, wD_if, rdO_dat, rdO_own, rdO_deal, mv_val, mv_new, mv_at, mvO_dat, mvO_own, dr_val, dr_new, dr_at, drO_dat, drO_own, dr_at1, dr1_deal, mvA_val, mvA_new, mvA_at, mvAO_dat, mvAO_own, mvAO_deal, toItm_f, itmO_some, toItm_n, toItm_q,
  isDeal_none, isDeal_dat, isDeal_own, isDeal_deal, lstR_at, lstR_at1, lstO_own, lstO_deal, items_at, items_at1, itO_own, it1_deal, putR_at, putR_at1, putO_deal, PR_v, PR_t, PR_l, Rt_d, Rt_q, rtO_some, retR_val, retR_new, retR_newD, retR_at, exitD_none, exitD_some, dealO_deal, intO_int, toB_bl, newO_new, valO_val, thW_nx, thW_bk, thW_ct, thW_rt,
  callW_d, callW_nil, callW_ref, refW_deal, augW_dat, exV, ex1, exI, addP_i, addP_l, addP_t, addI_i, subP_i, mulP_i, mulP_0, divP_i, modP_i, powP_i, cmpP_i, eqP_i, neP_i, isP_nn, isP_in, isP_tn, isP_bn, isnP_nn, isnP_in, isnP_tn, isP_nb, isP_ib, isP_tb, isP_bb, len_l, len_t, int_i, abs_i, tup_l, tup_t, lst_l, lst_t, min_i, max_i, rev_l, neg_i, sum_l, slP_t, slP_l,
  ixP_t, ixP_l, ixR_v, ixR_n, ixR_a, ixW_own, ixW_deal0, ixW_deal1, ixR_1, itemsD_l, itemsD_t, rangeP1, rangeP2, plains, plainO_none, plainO_dat, datO_none, datO_dat, setAll_nil, setAll_cons, setAW_some, setT_t,
  stR_at, stO_deal, setI, setIs, Itm.o, setD, forget_nil, forget_cons, fgO_none, fgO_dat, fgO_own, fgO_deal, wipeΓ, backΓ, argD, drs, List.all_cons, List.all_nil, Bool.and_true, List.getElem?_cons_zero, List.getElem?_cons_succ, List.set_cons_zero, List.set_cons_succ, List.length_cons, List.length_nil, Nat.zero_add, Nat.reduceAdd, Nat.reduceLeDiff, true_and, and_true, decide_eq_true_eq]
    refine ⟨by omega, ?_⟩
    refine W_lcR (n := ((M : Int)).toNat) (fun t => D.int ((a * (lag p row row.length t % p) + b * ((lag p row row.length t + top * pd roots t) % p)) % p)) (by omega) ?_ ?_
    · intro t ht
      have ht : t < M := ht
      simp -implicitDefEqProofs only [atI_z (show t < due.length by omega), atI_z (show t < bes.length by omega), hFg t ht, hGg t ht, sv, ev, CO.p, BO.p, BO.ap, tv, isNop, if_true, if_false, Bool.false_eq_true, reduceIte,
  W_then, W_asg, W_disp, W_nil, W_cons, W_consA, W_consI, W_var, W_val, W_bin, W_chn, W_ix, W_un, W_optN, W_optS, W_sl, W_deal, W_blt, W_isi, W_lrg, W_call, W_prm, W_ite, W_T, W_B, W_not, W_and, W_or, W_seq, W_rng, W_app, W_pop, W_popAt, oneI_i, oneL_l, W_nx, W_drop, W_pure, W_ret, W_if, W_par, W_unp, W_sub, W_yes, W_for, W_aug', W_lc,
  wO_some, wD_some, wD_if, rdO_dat, rdO_own, rdO_deal, mv_val, mv_new, mv_at, mvO_dat, mvO_own, dr_val, dr_new, dr_at, drO_dat, drO_own, dr_at1, dr1_deal, mvA_val, mvA_new, mvA_at, mvAO_dat, mvAO_own, mvAO_deal, toItm_f, itmO_some, toItm_n, toItm_q,
  isDeal_none, isDeal_dat, isDeal_own, isDeal_deal, lstR_at, lstR_at1, lstO_own, lstO_deal, items_at, items_at1, itO_own, it1_deal, putR_at, putR_at1, putO_deal, PR_v, PR_t, PR_l, Rt_d, Rt_q, rtO_some, retR_val, retR_new, retR_newD, retR_at, exitD_none, exitD_some, dealO_deal, intO_int, toB_bl, newO_new, valO_val, thW_nx, thW_bk, thW_ct, thW_rt,
  callW_d, callW_nil, callW_ref, refW_deal, augW_dat, exV, ex1, exI, addP_i, addP_l, addP_t, addI_i, subP_i, mulP_i, mulP_0, divP_i, modP_i, powP_i, cmpP_i, eqP_i, neP_i, isP_nn, isP_in, isP_tn, isP_bn, isnP_nn, isnP_in, isnP_tn, isP_nb, isP_ib, isP_tb, isP_bb, len_l, len_t, int_i, abs_i, tup_l, tup_t, lst_l, lst_t, min_i, max_i, rev_l, neg_i, sum_l, slP_t, slP_l,
  ixP_t, ixP_l, ixR_v, ixR_n, ixR_a, ixW_own, ixW_deal0, ixW_deal1, ixR_1, itemsD_l, itemsD_t, rangeP1, rangeP2, plains, plainO_none, plainO_dat, datO_none, datO_dat, setAll_nil, setAll_cons, setAW_some, setT_t,
  stR_at, stO_deal, setI, setIs, Itm.o, setD, forget_nil, forget_cons, fgO_none, fgO_dat, fgO_own, fgO_deal, wipeΓ, backΓ, argD, drs, List.all_cons, List.all_nil, Bool.and_true, List.getElem?_cons_zero, List.getElem?_cons_succ, List.set_cons_zero, List.set_cons_succ, List.length_cons, List.length_nil, Nat.zero_add, Nat.reduceAdd, Nat.reduceLeDiff, true_and, and_true, decide_eq_true_eq]
      exact ⟨.inl ⟨by omega, by omega⟩, .inl ⟨by omega, by omega⟩, by omega⟩
    rw [Int.toNat_natCast, Int.toNat_natCast, zi_range, zi_range]
    have hs := hsum a b
    have hR1 : Rs p ((List.range row.length).map fun t => (a * (lag p row row.length t % p) + b * ((lag p row row.length t + top * pd roots t) % p)) % p) := rs_map hp0 _ _
    have hl1 : ((List.range row.length).map fun t => (a * (lag p row row.length t % p) + b * ((lag p row row.length t + top * pd roots t) % p)) % p).length = row.length := by rw [List.length_map, List.length_range]
    have hl2 : ((List.range M).map fun t => (a * (lag p row row.length t % p) + b * ((lag p row row.length t + top * pd roots t) % p)) % p).length = M := by rw [List.length_map, List.length_range]
    have T4 := h2b _ (List.length_pos_iff.mp (by rw [hl1]; omega)) hR1 (by omega) (by omega)
    rw [hs] at T4
    generalize ((List.range row.length).map fun t => (a * (lag p row row.length t % p) + b * ((lag p row row.length t + top * pd roots t) % p)) % p) = both at *
    generalize ((List.range M).map fun t => (a * (lag p row row.length t % p) + b * ((lag p row row.length t + top * pd roots t) % p)) % p) = sums at *
    have led : (dbl es).length = es.length := List.length_map _
    have e9 : dbl es ++ [D.tup [D.tup (zi sums), D.tup (zi sums)], D.tup [D.tup (zi due), D.tup (zi due)]] = dbl (es ++ [D.tup (zi sums), D.tup (zi due)]) := by
      rw [show dbl (es ++ [D.tup (zi sums), D.tup (zi due)]) = dbl es ++ dbl [D.tup (zi sums), D.tup (zi due)] from List.map_append]; rfl
    have L2 := c.hL (es ++ [D.tup (zi sums), D.tup (zi due)]) (fun d hd => by
      simp -implicitDefEqProofs only [List.mem_append, List.mem_cons, List.not_mem_nil, or_false] at hd
      rcases hd with hd | rfl | rfl
      · exact hes d hd
      · exact gdB_z (by omega)
      · exact gdB_z (by omega))
    simp -implicitDefEqProofs only [T4, T1, led, e9, L2, sv, ev, CO.p, BO.p, BO.ap, tv, isNop, if_true, if_false, Bool.false_eq_true, reduceIte,
  W_then, W_asg, W_disp, W_nil, W_cons, W_consA, W_consI, W_var, W_val, W_bin, W_chn, W_ix, W_un, W_optN, W_optS, W_sl, W_deal, W_blt, W_isi, W_lrg, W_call, W_prm, W_ite, W_T, W_B, W_not, W_and, W_or, W_seq, W_rng, W_app, W_pop, W_popAt, oneI_i, oneL_l, W_nx, W_drop, W_pure, W_ret, W_if, W_par, W_unp, W_sub, W_yes, W_for, W_aug', W_lc,
  wO_some, wD_some, wD_if, rdO_dat, rdO_own, rdO_deal, mv_val, mv_new, mv_at, mvO_dat, mvO_own, dr_val, dr_new, dr_at, drO_dat, drO_own, dr_at1, dr1_deal, mvA_val, mvA_new, mvA_at, mvAO_dat, mvAO_own, mvAO_deal, toItm_f, itmO_some, toItm_n, toItm_q,
  isDeal_none, isDeal_dat, isDeal_own, isDeal_deal, lstR_at, lstR_at1, lstO_own, lstO_deal, items_at, items_at1, itO_own, it1_deal, putR_at, putR_at1, putO_deal, PR_v, PR_t, PR_l, Rt_d, Rt_q, rtO_some, retR_val, retR_new, retR_newD, retR_at, exitD_none, exitD_some, dealO_deal, intO_int, toB_bl, newO_new, valO_val, thW_nx, thW_bk, thW_ct, thW_rt,
  callW_d, callW_nil, callW_ref, refW_deal, augW_dat, exV, ex1, exI, addP_i, addP_l, addP_t, addI_i, subP_i, mulP_i, mulP_0, divP_i, modP_i, powP_i, cmpP_i, eqP_i, neP_i, isP_nn, isP_in, isP_tn, isP_bn, isnP_nn, isnP_in, isnP_tn, isP_nb, isP_ib, isP_tb, isP_bb, len_l, len_t, int_i, abs_i, tup_l, tup_t, lst_l, lst_t, min_i, max_i, rev_l, neg_i, sum_l, slP_t, slP_l,
  ixP_t, ixP_l, ixR_v, ixR_n, ixR_a, ixW_own, ixW_deal0, ixW_deal1, ixR_1, itemsD_l, itemsD_t, rangeP1, rangeP2, plains, plainO_none, plainO_dat, datO_none, datO_dat, setAll_nil, setAll_cons, setAW_some, setT_t,
  stR_at, stO_deal, setI, setIs, Itm.o, setD, forget_nil, forget_cons, fgO_none, fgO_dat, fgO_own, fgO_deal, wipeΓ, backΓ, argD, drs, List.all_cons, List.all_nil, Bool.and_true, List.getElem?_cons_zero, List.getElem?_cons_succ, List.set_cons_zero, List.set_cons_succ, List.length_cons, List.length_nil, Nat.zero_add, Nat.reduceAdd, Nat.reduceLeDiff, true_and, and_true, decide_eq_true_eq]
    omega
end Ca

set_option Elab.async false
set_option linter.all false
set_option maxRecDepth 100000
set_option maxHeartbeats 0
namespace K75
open PySem L2 PyProof.Rows Z

/-- 0: first_differences(p, row); slots 0 p, 1 row, 2 found, 3 left, 4 at -/
def b0 : Z.St := (.next (.par [2, 3] (.conw (.lst .nil) (.cons (.blt .list (.cons (.var 1) .nil)) .nil)))
 (.next (.whl [] (.cmp .ne (.var 3) (.lst .nil))
 (.next (.drop (.app (.var 2) (.cons (.ix (.var 3) (.lit (.int 0))) .nil)))
 (.next (.asg false 3 (.lc [4] (.rng 1 (.cons (.bin .sub (.blt .len (.cons (.var 3) .nil)) (.lit (.int 1))) .nil)) (.nm 4) .nop (.bin .mod (.bin .sub (.ix (.var 3) (.bin .add (.var 4) (.lit (.int 1)))) (.ix (.var 3) (.var 4))) (.var 0))))
 .nil)))
 (.next (.ret (.var 2))
 .nil)))

/-- 1: stepped(p, differences); slots 0 p, 1 differences, 2 last, 3 at -/
def b1 : Z.St := (.next (.asg false 2 (.bin .sub (.blt .len (.cons (.var 1) .nil)) (.lit (.int 1))))
 (.next (.ret (.bin .add (.lc [3] (.rng 1 (.cons (.var 2) .nil)) (.nm 3) .nop (.bin .mod (.bin .add (.ix (.var 1) (.var 3)) (.ix (.var 1) (.bin .add (.var 3) (.lit (.int 1))))) (.var 0))) (.sl (.var 1) (.var 2) .nop)))
 .nil))

/-- 2: spread_row(p, row, many); slots 0 p, 1 row, 2 many, 3 differences, 4 found, 5 _ -/
def b2 : Z.St := (.next (.par [3, 4] (.cons (.call 0 2 (.cons (.var 0) (.cons (.var 1) .nil))) (.conw (.lst .nil) .nil)))
 (.next (.loop [5] (.nm 5) (.rng 1 (.cons (.var 2) .nil))
 (.next (.drop (.app (.var 4) (.cons (.bin .mod (.ix (.var 3) (.lit (.int 0))) (.var 0)) .nil)))
 (.next (.asg false 3 (.call 1 2 (.cons (.var 0) (.cons (.var 3) .nil))))
 .nil)))
 (.next (.ret (.blt .tuple (.cons (.var 4) .nil)))
 .nil)))

/-- 3: is_spread(p, row, length); slots 0 p, 1 row, 2 length -/
def b3 : Z.St := (.next (.ret (.cmp .eq (.call 2 3 (.cons (.var 0) (.cons (.sl (.var 1) .nop (.var 2)) (.cons (.blt .len (.cons (.var 1) .nil)) .nil)))) (.blt .tuple (.cons (.var 1) .nil))))
 .nil)

/-- 4: _law_deal(script, salt); slots 0 script, 1 salt, 2 most, 3 cells, 4 cell, 5 mix -/
def b4 : Z.St := (.next (.asg false 2 (.bin .mul (.bin .mul (.bin .mul (.bin .mul (.bin .mul (.bin .pow (.lit (.int 10)) (.lit (.int 64))) (.bin .pow (.lit (.int 10)) (.lit (.int 64)))) (.bin .pow (.lit (.int 10)) (.lit (.int 64)))) (.bin .pow (.lit (.int 10)) (.lit (.int 64)))) (.bin .pow (.lit (.int 10)) (.lit (.int 64)))) (.bin .pow (.lit (.int 10)) (.lit (.int 64)))))
 (.next (.asg false 3 (.lc [4] (.sl (.var 0) .nop (.lit (.int 63))) (.nm 4) .nop (.bin .mod (.blt .int (.cons (.blt .abs (.cons (.blt .int (.cons (.var 4) .nil)) .nil)) .nil)) (.var 2))))
 (.next (.asg false 5 (.bin .add (.lit (.int 70001)) (.bin .mul (.lit (.int 7919)) (.var 1))))
 (.next (.loop [4] (.nm 4) (.var 3)
 (.next (.asg false 5 (.bin .mod (.blt .int (.cons (.bin .add (.bin .add (.bin .mul (.var 5) (.lit (.int 69621))) (.bin .mod (.blt .int (.cons (.var 4) .nil)) (.lit (.int 2147483563)))) (.lit (.int 23))) .nil)) (.lit (.int 2147483647))))
 .nil))
 (.next (.ret (.deal (.rev (.lc [4] (.var 3) (.nm 4) (.cmp .ge (.var 4) (.bin .pow (.lit (.int 10)) (.lit (.int 18)))) (.var 4))) (.var 5)))
 .nil)))))

/-- 5: _law_any(deal, bound); slots 0 deal, 1 bound, 2 rest -/
def b5 : Z.St := (.next (.whl [] (.and (.cmp .ne (.ix (.var 0) (.lit (.int 0))) (.lst .nil)) (.cmp .eq (.ix (.ix (.var 0) (.lit (.int 0))) (.neg (.lit (.int 1)))) (.lit (.int 0))))
 (.next (.drop (.pop (.ix (.var 0) (.lit (.int 0)))))
 .nil))
 (.next (.iff (.cmp .ne (.ix (.var 0) (.lit (.int 0))) (.lst .nil))
 (.next (.asg false 2 (.blt .int (.cons (.pop (.ix (.var 0) (.lit (.int 0)))) .nil)))
 (.next (.drop (.app (.ix (.var 0) (.lit (.int 0))) (.cons (.bin .div (.var 2) (.var 1)) .nil)))
 (.next (.ret (.bin .mod (.var 2) (.var 1)))
 .nil)))
 .nil)
 (.next (.sub (.var 0) (.lit (.int 1)) (.bin .mod (.blt .int (.cons (.bin .add (.bin .mul (.ix (.var 0) (.lit (.int 1))) (.lit (.int 48271))) (.lit (.int 31))) .nil)) (.lit (.int 2147483647))))
 (.next (.ret (.bin .mod (.blt .int (.cons (.bin .div (.ix (.var 0) (.lit (.int 1))) (.lit (.int 64))) .nil)) (.var 1)))
 .nil))))

/-- 6: _law_of(deal, some); slots 0 deal, 1 some -/
def b6 : Z.St := (.next (.ret (.ix (.var 1) (.call 5 2 (.cons (.var 0) (.cons (.blt .len (.cons (.var 1) .nil)) .nil)))))
 .nil)

/-- 7: _law_mixed(deal, some); slots 0 deal, 1 some, 2 left, 3 found, 4 turn -/
def b7 : Z.St := (.next (.par [2, 3] (.conw (.blt .list (.cons (.var 1) .nil)) (.conw (.lst .nil) .nil)))
 (.next (.loop [4] (.nm 4) (.rng 1 (.cons (.blt .len (.cons (.var 1) .nil)) .nil))
 (.next (.drop (.app (.var 3) (.cons (.popAt (.var 2) (.cons (.call 5 2 (.cons (.var 0) (.cons (.blt .len (.cons (.var 2) .nil)) .nil))) .nil)) .nil)))
 .nil))
 (.next (.ret (.var 3))
 .nil)))

/-- 8: _law_same(told, due); slots 0 told, 1 due, 2 spot -/
def b8 : Z.St := (.next (.iff (.isi [.tuple] (.var 1))
 (.next (.iff (.or (.not (.isi [.tuple] (.var 0))) (.cmp .ne (.blt .len (.cons (.var 0) .nil)) (.blt .len (.cons (.var 1) .nil))))
 (.next (.ret (.lit (.bl false)))
 .nil)
 .nil)
 (.next (.ret (.cmp .eq (.blt .len (.cons (.lc [2] (.rng 1 (.cons (.blt .len (.cons (.var 1) .nil)) .nil)) (.nm 2) (.not (.call 8 2 (.cons (.ix (.var 0) (.var 2)) (.cons (.ix (.var 1) (.var 2)) .nil)))) (.var 2)) .nil)) (.lit (.int 0))))
 .nil))
 .nil)
 (.next (.iff (.cmp .is (.var 1) (.lit .non))
 (.next (.ret (.cmp .is (.var 0) (.lit .non)))
 .nil)
 .nil)
 (.next (.iff (.or (.cmp .is (.var 1) (.lit (.bl true))) (.cmp .is (.var 1) (.lit (.bl false))))
 (.next (.ret (.ite (.var 1) (.cmp .is (.var 0) (.lit (.bl true))) (.cmp .is (.var 0) (.lit (.bl false)))))
 .nil)
 .nil)
 (.next (.iff (.isi [.str] (.var 1))
 (.next (.ret (.and (.isi [.str] (.var 0)) (.cmp .eq (.var 0) (.var 1))))
 .nil)
 .nil)
 (.next (.ret (.and (.isi [.int] (.var 0)) (.and (.not (.isi [.bool] (.var 0))) (.cmp .eq (.var 0) (.var 1)))))
 .nil)))))

/-- 9: _law_all(pairs); slots 0 pairs, 1 told, 2 due -/
def b9 : Z.St := (.next (.ret (.cmp .eq (.blt .len (.cons (.lc [1, 2] (.var 0) (.tp (.cons (.nm 1) (.cons (.nm 2) .nil))) (.not (.call 8 2 (.cons (.var 1) (.cons (.var 2) .nil)))) (.var 1)) .nil)) (.lit (.int 0))))
 .nil)

/-- 10: _law_near_prime(number); slots 0 number, 1 near, 2 part -/
def b10 : Z.St := (.next (.loop [1] (.nm 1) (.rng 2 (.cons (.var 0) (.cons (.bin .add (.var 0) (.lit (.int 40))) .nil)))
 (.next (.iff (.cmp .eq (.blt .len (.cons (.lc [2] (.rng 2 (.cons (.lit (.int 2)) (.cons (.lit (.int 100)) .nil))) (.nm 2) (.and (.cmp .le (.bin .mul (.var 2) (.var 2)) (.var 1)) (.cmp .eq (.bin .mod (.blt .int (.cons (.var 1) .nil)) (.var 2)) (.lit (.int 0)))) (.var 2)) .nil)) (.lit (.int 0)))
 (.next (.ret (.var 1))
 .nil)
 .nil)
 .nil))
 (.next (.ret (.lit (.int 101)))
 .nil))

/-- 11: _law_prime(deal); slots 0 deal, 1 shape -/
def b11 : Z.St := (.next (.asg false 1 (.call 5 2 (.cons (.var 0) (.cons (.lit (.int 8)) .nil))))
 (.next (.iff (.cmp .lt (.var 1) (.lit (.int 2)))
 (.next (.ret (.bin .add (.lit (.int 5)) (.bin .mul (.lit (.int 2)) (.var 1))))
 .nil)
 .nil)
 (.next (.iff (.cmp .lt (.var 1) (.lit (.int 4)))
 (.next (.ret (.lit (.int 2305843009213693951)))
 .nil)
 .nil)
 (.next (.iff (.cmp .eq (.var 1) (.lit (.int 4)))
 (.next (.ret (.call 6 2 (.cons (.var 0) (.cons (.lst (.cons (.lit (.int 2147483647)) (.cons (.lit (.int 4294967291)) (.cons (.lit (.int 998244353)) (.cons (.lit (.int 1000000007)) (.cons (.lit (.int 1945555039024054273)) (.cons (.lit (.int 65537)) .nil))))))) .nil))))
 .nil)
 .nil)
 (.next (.ret (.call 10 1 (.cons (.bin .add (.lit (.int 5)) (.call 5 2 (.cons (.var 0) (.cons (.lit (.int 9000)) .nil)))) .nil)))
 .nil)))))

/-- 12: _law_residue(deal, prime); slots 0 deal, 1 prime, 2 shape, 3 wide, 4 turn -/
def b12 : Z.St := (.next (.asg false 2 (.call 5 2 (.cons (.var 0) (.cons (.lit (.int 12)) .nil))))
 (.next (.iff (.cmp .lt (.var 2) (.lit (.int 3)))
 (.next (.ret (.ix (.lst (.cons (.lit (.int 0)) (.cons (.lit (.int 1)) (.cons (.bin .sub (.var 1) (.lit (.int 1))) .nil)))) (.var 2)))
 .nil)
 .nil)
 (.next (.asg false 3 (.lit (.int 0)))
 (.next (.loop [4] (.nm 4) (.rng 1 (.cons (.lit (.int 3)) .nil))
 (.next (.asg false 3 (.bin .add (.bin .mul (.var 3) (.lit (.int 2097152))) (.call 5 2 (.cons (.var 0) (.cons (.lit (.int 2097152)) .nil)))))
 .nil))
 (.next (.ret (.bin .mod (.blt .int (.cons (.var 3) .nil)) (.var 1)))
 .nil)))))

/-- 13: _law_row(deal, prime, many); slots 0 deal, 1 prime, 2 many, 3 found, 4 spot, 5 by, 6 add -/
def b13 : Z.St := (.next (.asg true 3 (.lc [4] (.rng 1 (.cons (.blt .min (.cons (.var 2) (.cons (.lit (.int 12)) .nil))) .nil)) (.nm 4) .nop (.call 12 2 (.cons (.var 0) (.cons (.var 1) .nil)))))
 (.next (.par [5, 6] (.cons (.call 12 2 (.cons (.var 0) (.cons (.var 1) .nil))) (.cons (.call 12 2 (.cons (.var 0) (.cons (.var 1) .nil))) .nil)))
 (.next (.loop [4] (.nm 4) (.rng 1 (.cons (.bin .sub (.var 2) (.blt .len (.cons (.var 3) .nil))) .nil))
 (.next (.drop (.app (.var 3) (.cons (.bin .mod (.blt .int (.cons (.bin .add (.bin .add (.bin .mul (.ix (.var 3) (.var 4)) (.var 5)) (.bin .mul (.var 6) (.var 4))) (.lit (.int 1))) .nil)) (.var 1)) .nil)))
 .nil))
 (.next (.ret (.blt .tuple (.cons (.var 3) .nil)))
 .nil))))

/-- 14: _law_put(some, spot, thing); slots 0 some, 1 spot, 2 thing -/
def b14 : Z.St := (.next (.ret (.bin .add (.bin .add (.sl (.var 0) .nop (.var 1)) (.tup (.cons (.var 2) .nil))) (.sl (.var 0) (.bin .add (.var 1) (.lit (.int 1))) .nop)))
 .nil)

/-- 15: _law_power(base, many, prime); slots 0 base, 1 many, 2 prime, 3 found, 4 square, 5 left, 6 turn -/
def b15 : Z.St := (.next (.par [3, 4, 5] (.cons (.lit (.int 1)) (.cons (.bin .mod (.blt .int (.cons (.var 0) .nil)) (.var 2)) (.cons (.var 1) .nil))))
 (.next (.loop [6] (.nm 6) (.rng 1 (.cons (.lit (.int 64)) .nil))
 (.next (.iff (.cmp .eq (.var 5) (.lit (.int 0)))
 (.next (.ret (.var 3))
 .nil)
 .nil)
 (.next (.iff (.cmp .eq (.bin .mod (.blt .int (.cons (.var 5) .nil)) (.lit (.int 2))) (.lit (.int 1)))
 (.next (.asg false 3 (.bin .mod (.blt .int (.cons (.bin .mul (.var 3) (.var 4)) .nil)) (.var 2)))
 .nil)
 .nil)
 (.next (.par [5, 4] (.cons (.bin .div (.var 5) (.lit (.int 2))) (.cons (.bin .mod (.blt .int (.cons (.bin .mul (.var 4) (.var 4)) .nil)) (.var 2)) .nil)))
 .nil))))
 (.next (.ret (.var 3))
 .nil)))

/-- 16: _law_inverse(number, prime); slots 0 number, 1 prime -/
def b16 : Z.St := (.next (.ret (.call 15 3 (.cons (.var 0) (.cons (.bin .sub (.var 1) (.lit (.int 2))) (.cons (.var 1) .nil)))))
 .nil)

/-- 17: _law_code(prime, row, many); slots 0 prime, 1 row, 2 many, 3 heads, 4 left, 5 turn, 6 at, 7 found -/
def b17 : Z.St := (.next (.par [3, 4] (.conw (.lst .nil) (.cons (.blt .list (.cons (.var 1) .nil)) .nil)))
 (.next (.loop [5] (.nm 5) (.rng 1 (.cons (.blt .len (.cons (.var 1) .nil)) .nil))
 (.next (.drop (.app (.var 3) (.cons (.ix (.var 4) (.lit (.int 0))) .nil)))
 (.next (.asg false 4 (.lc [6] (.rng 1 (.cons (.bin .sub (.blt .len (.cons (.var 4) .nil)) (.lit (.int 1))) .nil)) (.nm 6) .nop (.bin .mod (.blt .int (.cons (.bin .sub (.ix (.var 4) (.bin .add (.var 6) (.lit (.int 1)))) (.ix (.var 4) (.var 6))) .nil)) (.var 0))))
 .nil)))
 (.next (.asg true 7 (.lst .nil))
 (.next (.loop [5] (.nm 5) (.rng 1 (.cons (.var 2) .nil))
 (.next (.drop (.app (.var 7) (.cons (.ix (.var 3) (.lit (.int 0))) .nil)))
 (.next (.asg true 3 (.bin .add (.lc [6] (.rng 1 (.cons (.bin .sub (.blt .len (.cons (.var 3) .nil)) (.lit (.int 1))) .nil)) (.nm 6) .nop (.bin .mod (.blt .int (.cons (.bin .add (.ix (.var 3) (.var 6)) (.ix (.var 3) (.bin .add (.var 6) (.lit (.int 1))))) .nil)) (.var 0))) (.sl (.var 3) (.neg (.lit (.int 1))) .nop)))
 .nil)))
 (.next (.ret (.blt .tuple (.cons (.var 7) .nil)))
 .nil)))))

/-- 18: _law_shares_of(prime, length); slots 0 prime, 1 length, 2 found, 3 here, 4 part, 5 other -/
def b18 : Z.St := (.next (.asg true 2 (.lst .nil))
 (.next (.loop [3, 4, 5] (.nm 3) (.rng 1 (.cons (.var 1) .nil))
 (.next (.asg false 4 (.lit (.int 1)))
 (.next (.loop [5] (.nm 5) (.rng 1 (.cons (.var 1) .nil))
 (.next (.iff (.cmp .ne (.var 5) (.var 3))
 (.next (.asg false 4 (.bin .mod (.blt .int (.cons (.bin .mul (.var 4) (.bin .sub (.var 3) (.var 5))) .nil)) (.var 0)))
 .nil)
 .nil)
 .nil))
 (.next (.drop (.app (.var 2) (.cons (.call 16 2 (.cons (.var 4) (.cons (.var 0) .nil))) .nil)))
 .nil))))
 (.next (.ret (.var 2))
 .nil)))

/-- 19: _law_worth_at(prime, row, parts, at); slots 0 prime, 1 row, 2 parts, 3 at, 4 found, 5 here, 6 part, 7 other -/
def b19 : Z.St := (.next (.asg false 4 (.lit (.int 0)))
 (.next (.loop [5, 6, 7] (.nm 5) (.rng 1 (.cons (.blt .len (.cons (.var 1) .nil)) .nil))
 (.next (.asg false 6 (.bin .mul (.ix (.var 1) (.var 5)) (.ix (.var 2) (.var 5))))
 (.next (.loop [7] (.nm 7) (.rng 1 (.cons (.blt .len (.cons (.var 1) .nil)) .nil))
 (.next (.iff (.cmp .ne (.var 7) (.var 5))
 (.next (.asg false 6 (.bin .mod (.blt .int (.cons (.bin .mul (.var 6) (.bin .sub (.var 3) (.var 7))) .nil)) (.var 0)))
 .nil)
 .nil)
 .nil))
 (.next (.aug .add 4 (.var 6))
 .nil))))
 (.next (.ret (.bin .mod (.blt .int (.cons (.var 4) .nil)) (.var 0)))
 .nil)))

/-- 20: _law_rooted_row(prime, row, roots, top); slots 0 prime, 1 row, 2 roots, 3 top, 4 found, 5 at, 6 part, 7 root -/
def b20 : Z.St := (.next (.asg true 4 (.lst .nil))
 (.next (.loop [5, 6, 7] (.nm 5) (.rng 1 (.cons (.blt .len (.cons (.var 1) .nil)) .nil))
 (.next (.asg false 6 (.var 3))
 (.next (.loop [7] (.nm 7) (.var 2)
 (.next (.asg false 6 (.bin .mod (.blt .int (.cons (.bin .mul (.var 6) (.bin .sub (.var 5) (.var 7))) .nil)) (.var 0)))
 .nil))
 (.next (.drop (.app (.var 4) (.cons (.bin .mod (.blt .int (.cons (.bin .add (.ix (.var 1) (.var 5)) (.var 6)) .nil)) (.var 0)) .nil)))
 .nil))))
 (.next (.ret (.blt .tuple (.cons (.var 4) .nil)))
 .nil)))

/-- 21: _law_is_code(prime, row, length); slots 0 prime, 1 row, 2 length -/
def b21 : Z.St := (.next (.ret (.cmp .eq (.call 17 3 (.cons (.var 0) (.cons (.sl (.var 1) .nop (.var 2)) (.cons (.blt .len (.cons (.var 1) .nil)) .nil)))) (.var 1)))
 .nil)

/-- 22: law(script); slots 0 script, 1 deal, 2 prime, 3 length, 4 many, 5 row, 6 parts, 7 due, 8 at, 9 roots, 10 other, 11 told, 12 beside, 13 pairs, 14 spot, 15 bent, 16 some, 17 left, 18 right, 19 both, 20 sums -/
def b22 : Z.St := (.next (.asg true 1 (.call 4 2 (.cons (.var 0) (.cons (.lit (.int 75)) .nil))))
 (.next (.asg false 2 (.call 11 1 (.cons (.var 1) .nil)))
 (.next (.asg false 3 (.bin .add (.lit (.int 1)) (.call 5 2 (.cons (.var 1) (.cons (.blt .min (.cons (.var 2) (.cons (.lit (.int 16)) .nil))) .nil)))))
 (.next (.asg false 4 (.call 6 2 (.cons (.var 1) (.cons (.lst (.cons (.var 3) (.cons (.blt .min (.cons (.var 2) (.cons (.lit (.int 64)) .nil))) (.cons (.bin .add (.var 3) (.call 5 2 (.cons (.var 1) (.cons (.bin .add (.bin .sub (.blt .min (.cons (.var 2) (.cons (.lit (.int 64)) .nil))) (.var 3)) (.lit (.int 1))) .nil)))) .nil)))) .nil))))
 (.next (.par [5, 6] (.cons (.call 13 3 (.cons (.var 1) (.cons (.var 2) (.cons (.var 3) .nil)))) (.cons (.call 18 2 (.cons (.var 2) (.cons (.var 3) .nil))) .nil)))
 (.next (.asg false 7 (.blt .tuple (.cons (.lc [8] (.rng 1 (.cons (.var 4) .nil)) (.nm 8) .nop (.call 19 4 (.cons (.var 2) (.cons (.var 5) (.cons (.var 6) (.cons (.var 8) .nil)))))) .nil)))
 (.next (.asg false 9 (.blt .sorted (.cons (.sl (.call 7 2 (.cons (.var 1) (.cons (.lrg (.var 4)) .nil))) .nop (.bin .sub (.var 3) (.lit (.int 1)))) .nil)))
 (.next (.asg false 10 (.call 20 4 (.cons (.var 2) (.cons (.var 5) (.cons (.var 9) (.cons (.bin .add (.lit (.int 1)) (.call 5 2 (.cons (.var 1) (.cons (.bin .sub (.var 2) (.lit (.int 1))) .nil)))) .nil))))))
 (.next (.par [11, 12] (.cons (.call 2 3 (.cons (.var 2) (.cons (.var 5) (.cons (.var 4) .nil)))) (.cons (.kall 2 3 ["p", "row", "many"] [0, 1, 2] (.cons (.var 2) (.cons (.var 10) (.cons (.var 4) .nil)))) .nil)))
 (.next (.asg false 13 (.lst (.cons (.tup (.cons (.var 11) (.cons (.var 7) .nil))) (.cons (.tup (.cons (.var 12) (.cons (.call 17 3 (.cons (.var 2) (.cons (.var 10) (.cons (.var 4) .nil)))) .nil))) (.cons (.tup (.cons (.call 3 3 (.cons (.var 2) (.cons (.var 7) (.cons (.var 3) .nil)))) (.cons (.lit (.bl true)) .nil))) (.cons (.tup (.cons (.kall 3 3 ["p", "row", "length"] [0, 1, 2] (.cons (.var 2) (.cons (.var 7) (.cons (.var 4) .nil)))) (.cons (.lit (.bl true)) .nil))) .nil))))))
 (.next (.iff (.or (.not (.call 9 1 (.cons (.var 13) .nil))) (.cmp .ne (.lc [8] (.rng 1 (.cons (.var 4) .nil)) (.nm 8) (.cmp .eq (.ix (.var 11) (.var 8)) (.ix (.var 12) (.var 8))) (.var 8)) (.var 9)))
 (.next (.ret (.lit (.bl false)))
 .nil)
 .nil)
 (.next (.asg false 14 (.call 5 2 (.cons (.var 1) (.cons (.var 4) .nil))))
 (.next (.asg false 15 (.call 14 3 (.cons (.var 7) (.cons (.var 14) (.cons (.bin .mod (.blt .int (.cons (.bin .add (.bin .add (.ix (.var 7) (.var 14)) (.lit (.int 1))) (.call 5 2 (.cons (.var 1) (.cons (.bin .sub (.var 2) (.lit (.int 1))) .nil)))) .nil)) (.var 2)) .nil)))))
 (.next (.loop [16] (.nm 16) (.lst (.cons (.var 3) (.cons (.lit (.int 1)) (.cons (.var 4) (.cons (.bin .add (.lit (.int 1)) (.call 5 2 (.cons (.var 1) (.cons (.var 4) .nil)))) .nil)))))
 (.next (.asg false 13 (.bin .add (.var 13) (.lst (.cons (.tup (.cons (.call 3 3 (.cons (.var 2) (.cons (.var 15) (.cons (.var 16) .nil)))) (.cons (.call 21 3 (.cons (.var 2) (.cons (.var 15) (.cons (.var 16) .nil)))) .nil))) (.cons (.tup (.cons (.call 3 3 (.cons (.var 2) (.cons (.var 7) (.cons (.var 16) .nil)))) (.cons (.call 21 3 (.cons (.var 2) (.cons (.var 7) (.cons (.var 16) .nil)))) .nil))) .nil)))))
 .nil))
 (.next (.par [17, 18] (.cons (.call 12 2 (.cons (.var 1) (.cons (.var 2) .nil))) (.cons (.call 12 2 (.cons (.var 1) (.cons (.var 2) .nil))) .nil)))
 (.next (.asg false 19 (.blt .tuple (.cons (.lc [8] (.rng 1 (.cons (.var 3) .nil)) (.nm 8) .nop (.bin .mod (.blt .int (.cons (.bin .add (.bin .mul (.var 17) (.ix (.var 5) (.var 8))) (.bin .mul (.var 18) (.ix (.var 10) (.var 8)))) .nil)) (.var 2))) .nil)))
 (.next (.asg false 20 (.blt .tuple (.cons (.lc [8] (.rng 1 (.cons (.var 4) .nil)) (.nm 8) .nop (.bin .mod (.blt .int (.cons (.bin .add (.bin .mul (.var 17) (.ix (.var 11) (.var 8))) (.bin .mul (.var 18) (.ix (.var 12) (.var 8)))) .nil)) (.var 2))) .nil)))
 (.next (.ret (.call 9 1 (.cons (.bin .add (.var 13) (.lst (.cons (.tup (.cons (.call 2 3 (.cons (.var 2) (.cons (.var 19) (.cons (.var 4) .nil)))) (.cons (.var 20) .nil))) (.cons (.tup (.cons (.call 2 3 (.cons (.var 2) (.cons (.var 5) (.cons (.var 4) .nil)))) (.cons (.var 7) .nil))) .nil)))) .nil)))
 .nil))))))))))))))))))

def fs : List Z.Fn := [
  ⟨"first_differences", ["p", "row", "found", "left", "at"], 2, [], b0⟩,
  ⟨"stepped", ["p", "differences", "last", "at"], 2, [], b1⟩,
  ⟨"spread_row", ["p", "row", "many", "differences", "found", "_"], 3, [(["p", "row", "many"], [0, 1, 2])], b2⟩,
  ⟨"is_spread", ["p", "row", "length"], 3, [(["p", "row", "length"], [0, 1, 2])], b3⟩,
  ⟨"_law_deal", ["script", "salt", "most", "cells", "cell", "mix"], 2, [], b4⟩,
  ⟨"_law_any", ["deal", "bound", "rest"], 2, [], b5⟩,
  ⟨"_law_of", ["deal", "some"], 2, [], b6⟩,
  ⟨"_law_mixed", ["deal", "some", "left", "found", "turn"], 2, [], b7⟩,
  ⟨"_law_same", ["told", "due", "spot"], 2, [], b8⟩,
  ⟨"_law_all", ["pairs", "told", "due"], 1, [], b9⟩,
  ⟨"_law_near_prime", ["number", "near", "part"], 1, [], b10⟩,
  ⟨"_law_prime", ["deal", "shape"], 1, [], b11⟩,
  ⟨"_law_residue", ["deal", "prime", "shape", "wide", "turn"], 2, [], b12⟩,
  ⟨"_law_row", ["deal", "prime", "many", "found", "spot", "by", "add"], 3, [], b13⟩,
  ⟨"_law_put", ["some", "spot", "thing"], 3, [], b14⟩,
  ⟨"_law_power", ["base", "many", "prime", "found", "square", "left", "turn"], 3, [], b15⟩,
  ⟨"_law_inverse", ["number", "prime"], 2, [], b16⟩,
  ⟨"_law_code", ["prime", "row", "many", "heads", "left", "turn", "at", "found"], 3, [], b17⟩,
  ⟨"_law_shares_of", ["prime", "length", "found", "here", "part", "other"], 2, [], b18⟩,
  ⟨"_law_worth_at", ["prime", "row", "parts", "at", "found", "here", "part", "other"], 4, [], b19⟩,
  ⟨"_law_rooted_row", ["prime", "row", "roots", "top", "found", "at", "part", "root"], 4, [], b20⟩,
  ⟨"_law_is_code", ["prime", "row", "length"], 3, [], b21⟩,
  ⟨"law", ["script", "deal", "prime", "length", "many", "row", "parts", "due", "at", "roots", "other", "told", "beside", "pairs", "spot", "bent", "some", "left", "right", "both", "sums"], 1, [], b22⟩]

def cons : List (Str × Z.D) := []

def free : List Str := ["abs", "bool", "int", "isinstance", "len", "list", "min", "range", "sorted", "str", "tuple"]

def top (i : Nat) : Stmt := PySem.Challenge.pw_shortpapers_k75_rows_in_a_code.main.body.getD i (.Pass ⟨0, 0, 0, 0⟩)

def dOf (n : Str) (i : Nat) : He.DefD := ⟨(n, none), n, n, defArgs (top i), defBody (top i), defScope (top i), [], []⟩

def ds : List He.DefD := [dOf "first_differences" 1, dOf "stepped" 2, dOf "spread_row" 3, dOf "is_spread" 4, dOf "_law_deal" 6, dOf "_law_any" 7, dOf "_law_of" 8, dOf "_law_mixed" 9, dOf "_law_same" 10, dOf "_law_all" 11, dOf "_law_near_prime" 12, dOf "_law_prime" 13, dOf "_law_residue" 14, dOf "_law_row" 15, dOf "_law_put" 16, dOf "_law_power" 17, dOf "_law_inverse" 18, dOf "_law_code" 19, dOf "_law_shares_of" 20, dOf "_law_worth_at" 21, dOf "_law_rooted_row" 22, dOf "_law_is_code" 23, dOf "law" 24]

def pg : Z.Pg := Z.pgOf fs cons free

theorem ok0 : Z.DOk pg ⟨"first_differences", ["p", "row", "found", "left", "at"], 2, [], b0⟩ (dOf "first_differences" 1) where
  nm := rfl
  ql := rfl
  at_ := rfl
  df := rfl
  kd := rfl
  sc := by decide +kernel
  np := rfl
  ck := by decide +kernel
  bd := fun _ _ _ _ _ _ us hl => match us, hl with | [_, _], _ => rfl
  kw := fun q h => by cases h

theorem ok1 : Z.DOk pg ⟨"stepped", ["p", "differences", "last", "at"], 2, [], b1⟩ (dOf "stepped" 2) where
  nm := rfl
  ql := rfl
  at_ := rfl
  df := rfl
  kd := rfl
  sc := by decide +kernel
  np := rfl
  ck := by decide +kernel
  bd := fun _ _ _ _ _ _ us hl => match us, hl with | [_, _], _ => rfl
  kw := fun q h => by cases h

theorem ok2 : Z.DOk pg ⟨"spread_row", ["p", "row", "many", "differences", "found", "_"], 3, [(["p", "row", "many"], [0, 1, 2])], b2⟩ (dOf "spread_row" 3) where
  nm := rfl
  ql := rfl
  at_ := rfl
  df := rfl
  kd := rfl
  sc := by decide +kernel
  np := rfl
  ck := by decide +kernel
  bd := fun _ _ _ _ _ _ us hl => match us, hl with | [_, _, _], _ => rfl
  kw := fun q h => by
    rcases List.mem_cons.mp h with rfl | h
    · exact fun _ _ _ _ _ _ ws hl => match ws, hl with | [_, _, _], _ => rfl
    cases h

theorem ok3 : Z.DOk pg ⟨"is_spread", ["p", "row", "length"], 3, [(["p", "row", "length"], [0, 1, 2])], b3⟩ (dOf "is_spread" 4) where
  nm := rfl
  ql := rfl
  at_ := rfl
  df := rfl
  kd := rfl
  sc := by decide +kernel
  np := rfl
  ck := by decide +kernel
  bd := fun _ _ _ _ _ _ us hl => match us, hl with | [_, _, _], _ => rfl
  kw := fun q h => by
    rcases List.mem_cons.mp h with rfl | h
    · exact fun _ _ _ _ _ _ ws hl => match ws, hl with | [_, _, _], _ => rfl
    cases h

theorem ok4 : Z.DOk pg ⟨"_law_deal", ["script", "salt", "most", "cells", "cell", "mix"], 2, [], b4⟩ (dOf "_law_deal" 6) where
  nm := rfl
  ql := rfl
  at_ := rfl
  df := rfl
  kd := rfl
  sc := by decide +kernel
  np := rfl
  ck := by decide +kernel
  bd := fun _ _ _ _ _ _ us hl => match us, hl with | [_, _], _ => rfl
  kw := fun q h => by cases h

theorem ok5 : Z.DOk pg ⟨"_law_any", ["deal", "bound", "rest"], 2, [], b5⟩ (dOf "_law_any" 7) where
  nm := rfl
  ql := rfl
  at_ := rfl
  df := rfl
  kd := rfl
  sc := by decide +kernel
  np := rfl
  ck := by decide +kernel
  bd := fun _ _ _ _ _ _ us hl => match us, hl with | [_, _], _ => rfl
  kw := fun q h => by cases h

theorem ok6 : Z.DOk pg ⟨"_law_of", ["deal", "some"], 2, [], b6⟩ (dOf "_law_of" 8) where
  nm := rfl
  ql := rfl
  at_ := rfl
  df := rfl
  kd := rfl
  sc := by decide +kernel
  np := rfl
  ck := by decide +kernel
  bd := fun _ _ _ _ _ _ us hl => match us, hl with | [_, _], _ => rfl
  kw := fun q h => by cases h

theorem ok7 : Z.DOk pg ⟨"_law_mixed", ["deal", "some", "left", "found", "turn"], 2, [], b7⟩ (dOf "_law_mixed" 9) where
  nm := rfl
  ql := rfl
  at_ := rfl
  df := rfl
  kd := rfl
  sc := by decide +kernel
  np := rfl
  ck := by decide +kernel
  bd := fun _ _ _ _ _ _ us hl => match us, hl with | [_, _], _ => rfl
  kw := fun q h => by cases h

theorem ok8 : Z.DOk pg ⟨"_law_same", ["told", "due", "spot"], 2, [], b8⟩ (dOf "_law_same" 10) where
  nm := rfl
  ql := rfl
  at_ := rfl
  df := rfl
  kd := rfl
  sc := by decide +kernel
  np := rfl
  ck := by decide +kernel
  bd := fun _ _ _ _ _ _ us hl => match us, hl with | [_, _], _ => rfl
  kw := fun q h => by cases h

theorem ok9 : Z.DOk pg ⟨"_law_all", ["pairs", "told", "due"], 1, [], b9⟩ (dOf "_law_all" 11) where
  nm := rfl
  ql := rfl
  at_ := rfl
  df := rfl
  kd := rfl
  sc := by decide +kernel
  np := rfl
  ck := by decide +kernel
  bd := fun _ _ _ _ _ _ us hl => match us, hl with | [_], _ => rfl
  kw := fun q h => by cases h

theorem ok10 : Z.DOk pg ⟨"_law_near_prime", ["number", "near", "part"], 1, [], b10⟩ (dOf "_law_near_prime" 12) where
  nm := rfl
  ql := rfl
  at_ := rfl
  df := rfl
  kd := rfl
  sc := by decide +kernel
  np := rfl
  ck := by decide +kernel
  bd := fun _ _ _ _ _ _ us hl => match us, hl with | [_], _ => rfl
  kw := fun q h => by cases h

theorem ok11 : Z.DOk pg ⟨"_law_prime", ["deal", "shape"], 1, [], b11⟩ (dOf "_law_prime" 13) where
  nm := rfl
  ql := rfl
  at_ := rfl
  df := rfl
  kd := rfl
  sc := by decide +kernel
  np := rfl
  ck := by decide +kernel
  bd := fun _ _ _ _ _ _ us hl => match us, hl with | [_], _ => rfl
  kw := fun q h => by cases h

theorem ok12 : Z.DOk pg ⟨"_law_residue", ["deal", "prime", "shape", "wide", "turn"], 2, [], b12⟩ (dOf "_law_residue" 14) where
  nm := rfl
  ql := rfl
  at_ := rfl
  df := rfl
  kd := rfl
  sc := by decide +kernel
  np := rfl
  ck := by decide +kernel
  bd := fun _ _ _ _ _ _ us hl => match us, hl with | [_, _], _ => rfl
  kw := fun q h => by cases h

theorem ok13 : Z.DOk pg ⟨"_law_row", ["deal", "prime", "many", "found", "spot", "by", "add"], 3, [], b13⟩ (dOf "_law_row" 15) where
  nm := rfl
  ql := rfl
  at_ := rfl
  df := rfl
  kd := rfl
  sc := by decide +kernel
  np := rfl
  ck := by decide +kernel
  bd := fun _ _ _ _ _ _ us hl => match us, hl with | [_, _, _], _ => rfl
  kw := fun q h => by cases h

theorem ok14 : Z.DOk pg ⟨"_law_put", ["some", "spot", "thing"], 3, [], b14⟩ (dOf "_law_put" 16) where
  nm := rfl
  ql := rfl
  at_ := rfl
  df := rfl
  kd := rfl
  sc := by decide +kernel
  np := rfl
  ck := by decide +kernel
  bd := fun _ _ _ _ _ _ us hl => match us, hl with | [_, _, _], _ => rfl
  kw := fun q h => by cases h

theorem ok15 : Z.DOk pg ⟨"_law_power", ["base", "many", "prime", "found", "square", "left", "turn"], 3, [], b15⟩ (dOf "_law_power" 17) where
  nm := rfl
  ql := rfl
  at_ := rfl
  df := rfl
  kd := rfl
  sc := by decide +kernel
  np := rfl
  ck := by decide +kernel
  bd := fun _ _ _ _ _ _ us hl => match us, hl with | [_, _, _], _ => rfl
  kw := fun q h => by cases h

theorem ok16 : Z.DOk pg ⟨"_law_inverse", ["number", "prime"], 2, [], b16⟩ (dOf "_law_inverse" 18) where
  nm := rfl
  ql := rfl
  at_ := rfl
  df := rfl
  kd := rfl
  sc := by decide +kernel
  np := rfl
  ck := by decide +kernel
  bd := fun _ _ _ _ _ _ us hl => match us, hl with | [_, _], _ => rfl
  kw := fun q h => by cases h

theorem ok17 : Z.DOk pg ⟨"_law_code", ["prime", "row", "many", "heads", "left", "turn", "at", "found"], 3, [], b17⟩ (dOf "_law_code" 19) where
  nm := rfl
  ql := rfl
  at_ := rfl
  df := rfl
  kd := rfl
  sc := by decide +kernel
  np := rfl
  ck := by decide +kernel
  bd := fun _ _ _ _ _ _ us hl => match us, hl with | [_, _, _], _ => rfl
  kw := fun q h => by cases h

theorem ok18 : Z.DOk pg ⟨"_law_shares_of", ["prime", "length", "found", "here", "part", "other"], 2, [], b18⟩ (dOf "_law_shares_of" 20) where
  nm := rfl
  ql := rfl
  at_ := rfl
  df := rfl
  kd := rfl
  sc := by decide +kernel
  np := rfl
  ck := by decide +kernel
  bd := fun _ _ _ _ _ _ us hl => match us, hl with | [_, _], _ => rfl
  kw := fun q h => by cases h

theorem ok19 : Z.DOk pg ⟨"_law_worth_at", ["prime", "row", "parts", "at", "found", "here", "part", "other"], 4, [], b19⟩ (dOf "_law_worth_at" 21) where
  nm := rfl
  ql := rfl
  at_ := rfl
  df := rfl
  kd := rfl
  sc := by decide +kernel
  np := rfl
  ck := by decide +kernel
  bd := fun _ _ _ _ _ _ us hl => match us, hl with | [_, _, _, _], _ => rfl
  kw := fun q h => by cases h

theorem ok20 : Z.DOk pg ⟨"_law_rooted_row", ["prime", "row", "roots", "top", "found", "at", "part", "root"], 4, [], b20⟩ (dOf "_law_rooted_row" 22) where
  nm := rfl
  ql := rfl
  at_ := rfl
  df := rfl
  kd := rfl
  sc := by decide +kernel
  np := rfl
  ck := by decide +kernel
  bd := fun _ _ _ _ _ _ us hl => match us, hl with | [_, _, _, _], _ => rfl
  kw := fun q h => by cases h

theorem ok21 : Z.DOk pg ⟨"_law_is_code", ["prime", "row", "length"], 3, [], b21⟩ (dOf "_law_is_code" 23) where
  nm := rfl
  ql := rfl
  at_ := rfl
  df := rfl
  kd := rfl
  sc := by decide +kernel
  np := rfl
  ck := by decide +kernel
  bd := fun _ _ _ _ _ _ us hl => match us, hl with | [_, _, _], _ => rfl
  kw := fun q h => by cases h

theorem ok22 : Z.DOk pg ⟨"law", ["script", "deal", "prime", "length", "many", "row", "parts", "due", "at", "roots", "other", "told", "beside", "pairs", "spot", "bent", "some", "left", "right", "both", "sums"], 1, [], b22⟩ (dOf "law" 24) where
  nm := rfl
  ql := rfl
  at_ := rfl
  df := rfl
  kd := rfl
  sc := by decide +kernel
  np := rfl
  ck := by decide +kernel
  bd := fun _ _ _ _ _ _ us hl => match us, hl with | [_], _ => rfl
  kw := fun q h => by cases h

theorem allOk : Z.All2 pg fs ds := (.cons ok0 (.cons ok1 (.cons ok2 (.cons ok3 (.cons ok4 (.cons ok5 (.cons ok6 (.cons ok7 (.cons ok8 (.cons ok9 (.cons ok10 (.cons ok11 (.cons ok12 (.cons ok13 (.cons ok14 (.cons ok15 (.cons ok16 (.cons ok17 (.cons ok18 (.cons ok19 (.cons ok20 (.cons ok21 (.cons ok22 .nil)))))))))))))))))))))))

def lawIx : Nat := 22

end K75

set_option Elab.async false
set_option linter.all false
set_option maxRecDepth 100000
set_option maxHeartbeats 0
namespace K75
open PySem PySem.Spec PyProof.Rows L2 Z
abbrev R : PySem.W.OpenRow := PySem.W.OpenLaw.row PySem.Challenge.rw_shortpapers_k75_rows_in_a_code
abbrev fa : List He.Fa := faOf fs cons free
abbrev hk : PySem.W.Hook := He.hookD 4 fa ds
def ob (s : PySem.W.SharedT) : He.AlD := He.obsDG 4 fa ds (HandSHeadRun.getT s)
theorem ob_eq (s : PySem.W.SharedT) : ob s = hk.obs s.abs := He.obsDG_eq (HandSHeadRun.getT_eq s)
def loose : List Str := (["first_differences", "stepped", "spread_row", "is_spread", "_law_deal", "_law_any", "_law_of", "_law_mixed", "_law_same", "_law_all", "_law_near_prime", "_law_prime", "_law_residue", "_law_row", "_law_put", "_law_power"] : List Str) ++ (["_law_inverse", "_law_code", "_law_shares_of", "_law_worth_at", "_law_rooted_row", "_law_is_code"] : List Str)
theorem run (w : World) : HandSHeadRun.RunEq R (PySem.W.view R.prog [24]) hk ob 4000 loose w := by
  intro os
  kernel_rfl
theorem head (T : ∀ ns : List Int, ns.length ≤ 63 → Z.run fs 9 lawIx none [.scr ns] = some (.dat (.bl true), none)) : PySem.Challenge.rw_shortpapers_k75_rows_in_a_code.Holds := by
  w_on; o_law
  refine HandSHeadRun.head_any (r := R) (q := PySem.W.view R.prog [24]) (H := hk) (ob := ob) (M := 4000) (loose := loose) (d := HandSHeadRun.topDef R.prog 24) (kwd := []) ob_eq
    (by kernel_rfl) (fun s => by kernel_rfl) run (by kernel_rfl) (by kernel_rfl) (by kernel_rfl) (by rfl) (by first | assumption | decide +kernel) (by decide +kernel) ⟨rfl, rfl, rfl, rfl, rfl, by decide +kernel⟩ ?hw ?hc
  case hw => w_witness2
  case hc =>
    refine L2.walk_ofE (l := PySem.Challenge.rw_shortpapers_k75_rows_in_a_code) (n := 63) (k := 9) (x := "script") (CX := L2.CX0) rfl (by decide) (by kernel_rfl) ⟨rfl, by decide, by decide⟩ ?F (fun _ _ _ _ z => z)
    intro w mg fa h Y G hmg0
    obtain ⟨K, KX, c⟩ := Y
    have hmg : mg ("law" : PySem.Str) = some (.ref fa) := by
      have e : (HandSHeadRun.topDef R.prog 24).name = ("law" : PySem.Str) := by kernel_rfl
      rw [← e]
      exact hmg0
    obtain ⟨fd, sp, h1, h2, h3⟩ := law_end (P := PySem.Challenge.rw_shortpapers_k75_rows_in_a_code.prog) (w := w) (k := 9) (i := lawIx) allOk rfl rfl rfl (by decide +kernel) T KX G hmg c
    exact ⟨K, fd, sp, KX, h1, h2, h3⟩
end K75

set_option Elab.async false
set_option linter.all false
set_option maxRecDepth 100000
set_option maxHeartbeats 4000000
namespace K75
open Z Nu Dq Pl Ca
theorem up {k i : Nat} {f : Z.Fn} {q : Dl} {ds : List D} {x : Option (Rt × Dl)} (h : fs[i]? = some f) (e : runF (Z.run fs k) f.N.length f.b q ds = x) : Z.run fs (k + 1) i q ds = x := by
  rw [run_S h]; exact e
theorem upW {k i : Nat} {f : Z.Fn} {P : Sm → Prop} (h : fs[i]? = some f) (e : P (runF (Z.run fs k) f.N.length f.b)) : P (Z.run fs (k + 1) i) := by
  rw [run_S h]; exact e
theorem r0 (k : Nat) (p : Int) (row : List Int) (hp : 0 < p) (hl : row.length ≤ 1000000) : Z.run fs (k + 1) 0 none [.int p, .tup (zi row)] = some (.dat (.lst (zi (hds p row.length row))), none) := up rfl (dif_ok _ p row hp hl)
theorem r1 (k : Nat) (p : Int) (ds : List Int) (hp : 0 < p) (h0 : ds ≠ []) (hl : ds.length ≤ 1000000) : Z.run fs (k + 1) 1 none [.int p, .lst (zi ds)] = some (.dat (.lst (zi (stp p ds))), none) := up rfl (stp_ok _ p ds hp h0 hl)
theorem r2 (k : Nat) (p : Int) (row : List Int) (M : Nat) (hp : 0 < p) (h0 : row ≠ []) (hr : Rs p row) (hl : row.length ≤ 1000) (hM : M ≤ 1000) : Z.run fs (k + 2) 2 none [.int p, .tup (zi row), .int M] = some (.dat (.tup (zi (cod p row M))), none) := up rfl (spr_ok _ 0 1 p row M hp h0 hr hl hM (r0 k p row hp (by omega)) fun ds h1 h2 => r1 k p ds hp h1 (by omega))
theorem take_ne {l : List Int} {n : Nat} (h : l ≠ []) (hn : 1 ≤ n) : l.take n ≠ [] := by
  have := List.length_pos_iff.mpr h
  exact List.length_pos_iff.mp (by rw [List.length_take]; omega)
theorem rs_take {p : Int} {l : List Int} (h : Rs p l) (n : Nat) : Rs p (l.take n) := fun x hx => h x (List.mem_of_mem_take hx)
theorem r3 (k : Nat) (p : Int) (row : List Int) (n : Nat) (hp : 0 < p) (h0 : row ≠ []) (hr : Rs p row) (hl : row.length ≤ 1000) (hn : 1 ≤ n) : Z.run fs (k + 3) 3 none [.int p, .tup (zi row), .int n] = some (.dat (.bl (decide (cod p (row.take n) row.length = row))), none) := up rfl (iss_ok _ 2 p row n (r2 k p (row.take n) row.length hp (take_ne h0 hn) (rs_take hr n) (by rw [List.length_take]; omega) hl))
theorem r4 (k : Nat) (ns : List Int) : wO (Z.run fs (k + 1) 4 none [.scr ns, .int 75]) fun rt q' => ∃ (cs : List Int) (m : Int), rt = .deal (zi cs) (.int m) ∧ q' = none ∧ cs.length ≤ 63 := upW (P := fun g => wO (g none [.scr ns, .int 75]) fun rt q' => ∃ (cs : List Int) (m : Int), rt = .deal (zi cs) (.int m) ∧ q' = none ∧ cs.length ≤ 63) rfl (deal_ok _ ns 75)
theorem r5 (k : Nat) : AnyOk (Z.run fs (k + 1) 5) := upW (P := AnyOk) rfl (anyB_ok _)
theorem r6 (k : Nat) : OfOk (Z.run fs (k + 2) 6) := upW (P := OfOk) rfl (of_ok _ 5 (r5 k))
theorem r7 (k : Nat) : MixdOk (Z.run fs (k + 2) 7) := upW (P := MixdOk) rfl (mixd_ok _ 5 (r5 k))
theorem r8p (k : Nat) (d : D) (h : plain d = true) : Z.run fs (k + 1) 8 none [d, d] = some (.dat (.bl true), none) := up rfl (sameB_p _ 8 d h)
theorem r8 (k : Nat) (d : D) (h : gdB d) : Z.run fs (k + 2) 8 none [d, d] = some (.dat (.bl true), none) := by
  rcases h with h | ⟨ds, rfl, hl, h⟩
  · exact r8p (k + 1) d h
  · exact up rfl (sameB_t _ 8 ds (by omega) fun d hd => r8p k d (h d hd))
theorem r9 (k : Nat) (es : List D) (h : ∀ d ∈ es, gdB d) : Z.run fs (k + 3) 9 none [.lst (dbl es)] = some (.dat (.bl true), none) := up rfl (all_ok _ 8 es fun d hd => r8 k d (h d hd))
theorem r10 (k n : Nat) (h1 : 5 ≤ n) (h2 : n ≤ 9005) : wO (Z.run fs (k + 1) 10 none [.int n]) fun rt q' => PriR rt q' none := upW (P := fun g => wO (g none [.int n]) fun rt q' => PriR rt q' none) rfl (near_ok _ n h1 h2)
theorem r11 (k : Nat) : PriOk (Z.run fs (k + 3) 11) := upW (P := PriOk) rfl (pri_ok _ 5 6 10 (r5 (k + 1)) (r6 k) fun n h1 h2 => r10 (k + 1) n h1 h2)
theorem r12 (k : Nat) : ResOk (Z.run fs (k + 2) 12) := upW (P := ResOk) rfl (res_ok _ 5 (r5 k))
theorem r13 (k : Nat) : RowOk (Z.run fs (k + 3) 13) := upW (P := RowOk) rfl (row_ok _ 12 (r12 k))
theorem r14 (k : Nat) (ds : List D) (s : Nat) (x : D) (hl : ds.length ≤ 1000) (hs : s < ds.length) : Z.run fs (k + 1) 14 none [.tup ds, .int s, x] = some (.dat (.tup (ds.set s x)), none) := up rfl (put_ok _ ds s x (by omega) hs)
theorem r15 (k : Nat) (b p : Int) (e : Nat) (hp : 1 < p) (hp2 : p < 2 ^ 64) (he : e < 2 ^ 64) : Z.run fs (k + 1) 15 none [.int b, .int e, .int p] = some (.dat (.int (b ^ e % p)), none) := up rfl (pow_ok _ b p e hp hp2 he)
theorem r16 (k : Nat) (b p : Int) (hp : 5 ≤ p) (hp2 : p < 2 ^ 64) : Z.run fs (k + 2) 16 none [.int b, .int p] = some (.dat (.int (b ^ (p - 2).toNat % p)), none) := up rfl (inv_ok _ 15 b p (by
  have := r15 k b p (p - 2).toNat (by omega) hp2 (by omega)
  rw [show (((p - 2).toNat : Nat) : Int) = p - 2 by omega] at this
  exact this))
theorem r17 (k : Nat) (p : Int) (row : List Int) (M : Nat) (hp : 0 < p) (h0 : row ≠ []) (hl : row.length ≤ 1000) (hM : M ≤ 1000) : Z.run fs (k + 1) 17 none [.int p, .tup (zi row), .int M] = some (.dat (.tup (zi (cod p row M))), none) := up rfl (cod_ok _ p row M hp h0 hl hM)
theorem r18 (k : Nat) (p : Int) (n : Nat) (hp : 5 ≤ p) (hp2 : p < 2 ^ 64) (hn : n ≤ 1000) : Z.run fs (k + 3) 18 none [.int p, .int n] = some (.dat (.lst (zi (shares p n))), none) := up rfl (sha_ok _ 16 p n (by omega) hp2 hn fun b _ _ => r16 k b p hp hp2)
theorem r19 (k : Nat) (p : Int) (row : List Int) (a : Nat) (hp : 5 ≤ p) (hp2 : p < 2 ^ 64) (hr : Rs p row) (hl : row.length ≤ 1000) (ha : a ≤ 1000) : Z.run fs (k + 1) 19 none [.int p, .tup (zi row), .lst (zi (shares p row.length)), .int a] = some (.dat (.int (lag p row row.length a % p)), none) := up rfl (wat_ok _ p row a (by omega) hp2 hr hl ha)
theorem r20 (k : Nat) (p : Int) (row roots : List Int) (top : Int) (hp : 5 ≤ p) (hp2 : p < 2 ^ 64) (ht : 0 ≤ top ∧ top < p) (hl : row.length ≤ 1000) : Z.run fs (k + 1) 20 none [.int p, .tup (zi row), .lst (zi roots), .int top] = some (.dat (.tup (zi (rooted p row roots top))), none) := up rfl (roo_ok _ p row roots top (by omega) hp2 ht hl)
theorem r21 (k : Nat) (p : Int) (row : List Int) (n : Nat) (hp : 0 < p) (h0 : row ≠ []) (hl : row.length ≤ 1000) (hn : 1 ≤ n) : Z.run fs (k + 2) 21 none [.int p, .tup (zi row), .int n] = some (.dat (.bl (decide (cod p (row.take n) row.length = row))), none) := up rfl (isc_ok _ 17 p row n (r17 k p (row.take n) row.length hp (take_ne h0 hn) (by rw [List.length_take]; omega) hl))
theorem g64 {p : Int} (g : GoodP p) : 0 < p ∧ 5 ≤ p ∧ p < 2 ^ 64 := by
  have := g.lo
  have := g.hi
  omega
theorem law (ns : List Int) : Z.run fs 9 22 none [.scr ns] = some (.dat (.bl true), none) := up (k := 8) rfl (law_ok _ ns {
  hD := r4 7 ns
  hA := r5 7
  hO := r6 6
  hM := r7 6
  hP := r11 5
  hR := r12 6
  hW := r13 5
  h2 := fun p row M g a b c d => r2 6 p row M (g64 g).1 a b (by omega) (by omega)
  h17 := fun p row M g a b c d => r17 7 p row M (g64 g).1 a (by omega) (by omega)
  h3 := fun p row n g a b c d => r3 5 p row n (g64 g).1 a b (by omega) d
  h21 := fun p row n g a b c d => r21 6 p row n (g64 g).1 a (by omega) d
  h14 := fun ds s x a b => r14 7 ds s x a b
  h18 := fun p n g a => r18 5 p n (g64 g).2.1 (g64 g).2.2 (by omega)
  h19 := fun p row n g a b c => r19 7 p row n (g64 g).2.1 (g64 g).2.2 a (by omega) (by omega)
  h20 := fun p row roots top g a b => r20 7 p row roots top (g64 g).2.1 (g64 g).2.2 a (by omega)
  hL := fun es h => r9 5 es h })
theorem holds : PySem.Challenge.rw_shortpapers_k75_rows_in_a_code.Holds := head fun ns _ => law ns
end K75

theorem PySem.Challenge.cw_shortpapers_k75_rows_in_a_code_holds : PySem.Challenge.rw_shortpapers_k75_rows_in_a_code.Holds := by
  exact K75.holds
