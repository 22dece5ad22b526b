import PyProof.Rows.All
import Wide.All
import OpenK.AllK
import Wide.FinOn
import HandS.ForMost
import HandS.ForExc
import HandS.TryMany
import HandS.ExcInit
import HandS.TupAny
import HandS.TupMul
import HandS.Style
import HandS.IsInst
import HandS.Zip
import HandS.Walk
import HandS.Wide
import HandS.Conv
import HandS.Deep
import KE.DataEq
import HandS.Flow
import HandS.Star
import PyProof.LongRange
import HandS.Strs
import HandS.SetFor
import HandS.EndBits
import PySem.Challenge.RW_endlessfingers_k28_main_one_short_lasso
set_option Elab.async false
set_option linter.all false
set_option maxRecDepth 100000
set_option maxHeartbeats 4000000
/-! The D layer: data without heap, slots with owned lists; what an expression, a statement means, as a plain function. -/
namespace F
open PySem PySem.Spec PyProof.Rows L2

/-- data without heap -/
inductive D where
  | non | bl (b : Bool) | int (i : Int) | str (x : Str)
  | tup (xs : List D) | lst (xs : List D) | scr (xs : List D)
/-- an own exception -/
inductive Ex where
  | plain (n : Nat) | field (n : Nat) (d : D)
/-- what comes of a piece of code -/
inductive Re (α : Type) where
  | ok (a : α) | ex (e : Ex) | bad
namespace Re
def bind {α β : Type} (x : Re α) (f : α → Re β) : Re β := match x with
  | .ok a => f a
  | .ex e => .ex e
  | .bad => .bad
end Re
/-- what a name holds: data, or a list that is its own -/
inductive Sv where
  | v (d : D) | m (xs : List D)
/-- a value: data, or the list of the name at place i -/
inductive S where
  | v (d : D) | r (i : Nat)
abbrev Sl := List (Option Sv)
/-- what comes of an expression: with the slots behind it -/
inductive R (α : Type) where
  | ok (a : α) (sl : Sl) | ex (e : Ex) (sl : Sl) | bad
def R.bind {α β : Type} (x : R α) (f : α → Sl → R β) : R β := match x with
  | .ok a sl => f a sl
  | .ex e sl => .ex e sl
  | .bad => .bad
abbrev Ev := Sl → R S
abbrev Evs := Sl → R (List S)
/-- what comes of a statement -/
inductive Fl where
  | nx (sl : Sl) | rt (s : S) (sl : Sl) | bk (sl : Sl) | ct (sl : Sl) | ex (e : Ex) (sl : Sl) | bad
abbrev Sm := Sl → Fl

/-- the world's own places -/
structure Glue where
  K : PySem.W.Frag
  exA : Nat → Addr
  exF : Nat → Str

/-! ### data in a heap -/
/-- a list that no one writes: known to an object outside, or an object of the module -/
def SqS (K : PySem.W.Frag) (H : Hp) (a : Addr) (xs : List V) : Prop :=
  (∃ o, H a = some (.frz o (.lst xs))) ∨
    ∃ (o : Obj) (its : Array Value) (n : Nat), K.lookup a = some o ∧ o.cls = .type "list" ∧ o.dict = none ∧ o.data = .seq its n ∧ its.size ≤ sizeLine ∧ Vals xs its.toList
theorem SqS.l {K : PySem.W.Frag} {H : Hp} {a : Addr} {xs : List V} (h : SqS K H a xs) : SqL K H a xs := by
  rcases h with ⟨o, h⟩ | h
  · exact .inl (.inr ⟨o, h⟩)
  · exact .inr h
mutual
inductive Rv (G : Glue) (N : Addr → Prop) (H : Hp) : D → V → Prop
  | non : Rv G N H .non .non
  | bl (b : Bool) : Rv G N H (.bl b) (.bl b)
  | int (i : Int) : Rv G N H (.int i) (.int i)
  | str (x : Str) : Rv G N H (.str x) (.str x)
  | tup {a : Addr} {vs : List V} {ds : List D} : SqT G.K H a vs → Rvs G N H ds vs → Rv G N H (.tup ds) (.ref a)
  | lst {a : Addr} {vs : List V} {ds : List D} : H a = some (.lst vs) → ¬ N a → Rvs G N H ds vs → Rv G N H (.lst ds) (.ref a)
  | scr {a : Addr} {vs : List V} {ds : List D} : SqS G.K H a vs → Rvs G N H ds vs → Rv G N H (.scr ds) (.ref a)
inductive Rvs (G : Glue) (N : Addr → Prop) (H : Hp) : List D → List V → Prop
  | nil : Rvs G N H [] []
  | cons {d : D} {v : V} {ds : List D} {vs : List V} : Rv G N H d v → Rvs G N H ds vs → Rvs G N H (d :: ds) (v :: vs)
end

/-- what never changes -/
def Fixed : HO → Prop
  | .tup _ => True
  | .frz _ _ => True
  | _ => False
/-- all is kept but the lists at O -/
def Keep (O : Addr → Prop) (H H' : Hp) : Prop := ∀ a o, H a = some o → (O a → Fixed o) → H' a = some o
theorem Keep.refl {O : Addr → Prop} {H : Hp} : Keep O H H := fun _ _ h _ => h
theorem Keep.trans {O : Addr → Prop} {H H1 H2 : Hp} (a : Keep O H H1) (b : Keep O H1 H2) : Keep O H H2 := fun x o h f => b x o (a x o h f) f
theorem Keep.same {O : Addr → Prop} {H H' : Hp} (s : Same H H') : Keep O H H' := fun a o h _ => s a o h
theorem Keep.mono {O O' : Addr → Prop} {H H' : Hp} (k : Keep O H H') (h : ∀ a, O a → O' a) : Keep O' H H' := fun a o e f => k a o e fun z => f (h a z)
theorem Keep.upd {O : Addr → Prop} {H : Hp} {a : Addr} {o u : HO} (h : H a = some o) (n : ¬ Fixed o) (q : O a) : Keep O H (upd H a u) := fun b x e f => by
  by_cases z : b = a
  · subst z; rw [h] at e; cases e; exact absurd (f q) n
  · rw [upd_ne z]; exact e
theorem same_fresh {H : Hp} {p : Addr} (h : H p = none) (o : HO) : Same H (upd H p o) := fun b u q => by rw [upd_ne (ne_of_none q h)]; exact q

theorem SqT.keep {K : PySem.W.Frag} {O : Addr → Prop} {H H' : Hp} {a : Addr} {xs : List V} (k : Keep O H H') (h : SqT K H a xs) : SqT K H' a xs := by
  rcases h with (h | ⟨o, h⟩) | h
  · exact .inl (.inl (k a _ h fun _ => trivial))
  · exact .inl (.inr ⟨o, k a _ h fun _ => trivial⟩)
  · exact .inr h
theorem SqS.keep {K : PySem.W.Frag} {O : Addr → Prop} {H H' : Hp} {a : Addr} {xs : List V} (k : Keep O H H') (h : SqS K H a xs) : SqS K H' a xs := by
  rcases h with ⟨o, h⟩ | h
  · exact .inl ⟨o, k _ _ h fun _ => trivial⟩
  · exact .inr h
theorem Rd.keep {O : Addr → Prop} {H H' : Hp} {a : Addr} {u : HO} (k : Keep O H H') (n : ¬ O a) (h : Rd H a u) : Rd H' a u := by
  rcases h with h | ⟨o, h⟩
  · exact .inl (k a _ h fun z => absurd z n)
  · exact .inr ⟨o, k a _ h fun _ => trivial⟩

mutual
theorem Rv.keep {G : Glue} {N O : Addr → Prop} {H H' : Hp} (k : Keep O H H') (hO : ∀ a, O a → N a) : ∀ {d : D} {v : V}, Rv G N H d v → Rv G N H' d v
  | .non, _, h => by cases h; exact .non
  | .bl b, _, h => by cases h; exact .bl b
  | .int i, _, h => by cases h; exact .int i
  | .str x, _, h => by cases h; exact .str x
  | .tup ds, _, h => by
    cases h with
    | tup hs ha => exact .tup (SqT.keep k hs) (Rvs.keep k hO ha)
  | .lst ds, _, h => by
    cases h with
    | lst hs n ha => exact .lst (k _ _ hs fun z => absurd (hO _ z) n) n (Rvs.keep k hO ha)
  | .scr ds, _, h => by
    cases h with
    | scr hs ha => exact .scr (SqS.keep k hs) (Rvs.keep k hO ha)
theorem Rvs.keep {G : Glue} {N O : Addr → Prop} {H H' : Hp} (k : Keep O H H') (hO : ∀ a, O a → N a) : ∀ {ds : List D} {vs : List V}, Rvs G N H ds vs → Rvs G N H' ds vs
  | [], _, h => by cases h; exact .nil
  | d :: ds, _, h => by
    cases h with
    | cons h1 h2 => exact .cons (Rv.keep k hO h1) (Rvs.keep k hO h2)
end
/-- another set of places that no data lies at -/
theorem Rv.anti' {G : Glue} {N N' : Addr → Prop} {H : Hp} (hn : ∀ a o, H a = some o → N' a → N a) : ∀ {d : D} {v : V}, Rv G N H d v → Rv G N' H d v := by
  intro d v h
  refine Rv.rec (G := G) (N := N) (H := H) (motive_1 := fun d v _ => Rv G N' H d v) (motive_2 := fun ds vs _ => Rvs G N' H ds vs) .non .bl .int .str ?_ ?_ ?_ .nil ?_ h
  · intro a vs ds hs _ ih; exact .tup hs ih
  · intro a vs ds hs n _ ih
    exact .lst hs (fun z => n (hn a _ hs z)) ih
  · intro a vs ds hs _ ih; exact .scr hs ih
  · intro d v ds vs _ _ h1 h2; exact .cons h1 h2
theorem Rvs.anti' {G : Glue} {N N' : Addr → Prop} {H : Hp} (hn : ∀ a o, H a = some o → N' a → N a) : ∀ {ds : List D} {vs : List V}, Rvs G N H ds vs → Rvs G N' H ds vs
  | [], _, h => by cases h; exact .nil
  | d :: ds, _, h => by
    cases h with
    | cons h1 h2 => exact .cons (Rv.anti' hn h1) (Rvs.anti' hn h2)
theorem Rv.anti {G : Glue} {N N' : Addr → Prop} {H : Hp} {d : D} {v : V} (hn : ∀ a, N' a → N a) (h : Rv G N H d v) : Rv G N' H d v := h.anti' fun a _ _ => hn a
theorem Rvs.anti {G : Glue} {N N' : Addr → Prop} {H : Hp} {d : List D} {v : List V} (hn : ∀ a, N' a → N a) (h : Rvs G N H d v) : Rvs G N' H d v := h.anti' fun a _ _ => hn a
theorem Rvs.length {G : Glue} {N : Addr → Prop} {H : Hp} : ∀ {ds : List D} {vs : List V}, Rvs G N H ds vs → ds.length = vs.length
  | [], _, h => by cases h; rfl
  | d :: ds, _, h => by
    cases h with
    | cons h1 h2 => simp [Rvs.length h2]
theorem Rvs.get {G : Glue} {N : Addr → Prop} {H : Hp} : ∀ {ds : List D} {vs : List V} {i : Nat} {v : V}, Rvs G N H ds vs → vs[i]? = some v → ∃ d, ds[i]? = some d ∧ Rv G N H d v
  | [], _, _, _, h, e => by cases h; simp at e
  | d :: ds, _, 0, v, h, e => by
    cases h with
    | cons h1 h2 => simp at e; subst e; exact ⟨d, rfl, h1⟩
  | d :: ds, _, i + 1, v, h, e => by
    cases h with
    | cons h1 h2 =>
      obtain ⟨x, q, r⟩ := Rvs.get (i := i) h2 (by simpa using e)
      exact ⟨x, by simpa using q, r⟩
theorem Rvs.getD {G : Glue} {N : Addr → Prop} {H : Hp} : ∀ {ds : List D} {vs : List V} {i : Nat} {d : D}, Rvs G N H ds vs → ds[i]? = some d → ∃ v, vs[i]? = some v ∧ Rv G N H d v
  | [], _, _, _, h, e => by simp at e
  | d :: ds, _, 0, v, h, e => by
    cases h with
    | cons h1 h2 => simp at e; subst e; exact ⟨_, rfl, h1⟩
  | d :: ds, _, i + 1, v, h, e => by
    cases h with
    | cons h1 h2 =>
      obtain ⟨x, q, r⟩ := Rvs.getD (i := i) h2 (by simpa using e)
      exact ⟨x, by simpa using q, r⟩
theorem Rvs.append {G : Glue} {N : Addr → Prop} {H : Hp} : ∀ {ds es : List D} {vs ws : List V}, Rvs G N H ds vs → Rvs G N H es ws → Rvs G N H (ds ++ es) (vs ++ ws)
  | [], _, _, _, h, q => by cases h; exact q
  | d :: ds, _, _, _, h, q => by
    cases h with
    | cons h1 h2 => exact .cons h1 (Rvs.append h2 q)
theorem Rvs.take {G : Glue} {N : Addr → Prop} {H : Hp} : ∀ (n : Nat) {ds : List D} {vs : List V}, Rvs G N H ds vs → Rvs G N H (ds.take n) (vs.take n)
  | 0, _, _, _ => .nil
  | n + 1, [], _, h => by cases h; exact .nil
  | n + 1, d :: ds, _, h => by
    cases h with
    | cons h1 h2 => exact .cons h1 (Rvs.take n h2)
theorem Rvs.drop {G : Glue} {N : Addr → Prop} {H : Hp} : ∀ (n : Nat) {ds : List D} {vs : List V}, Rvs G N H ds vs → Rvs G N H (ds.drop n) (vs.drop n)
  | 0, _, _, h => h
  | n + 1, [], _, h => by cases h; exact .nil
  | n + 1, d :: ds, _, h => by
    cases h with
    | cons h1 h2 => exact Rvs.drop n h2
theorem Rvs.reverse {G : Glue} {N : Addr → Prop} {H : Hp} : ∀ {ds : List D} {vs : List V}, Rvs G N H ds vs → Rvs G N H ds.reverse vs.reverse
  | [], _, h => by cases h; exact .nil
  | d :: ds, _, h => by
    cases h with
    | cons h1 h2 => rw [List.reverse_cons, List.reverse_cons]; exact (Rvs.reverse h2).append (.cons h1 .nil)
theorem Rvs.set {G : Glue} {N : Addr → Prop} {H : Hp} {x : D} {v : V} (r : Rv G N H x v) : ∀ (i : Nat) {ds : List D} {vs : List V}, Rvs G N H ds vs → Rvs G N H (ds.set i x) (vs.set i v)
  | _, [], _, h => by cases h; exact .nil
  | 0, d :: ds, _, h => by
    cases h with
    | cons h1 h2 => exact .cons r h2
  | i + 1, d :: ds, _, h => by
    cases h with
    | cons h1 h2 => exact .cons h1 (Rvs.set r i h2)
theorem Rvs.eraseIdx {G : Glue} {N : Addr → Prop} {H : Hp} : ∀ (i : Nat) {ds : List D} {vs : List V}, Rvs G N H ds vs → Rvs G N H (ds.eraseIdx i) (vs.eraseIdx i)
  | _, [], _, h => by cases h; exact .nil
  | 0, d :: ds, _, h => by
    cases h with
    | cons h1 h2 => exact h2
  | i + 1, d :: ds, _, h => by
    cases h with
    | cons h1 h2 => exact .cons h1 (Rvs.eraseIdx i h2)
theorem Rvs.rep {G : Glue} {N : Addr → Prop} {H : Hp} {ds : List D} {vs : List V} (h : Rvs G N H ds vs) : ∀ k : Nat, Rvs G N H (List.replicate k ds).flatten (List.replicate k vs).flatten
  | 0 => .nil
  | k + 1 => by
    rw [List.replicate_succ, List.replicate_succ, List.flatten_cons, List.flatten_cons]
    exact h.append (Rvs.rep h k)
theorem Rvs.ints {G : Glue} {N : Addr → Prop} {H : Hp} : ∀ ns : List Int, Rvs G N H (ns.map D.int) (ns.map V.int)
  | [] => .nil
  | n :: ns => .cons (.int n) (Rvs.ints ns)
theorem Rvs.ints_inv {G : Glue} {N : Addr → Prop} {H : Hp} : ∀ {ns : List Int} {vs : List V}, Rvs G N H (ns.map D.int) vs → vs = ns.map V.int
  | [], _, h => by cases h; rfl
  | n :: ns, _, h => by
    cases h with
    | cons h1 h2 => cases h1; rw [Rvs.ints_inv h2]; rfl

/-- the lists and tuples of a heap are within the line -/
def HSz (H : Hp) : Prop := ∀ a xs, (Rd H a (.lst xs) ∨ Rd H a (.tup xs)) → xs.length ≤ sizeLine
theorem HSz.of {P : Program} {w : World} {H : Hp} {h : Heap} (x : HOk P w H h) : HSz H := fun a xs e => by
  rcases e with e | e
  · exact (e.ok x).1
  · exact (e.ok x).1
end F

set_option Elab.async false
set_option linter.all false
set_option maxRecDepth 100000
set_option maxHeartbeats 4000000
namespace F
open PySem PySem.Spec PyProof.Rows L2

/-- one running of a def: places that are not its own, the heap at its entry, the list handed in to be written, data that is held -/
structure Act where
  N0 : Addr → Prop
  H0 : Hp
  io : Option Addr
  hd : List (D × V)
abbrev St := L2.St
abbrev Own (A : Nat → Option Addr) : Addr → Prop := fun a => ∃ i, A i = some a
abbrev Act.N (T : Act) (A : Nat → Option Addr) : Addr → Prop := fun a => T.N0 a ∨ Own A a

/-- the slots, by the names' values and the heap -/
structure Sr (G : Glue) (T : Act) (A : Nat → Option Addr) (sl : Sl) (σ : St) (H : Hp) : Prop where
  val : ∀ (i : Nat) (d : D), sl[i]? = some (some (Sv.v d)) → ∃ v, σ[i]? = some (some v) ∧ Rv G (T.N A) H d v
  mu : ∀ (i : Nat) (xs : List D), sl[i]? = some (some (Sv.m xs)) → ∃ a vs, A i = some a ∧ σ[i]? = some (some (.ref a)) ∧ H a = some (.lst vs) ∧ Rvs G (T.N A) H xs vs
  len : sl.length = σ.length
  inj : ∀ (i j : Nat) (a : Addr), A i = some a → A j = some a → i = j
  own : ∀ (i : Nat) (a : Addr), A i = some a → (T.H0 a = none ∧ ¬ T.N0 a ∧ T.io ≠ some a) ∨ (T.io = some a ∧ i = 0 ∧ T.N0 a)
  alive : ∀ (i : Nat) (a : Addr), A i = some a → ∃ xs, H a = some (.lst xs)
  kept : ∀ b o, T.H0 b = some o → T.io ≠ some b → H b = some o
  trk : ∀ b, T.N0 b → ∃ o, H b = some o
  iot : ∀ a, T.io = some a → A 0 = some a
  held : ∀ p ∈ T.hd, Rv G (T.N A) H p.1 p.2
  sz : HSz H

section
variable {G : Glue} {T : Act} {A : Nat → Option Addr} {sl : Sl} {σ : St} {H H' : Hp}
theorem Sr.fresh (r : Sr G T A sl σ H) {p : Addr} (h : H p = none) : ¬ T.N A p := by
  rintro (z | ⟨i, z⟩)
  · obtain ⟨o, e⟩ := r.trk p z; rw [e] at h; cases h
  · obtain ⟨o, e⟩ := r.alive i p z; rw [e] at h; cases h
theorem Sr.fresh0 (r : Sr G T A sl σ H) {p : Addr} (h : H p = none) : T.H0 p = none := by
  cases e : T.H0 p with
  | none => rfl
  | some o =>
    by_cases z : T.io = some p
    · obtain ⟨o, e⟩ := r.alive 0 p (r.iot p z); rw [e] at h; cases h
    · rw [r.kept p o e z] at h; cases h
/-- the heap has grown -/
theorem Sr.grown (r : Sr G T A sl σ H) (s : Same H H') (z : HSz H') : Sr G T A sl σ H' := by
  have k : Keep (Own A) H H' := .same s
  have hO : ∀ a, Own A a → T.N A a := fun a h => .inr h
  refine ⟨fun i d e => ?_, fun i xs e => ?_, r.len, r.inj, r.own, fun i a e => ?_, fun b o e n => s b o (r.kept b o e n), fun b e => ?_, r.iot, fun p hp => Rv.keep k hO (r.held p hp), z⟩
  · obtain ⟨v, e1, e2⟩ := r.val i d e; exact ⟨v, e1, Rv.keep k hO e2⟩
  · obtain ⟨a, vs, e1, e2, e3, e4⟩ := r.mu i xs e; exact ⟨a, vs, e1, e2, s _ _ e3, Rvs.keep k hO e4⟩
  · obtain ⟨xs, q⟩ := r.alive i a e; exact ⟨xs, s _ _ q⟩
  · obtain ⟨o, q⟩ := r.trk b e; exact ⟨o, s _ _ q⟩
/-- the list of the name at place i is written, the heap may have grown -/
theorem Sr.turn (r : Sr G T A sl σ H) {i : Nat} {a : Addr} {xs : List D} {vs : List V} (hi : ∃ ys, sl[i]? = some (some (Sv.m ys))) (ha : A i = some a) (kb : ∀ b o, b ≠ a → H b = some o → H' b = some o) (hl : H' a = some (.lst vs))
    (hv : Rvs G (T.N A) H' xs vs) (z : HSz H') : Sr G T A (sl.set i (some (Sv.m xs))) σ H' ∧ Keep (Own A) H H' := by
  obtain ⟨us, hu⟩ := r.alive i a ha
  have k : Keep (Own A) H H' := fun b o e f => by
    by_cases hb : b = a
    · subst hb; rw [hu] at e; cases e; exact (f ⟨i, ha⟩).elim
    · exact kb b o hb e
  have hO : ∀ a, Own A a → T.N A a := fun a h => .inr h
  refine ⟨⟨fun j d e => ?_, fun j xs' e => ?_, by simpa using r.len, r.inj, r.own, fun j b e => ?_, fun b o e n => ?_, fun b e => ?_, r.iot, fun p hp => Rv.keep k hO (r.held p hp), z⟩, k⟩
  · by_cases hj : i = j
    · subst hj
      rw [List.getElem?_set] at e
      simp only [if_true] at e
      split at e <;> cases e
    · rw [List.getElem?_set_ne hj] at e
      obtain ⟨v, e1, e2⟩ := r.val j d e; exact ⟨v, e1, Rv.keep k hO e2⟩
  · by_cases hj : i = j
    · subst hj
      rw [List.getElem?_set] at e
      simp only [if_true] at e
      split at e <;> cases e
      obtain ⟨ys, hys⟩ := hi
      obtain ⟨a', vs', e1, e2, _, _⟩ := r.mu i ys hys
      rw [ha] at e1; cases e1
      exact ⟨a, vs, ha, e2, hl, hv⟩
    · rw [List.getElem?_set_ne hj] at e
      obtain ⟨b, vs', e1, e2, e3, e4⟩ := r.mu j xs' e
      have ne : b ≠ a := fun z => hj (r.inj i j a ha (z ▸ e1))
      exact ⟨b, vs', e1, e2, kb _ _ ne e3, Rvs.keep k hO e4⟩
  · by_cases hb : b = a
    · subst hb; exact ⟨vs, hl⟩
    · obtain ⟨ys, q⟩ := r.alive j b e; exact ⟨ys, kb _ _ hb q⟩
  · have ne : b ≠ a := fun z => by
      subst z
      rcases r.own i b ha with ⟨q, _⟩ | ⟨q, _⟩
      · rw [q] at e; cases e
      · exact n q
    exact kb _ _ ne (r.kept b o e n)
  · by_cases hb : b = a
    · subst hb; exact ⟨_, hl⟩
    · obtain ⟨o, q⟩ := r.trk b e; exact ⟨o, kb _ _ hb q⟩
/-- the list of the name at place i is written -/
theorem Sr.write (r : Sr G T A sl σ H) {i : Nat} {a : Addr} {xs : List D} {vs : List V} (hi : ∃ ys, sl[i]? = some (some (Sv.m ys))) (ha : A i = some a) (hv : Rvs G (T.N A) H xs vs) (z : HSz (upd H a (.lst vs))) :
    Sr G T A (sl.set i (some (Sv.m xs))) σ (upd H a (.lst vs)) ∧ Keep (Own A) H (upd H a (.lst vs)) := by
  obtain ⟨us, hu⟩ := r.alive i a ha
  exact r.turn hi ha (fun b o ne e => by rw [upd_ne ne]; exact e) upd_same (Rvs.keep (Keep.upd hu (fun z => z) ⟨i, ha⟩) (fun a h => .inr h) hv) z
/-- a name is bound to data -/
theorem Sr.set (r : Sr G T A sl σ H) (i : Nat) {d : D} {v : V} (hv : Rv G (T.N A) H d v) : Sr G T A (sl.set i (some (Sv.v d))) (σ.set i (some v)) H := by
  refine ⟨fun j d' e => ?_, fun j xs e => ?_, by simpa using r.len, r.inj, r.own, r.alive, r.kept, r.trk, r.iot, r.held, r.sz⟩
  · by_cases hj : i = j
    · subst hj
      rw [List.getElem?_set] at e
      simp only [if_true] at e
      split at e
      · rename_i hl
        cases e
        exact ⟨v, by rw [List.getElem?_set]; simp only [if_true]; rw [if_pos (by rw [← r.len]; exact hl)], hv⟩
      · cases e
    · rw [List.getElem?_set_ne hj] at e
      obtain ⟨v', e1, e2⟩ := r.val j d' e; exact ⟨v', by rw [List.getElem?_set_ne hj]; exact e1, e2⟩
  · by_cases hj : i = j
    · subst hj
      rw [List.getElem?_set] at e
      simp only [if_true] at e
      split at e <;> cases e
    · rw [List.getElem?_set_ne hj] at e
      obtain ⟨a, vs, e1, e2, e3, e4⟩ := r.mu j xs e
      exact ⟨a, vs, e1, by rw [List.getElem?_set_ne hj]; exact e2, e3, e4⟩
/-- a name is bound to a list of its own, just made at p -/
theorem Sr.setM (r : Sr G T A sl σ H) {i : Nat} {p : Addr} {xs : List D} {vs : List V} (hio : T.io = none ∨ i ≠ 0) (hp : H p = none) (hv : Rvs G (T.N A) H xs vs) (z : HSz (upd H p (.lst vs))) :
    Sr G T (fun j => if j = i then some p else A j) (sl.set i (some (Sv.m xs))) (σ.set i (some (.ref p))) (upd H p (.lst vs)) := by
  have s : Same H (upd H p (.lst vs)) := same_fresh hp _
  have np : ∀ b o, H b = some o → b ≠ p := fun b o e => ne_of_none e hp
  have hN : ∀ b o, H b = some o → T.N (fun j => if j = i then some p else A j) b → T.N A b := fun b o e h => by
    rcases h with h | ⟨j, h⟩
    · exact .inl h
    · dsimp only at h
      split at h
      · cases h; exact absurd rfl (np _ o e)
      · exact .inr ⟨j, h⟩
  have k : Keep (T.N A) H (upd H p (.lst vs)) := .same s
  have lift : ∀ {d : D} {v : V}, Rv G (T.N A) H d v → Rv G (T.N fun j => if j = i then some p else A j) (upd H p (.lst vs)) d v := fun h =>
    Rv.keep (O := fun _ => False) (.same s) (fun _ z => z.elim) (Rv.anti' hN h)
  have lifts : ∀ {d : List D} {v : List V}, Rvs G (T.N A) H d v → Rvs G (T.N fun j => if j = i then some p else A j) (upd H p (.lst vs)) d v := fun h =>
    Rvs.keep (O := fun _ => False) (.same s) (fun _ z => z.elim) (Rvs.anti' hN h)
  refine ⟨fun j d' e => ?_, fun j xs' e => ?_, by simpa using r.len, fun j l a e1 e2 => ?_, fun j a e => ?_, fun j a e => ?_, fun b o e n => s _ _ (r.kept b o e n), fun b e => ?_, fun a e => ?_, fun q hq => lift (r.held q hq), z⟩
  · by_cases hj : i = j
    · subst hj
      rw [List.getElem?_set] at e
      simp only [if_true] at e
      split at e <;> cases e
    · rw [List.getElem?_set_ne hj] at e
      obtain ⟨v', e1, e2⟩ := r.val j d' e; exact ⟨v', by rw [List.getElem?_set_ne hj]; exact e1, lift e2⟩
  · by_cases hj : i = j
    · subst hj
      rw [List.getElem?_set] at e
      simp only [if_true] at e
      split at e
      · rename_i hl
        cases e
        exact ⟨p, vs, if_pos rfl, by rw [List.getElem?_set]; simp only [if_true]; rw [if_pos (by rw [← r.len]; exact hl)], upd_same, lifts hv⟩
      · cases e
    · rw [List.getElem?_set_ne hj] at e
      obtain ⟨a, vs', e1, e2, e3, e4⟩ := r.mu j xs' e
      exact ⟨a, vs', by rw [if_neg (Ne.symm hj)]; exact e1, by rw [List.getElem?_set_ne hj]; exact e2, s _ _ e3, lifts e4⟩
  · have low : ∀ {m : Nat} {b : Addr}, A m = some b → b ≠ p := fun {m b} e => by
      obtain ⟨ys, q⟩ := r.alive m b e; exact np b _ q
    by_cases h1 : j = i
    · by_cases h2 : l = i
      · rw [h1, h2]
      · rw [if_pos h1] at e1; rw [if_neg h2] at e2; cases e1; exact absurd rfl (low e2)
    · by_cases h2 : l = i
      · rw [if_neg h1] at e1; rw [if_pos h2] at e2; cases e2; exact absurd rfl (low e1)
      · rw [if_neg h1] at e1; rw [if_neg h2] at e2; exact r.inj j l a e1 e2
  · by_cases h1 : j = i
    · rw [if_pos h1] at e; cases e
      refine .inl ⟨r.fresh0 hp, fun q => r.fresh hp (.inl q), fun q => ?_⟩
      exact r.fresh hp (.inr ⟨0, r.iot p q⟩)
    · rw [if_neg h1] at e; exact r.own j a e
  · by_cases h1 : j = i
    · rw [if_pos h1] at e; cases e; exact ⟨vs, upd_same⟩
    · rw [if_neg h1] at e; obtain ⟨ys, q⟩ := r.alive j a e; exact ⟨ys, s _ _ q⟩
  · obtain ⟨o, q⟩ := r.trk b e; exact ⟨o, s _ _ q⟩
  · have h0 : (0 : Nat) ≠ i := fun h => by
      rcases hio with h1 | h1
      · rw [h1] at e; cases e
      · exact h1 h.symm
    rw [if_neg h0]; exact r.iot a e
/-- data is held on to -/
theorem Sr.hold (r : Sr G T A sl σ H) {d : D} {v : V} (hv : Rv G (T.N A) H d v) : Sr G { T with hd := (d, v) :: T.hd } A sl σ H :=
  ⟨r.val, r.mu, r.len, r.inj, r.own, r.alive, r.kept, r.trk, r.iot, fun p hp => by
    rcases List.mem_cons.mp hp with rfl | hp
    · exact hv
    · exact r.held p hp, r.sz⟩
theorem Sr.unhold {T' : Act} (h0 : T'.N0 = T.N0) (h1 : T'.H0 = T.H0) (h2 : T'.io = T.io) (h3 : ∀ p ∈ T.hd, p ∈ T'.hd) (r : Sr G T' A sl σ H) : Sr G T A sl σ H := by
  obtain ⟨N0, H0, io, hd⟩ := T
  obtain ⟨N0', H0', io', hd'⟩ := T'
  cases h0; cases h1; cases h2
  exact ⟨r.val, r.mu, r.len, r.inj, r.own, r.alive, r.kept, r.trk, r.iot, fun p hp => r.held p (h3 p hp), r.sz⟩
end

/-! ### what is wanted behind an expression, a statement -/
def Rs (G : Glue) (T : Act) (A : Nat → Option Addr) (H : Hp) : S → V → Prop
  | .v d, x => Rv G (T.N A) H d x
  | .r i, x => ∃ a, A i = some a ∧ x = .ref a
theorem Rs.keep {G : Glue} {T : Act} {A : Nat → Option Addr} {H H' : Hp} (k : Keep (Own A) H H') : ∀ {s : S} {v : V}, Rs G T A H s v → Rs G T A H' s v
  | .v d, _, h => Rv.keep k (fun a z => .inr z) h
  | .r i, _, h => h
inductive RsL (G : Glue) (T : Act) (A : Nat → Option Addr) (H : Hp) : List S → List V → Prop
  | nil : RsL G T A H [] []
  | cons {s : S} {v : V} {ss : List S} {vs : List V} : Rs G T A H s v → RsL G T A H ss vs → RsL G T A H (s :: ss) (v :: vs)
/-- an exception, by its class and its dict -/
def ExR (G : Glue) (N : Addr → Prop) (H : Hp) : Ex → Value → Option Addr → Prop
  | .plain n, c, od => c = .ref (G.exA n) ∧ od = none
  | .field n d, c, od => c = .ref (G.exA n) ∧ ∃ p v, od = some p ∧ H p = some (.xd [(G.exF n, v)]) ∧ Rv G N H d v

def PostG {α β : Type} (rel : Hp → α → β → Prop) (G : Glue) (W : WX) (T : Act) (A : Nat → Option Addr) (σ : St) (H : Hp) (r : R α) (Q : β → Hp → Prop) : Prop := match r with
  | .ok s sl' => ∀ v H', Sr G T A sl' σ H' → Keep (Own A) H H' → rel H' s v → Q v H'
  | .ex e sl' => ∀ c od H', ExR G T.N0 H' e c od → Sr G T A sl' σ H' → W c od σ H'
  | .bad => False
abbrev Post (G : Glue) (W : WX) (T : Act) (A : Nat → Option Addr) (σ : St) (H : Hp) (r : R S) (Q : VK) : Prop := PostG (Rs G T A) G W T A σ H r Q
abbrev PostL (G : Glue) (W : WX) (T : Act) (A : Nat → Option Addr) (σ : St) (H : Hp) (r : R (List S)) (Q : List V → Hp → Prop) : Prop := PostG (RsL G T A) G W T A σ H r Q
abbrev PostB (G : Glue) (W : WX) (T : Act) (A : Nat → Option Addr) (σ : St) (H : Hp) (r : R Bool) (Q : Bool → Hp → Prop) : Prop := PostG (fun _ b k => b = k) G W T A σ H r Q
/-- a truth -/
def asB : S → Sl → R Bool
  | .v (.bl b), sl => .ok b sl
  | _, _ => .bad
def dB (d : Ev) : Sl → R Bool := fun sl => (d sl).bind asB
theorem PostG.keep {α β : Type} {rel : Hp → α → β → Prop} {G : Glue} {W : WX} {T : Act} {A : Nat → Option Addr} {σ : St} {H H1 : Hp} {r : R α} {Q : β → Hp → Prop} (k : Keep (Own A) H H1) (h : PostG rel G W T A σ H r Q) : PostG rel G W T A σ H1 r Q := by
  cases r with
  | ok s sl' => exact fun v H' a b c => h v H' a (k.trans b) c
  | ex e sl' => exact h
  | bad => exact h
/-- one thing after another -/
theorem PostG.bind {α β γ δ : Type} {rel : Hp → α → β → Prop} {rel' : Hp → γ → δ → Prop} {G : Glue} {W : WX} {T : Act} {A : Nat → Option Addr} {σ : St} {H : Hp} {r : R α} {k : α → Sl → R γ} {Q : δ → Hp → Prop} {Q' : β → Hp → Prop}
    (h : PostG rel' G W T A σ H (r.bind k) Q) (f : ∀ s sl' v H', r = .ok s sl' → Sr G T A sl' σ H' → Keep (Own A) H H' → rel H' s v → PostG rel' G W T A σ H' (k s sl') Q → Q' v H') : PostG rel G W T A σ H r Q' := by
  cases r with
  | ok s sl' => exact fun v H' a b c => f s sl' v H' rfl a b c (PostG.keep b h)
  | ex e sl' => exact h
  | bad => exact h

section
variable (G : Glue) (W : WX)
def tEv (T : Act) (d : Ev) : TE := fun σ H Q => HSz H → ∃ A sl, Sr G T A sl σ H ∧ Post G W T A σ H (d sl) Q
def tEvs (T : Act) (d : Evs) : TA := fun σ H Q => HSz H → ∃ A sl, Sr G T A sl σ H ∧ PostL G W T A σ H (d sl) Q
def tEvB (T : Act) (d : Ev) : TT := fun σ H Q => HSz H → ∃ A sl, Sr G T A sl σ H ∧ PostB G W T A σ H (dB d sl) Q
def SPost (T : Act) (D : Ends) : Fl → Prop
  | .nx sl => ∀ A σ H, Sr G T A sl σ H → D.nx σ H
  | .rt s sl => ∀ A σ H v, Sr G T A sl σ H → Rs G T A H s v → D.rt v H
  | .bk sl => ∀ A σ H, Sr G T A sl σ H → D.bk σ H
  | .ct sl => ∀ A σ H, Sr G T A sl σ H → D.ct σ H
  | .ex e sl => ∀ A σ H c od, ExR G T.N0 H e c od → Sr G T A sl σ H → W c od σ H
  | .bad => False
def tSm (T : Act) (m : Sm) : TS := fun D σ H => HSz H → ∃ A sl, Sr G T A sl σ H ∧ SPost G W T D (m sl)
/-- the judgements: whatever the running is -/
def FE (X : Cx) (e : Expr) (d : Ev) : Prop := ∀ T, PE X e (tEv G W T d)
def FA (X : Cx) (es : List Expr) (d : Evs) : Prop := ∀ T, PA X es (tEvs G W T d)
def FB (X : Cx) (e : Expr) (d : Ev) : Prop := ∀ T, PT X e (tEvB G W T d)
def FW (X : Cx) (e : Expr) (d : Ev) : Prop := ∀ T, PW X e (tEvB G W T d)
def FS (X : Cx) (st : Stmt) (m : Sm) : Prop := ∀ T, PS X st (tSm G W T m)
def FSs (X : Cx) (st : List Stmt) (m : Sm) : Prop := ∀ T, PSs X st (tSm G W T m)
end

/-! ### sizes come with every state -/
section
variable {X : Cx} {e : Expr}
theorem Inv.hsz {pins : List (Addr × Obj)} {σ : St} {H : Hp} {s : Shared} (I : Inv X pins σ H s) : HSz H := HSz.of I.hok
theorem PE.plus {t t' : TE} (h : PE X e t) (f : ∀ σ H Q, HSz H → t' σ H Q → t σ H fun v H' => HSz H' → Q v H') : PE X e t' :=
  ⟨fun pins s σ H Q I q => thn (h.run pins s σ H _ I (f σ H Q (Inv.hsz I) q)) fun u s' ⟨v, H', I', r, q⟩ => ⟨v, H', I', r, q (Inv.hsz I')⟩⟩
theorem PT.plus {t t' : TT} (h : PT X e t) (f : ∀ σ H Q, HSz H → t' σ H Q → t σ H fun v H' => HSz H' → Q v H') : PT X e t' :=
  ⟨fun pins s σ H Q I q => thn (h.run pins s σ H _ I (f σ H Q (Inv.hsz I) q)) fun u s' ⟨H', I', q⟩ => ⟨H', I', q (Inv.hsz I')⟩⟩
theorem PW.plus {t t' : TT} (h : PW X e t) (f : ∀ σ H Q, HSz H → t' σ H Q → t σ H fun v H' => HSz H' → Q v H') : PW X e t' :=
  ⟨fun whole pins s σ H Q I q => thn (h.run whole pins s σ H _ I (f σ H Q (Inv.hsz I) q)) fun u s' ⟨H', I', q⟩ => ⟨H', I', q (Inv.hsz I')⟩⟩
theorem PA.plus {es : List Expr} {t t' : TA} (h : PA X es t) (f : ∀ σ H Q, HSz H → t' σ H Q → t σ H fun v H' => HSz H' → Q v H') : PA X es t' :=
  ⟨fun pos pins s σ H Q I q => thn (h.run pos pins s σ H _ I (f σ H Q (Inv.hsz I) q)) fun u s' ⟨v, H', I', r, q⟩ => ⟨v, H', I', r, q (Inv.hsz I')⟩⟩
def plusE (D : Ends) : Ends := { nx := fun σ H => HSz H → D.nx σ H, rt := fun v H => HSz H → D.rt v H, bk := fun σ H => HSz H → D.bk σ H, ct := fun σ H => HSz H → D.ct σ H }
theorem SP.plus {pins : List (Addr × Obj)} {D : Ends} {f : Flow} {s' : Shared} (h : SP X pins (plusE D) f s') : SP X pins D f s' := by
  cases f with
  | next => obtain ⟨σ', H', I, q⟩ := h; exact ⟨σ', H', I, q (Inv.hsz I)⟩
  | brk => obtain ⟨σ', H', I, q⟩ := h; exact ⟨σ', H', I, q (Inv.hsz I)⟩
  | cont => obtain ⟨σ', H', I, q⟩ := h; exact ⟨σ', H', I, q (Inv.hsz I)⟩
  | ret u => obtain ⟨v, σ', H', I, r, q⟩ := h; exact ⟨v, σ', H', I, r, q (Inv.hsz I)⟩
theorem PS.plus {st : Stmt} {t t' : TS} (h : PS X st t) (f : ∀ D σ H, HSz H → t' D σ H → t (plusE D) σ H) : PS X st t' :=
  ⟨fun pins s σ H D I q => thn (h.run pins s σ H _ I (f D σ H (Inv.hsz I) q)) fun u s' q => SP.plus q⟩
theorem PSs.plus {st : List Stmt} {t t' : TS} (h : PSs X st t) (f : ∀ D σ H, HSz H → t' D σ H → t (plusE D) σ H) : PSs X st t' :=
  ⟨fun pins s σ H D I q => thn (h.run pins s σ H _ I (f D σ H (Inv.hsz I) q)) fun u s' q => SP.plus q⟩
theorem PS.imp {st : Stmt} {t t' : TS} (h : PS X st t) (f : ∀ D σ H, t' D σ H → t D σ H) : PS X st t' := ⟨fun pins s σ H D I q => h.run pins s σ H D I (f D σ H q)⟩
theorem PSs.imp {st : List Stmt} {t t' : TS} (h : PSs X st t) (f : ∀ D σ H, t' D σ H → t D σ H) : PSs X st t' := ⟨fun pins s σ H D I q => h.run pins s σ H D I (f D σ H q)⟩
theorem PE.imp {t t' : TE} (h : PE X e t) (f : ∀ σ H Q, t' σ H Q → t σ H Q) : PE X e t' := ⟨fun pins s σ H Q I q => h.run pins s σ H Q I (f σ H Q q)⟩
theorem PA.imp {es : List Expr} {t t' : TA} (h : PA X es t) (f : ∀ σ H Q, t' σ H Q → t σ H Q) : PA X es t' := ⟨fun pos pins s σ H Q I q => h.run pos pins s σ H Q I (f σ H Q q)⟩
theorem PT.imp {t t' : TT} (h : PT X e t) (f : ∀ σ H Q, t' σ H Q → t σ H Q) : PT X e t' := ⟨fun pins s σ H Q I q => h.run pins s σ H Q I (f σ H Q q)⟩
theorem PW.imp {t t' : TT} (h : PW X e t) (f : ∀ σ H Q, t' σ H Q → t σ H Q) : PW X e t' := ⟨fun whole pins s σ H Q I q => h.run whole pins s σ H Q I (f σ H Q q)⟩
end
end F

set_option Elab.async false
set_option linter.all false
set_option maxRecDepth 100000
set_option maxHeartbeats 4000000
namespace F
open PySem PySem.Spec PyProof.Rows L2

/-- what a value tells: data, or the list of a name -/
def getS (sl : Sl) : S → Option D
  | .v d => some d
  | .r i => match sl[i]? with
    | some (some (.m xs)) => some (.lst xs)
    | _ => none
/-- data, or a list of a name -/
def Rl (G : Glue) (N : Addr → Prop) (H : Hp) (d : D) (x : V) : Prop := Rv G N H d x ∨ ∃ (xs : List D) (a : Addr) (vs : List V), d = .lst xs ∧ x = .ref a ∧ H a = some (.lst vs) ∧ Rvs G N H xs vs
theorem Rl.of {G : Glue} {T : Act} {A : Nat → Option Addr} {sl : Sl} {σ : St} {H : Hp} (r : Sr G T A sl σ H) : ∀ {s : S} {x : V} {d : D}, Rs G T A H s x → getS sl s = some d → Rl G (T.N A) H d x
  | .v d', x, d, h, e => by cases e; exact .inl h
  | .r i, x, d, ⟨a, ha, hx⟩, e => by
    simp only [getS] at e
    split at e
    · rename_i xs he
      cases e
      obtain ⟨b, vs, e1, e2, e3, e4⟩ := r.mu i xs he
      rw [ha] at e1; cases e1
      exact .inr ⟨xs, a, vs, rfl, hx, e3, e4⟩
    · cases e
theorem Rl.lst {G : Glue} {N : Addr → Prop} {H : Hp} {xs : List D} {x : V} (h : Rl G N H (.lst xs) x) : ∃ a vs, x = .ref a ∧ H a = some (.lst vs) ∧ Rvs G N H xs vs := by
  rcases h with h | ⟨ys, a, vs, e, e1, e2, e3⟩
  · cases h with
    | lst h1 _ h2 => exact ⟨_, _, rfl, h1, h2⟩
  · cases e; exact ⟨a, vs, e1, e2, e3⟩
theorem Rl.tup {G : Glue} {N : Addr → Prop} {H : Hp} {xs : List D} {x : V} (h : Rl G N H (.tup xs) x) : ∃ a vs, x = .ref a ∧ SqT G.K H a vs ∧ Rvs G N H xs vs := by
  rcases h with h | ⟨ys, a, vs, e, _⟩
  · cases h with
    | tup h1 h2 => exact ⟨_, _, rfl, h1, h2⟩
  · cases e
theorem Rl.scr {G : Glue} {N : Addr → Prop} {H : Hp} {xs : List D} {x : V} (h : Rl G N H (.scr xs) x) : ∃ a vs, x = .ref a ∧ SqS G.K H a vs ∧ Rvs G N H xs vs := by
  rcases h with h | ⟨ys, a, vs, e, _⟩
  · cases h with
    | scr h1 h2 => exact ⟨_, _, rfl, h1, h2⟩
  · cases e
theorem Rl.int {G : Glue} {N : Addr → Prop} {H : Hp} {i : Int} {x : V} (h : Rl G N H (.int i) x) : x = .int i := by
  rcases h with h | ⟨_, _, _, e, _⟩
  · cases h; rfl
  · cases e
theorem Rl.bl {G : Glue} {N : Addr → Prop} {H : Hp} {i : Bool} {x : V} (h : Rl G N H (.bl i) x) : x = .bl i := by
  rcases h with h | ⟨_, _, _, e, _⟩
  · cases h; rfl
  · cases e
theorem Rl.str {G : Glue} {N : Addr → Prop} {H : Hp} {i : Str} {x : V} (h : Rl G N H (.str i) x) : x = .str i := by
  rcases h with h | ⟨_, _, _, e, _⟩
  · cases h; rfl
  · cases e
theorem Rl.non {G : Glue} {N : Addr → Prop} {H : Hp} {x : V} (h : Rl G N H .non x) : x = .non := by
  rcases h with h | ⟨_, _, _, e, _⟩
  · cases h; rfl
  · cases e

/-! ### names and constants -/
def dVar (i : Nat) : Ev := fun sl => match sl[i]? with
  | some (some (.v d)) => .ok (.v d) sl
  | some (some (.m _)) => .ok (.r i) sl
  | _ => .bad
def dC (d : D) : Ev := fun sl => .ok (.v d) sl
section
variable {G : Glue} {W : WX} {X : Cx} {e : Expr} {t : TE}
/-- a rule whose end is at once -/
theorem FE.mk {d : Ev} (h : PE X e t) (f : ∀ T A sl σ H Q, HSz H → Sr G T A sl σ H → Post G W T A σ H (d sl) Q → t σ H fun v H' => HSz H' → Q v H') : FE G W X e d :=
  fun T => PE.plus h fun σ H Q z q => let ⟨A, sl, r, p⟩ := q z; f T A sl σ H Q z r p
theorem fe_var {i : Nat} {x : Str} {pos : Pos} (hN : X.N[i]? = some x := by rfl) (hv : Vis X.env.scope x := by first | exact Or.inl rfl | exact Or.inr (Or.inl rfl) | exact Or.inr (Or.inr rfl)) (hd : (x == ("__debug__" : Str)) = false := by decide)
    (hcd : (x == ("__classdict__" : Str)) = false := by decide) : FE G W X (.Name x pos) (dVar i) :=
  FE.mk (pe_var hN hv hd hcd) fun T A sl σ H Q z r p => by
    unfold dVar at p
    split at p
    · rename_i d he
      obtain ⟨v, e1, e2⟩ := r.val i d he
      exact ⟨v, e1, fun z' => p v H r .refl e2⟩
    · rename_i xs he
      obtain ⟨a, vs, e1, e2, e3, e4⟩ := r.mu i xs he
      exact ⟨_, e2, fun z' => p _ H r .refl ⟨a, e1, rfl⟩⟩
    · exact p.elim
theorem fe_c {d : D} {v : V} (h : PE X e (tC v)) (hv : ∀ N H, Rv G N H d v) : FE G W X e (dC d) :=
  FE.mk h fun T A sl σ H Q z r p => fun _ => p v H r .refl (hv _ _)
theorem fe_int {i : Int} {j} {pos : Pos} : FE G W X (.Constant (.int i) j pos) (dC (.int i)) := fe_c pe_int fun _ _ => .int i
theorem fe_bl {b : Bool} {j} {pos : Pos} : FE G W X (.Constant (.bool b) j pos) (dC (.bl b)) := fe_c pe_bl fun _ _ => .bl b
theorem fe_non {j} {pos : Pos} : FE G W X (.Constant .none j pos) (dC .non) := fe_c pe_non fun _ _ => .non
theorem fe_str {x : Str} {j} {pos : Pos} : FE G W X (.Constant (.str x) j pos) (dC (.str x)) := fe_c pe_str fun _ _ => .str x
/-- a module's constant -/
theorem fe_glob {x : Str} {d : D} {v : V} {u : Value} {pos : Pos} (hm : X.mg x = some u) (r : RelV v u) (hv : ∀ N H, Rv G N H d v) (hg : Gl X x := by rfl) (hd : (x == ("__debug__" : Str)) = false := by decide) : FE G W X (.Name x pos) (dC d) :=
  fe_c (pe_glob hg hm r hd) hv
end

/-! ### operators -/
def two (f : D → D → Re D) (sl : Sl) (x y : S) : R S := match getS sl x, getS sl y with
  | some d, some e => match f d e with
    | .ok z => .ok (.v z) sl
    | _ => .bad
  | _, _ => .bad
def dBin (f : D → D → Re D) (a b : Ev) : Ev := fun sl => (a sl).bind fun x sl1 => (b sl1).bind fun y sl2 => two f sl2 x y
/-- an operation on data -/
def Op2 (G : Glue) (X : Cx) (op : Value → Value → Sem Value) (f : D → D → Re D) : Prop := ∃ r : R2, OpR X op r ∧
  ∀ (N : Addr → Prop) (H : Hp) (x y : V) (d e z : D) (Q : VK), HSz H → (∀ p, H p = none → ¬ N p) → Rl G N H d x → Rl G N H e y → f d e = .ok z →
    (∀ v H', Same H H' → Rv G N H' z v → Q v H') → r x y H Q
/-- what is wanted behind a test's value -/
def wB (Q : Bool → Hp → Prop) : VK := fun v H => ∃ k, v = .bl k ∧ (HSz H → Q k H)
def wE (Q : VK) : VK := fun v H => HSz H → Q v H
/-- .. among slots -/
def Two (G : Glue) (r : R2) (f : D → D → Re D) : Prop := ∀ (T : Act) (A : Nat → Option Addr) (sl : Sl) (σ : St) (H : Hp) (x y : S) (u v : V) (Q : VK) (P : R S → Prop), Sr G T A sl σ H → Rs G T A H x u → Rs G T A H y v → P (two f sl x y) → ¬ P .bad →
  (∀ z w H', P (.ok (.v z) sl) → Same H H' → Rv G (T.N A) H' z w → Q w H') → r u v H Q
section
variable {G : Glue} {W : WX} {X : Cx} {a b c : Expr} {da db dc : Ev} {pos : Pos} {f g : D → D → Re D} {T : Act} {A : Nat → Option Addr} {sl : Sl} {σ : St} {H : Hp}
/-- the end of a step that makes d of a heap that has grown -/
theorem end_E {Q : VK} {z : D} {v : V} {H' : Hp} (s : Sr G T A sl σ H) (p : Post G W T A σ H (.ok (.v z) sl) Q) (sm : Same H H') (rv : Rv G (T.N A) H' z v) : wE Q v H' := fun hz => p v H' (s.grown sm hz) (.same sm) rv
theorem end_B {Q : Bool → Hp → Prop} {z : D} {v : V} {H' : Hp} (s : Sr G T A sl σ H) (p : PostB G W T A σ H (asB (.v z) sl) Q) (sm : Same H H') (rv : Rv G (T.N A) H' z v) : wB Q v H' := by
  match z, rv, p with
  | .bl b, rv, p => cases rv; exact ⟨b, rfl, fun hz => p b H' (s.grown sm hz) (.same sm) rfl⟩
theorem two_ok {op : Value → Value → Sem Value} (ho : Op2 G X op f) : ∃ r : R2, OpR X op r ∧ Two G r f := by
  obtain ⟨r, hr, q⟩ := ho
  refine ⟨r, hr, fun T A sl σ H x y u v Q P s hx hy p nb k => ?_⟩
  unfold two at p
  split at p
  · rename_i d e h1 h2
    split at p
    · rename_i z h3
      exact q _ H u v d e z Q s.sz (fun q h => s.fresh h) (Rl.of s hx h1) (Rl.of s hy h2) h3 fun w H' sm rv => k z w H' p sm rv
    · exact absurd p nb
  · exact absurd p nb
theorem bin_E {r : R2} {Q : VK} (q : Two G r f) (h : tEv G W T (dBin f da db) σ H Q) : tOp r (tEv G W T da) (tEv G W T db) σ H (wE Q) := fun hz => by
  obtain ⟨A, sl, s, p⟩ := h hz
  refine ⟨A, sl, s, PostG.bind p fun x sl1 u H1 _ s1 k1 r1 p1 _ => ⟨A, sl1, s1, PostG.bind p1 fun y sl2 v H2 _ s2 k2 r2 p2 => ?_⟩⟩
  exact q T A sl2 σ H2 x y u v _ (fun r => Post G W T A σ H2 r Q) s2 (Rs.keep k2 r1) r2 p2 id fun z w H' p sm rv => end_E s2 p sm rv
theorem fe_op {op : Operator} (ho : Op2 G X (binaryOp op) f) (ha : FE G W X a da) (hb : FE G W X b db) : FE G W X (.BinOp a op b pos) (dBin f da db) := fun T => by
  obtain ⟨r, hr, q⟩ := two_ok ho
  exact PE.plus (pe_op hr (ha T) (hb T)) fun σ H Q z p => bin_E q p
theorem fe_cmp {op : CmpOp} (ho : Op2 G X (compareOp op) f) (ha : FE G W X a da) (hb : FE G W X b db) (hm : behindInMarks op b = false := by first | exact nomark _ | rfl) : FE G W X (.Compare a [op] [b] pos) (dBin f da db) := fun T => by
  obtain ⟨r, hr, q⟩ := two_ok ho
  exact PE.plus (pe_cmpR hr (ha T) (hb T) hm) fun σ H Q z p => bin_E q p
theorem bind_bind {α β γ : Type} (x : R α) (f : α → Sl → R β) (g : β → Sl → R γ) : (x.bind f).bind g = x.bind fun a sl => (f a sl).bind g := by
  cases x <;> rfl
theorem fb_cmp {op : CmpOp} (ho : Op2 G X (compareOp op) f) (ha : FE G W X a da) (hb : FE G W X b db) (hm : behindInMarks op b = false := by first | exact nomark _ | rfl) : FB G W X (.Compare a [op] [b] pos) (dBin f da db) := fun T => by
  obtain ⟨r, hr, q⟩ := two_ok ho
  refine PT.plus (pt_cmpR hr (ha T) (hb T) hm) fun σ H Q z h hz => ?_
  obtain ⟨A, sl, s, p⟩ := h hz
  simp only [dB, dBin, bind_bind] at p
  refine ⟨A, sl, s, PostG.bind p fun x sl1 u H1 _ s1 k1 r1 p1 _ => ⟨A, sl1, s1, PostG.bind p1 fun y sl2 v H2 _ s2 k2 r2 p2 => ?_⟩⟩
  exact q T A sl2 σ H2 x y u v _ (fun r => PostB G W T A σ H2 (r.bind asB) Q) s2 (Rs.keep k2 r1) r2 p2 id fun z w H' p sm rv => end_B s2 p sm rv
/-- an expression whose value is a truth, as a test -/
theorem fb_val (h : FE G W X a da) (he : ∀ whole, isTrue a X.env whole = (do let v ← whole; standAt a.pos; holding [v] (truthy v)) := by intro _; rfl) : FB G W X a da := fun T =>
  PT.plus (pt_val (h T) he) fun σ H Q z h hz => let ⟨A, sl, s, p⟩ := h hz; ⟨A, sl, s, PostG.bind p fun x sl1 v H1 _ s1 k1 r1 p1 => by
    match x, r1, p1 with
    | .v (.bl b), r1, p1 => cases r1; exact ⟨b, rfl, fun _ => p1 b H1 s1 .refl rfl⟩⟩

/-! ### chains -/
def dChain (f g : D → D → Re D) (a b c : Ev) : Ev := fun sl => (a sl).bind fun x sl1 => (b sl1).bind fun y sl2 => ((two f sl2 x y).bind asB).bind fun k sl3 => if k = true then (c sl3).bind fun z sl4 => two g sl4 y z else .ok (.v (.bl false)) sl3
theorem fe_chain {op op' : CmpOp} (ho : Op2 G X (compareOp op) f) (ho' : Op2 G X (compareOp op') g) (ha : FE G W X a da) (hb : FE G W X b db) (hc : FE G W X c dc) (hm : lastMarks [op, op'] [b, c] = false := by with_unfolding_all rfl) :
    FE G W X (.Compare a [op, op'] [b, c] pos) (dChain f g da db dc) := fun T => by
  obtain ⟨r, hr, q⟩ := two_ok ho
  obtain ⟨r', hr', q'⟩ := two_ok ho'
  refine PE.plus (pe_chain hr hr' (ha T) (hb T) (hc T) hm) fun σ H Q z h hz => ?_
  obtain ⟨A, sl, s, p⟩ := h hz
  refine ⟨A, sl, s, PostG.bind p fun x sl1 u H1 _ s1 k1 r1 p1 _ => ⟨A, sl1, s1, PostG.bind p1 fun y sl2 v H2 _ s2 k2 r2 p2 => ?_⟩⟩
  refine q T A sl2 σ H2 x y u v _ (fun r => Post G W T A σ H2 ((r.bind asB).bind fun k sl3 => if k = true then (dc sl3).bind fun z sl4 => two g sl4 y z else .ok (.v (.bl false)) sl3) Q) s2 (Rs.keep k2 r1) r2 p2 id fun z w H3 p3 sm rv => ?_
  match z, rv, p3 with
  | .bl false, rv, p3 => cases rv; exact ⟨false, rfl, fun hz => p3 (.bl false) H3 (s2.grown sm hz) (.same sm) (.bl false)⟩
  | .bl true, rv, p3 =>
    cases rv
    refine ⟨true, rfl, fun hz => ⟨A, sl2, s2.grown sm hz, PostG.bind (PostG.keep (.same sm) p3) fun z sl4 w H4 _ s4 k4 r4 p4 => ?_⟩⟩
    exact q' T A sl4 σ H4 y z v w _ (fun r => Post G W T A σ H4 r Q) s4 (Rs.keep k4 (Rs.keep (.same sm) r2)) r4 p4 id fun z w H' p sm rv => end_E s4 p sm rv
theorem fb_chain {op op' : CmpOp} (ho : Op2 G X (compareOp op) f) (ho' : Op2 G X (compareOp op') g) (ha : FE G W X a da) (hb : FE G W X b db) (hc : FE G W X c dc) (hm : lastMarks [op, op'] [b, c] = false := by with_unfolding_all rfl) :
    FB G W X (.Compare a [op, op'] [b, c] pos) (dChain f g da db dc) := fun T => by
  obtain ⟨r, hr, q⟩ := two_ok ho
  obtain ⟨r', hr', q'⟩ := two_ok ho'
  refine PT.plus (pt_chain hr hr' (ha T) (hb T) (hc T) hm) fun σ H Q z h hz => ?_
  obtain ⟨A, sl, s, p⟩ := h hz
  simp only [dB, dChain, bind_bind] at p
  refine ⟨A, sl, s, PostG.bind p fun x sl1 u H1 _ s1 k1 r1 p1 _ => ⟨A, sl1, s1, PostG.bind p1 fun y sl2 v H2 _ s2 k2 r2 p2 => ?_⟩⟩
  refine q T A sl2 σ H2 x y u v _ (fun r => PostB G W T A σ H2 (r.bind fun a sl => (asB a sl).bind fun a sl => (if a = true then (dc sl).bind fun z sl4 => two g sl4 y z else .ok (.v (.bl false)) sl).bind asB) Q) s2 (Rs.keep k2 r1) r2 p2 id fun z w H3 p3 sm rv => ?_
  match z, rv, p3 with
  | .bl false, rv, p3 => cases rv; exact ⟨false, rfl, ⟨false, rfl, fun hz => p3 false H3 (s2.grown sm hz) (.same sm) rfl⟩⟩
  | .bl true, rv, p3 =>
    cases rv
    refine ⟨true, rfl, fun hz => ⟨A, sl2, s2.grown sm hz, ?_⟩⟩
    have p3' : PostB G W T A σ H3 ((dc sl2).bind fun z sl4 => (two g sl4 y z).bind asB) Q := by
      rw [← bind_bind]; exact PostG.keep (.same sm) p3
    refine PostG.bind p3' fun z sl4 w H4 _ s4 k4 r4 p4 => ?_
    exact q' T A sl4 σ H4 y z v w _ (fun r => PostB G W T A σ H4 (r.bind asB) Q) s4 (Rs.keep k4 (Rs.keep (.same sm) r2)) r4 p4 id fun z w H' p sm rv => end_B s4 p sm rv

/-! ### and, or, not -/
/-- a truth, by value -/
def dAnd (a b : Ev) : Ev := fun sl => ((a sl).bind asB).bind fun k sl1 => if k = true then b sl1 else .ok (.v (.bl false)) sl1
def dOr (a b : Ev) : Ev := fun sl => ((a sl).bind asB).bind fun k sl1 => if k = true then .ok (.v (.bl true)) sl1 else b sl1
def dNot (a : Ev) : Ev := fun sl => ((a sl).bind asB).bind fun k sl1 => .ok (.v (.bl (!k))) sl1
def dIf (c a b : Ev) : Ev := fun sl => ((c sl).bind asB).bind fun k sl1 => if k = true then a sl1 else b sl1
variable {rest : List Expr} {op : BoolOp}
theorem fe_one (h : FE G W X a da) : FE G W X (.BoolOp op [a] pos) da := fun T => pe_one (h T)
theorem FE.bl {t : TE} (h : PE X a t) (q : ∀ T σ H Q, tEv G W T da σ H Q → t σ H (wE Q)) : FE G W X a da := fun T => PE.plus h fun σ H Q _ p => q T σ H Q p
theorem asB_bind {α β : Type} {rel : Hp → α → β → Prop} {Q : β → Hp → Prop} {k : Bool → Sl → R α} {Q' : VK} (h : PostG rel G W T A σ H (((da sl).bind asB).bind k) Q)
    (q : ∀ b sl1 H1, Sr G T A sl1 σ H1 → Keep (Own A) H H1 → PostG rel G W T A σ H1 (k b sl1) Q → Q' (.bl b) H1) : Post G W T A σ H (da sl) Q' := by
  rw [bind_bind] at h
  refine PostG.bind h fun x sl1 v H1 _ s1 k1 r1 p1 => ?_
  match x, r1, p1 with
  | .v (.bl b), r1, p1 => cases r1; exact q b sl1 H1 s1 k1 p1
theorem fe_and (ha : FE G W X a da) (hb : FE G W X (.BoolOp .And (b :: rest) pos) db) : FE G W X (.BoolOp .And (a :: b :: rest) pos) (dAnd da db) := fun T =>
  PE.plus (pe_and (ha T) (hb T)) fun σ H Q z h hz => by
    obtain ⟨A, sl, s, p⟩ := h hz
    refine ⟨A, sl, s, asB_bind p fun k sl1 H1 s1 k1 p1 => ⟨k, rfl, ?_⟩⟩
    cases k with
    | false => exact fun _ => p1 _ H1 s1 .refl (.bl false)
    | true => exact fun _ => ⟨A, sl1, s1, PostG.bind (k := fun x sl => .ok x sl) (by cases h : db sl1 <;> rw [if_pos rfl, h] at p1 <;> exact p1) fun x sl2 v H2 _ s2 k2 r2 p2 _ => p2 v H2 s2 .refl r2⟩
theorem fe_or (ha : FE G W X a da) (hb : FE G W X (.BoolOp .Or (b :: rest) pos) db) : FE G W X (.BoolOp .Or (a :: b :: rest) pos) (dOr da db) := fun T =>
  PE.plus (pe_or (ha T) (hb T)) fun σ H Q z h hz => by
    obtain ⟨A, sl, s, p⟩ := h hz
    refine ⟨A, sl, s, asB_bind p fun k sl1 H1 s1 k1 p1 => ⟨k, rfl, ?_⟩⟩
    cases k with
    | true => exact fun _ => p1 _ H1 s1 .refl (.bl true)
    | false => exact fun _ => ⟨A, sl1, s1, PostG.bind (k := fun x sl => .ok x sl) (by cases h : db sl1 <;> rw [if_neg (by simp), h] at p1 <;> exact p1) fun x sl2 v H2 _ s2 k2 r2 p2 _ => p2 v H2 s2 .refl r2⟩
theorem fe_not (ha : FE G W X a da) : FE G W X (.UnaryOp .Not a pos) (dNot da) := fun T =>
  PE.plus (pe_not (ha T)) fun σ H Q z h hz => by
    obtain ⟨A, sl, s, p⟩ := h hz
    exact ⟨A, sl, s, asB_bind p fun k sl1 H1 s1 k1 p1 => ⟨k, rfl, fun _ => p1 _ H1 s1 .refl (.bl _)⟩⟩
/-- from a test to a test -/
theorem tB_bind {α : Type} {Q : Bool → Hp → Prop} {k : Bool → Sl → R Bool} {Q' : Bool → Hp → Prop} (h : PostB G W T A σ H (((da sl).bind asB).bind k) Q)
    (q : ∀ b sl1 H1, Sr G T A sl1 σ H1 → Keep (Own A) H H1 → PostB G W T A σ H1 (k b sl1) Q → Q' b H1) : PostB G W T A σ H (dB da sl) Q' :=
  PostG.bind h fun x sl1 v H1 _ s1 k1 r1 p1 => by cases r1; exact q x sl1 H1 s1 k1 p1
theorem post_id {α β : Type} {rel : Hp → α → β → Prop} {Q : β → Hp → Prop} {r : R α} (p : PostG rel G W T A σ H r Q) : PostG rel G W T A σ H r fun v H' => HSz H' → Q v H' := by
  cases r with
  | ok s sl' => exact fun v H' a b c _ => p v H' a b c
  | ex e sl' => exact p
  | bad => exact p
theorem fw_one_and (ha : FB G W X a da) : FW G W X (.BoolOp .And [a] pos) da := fun T => pw_and1 (ha T)
theorem fw_one_or (ha : FB G W X a da) : FW G W X (.BoolOp .Or [a] pos) da := fun T => pw_or1 (ha T)
theorem fw_and (ha : FB G W X a da) (hb : FW G W X (.BoolOp .And (b :: rest) pos) db) : FW G W X (.BoolOp .And (a :: b :: rest) pos) (dAnd da db) := fun T =>
  PW.plus (pw_and (ha T) (hb T)) fun σ H Q z h hz => by
    obtain ⟨A, sl, s, p⟩ := h hz
    simp only [dB, dAnd, bind_bind] at p
    rw [← bind_bind] at p
    refine ⟨A, sl, s, tB_bind (α := Unit) p fun k sl1 H1 s1 k1 p1 => ?_⟩
    cases k with
    | false => exact fun _ => p1 false H1 s1 .refl rfl
    | true => exact fun _ => ⟨A, sl1, s1, post_id p1⟩
theorem fw_or (ha : FB G W X a da) (hb : FW G W X (.BoolOp .Or (b :: rest) pos) db) : FW G W X (.BoolOp .Or (a :: b :: rest) pos) (dOr da db) := fun T =>
  PW.plus (pw_or (ha T) (hb T)) fun σ H Q z h hz => by
    obtain ⟨A, sl, s, p⟩ := h hz
    simp only [dB, dOr, bind_bind] at p
    rw [← bind_bind] at p
    refine ⟨A, sl, s, tB_bind (α := Unit) p fun k sl1 H1 s1 k1 p1 => ?_⟩
    cases k with
    | true => exact fun _ => p1 true H1 s1 .refl rfl
    | false => exact fun _ => ⟨A, sl1, s1, post_id p1⟩
theorem fb_w (h : FW G W X a da) : FB G W X a da := fun T => (h T).pt
theorem fb_not (ha : FB G W X a da) : FB G W X (.UnaryOp .Not a pos) (dNot da) := fun T =>
  PT.plus (pt_not (ha T)) fun σ H Q z h hz => by
    obtain ⟨A, sl, s, p⟩ := h hz
    simp only [dB, dNot, bind_bind] at p
    rw [← bind_bind] at p
    exact ⟨A, sl, s, tB_bind (α := Unit) p fun k sl1 H1 s1 k1 p1 _ => p1 (!k) H1 s1 .refl rfl⟩
theorem fe_if (hc : FB G W X c dc) (ha : FE G W X a da) (hb : FE G W X b db) : FE G W X (.IfExp c a b pos) (dIf dc da db) := fun T =>
  PE.plus (pe_ifExp (hc T) (ha T) (hb T)) fun σ H Q z h hz => by
    obtain ⟨A, sl, s, p⟩ := h hz
    refine ⟨A, sl, s, PostG.bind p fun k sl1 v H1 _ s1 k1 r1 p1 => ?_⟩
    cases r1
    cases k with
    | true => exact fun _ => ⟨A, sl1, s1, post_id p1⟩
    | false => exact fun _ => ⟨A, sl1, s1, post_id p1⟩
end
end F

set_option Elab.async false
set_option linter.all false
set_option maxRecDepth 100000
set_option maxHeartbeats 4000000
namespace F
open PySem PySem.Spec PyProof.Rows L2

/-! ### data as the library's data -/
mutual
def toPy : D → PyData
  | .non => .none
  | .bl b => .bool b
  | .int i => .int i
  | .str x => .str x
  | .tup xs => .tuple (toPys xs)
  | .lst xs => .list (toPys xs)
  | .scr xs => .list (toPys xs)
def toPys : List D → List PyData
  | [] => []
  | x :: xs => toPy x :: toPys xs
end
/-! == of data -/
mutual
def D.eqv : D → D → Bool
  | .non, .non => true
  | .bl a, .bl b => a == b
  | .bl a, .int j => (if a then 1 else 0) == j
  | .int i, .bl b => i == (if b then 1 else 0)
  | .int i, .int j => i == j
  | .str x, .str y => x == y
  | .tup xs, .tup ys => D.eqvs xs ys
  | .lst xs, .lst ys => D.eqvs xs ys
  | .lst xs, .scr ys => D.eqvs xs ys
  | .scr xs, .lst ys => D.eqvs xs ys
  | .scr xs, .scr ys => D.eqvs xs ys
  | _, _ => false
def D.eqvs : List D → List D → Bool
  | [], [] => true
  | x :: xs, y :: ys => D.eqv x y && D.eqvs xs ys
  | _, _ => false
end
mutual
def D.depth : D → Nat
  | .tup xs => D.depths xs + 1
  | .lst xs => D.depths xs + 1
  | .scr xs => D.depths xs + 1
  | _ => 0
def D.depths : List D → Nat
  | [] => 0
  | x :: xs => max (D.depth x) (D.depths xs)
end
mutual
theorem eqv_py : ∀ d e : D, PyData.eqv (toPy d) (toPy e) = D.eqv d e
  | .non, e => by cases e <;> simp [toPy, PyData.eqv, D.eqv]
  | .bl a, e => by cases e <;> simp [toPy, PyData.eqv, D.eqv]
  | .int i, e => by cases e <;> simp [toPy, PyData.eqv, D.eqv]
  | .str x, e => by cases e <;> simp [toPy, PyData.eqv, D.eqv]
  | .tup xs, e => by cases e <;> simp [toPy, PyData.eqv, D.eqv, eqvs_py xs]
  | .lst xs, e => by cases e <;> simp [toPy, PyData.eqv, D.eqv, eqvs_py xs]
  | .scr xs, e => by cases e <;> simp [toPy, PyData.eqv, D.eqv, eqvs_py xs]
theorem eqvs_py : ∀ xs ys : List D, PyData.eqvAll (toPys xs) (toPys ys) = D.eqvs xs ys
  | [], [] => by simp [toPys, PyData.eqvAll, D.eqvs]
  | [], _ :: _ => by simp [toPys, PyData.eqvAll, D.eqvs]
  | _ :: _, [] => by simp [toPys, PyData.eqvAll, D.eqvs]
  | x :: xs, y :: ys => by simp [toPys, PyData.eqvAll, D.eqvs, eqv_py x y, eqvs_py xs ys]
end
mutual
theorem depth_py : ∀ d : D, (toPy d).depth = d.depth
  | .non => by simp [toPy, PyData.depth, D.depth]
  | .bl _ => by simp [toPy, PyData.depth, D.depth]
  | .int _ => by simp [toPy, PyData.depth, D.depth]
  | .str _ => by simp [toPy, PyData.depth, D.depth]
  | .tup xs => by simp [toPy, PyData.depth, D.depth, depths_py xs]
  | .lst xs => by simp [toPy, PyData.depth, D.depth, depths_py xs]
  | .scr xs => by simp [toPy, PyData.depth, D.depth, depths_py xs]
theorem depths_py : ∀ xs : List D, PyData.depthAll (toPys xs) = D.depths xs
  | [] => by simp [toPys, PyData.depthAll, D.depths]
  | x :: xs => by simp [toPys, PyData.depthAll, D.depths, depth_py x, depths_py xs]
end
mutual
theorem plain_py : ∀ d : D, (toPy d).plain = true
  | .non => by simp [toPy, PyData.plain]
  | .bl _ => by simp [toPy, PyData.plain]
  | .int _ => by simp [toPy, PyData.plain]
  | .str _ => by simp [toPy, PyData.plain]
  | .tup xs => by simp [toPy, PyData.plain, plains_py xs]
  | .lst xs => by simp [toPy, PyData.plain, plains_py xs]
  | .scr xs => by simp [toPy, PyData.plain, plains_py xs]
theorem plains_py : ∀ xs : List D, PyData.plainAll (toPys xs) = true
  | [] => by simp [toPys, PyData.plainAll]
  | x :: xs => by simp [toPys, PyData.plainAll, plain_py x, plains_py xs]
end
section
variable {G : Glue} {N : Addr → Prop} {H : Hp}
mutual
theorem Rv.dp : ∀ {d : D} {v : V}, Rv G N H d v → Dp G.K H v (toPy d)
  | .non, _, h => by cases h; exact .non
  | .bl b, _, h => by cases h; exact .bl b
  | .int i, _, h => by cases h; exact .int i
  | .str x, _, h => by cases h; exact .str x
  | .tup ds, _, h => by
    cases h with
    | tup hs ha => exact .tup hs (Rvs.dp ha)
  | .lst ds, _, h => by
    cases h with
    | lst hs n ha => exact .lst (SqL.of hs) (Rvs.dp ha)
  | .scr ds, _, h => by
    cases h with
    | scr hs ha => exact .lst hs.l (Rvs.dp ha)
theorem Rvs.dp : ∀ {ds : List D} {vs : List V}, Rvs G N H ds vs → DpAll G.K H vs (toPys ds)
  | [], _, h => by cases h; exact .nil
  | d :: ds, _, h => by
    cases h with
    | cons h1 h2 => exact .cons (Rv.dp h1) (Rvs.dp h2)
end
theorem Rl.dp {d : D} {v : V} (h : Rl G N H d v) : Dp G.K H v (toPy d) := by
  rcases h with h | ⟨xs, a, vs, rfl, rfl, e, h⟩
  · exact h.dp
  · exact .lst (SqL.of e) h.dp
end

/-! ### arithmetic -/
def fits (n : Nat) : Bool := decide (n ≤ sizeLine)
theorem fits_le {n : Nat} (h : fits n = true) : n ≤ sizeLine := of_decide_eq_true h
def dAdd : D → D → Re D
  | .int i, .int j => .ok (.int (i + j))
  | .tup a, .tup b => if fits (a.length + b.length) then .ok (.tup (a ++ b)) else .bad
  | .lst a, .lst b => if fits (a.length + b.length) then .ok (.lst (a ++ b)) else .bad
  | _, _ => .bad
def dSub : D → D → Re D
  | .int i, .int j => .ok (.int (i - j))
  | _, _ => .bad
def mulOk (i j : Int) : Bool := decide (i.natAbs < 18446744073709551616) || decide (j.natAbs < 18446744073709551616)
def dMul : D → D → Re D
  | .int i, .int j => if mulOk i j then .ok (.int (i * j)) else .bad
  | .lst a, .int k => if decide (-(2 ^ 63) ≤ k) && decide (k < 2 ^ 63) && fits (a.length * k.toNat) then .ok (.lst (List.replicate k.toNat a).flatten) else .bad
  | _, _ => .bad
def divOk (j : Int) : Bool := decide (0 < j) && decide (j.natAbs.log2 < 9000)
def dDiv : D → D → Re D
  | .int i, .int j => if divOk j then .ok (.int (i / j)) else .bad
  | _, _ => .bad
def dMod : D → D → Re D
  | .int i, .int j => if decide (0 < j) then .ok (.int (i % j)) else .bad
  | _, _ => .bad
def dPow : D → D → Re D
  | .int i, .int j => if decide (0 ≤ j) && decide (j ≤ 1000000) && decide (i.natAbs < 2 ^ 64) then .ok (.int (i ^ j.toNat)) else .bad
  | _, _ => .bad
section
variable {G : Glue} {X : Cx}
theorem tupK {N : Addr → Prop} {H : Hp} (hK : X.K = G.K) {xs : List D} {x : V} (h : Rl G N H (.tup xs) x) : ∃ a vs, x = .ref a ∧ SqT X.K H a vs ∧ Rvs G N H xs vs := by
  rw [hK]; exact h.tup
theorem o_add (hK : X.K = G.K := by rfl) : Op2 G X (binaryOp .Add) dAdd := by
  refine ⟨_, op_add.or (op_catA.or op_cat), fun N H x y d e z Q hz hn rx ry h k => ?_⟩
  unfold dAdd at h
  split at h
  · cases h
    exact .inl ⟨_, _, rx.int, ry.int, k _ H (Same.refl H) (.int _)⟩
  · rename_i a b
    split at h
    · rename_i hf
      cases h
      obtain ⟨p, vs, e1, s1, r1⟩ := tupK hK rx
      obtain ⟨q, ws, e2, s2, r2⟩ := tupK hK ry
      refine .inr (.inl ⟨p, q, vs, ws, e1, e2, s1, s2, by rw [← r1.length, ← r2.length]; exact fits_le hf, fun hv => ?_, fun hv hw => ?_, fun hv hw p' hp' => ?_⟩)
      · refine k _ H (Same.refl H) ?_
        cases r1 with
        | nil => exact .tup (hK ▸ s2) r2
        | cons => cases hv
      · refine k _ H (Same.refl H) ?_
        cases r2 with
        | nil => rw [List.append_nil]; exact .tup (hK ▸ s1) r1
        | cons => cases hw
      · refine k _ _ (same_fresh hp' _) (.tup (SqT.of upd_same) ?_)
        exact Rvs.keep (O := fun _ => False) (.same (same_fresh hp' _)) (fun _ z => z.elim) (r1.append r2)
    · cases h
  · rename_i a b
    split at h
    · rename_i hf
      cases h
      obtain ⟨p, vs, e1, s1, r1⟩ := rx.lst
      obtain ⟨q, ws, e2, s2, r2⟩ := ry.lst
      refine .inr (.inr ⟨p, q, vs, ws, e1, e2, s1, s2, by rw [← r1.length, ← r2.length]; exact fits_le hf, fun p' hp' => ?_⟩)
      refine k _ _ (same_fresh hp' _) (.lst upd_same (hn p' hp') ?_)
      exact Rvs.keep (O := fun _ => False) (.same (same_fresh hp' _)) (fun _ z => z.elim) (r1.append r2)
    · cases h
  · cases h
theorem o_sub : Op2 G X (binaryOp .Sub) dSub := by
  refine ⟨_, op_sub, fun N H x y d e z Q hz hn rx ry h k => ?_⟩
  unfold dSub at h
  split at h
  · cases h; exact ⟨_, _, rx.int, ry.int, k _ H (Same.refl H) (.int _)⟩
  · cases h
theorem mulOk_ok {i j : Int} (h : mulOk i j = true) : PySem.IntMulOk i j := by
  unfold mulOk at h
  rcases Bool.or_eq_true_iff.mp h with h | h
  · have := of_decide_eq_true h
    exact .of_left (PySem.intBits_le_64 (by omega) (by omega))
  · have := of_decide_eq_true h
    exact .of_right (PySem.intBits_le_64 (by omega) (by omega))
theorem op_mulS : OpR X (binaryOp .Mult) (rI (fun i j => mulOk i j = true) fun i j => .int (i * j)) := opI fun _ _ _ _ _ _ _ hc q => mul_int q (mulOk_ok hc)
theorem o_mul : Op2 G X (binaryOp .Mult) dMul := by
  refine ⟨_, op_mulS.or op_rep, fun N H x y d e z Q hz hn rx ry h k => ?_⟩
  unfold dMul at h
  split at h
  · split at h
    · rename_i hf
      cases h; exact .inl ⟨_, _, rx.int, ry.int, hf, k _ H (Same.refl H) (.int _)⟩
    · cases h
  · split at h
    · rename_i hf
      cases h
      obtain ⟨p, vs, e1, s1, r1⟩ := rx.lst
      simp only [Bool.and_eq_true, decide_eq_true_eq] at hf
      refine .inr ⟨p, _, vs, e1, ry.int, s1, hf.1.1, hf.1.2, by rw [← r1.length]; exact fits_le hf.2, fun p' hp' => ?_⟩
      refine k _ _ (same_fresh hp' _) (.lst upd_same (hn p' hp') ?_)
      exact Rvs.keep (O := fun _ => False) (.same (same_fresh hp' _)) (fun _ z => z.elim) (r1.rep _)
    · cases h
  · cases h
theorem o_div : Op2 G X (binaryOp .FloorDiv) dDiv := by
  refine ⟨_, op_fdivW, fun N H x y d e z Q hz hn rx ry h k => ?_⟩
  unfold dDiv at h
  split at h
  · split at h
    · rename_i hf
      simp only [divOk, Bool.and_eq_true, decide_eq_true_eq] at hf
      cases h; exact ⟨_, _, rx.int, ry.int, hf, k _ H (Same.refl H) (.int _)⟩
    · cases h
  · cases h
theorem o_mod : Op2 G X (binaryOp .Mod) dMod := by
  refine ⟨_, op_mod, fun N H x y d e z Q hz hn rx ry h k => ?_⟩
  unfold dMod at h
  split at h
  · split at h
    · rename_i hf
      cases h; exact ⟨_, _, rx.int, ry.int, of_decide_eq_true hf, k _ H (Same.refl H) (.int _)⟩
    · cases h
  · cases h
theorem o_pow : Op2 G X (binaryOp .Pow) dPow := by
  refine ⟨_, op_pow, fun N H x y d e z Q hz hn rx ry h k => ?_⟩
  unfold dPow at h
  split at h
  · split at h
    · rename_i hf
      simp only [Bool.and_eq_true, decide_eq_true_eq] at hf
      cases h; exact ⟨_, _, rx.int, ry.int, ⟨hf.1.1, hf.1.2, hf.2⟩, k _ H (Same.refl H) (.int _)⟩
    · cases h
  · cases h
end

/-! ### comparisons -/
def dCmp (f : Int → Int → Bool) : D → D → Re D
  | .int i, .int j => .ok (.bl (f i j))
  | _, _ => .bad
abbrev dLt := dCmp fun i j => decide (i < j)
abbrev dLe := dCmp fun i j => decide (i ≤ j)
abbrev dGt := dCmp fun i j => decide (j < i)
abbrev dGe := dCmp fun i j => decide (j ≤ i)
/-- how deep == may go -/
def shallow (d e : D) : Bool := decide (min d.depth e.depth ≤ 120)
def dEq : D → D → Re D := fun d e => if shallow d e then .ok (.bl (D.eqv d e)) else .bad
def dNe : D → D → Re D := fun d e => if shallow d e then .ok (.bl (!D.eqv d e)) else .bad
def items : D → Option (List D)
  | .tup xs => some xs
  | .lst xs => some xs
  | _ => none
def isIn (d : D) (xs : List D) : Bool := xs.any fun y => D.eqv y d
def dIn (neg : Bool) : D → D → Re D := fun d e => match items e with
  | some xs => if decide (min (D.depths xs) d.depth ≤ 120) then .ok (.bl (if neg then !isIn d xs else isIn d xs)) else .bad
  | none => .bad
def dIs (neg : Bool) : D → D → Re D
  | d, .non => .ok (.bl (match d with | .non => !neg | _ => neg))
  | .bl a, .bl b => .ok (.bl (if neg then !decide (a = b) else decide (a = b)))
  | _, _ => .bad
section
variable {G : Glue} {X : Cx}
theorem o_cmp {op : CmpOp} {f : Int → Int → Bool} (h : OpR X (compareOp op) (rI0 fun i j => .bl (f i j))) : Op2 G X (compareOp op) (dCmp f) := by
  refine ⟨_, h, fun N H x y d e z Q hz hn rx ry h k => ?_⟩
  unfold dCmp at h
  split at h
  · cases h; exact ⟨_, _, rx.int, ry.int, k _ H (Same.refl H) (.bl _)⟩
  · cases h
theorem o_lt : Op2 G X (compareOp .Lt) dLt := o_cmp op_lt
theorem o_le : Op2 G X (compareOp .LtE) dLe := o_cmp op_le
theorem o_gt : Op2 G X (compareOp .Gt) dGt := o_cmp op_gt
theorem o_ge : Op2 G X (compareOp .GtE) dGe := o_cmp op_ge
def rEqP (K : PySem.W.Frag) (neg : Bool) : R2 := fun x y H Q => ∃ d e : D, Dp K H x (toPy d) ∧ Dp K H y (toPy e) ∧ min d.depth e.depth ≤ 120 ∧ Q (.bl (if neg then !D.eqv d e else D.eqv d e)) H
theorem op_eqP (hu : X.A.units + 130 < cLine) : OpR X (compareOp .Eq) (rEqP X.K false) := by
  intro pins s σ H x y v u Q I rx ry h
  obtain ⟨d, e, hd, he, hm, q⟩ := h
  obtain ⟨as, r1⟩ := Dp.reads I _ x v hd rx
  obtain ⟨bs, r2⟩ := Dp.reads I _ y u he ry
  exact SeqAt.eq_plain r1 r2 (plain_py d) (plain_py e) (by rw [depth_py, depth_py]; omega) ⟨.bl _, H, I, by rw [eqv_py]; rfl, q⟩
theorem op_neP (hu : X.A.units + 130 < cLine) : OpR X (compareOp .NotEq) (rEqP X.K true) := by
  intro pins s σ H x y v u Q I rx ry h
  obtain ⟨d, e, hd, he, hm, q⟩ := h
  obtain ⟨as, r1⟩ := Dp.reads I _ x v hd rx
  obtain ⟨bs, r2⟩ := Dp.reads I _ y u he ry
  exact SeqAt.ne_plain r1 r2 (plain_py d) (plain_py e) (by rw [depth_py, depth_py]; omega) ⟨.bl _, H, I, by rw [eqv_py]; rfl, q⟩
theorem dpK {N : Addr → Prop} {H : Hp} (hK : X.K = G.K) {d : D} {x : V} (h : Rl G N H d x) : Dp X.K H x (toPy d) := by rw [hK]; exact h.dp
theorem o_eq (hu : X.A.units + 130 < cLine) (hK : X.K = G.K := by rfl) : Op2 G X (compareOp .Eq) dEq := by
  refine ⟨_, op_eqP hu, fun N H x y d e z Q hz hn rx ry h k => ?_⟩
  unfold dEq at h
  split at h
  · rename_i hf
    cases h; exact ⟨d, e, dpK hK rx, dpK hK ry, of_decide_eq_true hf, k _ H (Same.refl H) (.bl _)⟩
  · cases h
theorem o_ne (hu : X.A.units + 130 < cLine) (hK : X.K = G.K := by rfl) : Op2 G X (compareOp .NotEq) dNe := by
  refine ⟨_, op_neP hu, fun N H x y d e z Q hz hn rx ry h k => ?_⟩
  unfold dNe at h
  split at h
  · rename_i hf
    cases h; exact ⟨d, e, dpK hK rx, dpK hK ry, of_decide_eq_true hf, k _ H (Same.refl H) (.bl _)⟩
  · cases h
def rInP (K : PySem.W.Frag) (neg : Bool) : R2 := fun x y H Q => ∃ (d : D) (xs : List D), Dp K H x (toPy d) ∧ (Dp K H y (.list (toPys xs)) ∨ Dp K H y (.tuple (toPys xs))) ∧ min (D.depths xs) d.depth ≤ 120 ∧ Q (.bl (if neg then !isIn d xs else isIn d xs)) H
theorem any_py (d : D) : ∀ xs : List D, ((toPys xs).any fun y => PyData.eqv y (toPy d)) = isIn d xs
  | [] => rfl
  | x :: xs => by
    simp only [toPys, List.any_cons, isIn, eqv_py]
    rw [any_py d xs]; rfl
theorem op_inP (hu : X.A.units + 130 < cLine) : OpR X (compareOp .In) (rInP X.K false) := by
  intro pins s σ H x y v u Q I rx ry h
  obtain ⟨d, xs, hd, he, hm, q⟩ := h
  obtain ⟨as, r1⟩ := Dp.reads I _ x v hd rx
  rcases he with he | he
  · obtain ⟨bs, r2⟩ := Dp.reads I _ y u he ry
    exact SeqAt.in_list_data r2 r1 (plains_py xs) (plain_py d) (by rw [depths_py, depth_py]; omega) ⟨.bl _, H, I, by rw [any_py]; rfl, q⟩
  · obtain ⟨bs, r2⟩ := Dp.reads I _ y u he ry
    exact SeqAt.in_tuple_data r2 r1 (plains_py xs) (plain_py d) (by rw [depths_py, depth_py]; omega) ⟨.bl _, H, I, by rw [any_py]; rfl, q⟩
theorem op_notInP (hu : X.A.units + 130 < cLine) : OpR X (compareOp .NotIn) (rInP X.K true) := by
  intro pins s σ H x y v u Q I rx ry h
  obtain ⟨d, xs, hd, he, hm, q⟩ := h
  obtain ⟨as, r1⟩ := Dp.reads I _ x v hd rx
  rcases he with he | he
  · obtain ⟨bs, r2⟩ := Dp.reads I _ y u he ry
    exact SeqAt.notIn_list_data r2 r1 (plains_py xs) (plain_py d) (by rw [depths_py, depth_py]; omega) ⟨.bl _, H, I, by rw [any_py]; rfl, q⟩
  · obtain ⟨bs, r2⟩ := Dp.reads I _ y u he ry
    exact SeqAt.notIn_tuple_data r2 r1 (plains_py xs) (plain_py d) (by rw [depths_py, depth_py]; omega) ⟨.bl _, H, I, by rw [any_py]; rfl, q⟩
theorem o_in_aux {op : CmpOp} {neg : Bool} (ho : OpR X (compareOp op) (rInP X.K neg)) (hK : X.K = G.K) : Op2 G X (compareOp op) (dIn neg) := by
  refine ⟨_, ho, fun N H x y d e z Q hz hn rx ry h k => ?_⟩
  unfold dIn at h
  split at h
  · rename_i xs hx
    split at h
    · rename_i hf
      cases h
      refine ⟨d, xs, dpK hK rx, ?_, of_decide_eq_true hf, k _ H (Same.refl H) (.bl _)⟩
      cases e with
      | tup ys => cases hx; have := dpK hK ry; simp only [toPy] at this; exact .inr this
      | lst ys => cases hx; have := dpK hK ry; simp only [toPy] at this; exact .inl this
      | _ => cases hx
    · cases h
  · cases h
theorem o_in (hu : X.A.units + 130 < cLine) (hK : X.K = G.K := by rfl) : Op2 G X (compareOp .In) (dIn false) := o_in_aux (op_inP hu) hK
theorem o_notIn (hu : X.A.units + 130 < cLine) (hK : X.K = G.K := by rfl) : Op2 G X (compareOp .NotIn) (dIn true) := o_in_aux (op_notInP hu) hK
theorem o_is : Op2 G X (compareOp .Is) (dIs false) := by
  refine ⟨_, op_isN.or op_isBl, fun N H x y d e z Q hz hn rx ry h k => ?_⟩
  unfold dIs at h
  split at h
  · cases h
    refine .inl ⟨ry.non, k _ H (Same.refl H) ?_⟩
    cases d with
    | non => cases rx.non; exact .bl _
    | bl b => cases rx.bl; exact .bl _
    | int b => cases rx.int; exact .bl _
    | str b => cases rx.str; exact .bl _
    | tup b => obtain ⟨a, vs, e, _⟩ := rx.tup; cases e; exact .bl _
    | lst b => obtain ⟨a, vs, e, _⟩ := rx.lst; cases e; exact .bl _
    | scr b => obtain ⟨a, vs, e, _⟩ := rx.scr; cases e; exact .bl _
  · cases h; exact .inr ⟨_, _, rx.bl, ry.bl, k _ H (Same.refl H) (.bl _)⟩
  · cases h
theorem o_isNot : Op2 G X (compareOp .IsNot) (dIs true) := by
  refine ⟨_, op_notN.or op_notBl, fun N H x y d e z Q hz hn rx ry h k => ?_⟩
  unfold dIs at h
  split at h
  · cases h
    refine .inl ⟨ry.non, k _ H (Same.refl H) ?_⟩
    cases d with
    | non => cases rx.non; exact .bl _
    | bl b => cases rx.bl; exact .bl _
    | int b => cases rx.int; exact .bl _
    | str b => cases rx.str; exact .bl _
    | tup b => obtain ⟨a, vs, e, _⟩ := rx.tup; cases e; exact .bl _
    | lst b => obtain ⟨a, vs, e, _⟩ := rx.lst; cases e; exact .bl _
    | scr b => obtain ⟨a, vs, e, _⟩ := rx.scr; cases e; exact .bl _
  · cases h; exact .inr ⟨_, _, rx.bl, ry.bl, k _ H (Same.refl H) (.bl _)⟩
  · cases h
end
end F

set_option Elab.async false
set_option linter.all false
set_option maxRecDepth 100000
set_option maxHeartbeats 4000000
namespace F
open PySem PySem.Spec PyProof.Rows L2

/-! ### argument lists, displays -/
def getAll (sl : Sl) : List S → Option (List D)
  | [] => some []
  | s :: ss => match getS sl s, getAll sl ss with
    | some d, some ds => some (d :: ds)
    | _, _ => none
inductive RlL (G : Glue) (N : Addr → Prop) (H : Hp) : List D → List V → Prop
  | nil : RlL G N H [] []
  | cons {d : D} {v : V} {ds : List D} {vs : List V} : Rl G N H d v → RlL G N H ds vs → RlL G N H (d :: ds) (v :: vs)
theorem RsL.keep {G : Glue} {T : Act} {A : Nat → Option Addr} {H H' : Hp} (k : Keep (Own A) H H') : ∀ {s : List S} {v : List V}, RsL G T A H s v → RsL G T A H' s v
  | _, _, .nil => .nil
  | _, _, .cons h1 h2 => .cons (Rs.keep k h1) (RsL.keep k h2)
theorem RlL.of {G : Glue} {T : Act} {A : Nat → Option Addr} {sl : Sl} {σ : St} {H : Hp} (r : Sr G T A sl σ H) : ∀ {s : List S} {x : List V} {d : List D}, RsL G T A H s x → getAll sl s = some d → RlL G (T.N A) H d x
  | [], _, _, .nil, e => by cases e; exact .nil
  | s :: ss, _, d, .cons h1 h2, e => by
    simp only [getAll] at e
    split at e
    · rename_i d1 ds e1 e2
      cases e
      exact .cons (Rl.of r h1 e1) (RlL.of r h2 e2)
    · cases e
/-- only data -/
def asVs : List S → Option (List D)
  | [] => some []
  | .v d :: ss => match asVs ss with
    | some ds => some (d :: ds)
    | none => none
  | .r _ :: _ => none
theorem asVs_rv {G : Glue} {T : Act} {A : Nat → Option Addr} {H : Hp} : ∀ {s : List S} {x : List V} {d : List D}, RsL G T A H s x → asVs s = some d → Rvs G (T.N A) H d x
  | [], _, _, .nil, e => by cases e; exact .nil
  | .v d :: ss, _, _, .cons h1 h2, e => by
    simp only [asVs] at e
    split at e
    · rename_i ds e2
      cases e
      exact .cons h1 (asVs_rv h2 e2)
    · cases e
  | .r _ :: _, _, _, .cons h1 h2, e => by cases e
def dNil : Evs := fun sl => .ok [] sl
def dCons (a : Ev) (r : Evs) : Evs := fun sl => (a sl).bind fun x sl1 => (r sl1).bind fun xs sl2 => .ok (x :: xs) sl2
/-- *e: a tuple or a list of data -/
def spread (sl : Sl) (x : S) : Option (List D) := match getS sl x with
  | some (.tup ds) => some ds
  | some (.lst ds) => some ds
  | _ => none
def dStar (a : Ev) (r : Evs) : Evs := fun sl => (a sl).bind fun x sl1 => match spread sl1 x with
  | some ds => (r sl1).bind fun xs sl2 => .ok (ds.map .v ++ xs) sl2
  | none => .bad
/-- a tuple of data -/
def dTup (r : Evs) : Ev := fun sl => (r sl).bind fun xs sl1 => match asVs xs with
  | some ds => if fits ds.length then .ok (.v (.tup ds)) sl1 else .bad
  | none => .bad
/-- a list of data: what is in it -/
abbrev Lv := Sl → R (List D)
def dItems (r : Evs) : Lv := fun sl => (r sl).bind fun xs sl1 => match asVs xs with
  | some ds => if fits ds.length then .ok ds sl1 else .bad
  | none => .bad
/-- a new list, as data -/
def dL (l : Lv) : Ev := fun sl => (l sl).bind fun ds sl1 => .ok (.v (.lst ds)) sl1
section
variable {G : Glue} {W : WX} {X : Cx} {a b c e : Expr} {es : List Expr} {da db dc : Ev} {ds : Evs} {pos : Pos} {T : Act} {A : Nat → Option Addr} {sl : Sl} {σ : St} {H : Hp}
theorem fa_nil : FA G W X [] dNil := fun T => PA.plus pa_nil fun σ H Q z h => by
  obtain ⟨A, sl, s, p⟩ := h z
  exact fun z => p [] H s .refl .nil
theorem fa_cons (ha : FE G W X a da) (hr : FA G W X es ds) (hs : starEach (a :: es) X.env = (false, eval a X.env) :: starEach es X.env := by rfl) : FA G W X (a :: es) (dCons da ds) := fun T =>
  PA.plus (pa_cons (ha T) (hr T) hs) fun σ H Q z h hz => by
    obtain ⟨A, sl, s, p⟩ := h hz
    refine ⟨A, sl, s, PostG.bind p fun x sl1 v H1 _ s1 k1 r1 p1 _ => ⟨A, sl1, s1, PostG.bind p1 fun xs sl2 vs H2 _ s2 k2 r2 p2 _ => ?_⟩⟩
    exact p2 (v :: vs) H2 s2 .refl (.cons (Rs.keep k2 r1) r2)
theorem Rvs.rs {G : Glue} {T : Act} {A : Nat → Option Addr} {H : Hp} : ∀ {ds : List D} {vs : List V}, Rvs G (T.N A) H ds vs → RsL G T A H (ds.map .v) vs
  | [], _, h => by cases h; exact .nil
  | d :: ds, _, h => by
    cases h with
    | cons h1 h2 => exact .cons h1 (Rvs.rs h2)
theorem RsL.append {G : Glue} {T : Act} {A : Nat → Option Addr} {H : Hp} : ∀ {s t : List S} {v w : List V}, RsL G T A H s v → RsL G T A H t w → RsL G T A H (s ++ t) (v ++ w)
  | _, _, _, _, .nil, h => h
  | _, _, _, _, .cons h1 h2, h => .cons h1 (RsL.append h2 h)
theorem fa_star {p : Pos} (ha : FE G W X a da) (hr : FA G W X es ds) (hK : X.K = G.K := by rfl) (hs : starEach (.Starred a p :: es) X.env = (true, eval a X.env) :: starEach es X.env := by rfl) : FA G W X (.Starred a p :: es) (dStar da ds) := fun T =>
  PA.plus (StX.pa_star (ha T) (hr T) hs) fun σ H Q z h hz => by
    obtain ⟨A, sl, s, p⟩ := h hz
    refine ⟨A, sl, s, PostG.bind p fun x sl1 v H1 _ s1 k1 r1 p1 => ?_⟩
    unfold spread at p1
    have key : ∀ (ys : List D) (a : Addr) (vs : List V), v = .ref a → (SqT X.K H1 a vs ∨ SqL X.K H1 a vs) → Rvs G (T.N A) H1 ys vs → PostL G W T A σ H1 ((ds sl1).bind fun xs sl2 => .ok (ys.map .v ++ xs) sl2) Q →
        ∃ p xs, v = V.ref p ∧ (SqT X.K H1 p xs ∨ SqL X.K H1 p xs) ∧ tEvs G W T ds σ H1 fun ys H2 => HSz H2 → Q (xs ++ ys) H2 := fun ys a vs e sq rv p1 =>
      ⟨a, vs, e, sq, fun _ => ⟨A, sl1, s1, PostG.bind p1 fun xs sl2 ws H2 _ s2 k2 r2 p2 _ => p2 (vs ++ ws) H2 s2 .refl ((Rvs.rs (Rvs.keep k2 (fun _ z => .inr z) rv)).append r2)⟩⟩
    match h : getS sl1 x, p1 with
    | some (.tup ys), p1 =>
      obtain ⟨a, vs, e1, e2, e3⟩ := tupK hK (Rl.of s1 r1 h)
      exact key ys a vs e1 (.inl e2) (e3) p1
    | some (.lst ys), p1 =>
      obtain ⟨a, vs, e1, e2, e3⟩ := (Rl.of s1 r1 h).lst
      exact key ys a vs e1 (.inr (SqL.of e2)) e3 p1
theorem fe_tup {k : Nat} (h : FA G W X es ds) : FE G W X (.Tuple es k pos) (dTup ds) := fun T => PE.plus (pe_tup (h T)) fun σ H Q z h hz => by
  obtain ⟨A, sl, s, p⟩ := h hz
  refine ⟨A, sl, s, PostG.bind p fun xs sl1 vs H1 _ s1 k1 r1 p1 => ?_⟩
  split at p1
  · rename_i ds' e
    split at p1
    · rename_i hf
      have rv := asVs_rv r1 e
      refine ⟨by rw [← rv.length]; exact fits_le hf, fun p hp hz' => ?_⟩
      have sm := same_fresh hp (.tup vs)
      exact p1 _ _ (s1.grown sm hz') (.same sm) (.tup (SqT.of upd_same) (Rvs.keep (.same sm) (fun _ z => .inr z) rv))
    · exact p1.elim
  · exact p1.elim
/-- a new list: its maker's reading -/
def tNew (G : Glue) (W : WX) (T : Act) (l : Lv) : TE := fun σ H Q => HSz H → ∃ A sl, Sr G T A sl σ H ∧ PostG (fun H' (ds : List D) (vs : List V) => Rvs G (T.N A) H' ds vs) G W T A σ H (l sl) fun vs H1 => ∀ p, H1 p = none → Q (.ref p) (upd H1 p (.lst vs))
/-- an expression that makes a new list -/
def FL (G : Glue) (W : WX) (X : Cx) (e : Expr) (l : Lv) : Prop := ∀ T, PE X e (tNew G W T l)
theorem fe_new {l : Lv} (h : FL G W X e l) : FE G W X e (dL l) := fun T => PE.plus (h T) fun σ H Q z h hz => by
  obtain ⟨A, sl, s, p⟩ := h hz
  refine ⟨A, sl, s, PostG.bind p fun ds sl1 vs H1 _ s1 k1 r1 p1 p hp hz' => ?_⟩
  have sm := same_fresh hp (.lst vs)
  exact p1 _ _ (s1.grown sm hz') (.same sm) (.lst upd_same (s1.fresh hp) (Rvs.keep (.same sm) (fun _ z => .inr z) r1))
theorem fl_lst (h : FA G W X es ds) : FL G W X (.List es pos) (dItems ds) := fun T => PE.imp (pe_lst (h T)) fun σ H Q h hz => by
  obtain ⟨A, sl, s, p⟩ := h hz
  refine ⟨A, sl, s, PostG.bind p fun xs sl1 vs H1 _ s1 k1 r1 p1 => ?_⟩
  split at p1
  · rename_i ds' e
    split at p1
    · rename_i hf
      have rv := asVs_rv r1 e
      exact ⟨by rw [← rv.length]; exact fits_le hf, p1 vs H1 s1 .refl rv⟩
    · exact p1.elim
  · exact p1.elim

/-! ### one operand -/
def dUn (f : D → Re D) (a : Ev) : Ev := fun sl => (a sl).bind fun x sl1 => match getS sl1 x with
  | some d => match f d with
    | .ok z => .ok (.v z) sl1
    | _ => .bad
  | none => .bad
def dNeg : D → Re D
  | .int i => .ok (.int (-i))
  | _ => .bad
theorem fe_neg (ha : FE G W X a da) : FE G W X (.UnaryOp .USub a pos) (dUn dNeg da) := fun T => PE.plus (pe_un un_neg (ha T)) fun σ H Q z h hz => by
  obtain ⟨A, sl, s, p⟩ := h hz
  refine ⟨A, sl, s, PostG.bind p fun x sl1 v H1 _ s1 k1 r1 p1 => ?_⟩
  match h : getS sl1 x, p1 with
  | some (.int i), p1 =>
    cases (Rl.of s1 r1 h).int
    exact ⟨i, rfl, fun _ => p1 _ H1 s1 .refl (.int _)⟩
  | some .non, p1 => exact p1.elim
  | some (.bl _), p1 => exact p1.elim
  | some (.str _), p1 => exact p1.elim
  | some (.tup _), p1 => exact p1.elim
  | some (.lst _), p1 => exact p1.elim
  | some (.scr _), p1 => exact p1.elim

/-! ### places and slices -/
def dIx : D → D → Re D
  | .tup xs, .int i => match atI xs i with | some d => .ok d | none => .bad
  | .lst xs, .int i => match atI xs i with | some d => .ok d | none => .bad
  | .scr xs, .int i => match atI xs i with | some d => .ok d | none => .bad
  | _, _ => .bad
theorem atI_rv {N : Addr → Prop} {xs : List D} {vs : List V} {i : Int} {d : D} (h : Rvs G N H xs vs) (e : atI xs i = some d) : ∃ v, atI vs i = some v ∧ Rv G N H d v := by
  unfold atI at e ⊢
  rw [← h.length]
  cases q : ixN xs.length i with
  | none => rw [q] at e; cases e
  | some j =>
    rw [q] at e
    exact h.getD e
theorem fe_ix (ha : FE G W X a da) (hb : FE G W X b db) (hK : X.K = G.K := by rfl) (hs : PlainIx b := by exact fun _ _ => rfl) : FE G W X (.Subscript a b pos) (dBin dIx da db) := fun T =>
  PE.plus (pe_ix ix_seq (ha T) (hb T) hs) fun σ H Q z h => by
    refine bin_E (f := dIx) (fun T A sl σ H x y u v Q P s hx hy p nb k => ?_) h
    unfold two at p
    match h1 : getS sl x, h2 : getS sl y, p with
    | some d, some e, p =>
      have rx := Rl.of s hx h1
      have ry := Rl.of s hy h2
      dsimp only at p
      split at p
      · rename_i z hz
        unfold dIx at hz
        split at hz
        · rename_i xs i
          obtain ⟨a, vs, e1, e2, e3⟩ := tupK hK rx
          split at hz
          · rename_i d hd
            cases hz
            obtain ⟨v', e4, e5⟩ := atI_rv e3 hd
            exact .inr (.inl ⟨a, vs, i, v', e1, ry.int, e2, e4, k _ _ H p (Same.refl H) e5⟩)
          · cases hz
        · rename_i xs i
          obtain ⟨a, vs, e1, e2, e3⟩ := rx.lst
          split at hz
          · rename_i d hd
            cases hz
            obtain ⟨v', e4, e5⟩ := atI_rv e3 hd
            exact .inl ⟨a, vs, i, v', e1, ry.int, SqL.of e2, e4, k _ _ H p (Same.refl H) e5⟩
          · cases hz
        · rename_i xs i
          obtain ⟨a, vs, e1, e2, e3⟩ := rx.scr
          split at hz
          · rename_i d hd
            cases hz
            obtain ⟨v', e4, e5⟩ := atI_rv e3 hd
            exact .inl ⟨a, vs, i, v', e1, ry.int, hK ▸ e2.l, e4, k _ _ H p (Same.refl H) e5⟩
          · cases hz
        · cases hz
      · exact absurd p nb
    | some d, none, p => exact absurd p nb
    | none, _, p => exact absurd p nb
/-- a part of a slice -/
abbrev Ov := Sl → R (Option Int)
def dNoPart : Ov := fun sl => .ok none sl
def dPart (a : Ev) : Ov := fun sl => (a sl).bind fun x sl1 => match getS sl1 x with
  | some (.int i) => .ok (some i) sl1
  | _ => .bad
def tPartD (G : Glue) (W : WX) (T : Act) (d : Ov) : TO := fun σ H Q => HSz H → ∃ A sl, Sr G T A sl σ H ∧ PostG (fun _ (a b : Option Int) => a = b) G W T A σ H (d sl) Q
def FO (G : Glue) (W : WX) (X : Cx) (e : Option Expr) (d : Ov) : Prop := ∀ T, PO X e (tPartD G W T d)
theorem PO.plus {e : Option Expr} {t t' : TO} (h : PO X e t) (f : ∀ σ H Q, HSz H → t' σ H Q → t σ H fun v H' => HSz H' → Q v H') : PO X e t' :=
  ⟨fun pins s σ H Q I q => thn (h.run pins s σ H _ I (f σ H Q (Inv.hsz I) q)) fun u s' ⟨o, H', I', r, q⟩ => ⟨o, H', I', r, q (Inv.hsz I')⟩⟩
theorem fo_none : FO G W X none dNoPart := fun T => PO.plus po_none fun σ H Q z h => by
  obtain ⟨A, sl, s, p⟩ := h z
  exact fun _ => p none H s .refl rfl
theorem fo_some (ha : FE G W X a da) : FO G W X (some a) (dPart da) := fun T => PO.plus (po_some (ha T)) fun σ H Q z h hz => by
  obtain ⟨A, sl, s, p⟩ := h hz
  refine ⟨A, sl, s, PostG.bind p fun x sl1 v H1 _ s1 k1 r1 p1 => ?_⟩
  split at p1
  · rename_i i h
    cases (Rl.of s1 r1 h).int
    exact ⟨i, rfl, fun _ => p1 (some i) H1 s1 .refl rfl⟩
  · exact p1.elim
/-- xs[lo:hi] -/
def cut {α : Type} (xs : List α) (lo hi : Option Int) : List α := (xs.drop (HT.sIx xs.length 0 lo)).take (HT.sIx xs.length xs.length hi - HT.sIx xs.length 0 lo)
def dSlT (a : Ev) (lo hi : Ov) : Ev := fun sl => (a sl).bind fun x sl1 => (lo sl1).bind fun l sl2 => (hi sl2).bind fun u sl3 => match getS sl3 x with
  | some (.tup xs) => .ok (.v (.tup (cut xs l u))) sl3
  | _ => .bad
def dSlL (a : Ev) (lo hi : Ov) : Lv := fun sl => (a sl).bind fun x sl1 => (lo sl1).bind fun l sl2 => (hi sl2).bind fun u sl3 => match getS sl3 x with
  | some (.lst xs) => .ok (cut xs l u) sl3
  | some (.scr xs) => .ok (cut xs l u) sl3
  | _ => .bad
/-- of a list or a tuple, as it comes -/
def dSl (a : Ev) (lo hi : Ov) : Ev := fun sl => (a sl).bind fun x sl1 => (lo sl1).bind fun l sl2 => (hi sl2).bind fun u sl3 => match getS sl3 x with
  | some (.tup xs) => .ok (.v (.tup (cut xs l u))) sl3
  | some (.lst xs) => .ok (.v (.lst (cut xs l u))) sl3
  | some (.scr xs) => .ok (.v (.lst (cut xs l u))) sl3
  | _ => .bad
theorem Rvs.cut {N : Addr → Prop} {xs : List D} {vs : List V} (h : Rvs G N H xs vs) (lo hi : Option Int) : Rvs G N H (cut xs lo hi) (cutV vs lo hi) := by
  unfold F.cut cutV
  rw [← h.length]
  exact (h.drop _).take _
theorem cut_whole {α : Type} {xs : List α} {lo hi : Option Int} (h : HT.sIx xs.length 0 lo = 0 ∧ HT.sIx xs.length xs.length hi = xs.length) : cut xs lo hi = xs := by
  unfold cut; rw [h.1, h.2]; simp
variable {lo hi : Option Expr} {dlo dhi : Ov} {p2 : Pos}
theorem fe_sl (ha : FE G W X a da) (hl : FO G W X lo dlo) (hh : FO G W X hi dhi) (hK : X.K = G.K := by rfl) : FE G W X (.Subscript a (.Slice lo hi none p2) pos) (dSl da dlo dhi) := fun T =>
  PE.plus (pe_slice (sl_tupA.or sl_list) (ha T) (hl T) (hh T)) fun σ H Q z h hz => by
    obtain ⟨A, sl, s, p⟩ := h hz
    refine ⟨A, sl, s, PostG.bind p fun x sl1 v H1 _ s1 k1 r1 p1 _ => ⟨A, sl1, s1, PostG.bind p1 fun l sl2 l' H2 _ s2 k2 r2 p2 _ => ⟨A, sl2, s2, PostG.bind p2 fun u sl3 u' H3 _ s3 k3 r3 p3 => ?_⟩⟩⟩
    cases r2; cases r3
    have rx := Rs.keep k3 (Rs.keep k2 r1)
    split at p3
    · rename_i xs h
      obtain ⟨a, vs, e1, e2, e3⟩ := tupK hK (Rl.of s3 rx h)
      refine .inl ⟨a, vs, e1, e2, fun hw hz' => ?_, fun hw q hq hz' => ?_⟩
      · refine p3 _ _ (s3.grown (Same.refl _) hz') .refl ?_
        rw [cut_whole (by rw [e3.length]; exact hw)]
        exact .tup (hK ▸ e2) e3
      · have sm := same_fresh hq (.tup (cutV vs l u))
        exact p3 _ _ (s3.grown sm hz') (.same sm) (.tup (SqT.of upd_same) (Rvs.keep (.same sm) (fun _ z => .inr z) (e3.cut l u)))
    · rename_i xs h
      obtain ⟨a, vs, e1, e2, e3⟩ := (Rl.of s3 rx h).lst
      refine .inr ⟨a, vs, e1, SqL.of e2, fun q hq hz' => ?_⟩
      have sm := same_fresh hq (.lst (cutV vs l u))
      exact p3 _ _ (s3.grown sm hz') (.same sm) (.lst upd_same (s3.fresh hq) (Rvs.keep (.same sm) (fun _ z => .inr z) (e3.cut l u)))
    · rename_i xs h
      obtain ⟨a, vs, e1, e2, e3⟩ := (Rl.of s3 rx h).scr
      refine .inr ⟨a, vs, e1, hK ▸ e2.l, fun q hq hz' => ?_⟩
      have sm := same_fresh hq (.lst (cutV vs l u))
      exact p3 _ _ (s3.grown sm hz') (.same sm) (.lst upd_same (s3.fresh hq) (Rvs.keep (.same sm) (fun _ z => .inr z) (e3.cut l u)))
    · exact p3.elim
end
end F

set_option Elab.async false
set_option linter.all false
set_option maxRecDepth 100000
set_option maxHeartbeats 4000000
namespace F
open PySem PySem.Spec PyProof.Rows L2

/-! ### calls of built-ins -/
def dCB (f : List D → Re D) (r : Evs) : Ev := fun sl => (r sl).bind fun xs sl1 => match getAll sl1 xs with
  | some ds => match f ds with
    | .ok z => .ok (.v z) sl1
    | _ => .bad
  | none => .bad
/-- .. that make a new list -/
def dCL (f : List D → Re (List D)) (r : Evs) : Lv := fun sl => (r sl).bind fun xs sl1 => match getAll sl1 xs with
  | some ds => match f ds with
    | .ok z => .ok z sl1
    | _ => .bad
  | none => .bad
def CallD (G : Glue) (X : Cx) (v : Value) (f : List D → Re D) : Prop := ∃ r, CallR X v r ∧
  ∀ (N : Addr → Prop) (H : Hp) (xs : List V) (ds : List D) (z : D) (Q : VK), HSz H → (∀ p, H p = none → ¬ N p) → RlL G N H ds xs → f ds = .ok z → (∀ v H', Same H H' → Rv G N H' z v → Q v H') → r xs H Q
def CallL (G : Glue) (X : Cx) (v : Value) (f : List D → Re (List D)) : Prop := ∃ r, CallR X v r ∧
  ∀ (N : Addr → Prop) (H : Hp) (xs : List V) (ds : List D) (z : List D) (Q : VK), HSz H → (∀ p, H p = none → ¬ N p) → RlL G N H ds xs → f ds = .ok z →
    (∀ vs H', Same H H' → Rvs G N H' z vs → ∀ p, H' p = none → Q (.ref p) (upd H' p (.lst vs))) → r xs H Q
section
variable {G : Glue} {W : WX} {X : Cx} {a b c e : Expr} {es : List Expr} {da db dc : Ev} {ds : Evs} {pos p : Pos} {T : Act} {A : Nat → Option Addr} {sl : Sl} {σ : St} {H : Hp}
theorem cb_E {f : List D → Re D} {r : List V → Hp → VK → Prop} {Q : VK}
    (q : ∀ (N : Addr → Prop) (H : Hp) (xs : List V) (ds : List D) (z : D) (Q : VK), HSz H → (∀ p, H p = none → ¬ N p) → RlL G N H ds xs → f ds = .ok z → (∀ v H', Same H H' → Rv G N H' z v → Q v H') → r xs H Q)
    (h : tEv G W T (dCB f ds) σ H Q) : tCB r (tEvs G W T ds) σ H (wE Q) := fun hz => by
  obtain ⟨A, sl, s, p⟩ := h hz
  refine ⟨A, sl, s, PostG.bind p fun xs sl1 vs H1 _ s1 k1 r1 p1 => ?_⟩
  split at p1
  · rename_i ds' e
    split at p1
    · rename_i z hf
      exact q _ H1 vs ds' z _ s1.sz (fun p h => s1.fresh h) (RlL.of s1 r1 e) hf fun v H' sm rv => end_E s1 p1 sm rv
    · exact p1.elim
  · exact p1.elim
theorem cl_N {f : List D → Re (List D)} {r : List V → Hp → VK → Prop} {Q : VK}
    (q : ∀ (N : Addr → Prop) (H : Hp) (xs : List V) (ds : List D) (z : List D) (Q : VK), HSz H → (∀ p, H p = none → ¬ N p) → RlL G N H ds xs → f ds = .ok z →
      (∀ vs H', Same H H' → Rvs G N H' z vs → ∀ p, H' p = none → Q (.ref p) (upd H' p (.lst vs))) → r xs H Q)
    (h : tNew G W T (dCL f ds) σ H Q) (hg : ∀ vs H' p, H' p = none → HSz (upd H' p (.lst vs)) → HSz H') : tCB r (tEvs G W T ds) σ H (wE Q) := fun hz => by
  obtain ⟨A, sl, s, p⟩ := h hz
  refine ⟨A, sl, s, PostG.bind p fun xs sl1 vs H1 _ s1 k1 r1 p1 => ?_⟩
  split at p1
  · rename_i ds' e
    split at p1
    · rename_i z hf
      refine q _ H1 vs ds' z _ s1.sz (fun p h => s1.fresh h) (RlL.of s1 r1 e) hf fun ws H' sm rv p hp hz' => ?_
      have hz2 : HSz H' := hg _ _ _ hp hz'
      exact p1 ws H' (s1.grown sm hz2) (.same sm) rv p hp
    · exact p1.elim
  · exact p1.elim
theorem hsz_down (vs : List V) (H' : Hp) (p : Addr) (hp : H' p = none) (h : HSz (upd H' p (.lst vs))) : HSz H' := fun a xs e => by
  have ne : a ≠ p := fun z => by subst z; rcases e with (e | ⟨o, e⟩) | (e | ⟨o, e⟩) <;> rw [hp] at e <;> cases e
  refine h a xs ?_
  unfold Rd
  rw [upd_ne ne]
  exact e
theorem fe_callB {x : Str} {id : String} {f : List D → Re D} (hc : CallD G X (.builtin id) f) (hv : bootBuiltins x = some (.builtin id)) (hm : X.mg x = none) (ha : FA G W X (e :: es) ds) (hg : Gl X x := by rfl) (hn : x ≠ "__name__" := by decide) (hdb : (x == ("__debug__" : Str)) = false := by decide)
    (he : starEach (e :: es) X.env = (false, eval e X.env) :: starEach es X.env := by rfl) (hpl : (backTo pos (starEach es X.env)).any (·.1) = false := by rfl) : FE G W X (.Call (.Name x p) (e :: es) [] pos) (dCB f ds) := fun T => by
  obtain ⟨r, hr, q⟩ := hc
  exact PE.plus (pe_callB hr hg hm hv (ha T) hn hdb he hpl) fun σ H Q z h => cb_E q h
theorem fe_callTy {x : Str} {id : String} {f : List D → Re D} (hc : CallD G X (.type id) f) (hv : bootBuiltins x = some (.type id)) (hm : X.mg x = none) (ha : FA G W X (e :: es) ds) (hg : Gl X x := by rfl) (hn : x ≠ "__name__" := by decide) (hdb : (x == ("__debug__" : Str)) = false := by decide)
    (he : starEach (e :: es) X.env = (false, eval e X.env) :: starEach es X.env := by rfl) (hpl : (backTo pos (starEach es X.env)).any (·.1) = false := by rfl) : FE G W X (.Call (.Name x p) (e :: es) [] pos) (dCB f ds) := fun T => by
  obtain ⟨r, hr, q⟩ := hc
  exact PE.plus (pe_callTy hr hg hm hv (ha T) hn hdb he hpl) fun σ H Q z h => cb_E q h
theorem fl_callB {x : Str} {id : String} {f : List D → Re (List D)} (hc : CallL G X (.builtin id) f) (hv : bootBuiltins x = some (.builtin id)) (hm : X.mg x = none) (ha : FA G W X (e :: es) ds) (hg : Gl X x := by rfl) (hn : x ≠ "__name__" := by decide) (hdb : (x == ("__debug__" : Str)) = false := by decide)
    (he : starEach (e :: es) X.env = (false, eval e X.env) :: starEach es X.env := by rfl) (hpl : (backTo pos (starEach es X.env)).any (·.1) = false := by rfl) : FL G W X (.Call (.Name x p) (e :: es) [] pos) (dCL f ds) := fun T => by
  obtain ⟨r, hr, q⟩ := hc
  exact PE.plus (pe_callB hr hg hm hv (ha T) hn hdb he hpl) fun σ H Q z h => cl_N q h hsz_down
theorem fl_callTy {x : Str} {id : String} {f : List D → Re (List D)} (hc : CallL G X (.type id) f) (hv : bootBuiltins x = some (.type id)) (hm : X.mg x = none) (ha : FA G W X (e :: es) ds) (hg : Gl X x := by rfl) (hn : x ≠ "__name__" := by decide) (hdb : (x == ("__debug__" : Str)) = false := by decide)
    (he : starEach (e :: es) X.env = (false, eval e X.env) :: starEach es X.env := by rfl) (hpl : (backTo pos (starEach es X.env)).any (·.1) = false := by rfl) : FL G W X (.Call (.Name x p) (e :: es) [] pos) (dCL f ds) := fun T => by
  obtain ⟨r, hr, q⟩ := hc
  exact PE.plus (pe_callTy hr hg hm hv (ha T) hn hdb he hpl) fun σ H Q z h => cl_N q h hsz_down

/-! ### which -/
def seqOf : D → Option (List D)
  | .tup xs => some xs
  | .lst xs => some xs
  | .scr xs => some xs
  | _ => none
def bLen : List D → Re D
  | [d] => match seqOf d with | some xs => .ok (.int xs.length) | none => .bad
  | _ => .bad
def bInt : List D → Re D
  | [.int i] => .ok (.int i)
  | [.bl k] => .ok (.int (if k = true then 1 else 0))
  | _ => .bad
def bAbs : List D → Re D
  | [.int i] => .ok (.int (if i < 0 then -i else i))
  | _ => .bad
def bMax2 : List D → Re D
  | [.int i, .int j] => .ok (.int (if j > i then j else i))
  | _ => .bad
def bMin2 : List D → Re D
  | [.int i, .int j] => .ok (.int (if j < i then j else i))
  | _ => .bad
/-- the truths of a list -/
def blsOf : List D → Option (List Bool)
  | [] => some []
  | .bl b :: r => match blsOf r with | some bs => some (b :: bs) | none => none
  | _ :: _ => none
def intsOf : List D → Option (List Int)
  | [] => some []
  | .int b :: r => match intsOf r with | some bs => some (b :: bs) | none => none
  | _ :: _ => none
def bAny : List D → Re D
  | [.lst xs] => match blsOf xs with | some bs => .ok (.bl (bs.any id)) | none => .bad
  | _ => .bad
def bAll : List D → Re D
  | [.lst xs] => match blsOf xs with | some bs => .ok (.bl (bs.all id)) | none => .bad
  | _ => .bad
def bSum : List D → Re D
  | [.lst xs] => match intsOf xs with | some bs => .ok (.int bs.sum) | none => .bad
  | _ => .bad
def bTuple : List D → Re D
  | [.tup xs] => .ok (.tup xs)
  | [.lst xs] => .ok (.tup xs)
  | [.scr xs] => .ok (.tup xs)
  | _ => .bad
def bList : List D → Re (List D)
  | [d] => match seqOf d with | some xs => .ok xs | none => .bad
  | _ => .bad
theorem bls_rv {N : Addr → Prop} {H : Hp} : ∀ {xs : List D} {vs : List V} {bs : List Bool}, Rvs G N H xs vs → blsOf xs = some bs → vs = bs.map V.bl
  | [], _, _, h, e => by cases h; cases e; rfl
  | x :: xs, _, bs, h, e => by
    cases h with
    | cons h1 h2 =>
      cases x with
      | bl b =>
        simp only [blsOf] at e
        split at e
        · rename_i cs e2
          cases e; cases h1
          rw [bls_rv h2 e2]; rfl
        · cases e
      | _ => cases e
theorem ints_rv {N : Addr → Prop} {H : Hp} : ∀ {xs : List D} {vs : List V} {bs : List Int}, Rvs G N H xs vs → intsOf xs = some bs → vs = bs.map V.int
  | [], _, _, h, e => by cases h; cases e; rfl
  | x :: xs, _, bs, h, e => by
    cases h with
    | cons h1 h2 =>
      cases x with
      | int b =>
        simp only [intsOf] at e
        split at e
        · rename_i cs e2
          cases e; cases h1
          rw [ints_rv h2 e2]; rfl
        · cases e
      | _ => cases e
theorem RlL.one {N : Addr → Prop} {H : Hp} {d : D} {vs : List V} (h : RlL G N H [d] vs) : ∃ v, vs = [v] ∧ Rl G N H d v := by
  cases h with
  | cons h1 h2 => cases h2; exact ⟨_, rfl, h1⟩
theorem RlL.two {N : Addr → Prop} {H : Hp} {d e : D} {vs : List V} (h : RlL G N H [d, e] vs) : ∃ v w, vs = [v, w] ∧ Rl G N H d v ∧ Rl G N H e w := by
  cases h with
  | cons h1 h2 => cases h2 with
    | cons h2 h3 => cases h3; exact ⟨_, _, rfl, h1, h2⟩
/-- what is to be read as a list or a tuple -/
theorem seq_rv {N : Addr → Prop} {H : Hp} (hK : X.K = G.K) {d : D} {v : V} {xs : List D} (h : Rl G N H d v) (e : seqOf d = some xs) : ∃ a vs, v = .ref a ∧ (SqL X.K H a vs ∨ SqT X.K H a vs) ∧ Rvs G N H xs vs := by
  cases d with
  | tup ys => cases e; obtain ⟨a, vs, e1, e2, e3⟩ := tupK hK h; exact ⟨a, vs, e1, .inr e2, e3⟩
  | lst ys => cases e; obtain ⟨a, vs, e1, e2, e3⟩ := h.lst; exact ⟨a, vs, e1, .inl (SqL.of e2), e3⟩
  | scr ys => cases e; obtain ⟨a, vs, e1, e2, e3⟩ := h.scr; exact ⟨a, vs, e1, .inl (hK ▸ e2.l), e3⟩
  | _ => cases e
theorem c_len (hK : X.K = G.K := by rfl) : CallD G X (.builtin "len") bLen := by
  refine ⟨_, call_len_seq, fun N H xs ds z Q hz hn r h k => ?_⟩
  unfold bLen at h
  split at h
  · obtain ⟨v, rfl, q⟩ := r.one
    split at h
    · rename_i ys e
      cases h
      obtain ⟨a, vs, rfl, sq, rv⟩ := seq_rv hK q e
      exact ⟨a, vs, rfl, sq, by rw [← rv.length]; exact k _ H (Same.refl H) (.int _)⟩
    · cases h
  · cases h
theorem c_int : CallD G X (.type "int") bInt := by
  refine ⟨_, call_int1, fun N H xs ds z Q hz hn r h k => ?_⟩
  unfold bInt at h
  split at h
  · obtain ⟨v, rfl, q⟩ := r.one
    cases h; cases q.int
    exact .inl ⟨_, rfl, k _ H (Same.refl H) (.int _)⟩
  · obtain ⟨v, rfl, q⟩ := r.one
    cases h; cases q.bl
    exact .inr ⟨_, rfl, k _ H (Same.refl H) (.int _)⟩
  · cases h
theorem c_abs : CallD G X (.builtin "abs") bAbs := by
  refine ⟨_, call_abs, fun N H xs ds z Q hz hn r h k => ?_⟩
  unfold bAbs at h
  split at h
  · obtain ⟨v, rfl, q⟩ := r.one
    cases h; cases q.int
    exact ⟨_, rfl, k _ H (Same.refl H) (.int _)⟩
  · cases h
theorem c_max2 (hc : X.calm = true := by rfl) : CallD G X (.builtin "max") bMax2 := by
  refine ⟨_, call_max2 hc, fun N H xs ds z Q hz hn r h k => ?_⟩
  unfold bMax2 at h
  split at h
  · obtain ⟨v, w, rfl, r1, r2⟩ := r.two
    cases h; cases r1.int; cases r2.int
    exact ⟨_, _, rfl, k _ H (Same.refl H) (.int _)⟩
  · cases h
theorem c_min2 (hc : X.calm = true := by rfl) : CallD G X (.builtin "min") bMin2 := by
  refine ⟨_, call_min2 hc, fun N H xs ds z Q hz hn r h k => ?_⟩
  unfold bMin2 at h
  split at h
  · obtain ⟨v, w, rfl, r1, r2⟩ := r.two
    cases h; cases r1.int; cases r2.int
    exact ⟨_, _, rfl, k _ H (Same.refl H) (.int _)⟩
  · cases h
theorem c_any (hc : X.calm = true := by rfl) : CallD G X (.builtin "any") bAny := by
  refine ⟨_, cr_any hc, fun N H xs ds z Q hz hn r h k => ?_⟩
  unfold bAny at h
  split at h
  · obtain ⟨v, rfl, q⟩ := r.one
    split at h
    · rename_i bs e
      cases h
      obtain ⟨a, vs, rfl, sq, rv⟩ := q.lst
      exact ⟨a, bs, rfl, by rw [← bls_rv rv e]; exact SqL.of sq, k _ H (Same.refl H) (.bl _)⟩
    · cases h
  · cases h
theorem c_all (hc : X.calm = true := by rfl) : CallD G X (.builtin "all") bAll := by
  refine ⟨_, cr_all hc, fun N H xs ds z Q hz hn r h k => ?_⟩
  unfold bAll at h
  split at h
  · obtain ⟨v, rfl, q⟩ := r.one
    split at h
    · rename_i bs e
      cases h
      obtain ⟨a, vs, rfl, sq, rv⟩ := q.lst
      exact ⟨a, bs, rfl, by rw [← bls_rv rv e]; exact SqL.of sq, k _ H (Same.refl H) (.bl _)⟩
    · cases h
  · cases h
theorem c_sum (hc : X.calm = true := by rfl) : CallD G X (.builtin "sum") bSum := by
  refine ⟨_, cr_sum hc, fun N H xs ds z Q hz hn r h k => ?_⟩
  unfold bSum at h
  split at h
  · obtain ⟨v, rfl, q⟩ := r.one
    split at h
    · rename_i bs e
      cases h
      obtain ⟨a, vs, rfl, sq, rv⟩ := q.lst
      exact ⟨a, bs, rfl, by rw [← ints_rv rv e]; exact SqL.of sq, k _ H (Same.refl H) (.int _)⟩
    · cases h
  · cases h
theorem c_tuple (hK : X.K = G.K := by rfl) : CallD G X (.type "tuple") bTuple := by
  refine ⟨_, call_tuple_of, fun N H xs ds z Q hz hn r h k => ?_⟩
  have mk : ∀ (a : Addr) (vs : List V) (ys : List D), SqL X.K H a vs → Rvs G N H ys vs → (∀ v H', Same H H' → Rv G N H' (.tup ys) v → Q v H') → ∀ l, H l = none → Q (.ref l) (upd H l (.tup vs)) := fun a vs ys sq rv k l hl => by
    have sm := same_fresh hl (.tup vs)
    exact k _ _ sm (.tup (SqT.of upd_same) (Rvs.keep (O := fun _ => False) (.same sm) (fun _ z => z.elim) rv))
  unfold bTuple at h
  split at h
  · obtain ⟨v, rfl, q⟩ := r.one
    cases h
    obtain ⟨a, vs, rfl, sq, rv⟩ := tupK hK q
    exact ⟨a, vs, rfl, .inr ⟨sq, k _ H (Same.refl H) (.tup (hK ▸ sq) rv)⟩⟩
  · obtain ⟨v, rfl, q⟩ := r.one
    cases h
    obtain ⟨a, vs, rfl, sq, rv⟩ := q.lst
    exact ⟨a, vs, rfl, .inl ⟨SqL.of sq, mk a vs _ (SqL.of sq) rv k⟩⟩
  · obtain ⟨v, rfl, q⟩ := r.one
    cases h
    obtain ⟨a, vs, rfl, sq, rv⟩ := q.scr
    exact ⟨a, vs, rfl, .inl ⟨hK ▸ sq.l, mk a vs _ (hK ▸ sq.l) rv k⟩⟩
  · cases h
theorem c_list (hK : X.K = G.K := by rfl) : CallL G X (.type "list") bList := by
  refine ⟨_, call_list_of, fun N H xs ds z Q hz hn r h k => ?_⟩
  unfold bList at h
  split at h
  · obtain ⟨v, rfl, q⟩ := r.one
    split at h
    · rename_i ys e
      cases h
      obtain ⟨a, vs, rfl, sq, rv⟩ := seq_rv hK q e
      exact ⟨a, vs, rfl, sq, fun l hl => k vs H (Same.refl H) rv l hl⟩
    · cases h
  · cases h

/-! ### isinstance -/
def tyName : D → String
  | .non => "NoneType"
  | .bl _ => "bool"
  | .int _ => "int"
  | .str _ => "str"
  | .tup _ => "tuple"
  | .lst _ => "list"
  | .scr _ => "list"
def isTy (d : D) (n : String) : Bool := tyName d == n || (n == "int" && tyName d == "bool")
def dIsi (ns : List String) (a : Ev) : Ev := fun sl => (a sl).bind fun x sl1 => match getS sl1 x with
  | some d => .ok (.v (.bl (ns.any (isTy d)))) sl1
  | none => .bad
theorem tyx {N : Addr → Prop} {H : Hp} (hK : X.K = G.K) {d : D} {v : V} (h : Rl G N H d v) : TyX X.K H v (.type (tyName d)) := by
  cases d with
  | non => cases h.non; exact .base .non
  | bl b => cases h.bl; exact .base (.bl b)
  | int b => cases h.int; exact .base (.int b)
  | str b => cases h.str; exact .base (.str b)
  | tup b =>
    obtain ⟨a, vs, rfl, sq, _⟩ := tupK hK h
    rcases sq with (sq | ⟨o, sq⟩) | ⟨o, its, n, e1, e2, _⟩
    · exact .base (.tup sq)
    · exact .fTuple sq
    · exact .kTuple e1 e2
  | lst b => obtain ⟨a, vs, rfl, sq, _⟩ := h.lst; exact .base (.lst sq)
  | scr b =>
    obtain ⟨a, vs, rfl, sq, _⟩ := h.scr
    rcases sq with ⟨o, sq⟩ | ⟨o, its, n, e1, e2, _⟩
    · exact .base (.frz sq)
    · exact .kList (hK ▸ e1) e2
/-- the built-in classes that are asked for -/
def Asked (n : String) : Prop := ∀ d : D, kitB (tyName d) n = some (isTy d n)
theorem kb {a b : String} (h : ∀ a, a ∈ ["NoneType", "bool", "int", "str", "tuple", "list"] → kitB a b = some (a == b || (b == "int" && a == "bool"))) : Asked b := fun d => by
  have : tyName d ∈ ["NoneType", "bool", "int", "str", "tuple", "list"] := by cases d <;> simp [tyName]
  exact h _ this
theorem asked_int : Asked "int" := kb (a := "") (by decide +kernel)
theorem asked_bool : Asked "bool" := kb (a := "") (by decide +kernel)
theorem asked_str : Asked "str" := kb (a := "") (by decide +kernel)
theorem asked_tuple : Asked "tuple" := kb (a := "") (by decide +kernel)
theorem asked_list : Asked "list" := kb (a := "") (by decide +kernel)
theorem fe_isi1 {n : Str} {T1 : String} {p q : Pos} (h1 : Asked T1) (hb : bootBuiltins n = some (.type T1)) (hm : X.mg "isinstance" = none) (hmn : X.mg n = none) (ha : FE G W X a da) (hK : X.K = G.K := by rfl) (hg : Gl X "isinstance" := by rfl) (hgn : Gl X n := by rfl)
    (hn : n ≠ "__name__" := by decide) (hdb : (n == ("__debug__" : Str)) = false := by decide) (he : starEach (a :: [.Name n q]) X.env = (false, eval a X.env) :: starEach [.Name n q] X.env := by rfl) (hpl : (backTo pos (starEach [.Name n q] X.env)).any (·.1) = false := by rfl) :
    FE G W X (.Call (.Name "isinstance" p) [a, .Name n q] [] pos) (dIsi [T1] da) := fun T =>
  PE.plus (pe_callB call_isi hg hm boot_isinstance (pa_cons (ha T) (pa_cons (pe_bltn (v := .ty T1) hgn hmn hb rfl hn hdb) pa_nil (by rfl)) he) (by decide) (by decide) he hpl) fun σ H Q z h hz => by
    obtain ⟨A, sl, s, p⟩ := h hz
    refine ⟨A, sl, s, PostG.bind p fun x sl1 v H1 _ s1 k1 r1 p1 => ?_⟩
    split at p1
    · rename_i d e
      refine ⟨v, .ty T1, .type (tyName d), .type T1, isTy d T1, rfl, .ty T1, tyx hK (Rl.of s1 r1 e), kit_ty (h1 d), fun _ => p1 _ H1 s1 .refl ?_⟩
      simp only [List.any_cons, List.any_nil, Bool.or_false]; exact .bl _
    · exact p1.elim
theorem fe_isi2 {n m : Str} {T1 T2 : String} {p q q2 q3 : Pos} {kt : Nat} (h1 : Asked T1) (h2 : Asked T2) (hb : bootBuiltins n = some (.type T1)) (hb2 : bootBuiltins m = some (.type T2)) (hm : X.mg "isinstance" = none) (hmn : X.mg n = none) (hmm : X.mg m = none) (ha : FE G W X a da)
    (hK : X.K = G.K := by rfl) (hg : Gl X "isinstance" := by rfl) (hgn : Gl X n := by rfl) (hgm : Gl X m := by rfl)
    (hn : n ≠ "__name__" := by decide) (hdb : (n == ("__debug__" : Str)) = false := by decide) (hn2 : m ≠ "__name__" := by decide) (hdb2 : (m == ("__debug__" : Str)) = false := by decide)
    (he : starEach (a :: [.Tuple [.Name n q, .Name m q2] kt q3]) X.env = (false, eval a X.env) :: starEach [.Tuple [.Name n q, .Name m q2] kt q3] X.env := by rfl) (hpl : (backTo pos (starEach [.Tuple [.Name n q, .Name m q2] kt q3] X.env)).any (·.1) = false := by rfl) :
    FE G W X (.Call (.Name "isinstance" p) [a, .Tuple [.Name n q, .Name m q2] kt q3] [] pos) (dIsi [T1, T2] da) := fun T =>
  PE.plus (pe_callB call_isiT hg hm boot_isinstance (pa_cons (ha T) (pa_cons (pe_tup (pa_cons (pe_bltn (v := .ty T1) hgn hmn hb rfl hn hdb) (pa_cons (pe_bltn (v := .ty T2) hgm hmm hb2 rfl hn2 hdb2) pa_nil (by rfl)) (by rfl))) pa_nil (by rfl)) he) (by decide) (by decide) he hpl) fun σ H Q z h hz => by
    obtain ⟨A, sl, s, p⟩ := h hz
    refine ⟨A, sl, s, PostG.bind p fun x sl1 v H1 _ s1 k1 r1 p1 => ?_⟩
    split at p1
    · rename_i d e
      refine ⟨by show 2 ≤ sizeLine; rw [sizeLine_eq]; decide, fun tp htp => ?_⟩
      have sm := same_fresh htp (.tup [.ty T1, .ty T2])
      have rl : Rl G (T.N A) (upd H1 tp (.tup [.ty T1, .ty T2])) d v := by
        rcases Rl.of s1 r1 e with h | ⟨xs, a, vs, e1, e2, e3, e4⟩
        · exact .inl (Rv.keep (.same sm) (fun _ z => .inr z) h)
        · exact .inr ⟨xs, a, vs, e1, e2, sm _ _ e3, Rvs.keep (.same sm) (fun _ z => .inr z) e4⟩
      refine ⟨v, tp, [.ty T1, .ty T2], .type (tyName d), [.type T1, .type T2], isTy d T1 || isTy d T2, rfl, upd_same, .cons (.ty T1) (.cons (.ty T2) .nil), tyx hK rl, ?_, fun hz' => p1 _ _ (s1.grown sm hz') (.same sm) ?_⟩
      · refine kitAny_cons (kit_ty (h1 d)) (fun hb => ?_) fun hb => by rw [hb]; rfl
        rw [hb]
        refine kitAny_cons (kit_ty (h2 d)) (fun hb => ?_) fun hb => by rw [hb]; rfl
        rw [hb]; exact kitAny_nil
      · simp only [List.any_cons, List.any_nil, Bool.or_false]; exact .bl _
    · exact p1.elim
end
end F

set_option Elab.async false
set_option linter.all false
set_option maxRecDepth 100000
set_option maxHeartbeats 4000000
namespace F
open PySem PySem.Spec PyProof.Rows L2

/-! ### statements -/
def mNil : Sm := fun sl => .nx sl
def Fl.seq (f : Fl) (m : Sm) : Fl := match f with
  | .nx sl => m sl
  | f => f
def mSeq (a b : Sm) : Sm := fun sl => (a sl).seq b
/-- from an expression to a statement -/
def R.to {α : Type} (x : R α) (k : α → Sl → Fl) : Fl := match x with
  | .ok a sl => k a sl
  | .ex e sl => .ex e sl
  | .bad => .bad
def mSet (i : Nat) (d : Ev) : Sm := fun sl => (d sl).to fun x sl1 => match x with
  | .v d => .nx (sl1.set i (some (.v d)))
  | .r _ => .bad
/-- a name is bound to a new list, its own -/
def mNew (i : Nat) (l : Lv) : Sm := fun sl => (l sl).to fun ds sl1 => .nx (sl1.set i (some (.m ds)))
def mDrop (d : Ev) : Sm := fun sl => (d sl).to fun _ sl1 => .nx sl1
def mRet (d : Ev) : Sm := fun sl => (d sl).to fun x sl1 => .rt x sl1
def mRetN : Sm := fun sl => .rt (.v .non) sl
def mIf (c : Ev) (a b : Sm) : Sm := fun sl => (dB c sl).to fun k sl1 => if k = true then a sl1 else b sl1
def mBrk : Sm := fun sl => .bk sl
def mCont : Sm := fun sl => .ct sl
def mRaise (n : Nat) : Sm := fun sl => .ex (.plain n) sl

section
variable {G : Glue} {W : WX} {X : Cx} {a b c e : Expr} {es : List Expr} {da db dc : Ev} {ds : Evs} {pos p : Pos} {T : Act} {A : Nat → Option Addr} {sl : Sl} {σ : St} {H : Hp} {st : Stmt} {sts : List Stmt} {m m1 m2 : Sm} {l : Lv}
theorem SPost.plus {D : Ends} {f : Fl} (h : SPost G W T D f) : SPost G W T (plusE D) f := by
  cases f with
  | nx sl => exact fun A σ H s z => h A σ H s
  | rt x sl => exact fun A σ H v s r z => h A σ H v s r
  | bk sl => exact fun A σ H s z => h A σ H s
  | ct sl => exact fun A σ H s z => h A σ H s
  | ex e sl => exact h
  | bad => exact h
theorem FS.mk {t : TS} (h : PS X st t) (q : ∀ T A sl D σ H, Sr G T A sl σ H → SPost G W T D (m sl) → t (plusE D) σ H) : FS G W X st m := fun T =>
  PS.plus h fun D σ H z h => let ⟨A, sl, s, p⟩ := h z; q T A sl D σ H s p
/-- an expression, then what is done with it -/
theorem to_post {α β : Type} {rel : Hp → α → β → Prop} {r : R α} {k : α → Sl → Fl} {D : Ends} {Q : β → Hp → Prop} (h : SPost G W T D (r.to k))
    (q : ∀ x sl1 v H1, r = .ok x sl1 → Sr G T A sl1 σ H1 → Keep (Own A) H H1 → rel H1 x v → SPost G W T D (k x sl1) → Q v H1) : PostG rel G W T A σ H r Q := by
  cases r with
  | ok x sl1 => exact fun v H1 s k r => q x sl1 v H1 rfl s k r h
  | ex e sl1 => exact fun c od H' x s => h A σ H' c od x s
  | bad => exact h
theorem fss_nil : FSs G W X [] mNil := fun T => PSs.plus pss_nil fun D σ H z h => by
  obtain ⟨A, sl, s, p⟩ := h z
  exact fun _ => p A σ H s
theorem seq_post {D : Ends} {f : Fl} (h : SPost G W T D (f.seq m)) : SPost G W T { D with nx := tSm G W T m D } f := by
  cases f with
  | nx sl => exact fun A σ H s z => ⟨A, sl, s, h⟩
  | rt x sl => exact h
  | bk sl => exact h
  | ct sl => exact h
  | ex e sl => exact h
  | bad => exact h
theorem fss_cons (h1 : FS G W X st m1) (h2 : FSs G W X sts m2) : FSs G W X (st :: sts) (mSeq m1 m2) := fun T =>
  PSs.imp (pss_cons (h1 T) (h2 T)) fun D σ H h z => by
    obtain ⟨A, sl, s, p⟩ := h z
    exact ⟨A, sl, s, seq_post p⟩
theorem fss_one (h1 : FS G W X st m1) : FSs G W X [st] m1 := fun T => pss_one (h1 T)
theorem fs_pass : FS G W X (.Pass pos) mNil := FS.mk ps_pass fun T A sl D σ H s p z => p A σ H s
theorem fs_break : FS G W X (.Break pos) mBrk := FS.mk ps_break fun T A sl D σ H s p z => p A σ H s
theorem fs_continue : FS G W X (.Continue pos) mCont := FS.mk ps_continue fun T A sl D σ H s p z => p A σ H s
theorem fs_expr (h : FE G W X a da) (hs : swapsWith a none pos.line X.env = pure false := by rfl) : FS G W X (.Expr a pos) (mDrop da) := fun T =>
  PS.plus (ps_expr (h T) hs) fun D σ H z h hz => by
    obtain ⟨A, sl, s, p⟩ := h hz
    exact ⟨A, sl, s, to_post p fun x sl1 v H1 _ s1 k1 r1 p1 z => p1 A σ H1 s1⟩
theorem fs_ret (h : FE G W X a da) : FS G W X (.Return (some a) pos) (mRet da) := fun T =>
  PS.plus (ps_ret (h T)) fun D σ H z h hz => by
    obtain ⟨A, sl, s, p⟩ := h hz
    exact ⟨A, sl, s, to_post p fun x sl1 v H1 _ s1 k1 r1 p1 z => p1 A σ H1 v s1 r1⟩
theorem fs_retN : FS G W X (.Return none pos) mRetN := FS.mk ps_retN fun T A sl D σ H s p z => p A σ H .non s .non
theorem fs_if {ss ts : List Stmt} (hc : FB G W X c dc) (h1 : FSs G W X ss m1) (h2 : FSs G W X ts m2) : FS G W X (.If c ss ts pos) (mIf dc m1 m2) := fun T =>
  PS.imp (ps_if (hc T) (h1 T) (h2 T)) fun D σ H h hz => by
    obtain ⟨A, sl, s, p⟩ := h hz
    refine ⟨A, sl, s, to_post p fun k sl1 v H1 _ s1 k1 r1 p1 => ?_⟩
    cases r1
    cases k with
    | true => exact fun _ => ⟨A, sl1, s1, p1⟩
    | false => exact fun _ => ⟨A, sl1, s1, p1⟩
theorem fs_set {i : Nat} {x : Str} {pos' : Pos} (hN : X.N.Nodup) (h : FE G W X a da) (hi : X.N[i]? = some x := by rfl) (hx : Loc X.env.scope x := by first | exact Or.inl rfl | exact Or.inr rfl) (hs : swapsWith a (some (.Name x pos')) pos.line X.env = pure false := by rfl)
    (hf : X.fn x = true ∨ X.env.scope.names.lookup x = some .local := by first | exact .inl rfl | exact .inr rfl | assumption) : FS G W X (.Assign [.Name x pos'] a pos) (mSet i da) := fun T =>
  PS.plus (ps_set hN hi hx (h T) hs hf) fun D σ H z h hz => by
    obtain ⟨A, sl, s, p⟩ := h hz
    refine ⟨A, sl, s, to_post p fun x sl1 v H1 _ s1 k1 r1 p1 => ?_⟩
    match x, r1, p1 with
    | .v d, r1, p1 => exact fun _ => p1 A _ H1 (s1.set i r1)
/-- a name of its own list: not the one handed in -/
def NoIo (i : Nat) (T : Act) : Prop := T.io = none ∨ i ≠ 0
theorem fs_new {i : Nat} {x : Str} {pos' : Pos} (hN : X.N.Nodup) (h : FL G W X a l) (hi : X.N[i + 1]? = some x := by rfl) (hx : Loc X.env.scope x := by first | exact Or.inl rfl | exact Or.inr rfl) (hs : swapsWith a (some (.Name x pos')) pos.line X.env = pure false := by rfl)
    (hf : X.fn x = true ∨ X.env.scope.names.lookup x = some .local := by first | exact .inl rfl | exact .inr rfl | assumption) : FS G W X (.Assign [.Name x pos'] a pos) (mNew (i + 1) l) := fun T =>
  PS.plus (ps_set hN hi hx (h T) hs hf) fun D σ H z h hz => by
    obtain ⟨A, sl, s, p⟩ := h hz
    refine ⟨A, sl, s, to_post p fun x sl1 vs H1 _ s1 k1 r1 p1 q hq hz' => ?_⟩
    exact p1 _ _ _ (s1.setM (.inr (Nat.succ_ne_zero i)) hq r1 hz')
theorem fs_raise {x : Str} {n : Nat} {bmB : List Value} {B newId initId : String} {q : Pos} {xp : Expr} (tk : Takes X W) (hc : X.calm = true := by rfl) (hm : PMk X (.Call (.Name x p) [] [] q) (fun _ H Q => Q (.ref (G.exA n)) none H)) :
    FS G W X (.Raise (some (.Call (.Name x p) [] [] q)) none pos) (mRaise n) :=
  FS.mk (ps_raise hc tk hm) fun T A sl D σ H s pq => pq A σ H _ _ ⟨rfl, rfl⟩ s
end

/-! ### calls of defs -/
/-- a promise: data in, data out, nothing written -/
def spP (G : Glue) (n : Nat) (f : List D → Re D) : Sp := fun vs H Q E => ∃ (N : Addr → Prop) (ds : List D), (∀ p, N p → ∃ o, H p = some o) ∧ Rvs G N H ds vs ∧ ds.length = n ∧
  match f ds with
  | .ok d => ∀ v H', Same H H' → Rv G N H' d v → Q v H'
  | .ex e => ∀ c od H', Same H H' → HSz H' → ExR G N H' e c od → E c od H'
  | .bad => False
/-- .. where the first argument is a list that is written: what it holds, the further arguments; what comes, and what it holds then -/
def spT (G : Glue) (n : Nat) (f : List D → List D → Re (D × List D)) : Sp := fun vs H Q E => ∃ (N : Addr → Prop) (a : Addr) (bv : List V) (bs ds : List D) (rest : List V), vs = .ref a :: rest ∧ N a ∧ (∀ p, N p → ∃ o, H p = some o) ∧ H a = some (.lst bv) ∧ Rvs G N H bs bv ∧
  Rvs G N H ds rest ∧ ds.length + 1 = n ∧
  match f bs ds with
  | .ok (d, bs') => ∀ v H' bv', (∀ b o, b ≠ a → H b = some o → H' b = some o) → H' a = some (.lst bv') → Rvs G N H' bs' bv' → Rv G N H' d v → Q v H'
  | _ => False
theorem spP.len {G : Glue} {n : Nat} {f : List D → Re D} {vs : List V} {H : Hp} {Q : VK} {E : XK} (h : spP G n f vs H Q E) : vs.length = n := by
  obtain ⟨N, ds, _, r, e, _⟩ := h
  rw [← r.length]; exact e
theorem spT.len {G : Glue} {n : Nat} {f : List D → List D → Re (D × List D)} {vs : List V} {H : Hp} {Q : VK} {E : XK} (h : spT G n f vs H Q E) : vs.length = n := by
  obtain ⟨N, a, bv, bs, ds, rest, rfl, _, _, _, _, r, e, _⟩ := h
  rw [List.length_cons, ← r.length]; exact e

/-- that many arguments -/
def ari (n : Nat) (f : List D → Re D) (ds : List D) : Re D := if ds.length = n then f ds else .bad
def dCall (n : Nat) (f : List D → Re D) (r : Evs) : Ev := fun sl => (r sl).bind fun xs sl1 => match asVs xs with
  | some ds => match ari n f ds with
    | .ok z => .ok (.v z) sl1
    | .ex e => .ex e sl1
    | .bad => .bad
  | none => .bad
/-- the first argument is the list of a name, and is written -/
def dCallT (n : Nat) (f : List D → List D → Re (D × List D)) (r : Evs) : Ev := fun sl => (r sl).bind fun xs sl1 => match xs with
  | .r i :: ss => match sl1[i]?, asVs ss with
    | some (some (.m bs)), some ds => if ds.length + 1 = n then match f bs ds with
      | .ok (z, bs') => .ok (.v z) (sl1.set i (some (.m bs')))
      | _ => .bad
      else .bad
    | _, _ => .bad
  | _ => .bad
/-- no list lies within -/
def noLst : D → Bool
  | .tup xs => go xs
  | .scr xs => go xs
  | .lst _ => false
  | _ => true
where go : List D → Bool
  | [] => true
  | x :: xs => noLst x && go xs
/-- lists of names are lent -/
def dCallB (n : Nat) (f : List D → Re D) (r : Evs) : Ev := fun sl => (r sl).bind fun xs sl1 => match getAll sl1 xs with
  | some ds => match ari n f ds with
    | .ok z => if noLst z then .ok (.v z) sl1 else .bad
    | _ => .bad
  | none => .bad
/-- a def of the module, with its promise -/
structure Cal (P : Program) (w : World) (K : PySem.W.Frag) (mg : Str → Option Value) (base : Heap) (k : Nat) (x : Str) (ps : List Str) (sp : Sp) : Prop where
  ex : ∃ (f : Addr) (fd : FuncData), mg x = some (.ref f) ∧ PySem.W.keepIn K (.ref f) = true ∧ Binds K fd ps [] ∧ FnOk P w K mg base (L2.CX P w) k f fd ps sp
theorem Cal.mono {P : Program} {w : World} {K : PySem.W.Frag} {mg : Str → Option Value} {base : Heap} {j k : Nat} {x : Str} {ps : List Str} {sp : Sp} (c : Cal P w K mg base j x ps sp) (h : j ≤ k) : Cal P w K mg base k x ps sp := by
  obtain ⟨f, fd, h1, h2, h3, h4⟩ := c.ex
  exact ⟨f, fd, h1, h2, h3, h4.mono h⟩
theorem Cal.imp {P : Program} {w : World} {K : PySem.W.Frag} {mg : Str → Option Value} {base : Heap} {k : Nat} {x : Str} {ps : List Str} {sp sp' : Sp} (c : Cal P w K mg base k x ps sp) (h : ∀ vs H Q E, sp' vs H Q E → sp vs H Q E) : Cal P w K mg base k x ps sp' := by
  obtain ⟨f, fd, h1, h2, h3, h4⟩ := c.ex
  exact ⟨f, fd, h1, h2, h3, h4.imp h⟩
mutual
theorem Rv.noLst {G : Glue} {N N' : Addr → Prop} {H : Hp} : ∀ {d : D} {v : V}, noLst d = true → Rv G N H d v → Rv G N' H d v
  | .non, _, _, h => by cases h; exact .non
  | .bl b, _, _, h => by cases h; exact .bl b
  | .int i, _, _, h => by cases h; exact .int i
  | .str x, _, _, h => by cases h; exact .str x
  | .tup ds, _, e, h => by
    cases h with
    | tup hs ha => exact .tup hs (Rvs.noLst (by simpa [F.noLst] using e) ha)
  | .lst ds, _, e, h => by simp [F.noLst] at e
  | .scr ds, _, e, h => by
    cases h with
    | scr hs ha => exact .scr hs (Rvs.noLst (by simpa [F.noLst] using e) ha)
theorem Rvs.noLst {G : Glue} {N N' : Addr → Prop} {H : Hp} : ∀ {ds : List D} {vs : List V}, noLst.go ds = true → Rvs G N H ds vs → Rvs G N' H ds vs
  | [], _, _, h => by cases h; exact .nil
  | d :: ds, _, e, h => by
    simp only [F.noLst.go, Bool.and_eq_true] at e
    cases h with
    | cons h1 h2 => exact .cons (Rv.noLst e.1 h1) (Rvs.noLst e.2 h2)
end

theorem RlL.rv {G : Glue} {N : Addr → Prop} {H : Hp} : ∀ {ds : List D} {vs : List V}, RlL G N H ds vs → Rvs G (fun _ => False) H ds vs
  | [], _, h => by cases h; exact .nil
  | d :: ds, _, h => by
    cases h with
    | cons h1 h2 =>
      refine .cons ?_ (RlL.rv h2)
      rcases h1 with h1 | ⟨xs, a, vs, rfl, rfl, e, h1⟩
      · exact h1.anti fun _ z => z.elim
      · exact .lst e id (h1.anti fun _ z => z.elim)
section
variable {G : Glue} {W : WX} {X : Cx} {e : Expr} {es : List Expr} {ds : Evs} {pos p : Pos} {T : Act} {A : Nat → Option Addr} {sl : Sl} {σ : St} {H : Hp}
theorem Sr.tracked (s : Sr G T A sl σ H) : ∀ p, T.N A p → ∃ o, H p = some o := fun p z => by
  rcases z with z | ⟨i, z⟩
  · exact s.trk p z
  · obtain ⟨xs, q⟩ := s.alive i p z; exact ⟨_, q⟩
theorem ExR.anti {N N' : Addr → Prop} {x : Ex} {c : Value} {od : Option Addr} (hn : ∀ a, N' a → N a) (h : ExR G N H x c od) : ExR G N' H x c od := by
  cases x with
  | plain n => exact h
  | field n d =>
    obtain ⟨h1, p, v, h2, h3, h4⟩ := h
    exact ⟨h1, p, v, h2, h3, h4.anti hn⟩
variable {P : Program} {w : World} {k : Nat} {x : Str} {ps : List Str} {n : Nat}
theorem HSz.down {H H' : Hp} (sm : Same H H') (h : HSz H') : HSz H := fun a xs e => h a xs (by
  rcases e with (e | ⟨o, e⟩) | (e | ⟨o, e⟩)
  · exact .inl (.inl (sm _ _ e))
  · exact .inl (.inr ⟨o, sm _ _ e⟩)
  · exact .inr (.inl (sm _ _ e))
  · exact .inr (.inr ⟨o, sm _ _ e⟩))
theorem ari_ok {f : List D → Re D} {ds : List D} {r : Re D} (h : ari n f ds = r) (hb : r ≠ .bad) : ds.length = n ∧ f ds = r := by
  unfold ari at h
  split at h
  · exact ⟨by assumption, h⟩
  · exact absurd h.symm hb
theorem fe_call {f : List D → Re D} (c : Cal X.prog X.w X.K X.mg X.base k x ps (spP G n f)) (tk : Takes X W) (hr : Room k X.A) (ha : FA G W X (e :: es) ds) (hg : Gl X x := by rfl) (hdb : (x == ("__debug__" : Str)) = false := by decide)
    (he : starEach (e :: es) X.env = (false, eval e X.env) :: starEach es X.env := by rfl) (hpl : (backTo pos (starEach es X.env)).any (·.1) = false := by rfl) : FE G W X (.Call (.Name x p) (e :: es) [] pos) (dCall n f ds) := fun T => by
  obtain ⟨fa, fd, h1, h2, h3, h4⟩ := c.ex
  refine PE.plus (pe_callS h4 hr hg h1 h2 h3 (fun σ => passAt tk σ) (ha T) hdb he hpl) fun σ H Q z h hz => ?_
  obtain ⟨A, sl, s, p⟩ := h hz
  refine ⟨A, sl, s, PostG.bind p fun xs sl1 vs H1 _ s1 k1 r1 p1 => ?_⟩
  split at p1
  · rename_i ds' e'
    have rv := asVs_rv r1 e'
    cases hf : ari n f ds' with
    | ok d =>
      rw [hf] at p1
      obtain ⟨hn, hf⟩ := ari_ok hf (by simp)
      exact ⟨T.N A, ds', s1.tracked, rv, hn, by rw [hf]; exact fun v H' sm rv' hz' => p1 v H' (s1.grown sm hz') (.same sm) rv'⟩
    | ex e =>
      rw [hf] at p1
      obtain ⟨hn, hf⟩ := ari_ok hf (by simp)
      exact ⟨T.N A, ds', s1.tracked, rv, hn, by rw [hf]; exact fun c od H' sm hz' x => p1 c od H' (x.anti fun a h => .inl h) (s1.grown sm hz')⟩
    | bad => rw [hf] at p1; exact p1.elim
  · exact p1.elim
theorem fe_callLend {f : List D → Re D} (c : Cal X.prog X.w X.K X.mg X.base k x ps (spP G n f)) (tk : Takes X W) (hr : Room k X.A) (ha : FA G W X (e :: es) ds) (hg : Gl X x := by rfl) (hdb : (x == ("__debug__" : Str)) = false := by decide)
    (he : starEach (e :: es) X.env = (false, eval e X.env) :: starEach es X.env := by rfl) (hpl : (backTo pos (starEach es X.env)).any (·.1) = false := by rfl) : FE G W X (.Call (.Name x p) (e :: es) [] pos) (dCallB n f ds) := fun T => by
  obtain ⟨fa, fd, h1, h2, h3, h4⟩ := c.ex
  refine PE.plus (pe_callS h4 hr hg h1 h2 h3 (fun σ => passAt tk σ) (ha T) hdb he hpl) fun σ H Q z h hz => ?_
  obtain ⟨A, sl, s, p⟩ := h hz
  refine ⟨A, sl, s, PostG.bind p fun xs sl1 vs H1 _ s1 k1 r1 p1 => ?_⟩
  split at p1
  · rename_i ds' e'
    have rv := (RlL.of s1 r1 e').rv
    cases hf : ari n f ds' with
    | ok d =>
      rw [hf] at p1
      obtain ⟨hn, hf⟩ := ari_ok hf (by simp)
      refine ⟨fun _ => False, ds', fun _ z => z.elim, rv, hn, ?_⟩
      rw [hf]
      dsimp only at p1
      split at p1
      · rename_i hl
        exact fun v H' sm rv' hz' => p1 v H' (s1.grown sm hz') (.same sm) (Rv.noLst hl rv')
      · exact p1.elim
    | ex e => rw [hf] at p1; exact p1.elim
    | bad => rw [hf] at p1; exact p1.elim
  · exact p1.elim
theorem fe_callT {f : List D → List D → Re (D × List D)} (c : Cal X.prog X.w X.K X.mg X.base k x ps (spT G n f)) (tk : Takes X W) (hr : Room k X.A) (ha : FA G W X (e :: es) ds) (hg : Gl X x := by rfl) (hdb : (x == ("__debug__" : Str)) = false := by decide)
    (he : starEach (e :: es) X.env = (false, eval e X.env) :: starEach es X.env := by rfl) (hpl : (backTo pos (starEach es X.env)).any (·.1) = false := by rfl) : FE G W X (.Call (.Name x p) (e :: es) [] pos) (dCallT n f ds) := fun T => by
  obtain ⟨fa, fd, h1, h2, h3, h4⟩ := c.ex
  refine PE.plus (pe_callS h4 hr hg h1 h2 h3 (fun σ => passAt tk σ) (ha T) hdb he hpl) fun σ H Q z h hz => ?_
  obtain ⟨A, sl, s, p⟩ := h hz
  refine ⟨A, sl, s, PostG.bind p fun xs sl1 vs H1 _ s1 k1 r1 p1 => ?_⟩
  match xs, r1, p1 with
  | .r i :: ss, r1, p1 =>
    dsimp only at p1
    split at p1
    · rename_i bs ds' e1 e2
      split at p1
      · rename_i hn
        cases r1 with
        | cons q1 q2 =>
          obtain ⟨a, hai, rfl⟩ := q1
          obtain ⟨a', bv, ha', _, hb, rb⟩ := s1.mu i bs e1
          rw [hai] at ha'; cases ha'
          refine ⟨T.N A, a, bv, bs, ds', _, rfl, .inr ⟨i, hai⟩, s1.tracked, hb, rb, asVs_rv q2 e2, hn, ?_⟩
          cases hf : f bs ds' with
          | ok q =>
            obtain ⟨d, bs'⟩ := q
            rw [hf] at p1
            intro v H' bv' kb hb' rb' rv hz'
            obtain ⟨s2, k2⟩ := s1.turn ⟨bs, e1⟩ hai kb hb' rb' hz'
            exact p1 v H' s2 k2 rv
          | ex e => rw [hf] at p1; exact p1.elim
          | bad => rw [hf] at p1; exact p1.elim
      · exact p1.elim
    · exact p1.elim
  | .v _ :: _, r1, p1 => exact p1.elim
  | [], r1, p1 => exact p1.elim
end

/-! ### a def, by its body -/
def initS (n : Nat) (ds : List D) : Sl := ds.map (fun d => some (Sv.v d)) ++ List.replicate (n - ds.length) none
/-- what a def hands back: data, or a list of its own -/
def retV (sl : Sl) : S → Option D
  | .v d => some d
  | .r i => match sl[i]? with
    | some (some (.m xs)) => some (.lst xs)
    | _ => none
def runP (n : Nat) (m : Sm) (ds : List D) : Re D := match m (initS n ds) with
  | .nx _ => .ok .non
  | .rt s sl => match retV sl s with
    | some d => .ok d
    | none => .bad
  | .ex e _ => .ex e
  | _ => .bad
def initT (n : Nat) (bs ds : List D) : Sl := some (.m bs) :: (ds.map (fun d => some (Sv.v d)) ++ List.replicate (n - (ds.length + 1)) none)
def retT (sl : Sl) : S → Option D
  | .v d => some d
  | .r 0 => none
  | .r (i + 1) => match sl[i + 1]? with
    | some (some (.m xs)) => some (.lst xs)
    | _ => none
def runT (n : Nat) (m : Sm) (bs ds : List D) : Re (D × List D) := match m (initT n bs ds) with
  | .nx sl => match sl[0]? with
    | some (some (Sv.m bs')) => .ok (.non, bs')
    | _ => .bad
  | .rt s sl => match sl[0]?, retT sl s with
    | some (some (Sv.m bs')), some d => .ok (d, bs')
    | _, _ => .bad
  | _ => .bad
section
variable {G : Glue} {P : Program} {w : World} {mg : Str → Option Value} {base : Heap} {m : Sm}
abbrev wOf (E : XK) : WX := fun c d _ H => E c d H
theorem init_get {n : Nat} {ds : List D} {i : Nat} {s : Option Sv} (h : (initS n ds)[i]? = some s) : (∃ d, ds[i]? = some d ∧ s = some (.v d)) ∨ s = none := by
  unfold initS at h
  rw [List.getElem?_append] at h
  split at h
  · rw [List.getElem?_map] at h
    cases e : ds[i]? with
    | none => rw [e] at h; cases h
    | some d => rw [e] at h; cases h; exact .inl ⟨d, rfl, rfl⟩
  · rw [List.getElem?_replicate] at h
    split at h <;> cases h
    exact .inr rfl
theorem start_get {N : List Str} {vs : List V} {i : Nat} {v : V} (h : vs[i]? = some v) : (start N vs)[i]? = some (some v) := by
  unfold L2.start
  obtain ⟨hl, _⟩ := List.getElem?_eq_some_iff.mp h
  rw [List.getElem?_append_left (by simpa using hl), List.getElem?_map, h]; rfl
theorem sr_start {N : List Str} {N0 : Addr → Prop} {ds : List D} {vs : List V} {H : Hp} (tr : ∀ p, N0 p → ∃ o, H p = some o) (r : Rvs G N0 H ds vs) (z : HSz H) : Sr G ⟨N0, H, none, []⟩ (fun _ => none) (initS N.length ds) (start N vs) H := by
  have hN : ∀ b, Act.N ⟨N0, H, none, []⟩ (fun _ => none) b → N0 b := fun b h => by
    rcases h with h | ⟨i, h⟩
    · exact h
    · cases h
  refine ⟨fun i d e => ?_, fun i xs e => ?_, ?_, (fun _ _ _ e => by cases e), (fun _ _ e => by cases e), (fun _ _ e => by cases e), fun _ _ e _ => e, tr, (fun _ e => by cases e), (fun _ h => by cases h), z⟩
  · rcases init_get e with ⟨d', e1, e2⟩ | e1
    · cases e2
      obtain ⟨v, e3, e4⟩ := r.getD e1
      exact ⟨v, start_get e3, e4.anti hN⟩
    · cases e1
  · rcases init_get e with ⟨d', e1, e2⟩ | e1
    · cases e2
    · cases e1
  · unfold initS L2.start
    simp [r.length]
theorem ret_rv {T : Act} {A : Nat → Option Addr} {sl : Sl} {σ : St} {H : Hp} {s : S} {v : V} {d : D} (hio : T.io = none) (r : Sr G T A sl σ H) (rs : Rs G T A H s v) (e : retV sl s = some d) : Rv G T.N0 H d v := by
  have hN : ∀ b, T.N0 b → T.N A b := fun b h => .inl h
  match s, rs, e with
  | .v d', rs, e => cases e; exact rs.anti hN
  | .r i, rs, e =>
    simp only [retV] at e
    split at e
    · rename_i xs he
      cases e
      obtain ⟨a, ha, rfl⟩ := rs
      obtain ⟨b, vs, e1, e2, e3, e4⟩ := r.mu i xs he
      rw [ha] at e1; cases e1
      refine .lst e3 (fun q => ?_) (e4.anti hN)
      rcases r.own i a ha with ⟨_, h, _⟩ | ⟨h, _⟩
      · exact h q
      · rw [hio] at h; cases h
    · cases e
theorem fn_pure {x qual : Str} {st : Stmt} {f : Addr} {fd : FuncData} {N ps : List Str} {k n : Nat} (F : Fun G.K x qual st f fd) (S : FnScope N ps (defScope st)) (hn : ps.length = n)
    (hbody : ∀ (cdv : Value) (A : Around) (outer : List Env) (s : Shared) (H : Hp) (E : XK), Room k (A.deeper (envOfC qual (defScope st) s.heap.objs.size f cdv)) →
      Takes (cxOf (L2.CX P w) P w G.K mg base N qual (defScope st) f cdv A outer s H E) (wOf E) →
      FSs G (wOf E) (cxOf (L2.CX P w) P w G.K mg base N qual (defScope st) f cdv A outer s H E) (defBody st) m) : FnOk P w G.K mg base (L2.CX P w) (k + 1) f fd ps (spP G n (runP N.length m)) := by
  refine F.okX S (fun vs H Q E h => by rw [h.len, hn]) fun cdv A outer s H vs Q E hr h => ?_
  obtain ⟨N0, ds, tr, r, hl, h⟩ := h
  refine ⟨_, hbody cdv A outer s H E hr (takes_of rfl rfl rfl rfl) ⟨N0, H, none, []⟩, fun hz => ⟨_, _, sr_start tr r hz, ?_⟩⟩
  unfold runP at h
  cases hm : m (initS N.length ds) with
  | nx sl =>
    rw [hm] at h
    exact fun A' σ' H' s' => h _ H' (fun b o e => s'.kept b o e (by simp)) .non
  | rt x sl =>
    rw [hm] at h
    intro A' σ' H' v s' rs
    dsimp only at h
    split at h
    · rename_i d hd
      split at hd
      · rename_i d' hd'
        cases hd
        exact h v H' (fun b o e => s'.kept b o e (by simp)) (ret_rv rfl s' rs hd')
      · cases hd
    · rename_i hd; split at hd <;> cases hd
    · exact h.elim
  | ex e sl =>
    rw [hm] at h
    exact fun A' σ' H' c od x s' => h c od H' (fun b o e => s'.kept b o e (by simp)) s'.sz x
  | bk sl => rw [hm] at h; exact h.elim
  | ct sl => rw [hm] at h; exact h.elim
  | bad => rw [hm] at h; exact h.elim
end
end F

set_option Elab.async false
set_option linter.all false
set_option maxRecDepth 100000
set_option maxHeartbeats 4000000
namespace F
open PySem PySem.Spec PyProof.Rows L2

/-! ### a def whose first argument is written -/
section
variable {G : Glue} {P : Program} {w : World} {mg : Str → Option Value} {base : Heap} {m : Sm}
theorem initT_get {n : Nat} {bs ds : List D} {i : Nat} {s : Option Sv} (h : (initT n bs ds)[i]? = some s) : (i = 0 ∧ s = some (.m bs)) ∨ (∃ j d, i = j + 1 ∧ ds[j]? = some d ∧ s = some (.v d)) ∨ s = none := by
  unfold initT at h
  cases i with
  | zero => simp at h; exact .inl ⟨rfl, h.symm⟩
  | succ j =>
    rw [List.getElem?_cons_succ, List.getElem?_append] at h
    split at h
    · rw [List.getElem?_map] at h
      cases e : ds[j]? with
      | none => rw [e] at h; cases h
      | some d => rw [e] at h; cases h; exact .inr (.inl ⟨j, d, rfl, e, rfl⟩)
    · rw [List.getElem?_replicate] at h
      split at h <;> cases h
      exact .inr (.inr rfl)
theorem sr_startT {N : List Str} {N0 : Addr → Prop} {a : Addr} {bs ds : List D} {bv rest : List V} {H : Hp} (na : N0 a) (tr : ∀ p, N0 p → ∃ o, H p = some o) (hb : H a = some (.lst bv)) (rb : Rvs G N0 H bs bv) (r : Rvs G N0 H ds rest) (z : HSz H) :
    Sr G ⟨N0, H, some a, []⟩ (fun j => if j = 0 then some a else none) (initT N.length bs ds) (L2.start N (.ref a :: rest)) H := by
  have hN : ∀ b, Act.N ⟨N0, H, some a, []⟩ (fun j => if j = 0 then some a else none) b → N0 b := fun b h => by
    rcases h with h | ⟨i, h⟩
    · exact h
    · dsimp only at h
      split at h <;> cases h
      exact na
  have hA : ∀ {i : Nat} {b : Addr}, (if i = 0 then some a else none) = some b → i = 0 ∧ b = a := fun {i b} h => by
    split at h <;> cases h
    exact ⟨by assumption, rfl⟩
  refine ⟨fun i d e => ?_, fun i xs e => ?_, ?_, (fun i j b e1 e2 => by rw [(hA e1).1, (hA e2).1]), (fun i b e => ?_), (fun i b e => ?_), fun _ _ e _ => e, tr, (fun b e => ?_), (fun _ h => by cases h), z⟩
  · rcases initT_get e with ⟨_, e1⟩ | ⟨j, d', rfl, e1, e2⟩ | e1
    · cases e1
    · cases e2
      obtain ⟨v, e3, e4⟩ := r.getD e1
      exact ⟨v, start_get (by simpa using e3), e4.anti hN⟩
    · cases e1
  · rcases initT_get e with ⟨rfl, e1⟩ | ⟨j, d', rfl, e1, e2⟩ | e1
    · cases e1
      exact ⟨a, bv, if_pos rfl, start_get (by simp), hb, rb.anti hN⟩
    · cases e2
    · cases e1
  · unfold initT L2.start
    simp [r.length]
  · obtain ⟨rfl, rfl⟩ := hA e
    exact .inr ⟨rfl, rfl, na⟩
  · obtain ⟨rfl, rfl⟩ := hA e
    exact ⟨bv, hb⟩
  · cases e; exact if_pos rfl
theorem ret_rvT {T : Act} {A : Nat → Option Addr} {sl : Sl} {σ : St} {H : Hp} {s : S} {v : V} {d : D} (r : Sr G T A sl σ H) (rs : Rs G T A H s v) (e : retT sl s = some d) : Rv G T.N0 H d v := by
  have hN : ∀ b, T.N0 b → T.N A b := fun b h => .inl h
  match s, rs, e with
  | .v d', rs, e => cases e; exact rs.anti hN
  | .r 0, rs, e => cases e
  | .r (i + 1), rs, e =>
    simp only [retT] at e
    split at e
    · rename_i xs he
      cases e
      obtain ⟨a, ha, rfl⟩ := rs
      obtain ⟨b, vs, e1, e2, e3, e4⟩ := r.mu _ xs he
      rw [ha] at e1; cases e1
      refine .lst e3 (fun q => ?_) (e4.anti hN)
      rcases r.own _ a ha with ⟨_, h, _⟩ | ⟨_, h, _⟩
      · exact h q
      · cases h
    · cases e
theorem fn_T {x qual : Str} {st : Stmt} {f : Addr} {fd : FuncData} {N ps : List Str} {k n : Nat} (F : Fun G.K x qual st f fd) (S : FnScope N ps (defScope st)) (hn : ps.length = n)
    (hbody : ∀ (cdv : Value) (A : Around) (outer : List Env) (s : Shared) (H : Hp) (E : XK), Room k (A.deeper (envOfC qual (defScope st) s.heap.objs.size f cdv)) →
      Takes (cxOf (L2.CX P w) P w G.K mg base N qual (defScope st) f cdv A outer s H E) (wOf E) →
      FSs G (wOf E) (cxOf (L2.CX P w) P w G.K mg base N qual (defScope st) f cdv A outer s H E) (defBody st) m) : FnOk P w G.K mg base (L2.CX P w) (k + 1) f fd ps (spT G n (runT N.length m)) := by
  refine F.okX S (fun vs H Q E h => by rw [h.len, hn]) fun cdv A outer s H vs Q E hr h => ?_
  obtain ⟨N0, a, bv, bs, ds, rest, rfl, na, tr, hb, rb, r, hl, h⟩ := h
  refine ⟨_, hbody cdv A outer s H E hr (takes_of rfl rfl rfl rfl) ⟨N0, H, some a, []⟩, fun hz => ⟨_, _, sr_startT na tr hb rb r hz, ?_⟩⟩
  have fin : ∀ {A' : Nat → Option Addr} {sl : Sl} {σ' : St} {H' : Hp} {bs' : List D}, Sr G ⟨N0, H, some a, []⟩ A' sl σ' H' → sl[0]? = some (some (Sv.m bs')) → (∀ b o, b ≠ a → H b = some o → H' b = some o) ∧ ∃ bv', H' a = some (.lst bv') ∧ Rvs G N0 H' bs' bv' := fun {A' sl σ' H' bs'} s' e => by
    refine ⟨fun b o ne e => s'.kept b o e fun q => ne (by cases q; rfl), ?_⟩
    obtain ⟨c, vs, e1, e2, e3, e4⟩ := s'.mu 0 bs' e
    have e5 := s'.iot a rfl
    rw [e1] at e5; cases e5
    exact ⟨vs, e3, e4.anti fun _ z => .inl z⟩
  unfold runT at h
  cases hm : m (initT N.length bs ds) with
  | nx sl =>
    rw [hm] at h
    dsimp only at h
    intro A' σ' H' s'
    split at h
    · rename_i d bs' hd
      split at hd
      · rename_i bs'' he
        cases hd
        obtain ⟨kb, bv', hb', rb'⟩ := fin s' he
        exact h _ H' bv' kb hb' rb' .non
      · cases hd
    · exact h.elim
  | rt x sl =>
    rw [hm] at h
    dsimp only at h
    intro A' σ' H' v s' rs
    split at h
    · rename_i d bs' hd
      split at hd
      · rename_i bs'' d' he he2
        cases hd
        obtain ⟨kb, bv', hb', rb'⟩ := fin s' he
        exact h _ H' bv' kb hb' rb' (ret_rvT s' rs he2)
      · cases hd
    · exact h.elim
  | ex e sl => rw [hm] at h; exact h.elim
  | bk sl => rw [hm] at h; exact h.elim
  | ct sl => rw [hm] at h; exact h.elim
  | bad => rw [hm] at h; exact h.elim
end

/-! ### lists that are written -/
def isM (sl : Sl) (i : Nat) : Bool := match sl[i]? with
  | some (some (Sv.m _)) => true
  | _ => false
def mutEnd (i : Nat) (f : List D → List D → Re (D × List D)) (o : Option (List D)) (sl1 : Sl) : R S := match sl1[i]?, o with
  | some (some (.m ys)), some ds => match f ys ds with
    | .ok (z, ys') => .ok (.v z) (sl1.set i (some (.m ys')))
    | _ => .bad
  | _, _ => .bad
/-- the list of a name is asked and written: what comes, what it is then -/
def dMut (i : Nat) (f : List D → List D → Re (D × List D)) (r : Evs) : Ev := fun sl => if isM sl i then (r sl).bind fun xs sl1 => mutEnd i f (asVs xs) sl1 else .bad
/-- .. where the argument may be a list of a name too -/
def dMutL (i : Nat) (f : List D → List D → Re (D × List D)) (r : Evs) : Ev := fun sl => if isM sl i then (r sl).bind fun xs sl1 => mutEnd i f (getAll sl1 xs) sl1 else .bad
def mAppend : List D → List D → Re (D × List D)
  | ys, [d] => if ys.length < sizeLine then .ok (.non, ys ++ [d]) else .bad
  | _, _ => .bad
def mExtend : List D → List D → Re (D × List D)
  | ys, [.lst zs] => if fits (ys.length + zs.length) then .ok (.non, ys ++ zs) else .bad
  | _, _ => .bad
def mPop : List D → List D → Re (D × List D)
  | ys, [] => match ys[ys.length - 1]? with
    | some d => .ok (d, ys.dropLast)
    | none => .bad
  | _, _ => .bad
def mPopAt : List D → List D → Re (D × List D)
  | ys, [.int i] => match seqIndex? i ys.length with
    | some k => if decide (-(2 ^ 63) ≤ i) && decide (i < 2 ^ 63) then match ys[k]? with
      | some d => .ok (d, ys.eraseIdx k)
      | none => .bad
      else .bad
    | none => .bad
  | _, _ => .bad
section
variable {G : Glue} {W : WX} {X : Cx} {a b c e : Expr} {es : List Expr} {da db : Ev} {ds : Evs} {pos p : Pos} {T : Act} {A : Nat → Option Addr} {sl : Sl} {σ : St} {H : Hp}
theorem Rvs.dropLast {N : Addr → Prop} : ∀ {ds : List D} {vs : List V}, Rvs G N H ds vs → Rvs G N H ds.dropLast vs.dropLast := fun {ds vs} h => by
  rw [List.dropLast_eq_take, List.dropLast_eq_take, ← h.length]; exact h.take _
theorem isM_get {i : Nat} (h : isM sl i = true) : ∃ ys, sl[i]? = some (some (Sv.m ys)) := by
  unfold isM at h
  split at h
  · exact ⟨_, by assumption⟩
  · cases h
/-- the method of a list, by its values; rel: what the arguments are -/
def MutR (rel : Glue → (Addr → Prop) → Hp → List D → List V → Prop) (G : Glue) (X : Cx) (id : String) (f : List D → List D → Re (D × List D)) : Prop := ∃ r, MtR X id r ∧
  ∀ (N : Addr → Prop) (H : Hp) (a : Addr) (ys : List D) (vs : List V) (xs : List V) (ds : List D) (z : D) (ys' : List D) (Q : VK), HSz H → H a = some (.lst vs) → Rvs G N H ys vs → rel G N H ds xs → f ys ds = .ok (z, ys') →
    (∀ v vs', Rv G N H z v → Rvs G N H ys' vs' → Q v (upd H a (.lst vs'))) → r (.ref a) xs H Q
theorem mut_append : MutR Rvs G X "list.append" mAppend := ⟨_, mt_append, fun N H a ys vs xs ds z ys' Q hz hl rv r h k => by
  unfold mAppend at h
  split at h
  · rename_i d
    split at h
    · rename_i hf
      cases h
      cases r with
      | cons r1 r2 =>
        cases r2
        exact ⟨a, vs, _, rfl, rfl, hl, by rw [← rv.length]; exact hf, k _ _ .non (rv.append (.cons r1 .nil))⟩
    · cases h
  · cases h⟩
theorem mut_extend : MutR RlL G X "list.extend" mExtend := ⟨_, mt_extend, fun N H a ys vs xs ds z ys' Q hz hl rv r h k => by
  unfold mExtend at h
  split at h
  · rename_i zs
    split at h
    · rename_i hf
      cases h
      obtain ⟨v, rfl, q⟩ := r.one
      obtain ⟨b, ws, rfl, sq, rw'⟩ := q.lst
      exact ⟨a, b, vs, ws, rfl, rfl, hl, sq, by rw [← rv.length, ← rw'.length]; exact fits_le hf, k _ _ .non (rv.append rw')⟩
    · cases h
  · cases h⟩
theorem mut_pop : MutR Rvs G X "list.pop" mPop := ⟨_, mt_pop, fun N H a ys vs xs ds z ys' Q hz hl rv r h k => by
  unfold mPop at h
  split at h
  · split at h
    · rename_i d hd
      cases h
      cases r
      obtain ⟨v, e1, e2⟩ := rv.getD hd
      exact ⟨a, vs, v, rfl, rfl, hl, by rw [← rv.length]; exact e1, k _ _ e2 rv.dropLast⟩
    · cases h
  · cases h⟩
theorem mut_popAt : MutR Rvs G X "list.pop" mPopAt := ⟨_, mt_popAt, fun N H a ys vs xs ds z ys' Q hz hl rv r h k => by
  unfold mPopAt at h
  split at h
  · rename_i i
    split at h
    · rename_i j hj
      split at h
      · rename_i hf
        simp only [Bool.and_eq_true, decide_eq_true_eq] at hf
        split at h
        · rename_i d hd
          cases h
          cases r with
          | cons r1 r2 =>
            cases r1; cases r2
            obtain ⟨v, e1, e2⟩ := rv.getD hd
            exact ⟨a, vs, i, j, v, rfl, rfl, hl, hf.1, hf.2, by rw [← rv.length]; exact hj, e1, k _ _ e2 (rv.eraseIdx j)⟩
        · cases h
      · cases h
    · cases h
  · cases h⟩
theorem mutEnd_ok {rel : Glue → (Addr → Prop) → Hp → List D → List V → Prop} {id : String} {f : List D → List D → Re (D × List D)} {r : V → List V → Hp → VK → Prop} {i : Nat} {o : Option (List D)} {av : Addr} {xs : List V} {Q : VK}
    (q : ∀ (N : Addr → Prop) (H : Hp) (a : Addr) (ys : List D) (vs : List V) (xs : List V) (ds : List D) (z : D) (ys' : List D) (Q : VK), HSz H → H a = some (.lst vs) → Rvs G N H ys vs → rel G N H ds xs → f ys ds = .ok (z, ys') →
      (∀ v vs', Rv G N H z v → Rvs G N H ys' vs' → Q v (upd H a (.lst vs'))) → r (.ref a) xs H Q)
    (s : Sr G T A sl σ H) (ha : A i = some av) (hr : ∀ ds, o = some ds → rel G (T.N A) H ds xs) (p : Post G W T A σ H (mutEnd i f o sl) Q) : r (.ref av) xs H (wE Q) := by
  unfold mutEnd at p
  split at p
  · rename_i ys ds e1 
    split at p
    · rename_i z ys' hf
      obtain ⟨b, vs, h1, h2, h3, h4⟩ := s.mu i ys e1
      rw [ha] at h1; cases h1
      refine q _ H av ys vs xs ds z ys' _ s.sz h3 h4 (hr ds rfl) hf fun v vs' rv rvs hz => ?_
      obtain ⟨s2, k2⟩ := s.write ⟨ys, e1⟩ ha rvs hz
      exact p v _ s2 k2 (Rv.keep k2 (fun _ z => .inr z) rv)
    · exact p.elim
  · exact p.elim
variable {x name : Str} {i : Nat} {apos p2 : Pos} {id : String} {f : List D → List D → Re (D × List D)}
/-- x.m(e, ..), x a name's own list -/
theorem fe_mutV (hm : MutR Rvs G X id f) (slot : Slot "list" name id) (hty : typeOf (.builtin id) = pure (.type "method_descriptor")) (ha : FA G W X (e :: es) ds) (hN : X.N[i]? = some x := by rfl)
    (hv : Vis X.env.scope x := by first | exact Or.inl rfl | exact Or.inr (Or.inl rfl) | exact Or.inr (Or.inr rfl)) (hd : (x == ("__debug__" : Str)) = false := by decide) (hcd : (x == ("__classdict__" : Str)) = false := by decide)
    (hbase : attributeBase (.Name x p2) name X.env (eval (.Name x p2) X.env) = eval (.Name x p2) X.env := by rfl)
    (hfew : ((backTo pos (starEach (e :: es) X.env)).all (fun x => !x.1) && (backToKw pos (keywordEach [] X.env)).all (fun x => x.1.isSome)
      && decide ((e :: es).length + ([] : List Keyword).length + (if ([] : List Keyword).isEmpty then 0 else 1) < 30)) = true := by rfl)
    (hline : (apos.endLine == pos.line) = true := by rfl) (hs : starEach (e :: es) X.env = (false, eval e X.env) :: starEach es X.env := by rfl) (hplain : (backTo pos (starEach es X.env)).any (·.1) = false := by rfl) :
    FE G W X (.Call (.Attribute (.Name x p2) name apos) (e :: es) [] pos) (dMut i f ds) := fun T => by
  obtain ⟨r, hr, q⟩ := hm
  refine PE.plus (pe_bm PySem.F.plainAttrs_list slot hty hr (pe_var hN hv hd hcd) (ha T) hbase hfew hline hs hplain) fun σ H Q z h => ?_
  obtain ⟨A, sl, s, p⟩ := h z
  unfold dMut at p
  split at p
  · rename_i hi
    obtain ⟨ys, hy⟩ := isM_get hi
    obtain ⟨a, vs, h1, h2, h3, h4⟩ := s.mu i ys hy
    refine ⟨_, h2, .inl ⟨rfl, vs, SqL.of h3⟩, fun hz => ⟨A, sl, s, PostG.bind p fun xs sl1 ws H1 _ s1 k1 r1 p1 => ?_⟩⟩
    exact mutEnd_ok (id := id) q s1 h1 (fun ds e => asVs_rv r1 e) p1
  · exact p.elim
theorem fe_mutL (hm : MutR RlL G X id f) (slot : Slot "list" name id) (hty : typeOf (.builtin id) = pure (.type "method_descriptor")) (ha : FA G W X (e :: es) ds) (hN : X.N[i]? = some x := by rfl)
    (hv : Vis X.env.scope x := by first | exact Or.inl rfl | exact Or.inr (Or.inl rfl) | exact Or.inr (Or.inr rfl)) (hd : (x == ("__debug__" : Str)) = false := by decide) (hcd : (x == ("__classdict__" : Str)) = false := by decide)
    (hbase : attributeBase (.Name x p2) name X.env (eval (.Name x p2) X.env) = eval (.Name x p2) X.env := by rfl)
    (hfew : ((backTo pos (starEach (e :: es) X.env)).all (fun x => !x.1) && (backToKw pos (keywordEach [] X.env)).all (fun x => x.1.isSome)
      && decide ((e :: es).length + ([] : List Keyword).length + (if ([] : List Keyword).isEmpty then 0 else 1) < 30)) = true := by rfl)
    (hline : (apos.endLine == pos.line) = true := by rfl) (hs : starEach (e :: es) X.env = (false, eval e X.env) :: starEach es X.env := by rfl) (hplain : (backTo pos (starEach es X.env)).any (·.1) = false := by rfl) :
    FE G W X (.Call (.Attribute (.Name x p2) name apos) (e :: es) [] pos) (dMutL i f ds) := fun T => by
  obtain ⟨r, hr, q⟩ := hm
  refine PE.plus (pe_bm PySem.F.plainAttrs_list slot hty hr (pe_var hN hv hd hcd) (ha T) hbase hfew hline hs hplain) fun σ H Q z h => ?_
  obtain ⟨A, sl, s, p⟩ := h z
  unfold dMutL at p
  split at p
  · rename_i hi
    obtain ⟨ys, hy⟩ := isM_get hi
    obtain ⟨a, vs, h1, h2, h3, h4⟩ := s.mu i ys hy
    refine ⟨_, h2, .inl ⟨rfl, vs, SqL.of h3⟩, fun hz => ⟨A, sl, s, PostG.bind p fun xs sl1 ws H1 _ s1 k1 r1 p1 => ?_⟩⟩
    exact mutEnd_ok (id := id) q s1 h1 (fun ds e => RlL.of s1 r1 e) p1
  · exact p.elim
theorem fe_mut0 (hm : MutR Rvs G X id f) (slot : Slot "list" name id) (hty : typeOf (.builtin id) = pure (.type "method_descriptor")) (hN : X.N[i]? = some x := by rfl)
    (hv : Vis X.env.scope x := by first | exact Or.inl rfl | exact Or.inr (Or.inl rfl) | exact Or.inr (Or.inr rfl)) (hd : (x == ("__debug__" : Str)) = false := by decide) (hcd : (x == ("__classdict__" : Str)) = false := by decide)
    (hbase : attributeBase (.Name x p2) name X.env (eval (.Name x p2) X.env) = eval (.Name x p2) X.env := by rfl) (hline : (apos.endLine == pos.line) = true := by rfl) :
    FE G W X (.Call (.Attribute (.Name x p2) name apos) [] [] pos) (dMut i f dNil) := fun T => by
  obtain ⟨r, hr, q⟩ := hm
  refine PE.plus (pe_bm0 PySem.F.plainAttrs_list slot hty hr (pe_var hN hv hd hcd) hbase hline) fun σ H Q z h => ?_
  obtain ⟨A, sl, s, p⟩ := h z
  unfold dMut at p
  split at p
  · rename_i hi
    obtain ⟨ys, hy⟩ := isM_get hi
    obtain ⟨a, vs, h1, h2, h3, h4⟩ := s.mu i ys hy
    exact ⟨_, h2, .inl ⟨rfl, vs, SqL.of h3⟩, mutEnd_ok (id := id) q s h1 (fun ds e => by cases e; exact .nil) p⟩
  · exact p.elim
theorem fe_append (ha : FA G W X (e :: es) ds) (hN : X.N[i]? = some x := by rfl)
    (hv : Vis X.env.scope x := by first | exact Or.inl rfl | exact Or.inr (Or.inl rfl) | exact Or.inr (Or.inr rfl)) (hd : (x == ("__debug__" : Str)) = false := by decide) (hcd : (x == ("__classdict__" : Str)) = false := by decide)
    (hbase : attributeBase (.Name x p2) "append" X.env (eval (.Name x p2) X.env) = eval (.Name x p2) X.env := by rfl)
    (hfew : ((backTo pos (starEach (e :: es) X.env)).all (fun x => !x.1) && (backToKw pos (keywordEach [] X.env)).all (fun x => x.1.isSome)
      && decide ((e :: es).length + ([] : List Keyword).length + (if ([] : List Keyword).isEmpty then 0 else 1) < 30)) = true := by rfl)
    (hline : (apos.endLine == pos.line) = true := by rfl) (hs : starEach (e :: es) X.env = (false, eval e X.env) :: starEach es X.env := by rfl) (hplain : (backTo pos (starEach es X.env)).any (·.1) = false := by rfl) :
    FE G W X (.Call (.Attribute (.Name x p2) "append" apos) (e :: es) [] pos) (dMut i mAppend ds) :=
  fe_mutV mut_append PySem.F.slot_list_append PySem.F.type_list_append ha hN hv hd hcd hbase hfew hline hs hplain
theorem fe_extend (ha : FA G W X (e :: es) ds) (hN : X.N[i]? = some x := by rfl)
    (hv : Vis X.env.scope x := by first | exact Or.inl rfl | exact Or.inr (Or.inl rfl) | exact Or.inr (Or.inr rfl)) (hd : (x == ("__debug__" : Str)) = false := by decide) (hcd : (x == ("__classdict__" : Str)) = false := by decide)
    (hbase : attributeBase (.Name x p2) "extend" X.env (eval (.Name x p2) X.env) = eval (.Name x p2) X.env := by rfl)
    (hfew : ((backTo pos (starEach (e :: es) X.env)).all (fun x => !x.1) && (backToKw pos (keywordEach [] X.env)).all (fun x => x.1.isSome)
      && decide ((e :: es).length + ([] : List Keyword).length + (if ([] : List Keyword).isEmpty then 0 else 1) < 30)) = true := by rfl)
    (hline : (apos.endLine == pos.line) = true := by rfl) (hs : starEach (e :: es) X.env = (false, eval e X.env) :: starEach es X.env := by rfl) (hplain : (backTo pos (starEach es X.env)).any (·.1) = false := by rfl) :
    FE G W X (.Call (.Attribute (.Name x p2) "extend" apos) (e :: es) [] pos) (dMutL i mExtend ds) :=
  fe_mutL mut_extend PySem.F.slot_list_extend PySem.F.type_list_extend ha hN hv hd hcd hbase hfew hline hs hplain
theorem fe_pop (hN : X.N[i]? = some x := by rfl)
    (hv : Vis X.env.scope x := by first | exact Or.inl rfl | exact Or.inr (Or.inl rfl) | exact Or.inr (Or.inr rfl)) (hd : (x == ("__debug__" : Str)) = false := by decide) (hcd : (x == ("__classdict__" : Str)) = false := by decide)
    (hbase : attributeBase (.Name x p2) "pop" X.env (eval (.Name x p2) X.env) = eval (.Name x p2) X.env := by rfl) (hline : (apos.endLine == pos.line) = true := by rfl) :
    FE G W X (.Call (.Attribute (.Name x p2) "pop" apos) [] [] pos) (dMut i mPop dNil) :=
  fe_mut0 mut_pop PySem.F.slot_list_pop PySem.F.type_list_pop hN hv hd hcd hbase hline
theorem fe_popAt (ha : FA G W X (e :: es) ds) (hN : X.N[i]? = some x := by rfl)
    (hv : Vis X.env.scope x := by first | exact Or.inl rfl | exact Or.inr (Or.inl rfl) | exact Or.inr (Or.inr rfl)) (hd : (x == ("__debug__" : Str)) = false := by decide) (hcd : (x == ("__classdict__" : Str)) = false := by decide)
    (hbase : attributeBase (.Name x p2) "pop" X.env (eval (.Name x p2) X.env) = eval (.Name x p2) X.env := by rfl)
    (hfew : ((backTo pos (starEach (e :: es) X.env)).all (fun x => !x.1) && (backToKw pos (keywordEach [] X.env)).all (fun x => x.1.isSome)
      && decide ((e :: es).length + ([] : List Keyword).length + (if ([] : List Keyword).isEmpty then 0 else 1) < 30)) = true := by rfl)
    (hline : (apos.endLine == pos.line) = true := by rfl) (hs : starEach (e :: es) X.env = (false, eval e X.env) :: starEach es X.env := by rfl) (hplain : (backTo pos (starEach es X.env)).any (·.1) = false := by rfl) :
    FE G W X (.Call (.Attribute (.Name x p2) "pop" apos) (e :: es) [] pos) (dMut i mPopAt ds) :=
  fe_mutV mut_popAt PySem.F.slot_list_pop PySem.F.type_list_pop ha hN hv hd hcd hbase hfew hline hs hplain
/-- x[i] = e, x a name's own list -/
def mSetIx (i : Nat) (dv di : Ev) : Sm := fun sl => (dv sl).to fun x sl1 => if isM sl1 i then (di sl1).to fun y sl2 => match x, sl2[i]?, getS sl2 y with
  | .v d, some (some (.m ys)), some (.int k) => match ixN ys.length k with
    | some j => .nx (sl2.set i (some (.m (ys.set j d))))
    | none => .bad
  | _, _, _ => .bad
  else .bad
theorem fs_setIx {spos : Pos} (hv' : FE G W X a da) (hi : FE G W X b db) (hN : X.N[i]? = some x := by rfl)
    (hv : Vis X.env.scope x := by first | exact Or.inl rfl | exact Or.inr (Or.inl rfl) | exact Or.inr (Or.inr rfl)) (hd : (x == ("__debug__" : Str)) = false := by decide) (hcd : (x == ("__classdict__" : Str)) = false := by decide)
    (ha : ∀ v, assign (.Subscript (.Name x p2) b p) X.env v = (do
      let ov ← holding [v] (eval (.Name x p2) X.env)
      let iv ← holding [v, ov] (eval b X.env)
      standAt p
      holding [v, ov, iv] (setItem ov iv v)
      release [v, ov, iv] []) := by intro _; rfl)
    (hs : swapsWithSole [.Subscript (.Name x p2) b p] a spos.line X.env = pure false := by rfl) (hw : swappedStores [.Subscript (.Name x p2) b p] a X.env = pure none := by rfl)
    (h1 : (assignEach [.Subscript (.Name x p2) b p] X.env).map (·.2) = [assign (.Subscript (.Name x p2) b p) X.env] := by rfl) :
    FS G W X (.Assign [.Subscript (.Name x p2) b p] a spos) (mSetIx i da db) := fun T =>
  PS.plus (ps_asg (hv' T) (pg_sub (pe_var hN hv hd hcd) (hi T) set_list ha) hs hw h1) fun D σ H z h hz => by
    obtain ⟨A, sl, s, p⟩ := h hz
    refine ⟨A, sl, s, to_post p fun x sl1 v H1 _ s1 k1 r1 p1 => ?_⟩
    split at p1
    · rename_i him
      obtain ⟨ys0, hy0⟩ := isM_get him
      obtain ⟨a0, vs0, h1, h2, h3, h4⟩ := s1.mu i ys0 hy0
      refine ⟨_, h2, fun hz => ⟨A, sl1, s1, to_post p1 fun y sl2 u H2 _ s2 k2 r2 p2 => ?_⟩⟩
      split at p2
      · rename_i d ys k e1 e2 _
        split at p2
        · rename_i j hj
          obtain ⟨b', vs, g1, g2, g3, g4⟩ := s2.mu i ys e1
          rw [h1] at g1; cases g1
          cases (Rl.of s2 r2 e2).int
          refine ⟨a0, vs, k, j, rfl, rfl, g3, by rw [← g4.length]; exact hj, fun hz' => ?_⟩
          obtain ⟨s3, k3⟩ := s2.write ⟨ys, e1⟩ h1 (Rvs.set (Rs.keep k2 r1) j g4) hz'
          exact p2 A σ _ s3
        · exact p2.elim
      · exact p2.elim
    · exact p1.elim
end
end F

set_option Elab.async false
set_option linter.all false
set_option maxRecDepth 100000
set_option maxHeartbeats 4000000
/-! ranges of ints of any size -/
namespace L2
open PySem PySem.Spec PyProof.Rows
theorem turn_long {P : Program} {w : World} {K : PySem.W.Frag} {tg : Expr} (it : Addr) (lo : Int) (n : Nat) : Turn P w K tg (Itr lo n) [it] it (fun i h => IsLongIter h it (lo + (i : Nat) * 1) ((n : Int) - (i : Nat)) 1) where
  mem := by simp
  obj := fun i h st b hb => by
    have e : b = it := by simpa using hb
    subst e
    exact ⟨_, st, fun v z => by
      have z' : Data.fields _ = Data.cell v := z
      cases z'⟩
  keep := fun i h h' st k => k it (by simp) _ st
  item := by
    intro X hP hw hK hc i pins s σ H E I hf st hg
    subst hP hw hK
    obtain ⟨f0, f1, f2, f3, f4, f5⟩ := hf it (by simp)
    have W := Walks.longrange (prog := X.prog) (w := X.w) (I.ok.hd hc) it lo 1 n
    refine W.item i s _ _ hg st fun v h' tk hv st' kk => ?_
    obtain ⟨t, rfl⟩ := hv
    have I1 : Inv X pins σ H { s with heap := h', toks := tk } := I.turned (fun b o hb e => kk b o (by simpa using hb) e) f0 f1 f3 f4 f5
    refine ⟨_, rfl, go_of (s := { s with heap := h', toks := tk }) (n := "longrange_iterator") st' rfl rfl (by decide) ⟨.int (lo + i), H, I1, ⟨t, ?_⟩, ⟨rfl, rfl⟩, st', fun b hb => (hf b hb).1⟩⟩
    rw [Int.mul_one]
  done := by
    intro X hP hw hK hc i pins s σ H E I hf st hg
    subst hP hw hK
    obtain ⟨f0, f1, f2, f3, f4, f5⟩ := hf it (by simp)
    exact wpAny_pyNext_long_end (I.ok.hd hc) st (by have : n ≤ i := hg; omega) fun h' eb => ⟨rfl, I.turned (t' := s.toks) (fun b o hb e => eb b o hb e) f0 f1 f3 f4 f5⟩
  self := fun _ _ _ _ _ st h => wpAny_pyIter_longiter st h
section
variable {X : Cx} {tg : Expr}
theorem range_any {pins : List (Addr × Obj)} {σ : St} {H : Hp} {s : Shared} {R : It → Hp → Prop} {E : Value → Shared → Prop} {lo hi : Int} {t u v : Tok} {tk : Nat} (I : Inv X pins σ H s)
    (q : R (Itr lo (hi - lo).toNat) H) : wpAny (model X.prog X.w) X.A (pyIter (.ref s.heap.objs.size)) (PIE X pins σ tg R) E { s with heap := s.heap.push { cls := .type "range", data := .fields #[.int lo t, .int hi u, .int 1 v] }, toks := tk } := by
  have I1 : Inv X pins σ H { s with heap := s.heap.push { cls := .type "range", data := .fields #[.int lo t, .int hi u, .int 1 v] }, toks := tk } := I.kept fun b o e => Heap.get?_push_of_some _ e
  have e1 : lo + ((0 : Nat) : Int) * 1 = lo := by simp
  have e2 : (((hi - lo).toNat : Nat) : Int) - ((0 : Nat) : Int) = Builtin.Range.rangeSize lo hi 1 := by rw [rangeSize_one]; split <;> omega
  have fp : ∀ b ∈ [(s.heap.push { cls := .type "range", data := .fields #[.int lo t, .int hi u, .int 1 v] }).objs.size], FpOk X pins H b := fun b hb => by
    have e : b = (s.heap.push { cls := .type "range", data := .fields #[.int lo t, .int hi u, .int 1 v] }).objs.size := by simpa using hb
    subst e
    exact I1.fpOk (Nat.le_refl _) (I1.hok.fresh (Nat.le_refl _))
  by_cases hsm : Builtin.Range.small lo hi 1 = true
  · refine wpAny_pyIter_range (IsRange.new ..) hsm ?_
    refine ⟨(s.heap.push { cls := .type "range", data := .fields #[.int lo t, .int hi u, .int 1 v] }).objs.size, [(s.heap.push { cls := .type "range", data := .fields #[.int lo t, .int hi u, .int 1 v] }).objs.size], _, _, H, rfl,
      I1.kept (t' := tk) fun b o e => Heap.get?_push_of_some _ e, turn_range _ lo (hi - lo).toNat, ?_, fp, q⟩
    show IsRangeIter _ _ (lo + ((0 : Nat) : Int) * 1) ((((hi - lo).toNat : Nat) : Int) - ((0 : Nat) : Int)) 1
    rw [e1, e2]
    exact Heap.get?_push_size _ rfl
  · refine wpAny_pyIter_longrange (IsRange.new ..) (by simpa using hsm) ?_
    refine ⟨(s.heap.push { cls := .type "range", data := .fields #[.int lo t, .int hi u, .int 1 v] }).objs.size, [(s.heap.push { cls := .type "range", data := .fields #[.int lo t, .int hi u, .int 1 v] }).objs.size], _, _, H, rfl,
      I1.kept (t' := tk) fun b o e => Heap.get?_push_of_some _ e, turn_long _ lo (hi - lo).toNat, ?_, fp, q⟩
    show IsLongIter _ _ (lo + ((0 : Nat) : Int) * 1) ((((hi - lo).toNat : Nat) : Int) - ((0 : Nat) : Int)) 1
    rw [e1, e2]
    exact Heap.get?_push_size _ rfl
def iRngA1 (ta : TA) : TI := fun σ H R => ta σ H fun vs H1 => ∃ j : Int, vs = [.int j] ∧ R (Itr 0 j.toNat) H1
def iRngA2 (ta : TA) : TI := fun σ H R => ta σ H fun vs H1 => ∃ i j : Int, vs = [.int i, .int j] ∧ R (Itr i (j - i).toNat) H1
theorem pi_rangeA1 {a : Expr} {ta : TA} {p pos : Pos} (hg : Gl X "range") (hm : X.mg "range" = none) (ha : PA X [a] ta) (hs : starEach [a] X.env = [(false, eval a X.env)] := by rfl) : PI X tg (.Call (.Name "range" p) [a] [] pos) (iRngA1 ta) := by
  refine ⟨fun pins s σ H R I h => ?_⟩
  refine Call_ (ld_blt I hg hm boot_range (PyProof.Rows.callWith_type1 (thn (ha.run pos pins s σ H _ I h) fun us s1 ⟨vs, H1, I1, r1, q1⟩ => ?_) hs rfl))
  obtain ⟨j, e, q⟩ := q1
  subst e
  cases r1 with
  | cons r rr =>
    cases rr
    obtain ⟨t, rfl⟩ := r
    exact call_range_1 (range_any I1 (by simpa using q))
theorem pi_rangeA2 {a b : Expr} {ta : TA} {p pos : Pos} (hg : Gl X "range") (hm : X.mg "range" = none) (ha : PA X [a, b] ta) (hs : starEach [a, b] X.env = [(false, eval a X.env), (false, eval b X.env)] := by rfl) (hs2 : starEach [b] X.env = [(false, eval b X.env)] := by rfl) :
    PI X tg (.Call (.Name "range" p) [a, b] [] pos) (iRngA2 ta) := by
  refine ⟨fun pins s σ H R I h => ?_⟩
  refine Call_ (ld_blt I hg hm boot_range (PyProof.Rows.callWith_type1 (thn (ha.run pos pins s σ H _ I h) fun us s1 ⟨vs, H1, I1, r1, q1⟩ => ?_) (by rw [hs, hs2]) (by rw [hs2]; rfl)))
  obtain ⟨i, j, e, q⟩ := q1
  subst e
  cases r1 with
  | cons r rr =>
    cases rr with
    | cons r' rr =>
      cases rr
      obtain ⟨t, rfl⟩ := r
      obtain ⟨t', rfl⟩ := r'
      exact call_range_2 (range_any I1 q)
end
end L2

set_option Elab.async false
set_option linter.all false
set_option maxRecDepth 100000
set_option maxHeartbeats 4000000
namespace F
open PySem PySem.Spec PyProof.Rows L2

/-! ### targets -/
inductive Tg where
  | nm (i : Nat) | tp (ts : List Tg)
mutual
def bindT : Tg → D → Sl → Option Sl
  | .nm i, d, sl => some (sl.set i (some (.v d)))
  | .tp ts, .tup ds, sl => bindTs ts ds sl
  | .tp _, _, _ => none
def bindTs : List Tg → List D → Sl → Option Sl
  | [], [], sl => some sl
  | t :: ts, d :: ds, sl => match bindT t d sl with
    | some sl' => bindTs ts ds sl'
    | none => none
  | _, _, _ => none
end
mutual
def Tg.slots : Tg → List Nat
  | .nm i => [i]
  | .tp ts => Tg.slotss ts
def Tg.slotss : List Tg → List Nat
  | [] => []
  | t :: ts => Tg.slots t ++ Tg.slotss ts
end
/-- all but the slots ns are as they were -/
def Alike (ns : List Nat) (σ σ' : St) : Prop := σ'.length = σ.length ∧ ∀ j, j ∉ ns → σ'[j]? = σ[j]?
theorem Alike.refl (ns : List Nat) (σ : St) : Alike ns σ σ := ⟨rfl, fun _ _ => rfl⟩
def tTg (G : Glue) (T : Act) (t : Tg) : TG := fun v σ H Q => HSz H → ∃ A sl d sl', Sr G T A sl σ H ∧ Rv G (T.N A) H d v ∧ bindT t d sl = some sl' ∧ ∀ σ', Alike t.slots σ σ' → Sr G T A sl' σ' H → Q σ' H
def tTgs (G : Glue) (T : Act) (ts : List Tg) : TGs := fun vs σ H Q => HSz H → ∃ A sl ds sl', Sr G T A sl σ H ∧ Rvs G (T.N A) H ds vs ∧ bindTs ts ds sl = some sl' ∧ ∀ σ', Alike (Tg.slotss ts) σ σ' → Sr G T A sl' σ' H → Q σ' H
def FG (G : Glue) (X : Cx) (e : Expr) (t : Tg) : Prop := ∀ T, PG X e (tTg G T t)
def FGs (G : Glue) (X : Cx) (es : List Expr) (ts : List Tg) : Prop := ∀ T, PGs X es (tTgs G T ts)
section
variable {G : Glue} {W : WX} {X : Cx} {e : Expr} {es : List Expr} {pos : Pos}
theorem PG.plus {t t' : TG} (h : PG X e t) (f : ∀ v σ H Q, HSz H → t' v σ H Q → t v σ H Q) : PG X e t' := ⟨fun pins s σ H v u Q I r q => h.run pins s σ H v u Q I r (f v σ H Q (Inv.hsz I) q)⟩
theorem PGs.plus {t t' : TGs} (h : PGs X es t) (f : ∀ v σ H Q, HSz H → t' v σ H Q → t v σ H Q) : PGs X es t' := ⟨fun pins s σ H v u Q I r q => h.run pins s σ H v u Q I r (f v σ H Q (Inv.hsz I) q)⟩
theorem fg_name {i : Nat} {x : Str} (hN : X.N.Nodup) (hi : X.N[i]? = some x := by rfl) (hx : Loc X.env.scope x := by first | exact Or.inl rfl | exact Or.inr rfl) (hf : X.fn x = true ∨ X.env.scope.names.lookup x = some .local := by first | exact .inl rfl | exact .inr rfl | assumption) :
    FG G X (.Name x pos) (.nm i) := fun T => PG.plus (pg_name hN hi hx hf) fun v σ H Q z h => by
  obtain ⟨A, sl, d, sl', s, r, e, k⟩ := h z
  cases e
  refine k _ ⟨by simp, fun j hj => ?_⟩ (s.set i r)
  rw [List.getElem?_set_ne (by simp [Tg.slots] at hj; omega)]
theorem fgs_nil : FGs G X [] [] := fun T => PGs.plus pgs_nil fun v σ H Q z h => by
  obtain ⟨A, sl, d, sl', s, r, e, k⟩ := h z
  cases d with
  | nil => cases e; cases r; exact ⟨rfl, k σ (.refl _ _) s⟩
  | cons => cases e
theorem fgs_cons {t : Tg} {ts : List Tg} (h1 : FG G X e t) (h2 : FGs G X es ts) (hs : (assignEach (e :: es) X.env).map (·.2) = assign e X.env :: (assignEach es X.env).map (·.2) := by rfl) : FGs G X (e :: es) (t :: ts) := fun T =>
  PGs.plus (pgs_cons (h1 T) (h2 T) hs) fun v σ H Q z h => by
    obtain ⟨A, sl, ds, sl', s, r, e, k⟩ := h z
    cases ds with
    | nil => cases e
    | cons d ds =>
      cases r with
      | cons r1 r2 =>
        simp only [bindTs] at e
        split at e
        · rename_i sl1 e1
          exact ⟨_, _, rfl, fun _ => ⟨A, sl, d, sl1, s, r1, e1, fun σ' al s' _ => ⟨A, sl1, ds, sl', s', r2, e, fun σ2 al2 s2 => k σ2 ⟨al2.1.trans al.1, fun j hj => by simp only [Tg.slotss, List.mem_append, not_or] at hj; rw [al2.2 j hj.2, al.2 j hj.1]⟩ s2⟩⟩⟩
        · cases e
theorem fg_tup {k : Nat} {ts : List Tg} {n : Nat} (h : FGs G X es ts) (hl : ts.length = n) (hK : X.K = G.K := by rfl) (hc : X.calm = true := by rfl)
    (hn : (assignEach es X.env).length = n := by rfl) (hst : (assignEach es X.env).findIdx? (·.1) = none := by rfl) : FG G X (.Tuple es k pos) (.tp ts) := fun T =>
  PG.plus (pg_tup hc (h T) hn hst) fun v σ H Q z h => by
    obtain ⟨A, sl, d, sl', s, r, e, q⟩ := h z
    match d, r, e with
    | .tup ds, r, e =>
      obtain ⟨a, vs, rfl, sq, rv⟩ := tupK hK (Or.inl r)
      have len : ∀ (ts : List Tg) (ds : List D) (sl sl' : Sl), bindTs ts ds sl = some sl' → ds.length = ts.length := by
        intro ts
        induction ts with
        | nil => intro ds sl sl' e; cases ds with
          | nil => rfl
          | cons => cases e
        | cons t ts ih => intro ds sl sl' e; cases ds with
          | nil => cases e
          | cons d ds =>
            simp only [bindTs] at e
            split at e
            · simp [ih _ _ _ e]
            · cases e
      exact ⟨a, vs, rfl, sq, by rw [← rv.length, len ts ds sl sl' e]; exact hl, fun _ => ⟨A, sl, ds, sl', s, rv, e, fun σ' al s' => q σ' (by simpa only [Tg.slots] using al) s'⟩⟩
def mAsg (t : Tg) (d : Ev) : Sm := fun sl => (d sl).to fun x sl1 => match x with
  | .v d => match bindT t d sl1 with
    | some sl2 => .nx sl2
    | none => .bad
  | .r _ => .bad
theorem fs_asg {tg a : Expr} {t : Tg} {da : Ev} (he : FE G W X a da) (hg : FG G X tg t) (hs : swapsWithSole [tg] a pos.line X.env = pure false := by rfl) (hw : swappedStores [tg] a X.env = pure none := by rfl)
    (h1 : (assignEach [tg] X.env).map (·.2) = [assign tg X.env] := by rfl) : FS G W X (.Assign [tg] a pos) (mAsg t da) := fun T =>
  PS.plus (ps_asg (he T) (hg T) hs hw h1) fun D σ H z h hz => by
    obtain ⟨A, sl, s, p⟩ := h hz
    refine ⟨A, sl, s, to_post p fun x sl1 v H1 _ s1 k1 r1 p1 => ?_⟩
    match x, r1, p1 with
    | .v d, r1, p1 =>
      dsimp only at p1
      split at p1
      · rename_i sl2 e
        exact fun _ => ⟨A, sl1, d, sl2, s1, r1, e, fun σ' _ s' _ => p1 A σ' H1 s'⟩
      · exact p1.elim
end

/-! ### what is walked -/
/-- J gives ds, one after another, while hv is held -/
def WkD (G : Glue) (hv : List (D × V)) (J : It) (ds : List D) : Prop :=
  ∃ Gd : Hp → Prop, (∀ N H, (∀ p ∈ hv, Rv G N H p.1 p.2) → Gd H) ∧
    Walk J ds.length Gd fun i H x H' => Same H H' ∧ ∀ N : Addr → Prop, (∀ p, H p = none → ¬ N p) → (∀ p ∈ hv, Rv G N H p.1 p.2) → ∃ d, ds[i]? = some d ∧ Rv G N H' d x
def tIt (G : Glue) (W : WX) (T : Act) (it : Lv) : TI := fun σ H R => HSz H → ∃ A sl, Sr G T A sl σ H ∧ PostG (fun H' (ds : List D) (q : It × List (D × V)) => WkD G q.2 q.1 ds ∧ (∀ p ∈ q.2, Rv G (T.N A) H' p.1 p.2) ∧ ds.length ≤ sizeLine) G W T A σ H (it sl) fun q H' => R q.1 H'
def FI (G : Glue) (W : WX) (X : Cx) (tg iter : Expr) (it : Lv) : Prop := ∀ T, PI X tg iter (tIt G W T it)
/-- the items of a list, a tuple -/
def iSeq (a : Ev) : Lv := fun sl => (a sl).bind fun x sl1 => match x with
  | .v (.lst ds) => .ok ds sl1
  | .v (.tup ds) => .ok ds sl1
  | _ => .bad
def iLst (a : Ev) : Lv := fun sl => (a sl).bind fun x sl1 => match x with
  | .v (.lst ds) => .ok ds sl1
  | _ => .bad
def iTp (a : Ev) : Lv := fun sl => (a sl).bind fun x sl1 => match x with
  | .v (.tup ds) => .ok ds sl1
  | _ => .bad
def rgD (a b : Int) : List D := (List.range (b - a).toNat).map fun i => .int (a + (i : Nat))
def rgOk (a b : Int) : Bool := fits (b - a).toNat
def iRange1 (a : Ev) : Lv := fun sl => (a sl).bind fun x sl1 => match getS sl1 x with
  | some (.int n) => if rgOk 0 n then .ok (rgD 0 n) sl1 else .bad
  | _ => .bad
def iRange2 (a b : Ev) : Lv := fun sl => (a sl).bind fun x sl1 => (b sl1).bind fun y sl2 => match getS sl2 x, getS sl2 y with
  | some (.int i), some (.int j) => if rgOk i j then .ok (rgD i j) sl2 else .bad
  | _, _ => .bad
def zipD (xs ys : List D) : List D := List.zipWith (fun x y => .tup [x, y]) xs ys
def iZip (a b : Ev) : Lv := fun sl => (a sl).bind fun x sl1 => (b sl1).bind fun y sl2 => match x, y with
  | .v (.lst xs), .v (.lst ys) => .ok (zipD xs ys) sl2
  | .v (.tup xs), .v (.tup ys) => .ok (zipD xs ys) sl2
  | _, _ => .bad
def enumFrom (n : Nat) : List D → List D
  | [] => []
  | x :: xs => .tup [.int n, x] :: enumFrom (n + 1) xs
def iEnumL (a : Ev) : Lv := fun sl => (a sl).bind fun x sl1 => match x with
  | .v (.lst xs) => .ok (enumFrom 0 xs) sl1
  | _ => .bad
theorem enum_get (xs : List D) : ∀ (n i : Nat), (enumFrom n xs)[i]? = xs[i]?.map fun x => .tup [.int ((n + i : Nat) : Int), x] := by
  induction xs with
  | nil => intro n i; simp [enumFrom]
  | cons x xs ih =>
    intro n i
    cases i with
    | zero => simp [enumFrom]
    | succ i => simp only [enumFrom, List.getElem?_cons_succ]; rw [ih]; congr 3; funext y; congr 4; omega
theorem enum_len (xs : List D) : ∀ n, (enumFrom n xs).length = xs.length := by
  induction xs with
  | nil => intro n; rfl
  | cons x xs ih => intro n; simp [enumFrom, ih]
theorem zip_get (xs ys : List D) (i : Nat) : (zipD xs ys)[i]? = match xs[i]?, ys[i]? with | some x, some y => some (.tup [x, y]) | _, _ => none := by
  unfold zipD
  rw [List.getElem?_zipWith]
  cases xs[i]? <;> cases ys[i]? <;> rfl
theorem zip_len (xs ys : List D) : (zipD xs ys).length = min xs.length ys.length := by simp [zipD]
section
variable {G : Glue} {K : PySem.W.Frag}
theorem lst_inv {N : Addr → Prop} {H : Hp} {ds : List D} {a : Addr} (h : Rv G N H (.lst ds) (.ref a)) : ∃ vs, H a = some (.lst vs) ∧ Rvs G N H ds vs := by
  cases h with
  | lst h1 _ h2 => exact ⟨_, h1, h2⟩
theorem tup_inv {N : Addr → Prop} {H : Hp} {ds : List D} {a : Addr} (h : Rv G N H (.tup ds) (.ref a)) : ∃ vs, SqT G.K H a vs ∧ Rvs G N H ds vs := by
  cases h with
  | tup h1 h2 => exact ⟨_, h1, h2⟩
theorem sql_eq {H : Hp} {a : Addr} {xs ys : List V} (h1 : H a = some (.lst xs)) (h2 : H a = some (.lst ys)) : xs = ys := by rw [h1] at h2; cases h2; rfl
theorem wk_list {ds : List D} {a : Addr} : WkD G [(.lst ds, .ref a)] (Itl K a) ds := by
  refine ⟨fun H => ∃ N, Rv G N H (.lst ds) (.ref a), fun N H h => ⟨N, h _ List.mem_cons_self⟩, fun i H hi ⟨N, r⟩ => ?_, fun H ⟨N, r⟩ => ?_, fun i H x H' hi ⟨N, r⟩ y => ?_⟩
  · obtain ⟨vs, e, rv⟩ := lst_inv r
    exact ⟨vs, vs[i]'(by rw [← rv.length]; exact hi), SqL.of e, List.getElem?_eq_getElem _⟩
  · obtain ⟨vs, e, rv⟩ := lst_inv r
    exact ⟨vs, SqL.of e, by rw [← rv.length]; exact Nat.le_refl _⟩
  · obtain ⟨rfl, hx⟩ := y
    refine ⟨Same.refl _, fun N' _ hh => ?_⟩
    obtain ⟨vs, e, rv⟩ := lst_inv (hh _ List.mem_cons_self)
    exact rv.get (hx vs (SqL.of e))
theorem wk_tup {ds : List D} {a : Addr} (hK : K = G.K) : WkD G [(.tup ds, .ref a)] (Itt K a) ds := by
  subst hK
  refine ⟨fun H => ∃ N, Rv G N H (.tup ds) (.ref a), fun N H h => ⟨N, h _ List.mem_cons_self⟩, fun i H hi ⟨N, r⟩ => ?_, fun H ⟨N, r⟩ => ?_, fun i H x H' hi ⟨N, r⟩ y => ?_⟩
  · obtain ⟨vs, e, rv⟩ := tup_inv r
    exact ⟨vs, vs[i]'(by rw [← rv.length]; exact hi), e, List.getElem?_eq_getElem _⟩
  · obtain ⟨vs, e, rv⟩ := tup_inv r
    exact ⟨vs, e, by rw [← rv.length]; exact Nat.le_refl _⟩
  · obtain ⟨rfl, hx⟩ := y
    refine ⟨Same.refl _, fun N' _ hh => ?_⟩
    obtain ⟨vs, e, rv⟩ := tup_inv (hh _ List.mem_cons_self)
    exact rv.get (hx vs e)
theorem rg_get (a b : Int) (i : Nat) (h : i < (b - a).toNat) : (rgD a b)[i]? = some (.int (a + (i : Nat))) := by
  unfold rgD
  rw [List.getElem?_map, List.getElem?_range h]; rfl
theorem rg_len (a b : Int) : (rgD a b).length = (b - a).toNat := by simp [rgD]
theorem wk_range {a b : Int} : WkD G [] (Itr a (b - a).toNat) (rgD a b) := by
  refine ⟨fun _ => True, fun _ _ _ => trivial, fun i H hi _ => by rw [rg_len] at hi; exact hi, fun H _ => by rw [rg_len]; exact Nat.le_refl _, fun i H x H' hi _ y => ?_⟩
  obtain ⟨rfl, rfl⟩ := y
  rw [rg_len] at hi
  exact ⟨Same.refl _, fun N _ _ => ⟨_, rg_get a b i hi, .int _⟩⟩
theorem rv_pair {N : Addr → Prop} {H : Hp} {T : Addr} {d e : D} {x y : V} (hT : H T = none) (r1 : Rv G N H d x) (r2 : Rv G N H e y) : Rv G N (upd H T (.tup [x, y])) (.tup [d, e]) (.ref T) := by
  have k : Keep (fun _ => False) H (upd H T (.tup [x, y])) := .same (same_fresh hT _)
  exact .tup (SqT.of upd_same) (.cons (r1.keep k fun _ z => z.elim) (.cons (r2.keep k fun _ z => z.elim) .nil))
theorem wk_zipL {ds es : List D} {a b : Addr} : WkD G [(.lst ds, .ref a), (.lst es, .ref b)] (Itz K a b) (zipD ds es) := by
  have m1 : ∀ p q : D × V, p ∈ [p, q] := fun p q => List.mem_cons_self
  have m2 : ∀ p q : D × V, q ∈ [p, q] := fun p q => by simp
  have wz := fun (xs ys : List V) => walk_zip (K := K) (a := a) (b := b) (xs := xs) (ys := ys) rfl
  refine ⟨fun H => ∃ N, Rv G N H (.lst ds) (.ref a) ∧ Rv G N H (.lst es) (.ref b), fun N H h => ⟨N, h _ (m1 _ _), h _ (m2 _ _)⟩, fun i H hi ⟨N, r1, r2⟩ => ?_, fun H ⟨N, r1, r2⟩ => ?_, fun i H x H' hi ⟨N, r1, r2⟩ y => ?_⟩
  · obtain ⟨vs, e1, rv1⟩ := lst_inv r1
    obtain ⟨ws, e2, rv2⟩ := lst_inv r2
    rw [zip_len] at hi
    exact (wz vs ws).goes i H (by rw [← rv1.length, ← rv2.length]; exact hi) ⟨SqL.of e1, SqL.of e2⟩
  · obtain ⟨vs, e1, rv1⟩ := lst_inv r1
    obtain ⟨ws, e2, rv2⟩ := lst_inv r2
    have := (wz vs ws).stops H ⟨SqL.of e1, SqL.of e2⟩
    rw [← rv1.length, ← rv2.length] at this
    rw [zip_len]; exact this
  · obtain ⟨vs, e1, rv1⟩ := lst_inv r1
    obtain ⟨ws, e2, rv2⟩ := lst_inv r2
    rw [zip_len] at hi
    obtain ⟨T, x', y', rfl, hT, rfl, h1, h2⟩ := (wz vs ws).yields i H x H' (by rw [← rv1.length, ← rv2.length]; exact hi) ⟨SqL.of e1, SqL.of e2⟩ y
    refine ⟨same_fresh hT _, fun N' _ hh => ?_⟩
    obtain ⟨vs', e1', rv1'⟩ := lst_inv (hh _ (m1 _ _))
    obtain ⟨ws', e2', rv2'⟩ := lst_inv (hh _ (m2 _ _))
    cases sql_eq e1 e1'; cases sql_eq e2 e2'
    obtain ⟨d, g1, g2⟩ := rv1'.get h1
    obtain ⟨e, g3, g4⟩ := rv2'.get h2
    exact ⟨.tup [d, e], by rw [zip_get, g1, g3], rv_pair hT g2 g4⟩
theorem wk_zipT {ds es : List D} {a b : Addr} (hK : K = G.K) : WkD G [(.tup ds, .ref a), (.tup es, .ref b)] (RZ.ItzT K a b) (zipD ds es) := by
  subst hK
  have m1 : ∀ p q : D × V, p ∈ [p, q] := fun p q => List.mem_cons_self
  have m2 : ∀ p q : D × V, q ∈ [p, q] := fun p q => by simp
  refine ⟨fun H => ∃ N, Rv G N H (.tup ds) (.ref a) ∧ Rv G N H (.tup es) (.ref b), fun N H h => ⟨N, h _ (m1 _ _), h _ (m2 _ _)⟩, fun i H hi ⟨N, r1, r2⟩ => ?_, fun H ⟨N, r1, r2⟩ => ?_, fun i H x H' hi ⟨N, r1, r2⟩ y => ?_⟩
  · obtain ⟨vs, e1, rv1⟩ := tup_inv r1
    obtain ⟨ws, e2, rv2⟩ := tup_inv r2
    rw [zip_len] at hi
    have l1 := rv1.length; have l2 := rv2.length
    exact ⟨vs, ws, vs[i]'(by omega), ws[i]'(by omega), e1, e2, List.getElem?_eq_getElem _, List.getElem?_eq_getElem _⟩
  · obtain ⟨vs, e1, rv1⟩ := tup_inv r1
    obtain ⟨ws, e2, rv2⟩ := tup_inv r2
    have l1 := rv1.length; have l2 := rv2.length
    exact ⟨vs, ws, e1, e2, by rw [zip_len]; omega⟩
  · obtain ⟨T, x', y', rfl, hT, rfl, h1, h2⟩ := y
    refine ⟨same_fresh hT _, fun N' _ hh => ?_⟩
    obtain ⟨vs', e1', rv1'⟩ := tup_inv (hh _ (m1 _ _))
    obtain ⟨ws', e2', rv2'⟩ := tup_inv (hh _ (m2 _ _))
    obtain ⟨d, g1, g2⟩ := rv1'.get (h1 vs' e1')
    obtain ⟨e, g3, g4⟩ := rv2'.get (h2 ws' e2')
    exact ⟨.tup [d, e], by rw [zip_get, g1, g3], rv_pair hT g2 g4⟩
theorem wk_enumL {ds : List D} {a : Addr} : WkD G [(.lst ds, .ref a)] (Ite K a) (enumFrom 0 ds) := by
  have we := fun (xs : List V) => walk_enum (K := K) (a := a) (xs := xs)
  refine ⟨fun H => ∃ N, Rv G N H (.lst ds) (.ref a), fun N H h => ⟨N, h _ List.mem_cons_self⟩, fun i H hi ⟨N, r⟩ => ?_, fun H ⟨N, r⟩ => ?_, fun i H x H' hi ⟨N, r⟩ y => ?_⟩
  · obtain ⟨vs, e, rv⟩ := lst_inv r
    rw [enum_len] at hi
    exact (we vs).goes i H (by rw [← rv.length]; exact hi) (SqL.of e)
  · obtain ⟨vs, e, rv⟩ := lst_inv r
    have := (we vs).stops H (SqL.of e)
    rw [← rv.length] at this
    rw [enum_len]; exact this
  · obtain ⟨vs, e, rv⟩ := lst_inv r
    rw [enum_len] at hi
    obtain ⟨T, x', y', rfl, hT, rfl, h1, h2⟩ := (we vs).yields i H x H' (by rw [← rv.length]; exact hi) (SqL.of e) y
    cases h1
    refine ⟨same_fresh hT _, fun N' _ hh => ?_⟩
    obtain ⟨vs', e1', rv1'⟩ := lst_inv (hh _ List.mem_cons_self)
    cases sql_eq e e1'
    obtain ⟨d, g1, g2⟩ := rv1'.get h2
    exact ⟨.tup [.int (i : Nat), d], by rw [enum_get, g1]; simp, rv_pair hT (.int _) g2⟩
end
section
variable {G : Glue} {W : WX} {X : Cx} {a b tg : Expr} {da db : Ev} {pos p tpos : Pos} {elts : List Expr} {kk : Nat}
theorem SqT.le {K : PySem.W.Frag} {H : Hp} {a : Addr} {xs : List V} (z : HSz H) (h : SqT K H a xs) : xs.length ≤ sizeLine := by
  rcases h with h | ⟨o, its, n, _, _, _, hl, hv⟩
  · exact z a xs (.inr h)
  · rw [hv.length]; simpa using hl
theorem lst_le {H : Hp} {a : Addr} {xs : List V} (z : HSz H) (h : H a = some (.lst xs)) : xs.length ≤ sizeLine := z a xs (.inl (.inl h))
theorem PI.imp {iter : Expr} {t t' : TI} (h : PI X tg iter t) (f : ∀ σ H Q, t' σ H Q → t σ H Q) : PI X tg iter t' := ⟨fun pins s σ H Q I q => h.run pins s σ H Q I (f σ H Q q)⟩
theorem fi_lst (ha : FE G W X a da) : FI G W X tg a (iLst da) := fun T => PI.imp (pi_list (ha T)) fun σ H R h hz => by
  obtain ⟨A, sl, s, p⟩ := h hz
  refine ⟨A, sl, s, PostG.bind p fun x sl1 v H1 _ s1 k1 r1 p1 => ?_⟩
  match x, r1, p1 with
  | .v (.lst ds), r1, p1 =>
    cases r1 with
    | lst h1 h2 h3 =>
      refine ⟨_, rfl, ⟨_, SqL.of h1⟩, p1 (Itl X.K _, [(.lst ds, .ref _)]) H1 s1 .refl ⟨wk_list, fun p hp => ?_, by rw [h3.length]; exact lst_le s1.sz h1⟩⟩
      rw [List.mem_singleton.mp hp]; exact .lst h1 h2 h3
theorem fi_tp (ha : FE G W X a da) (hK : X.K = G.K := by rfl) : FI G W X tg a (iTp da) := fun T => PI.imp (pi_tup (ha T)) fun σ H R h hz => by
  obtain ⟨A, sl, s, p⟩ := h hz
  refine ⟨A, sl, s, PostG.bind p fun x sl1 v H1 _ s1 k1 r1 p1 => ?_⟩
  match x, r1, p1 with
  | .v (.tup ds), r1, p1 =>
    cases r1 with
    | tup h1 h2 =>
      refine ⟨_, rfl, ⟨_, hK ▸ h1⟩, p1 (Itt X.K _, [(.tup ds, .ref _)]) H1 s1 .refl ⟨wk_tup hK, fun p hp => ?_, by rw [h2.length]; exact SqT.le s1.sz h1⟩⟩
      rw [List.mem_singleton.mp hp]; exact .tup h1 h2
theorem fi_range1 (ha : FE G W X a da) (hm : X.mg "range" = none) (hg : Gl X "range" := by rfl) (hs : starEach [a] X.env = [(false, eval a X.env)] := by rfl) : FI G W X tg (.Call (.Name "range" p) [a] [] pos) (iRange1 da) := fun T => PI.imp (pi_rangeA1 hg hm (pa_cons (ha T) pa_nil hs) hs) fun σ H R h hz => by
  obtain ⟨A, sl, s, q⟩ := h hz
  refine ⟨A, sl, s, PostG.bind q fun x sl1 v H1 _ s1 k1 r1 p1 => ?_⟩
  split at p1
  · rename_i n e
    split at p1
    · rename_i hf
      cases (Rl.of s1 r1 e).int
      refine ⟨n, rfl, ?_⟩
      have w : WkD G [] (Itr 0 n.toNat) (rgD 0 n) := by
        have := wk_range (G := G) (a := 0) (b := n)
        rw [Int.sub_zero] at this; exact this
      exact p1 (Itr 0 n.toNat, []) H1 s1 .refl ⟨w, (fun _ h => by cases h), by rw [rg_len]; exact fits_le (by unfold rgOk at hf; rw [Int.sub_zero] at hf ⊢; exact hf)⟩
    · exact p1.elim
  · exact p1.elim
theorem fi_range2 (ha : FE G W X a da) (hb : FE G W X b db) (hm : X.mg "range" = none) (hg : Gl X "range" := by rfl) (hs : starEach [a, b] X.env = [(false, eval a X.env), (false, eval b X.env)] := by rfl) (hs2 : starEach [b] X.env = [(false, eval b X.env)] := by rfl) :
    FI G W X tg (.Call (.Name "range" p) [a, b] [] pos) (iRange2 da db) := fun T => PI.imp (pi_rangeA2 hg hm (pa_cons (ha T) (pa_cons (hb T) pa_nil hs2) (by rw [hs, hs2])) hs hs2) fun σ H R h hz => by
  obtain ⟨A, sl, s, q⟩ := h hz
  refine ⟨A, sl, s, PostG.bind q fun x sl1 v H1 _ s1 k1 r1 p1 _ => ⟨A, sl1, s1, PostG.bind p1 fun y sl2 u H2 _ s2 k2 r2 p2 => ?_⟩⟩
  split at p2
  · rename_i i j e1 e2
    split at p2
    · rename_i hf
      cases (Rl.of s2 (Rs.keep k2 r1) e1).int
      cases (Rl.of s2 r2 e2).int
      exact ⟨i, j, rfl, p2 (Itr i (j - i).toNat, []) H2 s2 .refl ⟨wk_range, (fun _ h => by cases h), by rw [rg_len]; exact fits_le hf⟩⟩
    · exact p2.elim
  · exact p2.elim
theorem fi_zip (ha : FE G W X a da) (hb : FE G W X b db) (hm : X.mg "zip" = none) (hK : X.K = G.K := by rfl) (hg : Gl X "zip" := by rfl) (hs : starEach [a, b] X.env = (false, eval a X.env) :: starEach [b] X.env := by rfl) (hs2 : starEach [b] X.env = (false, eval b X.env) :: starEach [] X.env := by rfl)
    (hpl : (backTo pos (starEach [b] X.env)).any (·.1) = false := by rfl) : FI G W X (.Tuple elts kk tpos) (.Call (.Name "zip" p) [a, b] [] pos) (iZip da db) := fun T => PI.imp (RZ.pi_zipA hg hm (pa_cons (ha T) (pa_cons (hb T) pa_nil hs2) hs) hs hpl) fun σ H R h hz => by
  obtain ⟨A, sl, s, q⟩ := h hz
  refine ⟨A, sl, s, PostG.bind q fun x sl1 v H1 _ s1 k1 r1 p1 _ => ⟨A, sl1, s1, PostG.bind p1 fun y sl2 u H2 _ s2 k2 r2 p2 => ?_⟩⟩
  have r1' := Rs.keep k2 r1
  have mem2 : ∀ {P : D × V → Prop} {p q : D × V}, P p → P q → ∀ r ∈ [p, q], P r := fun h1 h2 r hr => by
    rcases List.mem_cons.mp hr with rfl | hr
    · exact h1
    · rw [List.mem_singleton.mp hr]; exact h2
  match x, y, r1', r2, p2 with
  | .v (.lst xs), .v (.lst ys), r1', r2, p2 =>
    cases r1' with
    | lst h1 h2 h3 =>
      cases r2 with
      | lst g1 g2 g3 =>
        exact ⟨_, _, _, _, rfl, .inl ⟨SqL.of h1, SqL.of g1, p2 (Itz X.K _ _, [(.lst xs, .ref _), (.lst ys, .ref _)]) H2 s2 .refl ⟨wk_zipL, mem2 (Rv.lst h1 h2 h3) (Rv.lst g1 g2 g3), by rw [zip_len, h3.length]; exact Nat.le_trans (Nat.min_le_left _ _) (lst_le s2.sz h1)⟩⟩⟩
  | .v (.tup xs), .v (.tup ys), r1', r2, p2 =>
    cases r1' with
    | tup h1 h2 =>
      cases r2 with
      | tup g1 g2 =>
        exact ⟨_, _, _, _, rfl, .inr ⟨hK ▸ h1, hK ▸ g1, p2 (RZ.ItzT X.K _ _, [(.tup xs, .ref _), (.tup ys, .ref _)]) H2 s2 .refl ⟨wk_zipT hK, mem2 (Rv.tup h1 h2) (Rv.tup g1 g2), by rw [zip_len, h2.length]; exact Nat.le_trans (Nat.min_le_left _ _) (SqT.le s2.sz h1)⟩⟩⟩
theorem fi_enumL (ha : FE G W X a da) (hm : X.mg "enumerate" = none) (hg : Gl X "enumerate" := by rfl) (hs : starEach [a] X.env = [(false, eval a X.env)] := by rfl) : FI G W X (.Tuple elts kk tpos) (.Call (.Name "enumerate" p) [a] [] pos) (iEnumL da) := fun T => PI.imp (pi_enum hg hm (pa_cons (ha T) pa_nil hs) hs) fun σ H R h hz => by
  obtain ⟨A, sl, s, q⟩ := h hz
  refine ⟨A, sl, s, PostG.bind q fun x sl1 v H1 _ s1 k1 r1 p1 => ?_⟩
  match x, r1, p1 with
  | .v (.lst ds), r1, p1 =>
    cases r1 with
    | lst h1 h2 h3 =>
      refine ⟨_, _, rfl, SqL.of h1, p1 (Ite X.K _, [(.lst ds, .ref _)]) H1 s1 .refl ⟨wk_enumL, fun p hp => ?_, by rw [enum_len, h3.length]; exact lst_le s1.sz h1⟩⟩
      rw [List.mem_singleton.mp hp]; exact .lst h1 h2 h3
end

/-! ### for, while -/
def Fl.step (f : Fl) (k : Sl → Fl) : Fl := match f with
  | .nx sl => k sl
  | .ct sl => k sl
  | .bk sl => .nx sl
  | f => f
def forL (t : Tg) (m : Sm) : List D → Sl → Fl
  | [], sl => .nx sl
  | d :: ds, sl => match bindT t d sl with
    | some sl1 => (m sl1).step (forL t m ds)
    | none => .bad
def mFor (t : Tg) (it : Lv) (m : Sm) : Sm := fun sl => (it sl).to fun ds sl1 => forL t m ds sl1
def whileL (c : Ev) (m : Sm) : Nat → Sl → Fl
  | 0, _ => .bad
  | n + 1, sl => (dB c sl).to fun k sl1 => if k = true then (m sl1).step (whileL c m n) else .nx sl1
def mWhile (n : Nat) (c : Ev) (m : Sm) : Sm := whileL c m n
section
variable {G : Glue} {W : WX} {X : Cx} {c tg iter : Expr} {body : List Stmt} {t : Tg} {it : Lv} {m : Sm} {dc : Ev} {pos : Pos} {T T' : Act} {A : Nat → Option Addr} {sl : Sl} {σ : St} {H : Hp}
theorem step_post {D : Ends} {f : Fl} {k : Sl → Fl} {N : St → Hp → Prop} (h0 : T'.N0 = T.N0) (h1 : T'.H0 = T.H0) (h2 : T'.io = T.io) (h3 : ∀ p ∈ T.hd, p ∈ T'.hd) (h : SPost G W T D (f.step k))
    (hN : ∀ A sl σ H, Sr G T' A sl σ H → SPost G W T D (k sl) → N σ H) : SPost G W T' { D with nx := N, ct := N, bk := D.nx } f := by
  cases f with
  | nx sl => exact fun A σ H s => hN A sl σ H s h
  | rt x sl => exact fun A σ H v s r => h A σ H v (s.unhold h0 h1 h2 h3) (by
      obtain ⟨N0, H0, io, hd⟩ := T; obtain ⟨N0', H0', io', hd'⟩ := T'; cases h0; cases h1; cases h2; exact r)
  | bk sl => exact fun A σ H s => h A σ H (s.unhold h0 h1 h2 h3)
  | ct sl => exact fun A σ H s => hN A sl σ H s h
  | ex e sl => exact fun A σ H c od x s => h A σ H c od (by rw [← h0]; exact x) (s.unhold h0 h1 h2 h3)
  | bad => exact h
theorem SPost.unplus {D : Ends} {f : Fl} (h : SPost G W T D f) : SPost G W T (plusE D) f := SPost.plus h
theorem Sr.holds (r : Sr G T A sl σ H) : ∀ {hv : List (D × V)}, (∀ p ∈ hv, Rv G (T.N A) H p.1 p.2) → Sr G { T with hd := hv ++ T.hd } A sl σ H := fun {hv} h =>
  ⟨r.val, r.mu, r.len, r.inj, r.own, r.alive, r.kept, r.trk, r.iot, fun p hp => by
    rcases List.mem_append.mp hp with hp | hp
    · exact h p hp
    · exact r.held p hp, r.sz⟩
theorem PE.any {e : Expr} {f : Act → TE} (h : ∀ T, PE X e (f T)) : PE X e fun σ H Q => ∃ T, f T σ H Q := ⟨fun pins s σ H Q I ⟨T, q⟩ => (h T).run pins s σ H Q I q⟩
theorem PT.any {e : Expr} {f : Act → TT} (h : ∀ T, PT X e (f T)) : PT X e fun σ H Q => ∃ T, f T σ H Q := ⟨fun pins s σ H Q I ⟨T, q⟩ => (h T).run pins s σ H Q I q⟩
theorem PSs.any {e : List Stmt} {f : Act → TS} (h : ∀ T, PSs X e (f T)) : PSs X e fun D σ H => ∃ T, f T D σ H := ⟨fun pins s σ H D I ⟨T, q⟩ => (h T).run pins s σ H D I q⟩
theorem PG.any {e : Expr} {f : Act → TG} (h : ∀ T, PG X e (f T)) : PG X e fun v σ H Q => ∃ T, f T v σ H Q := ⟨fun pins s σ H v u Q I r ⟨T, q⟩ => (h T).run pins s σ H v u Q I r q⟩
theorem PI.any {e : Expr} {f : Act → TI} (h : ∀ T, PI X tg e (f T)) : PI X tg e fun σ H Q => ∃ T, f T σ H Q := ⟨fun pins s σ H R I ⟨T, q⟩ => (h T).run pins s σ H R I q⟩
theorem fs_for (hp : PassesOwn (model X.prog X.w) X.A X.env X.xe) (hi : FI G W X tg iter it) (hg : FG G X tg t) (hb : FSs G W X body m) (hc : X.calm = true := by rfl) (hs : ∀ x, foldedSetIterable iter X.env x = pure x := by intro _; rfl) : FS G W X (.For tg iter body [] pos) (mFor t it m) := fun T => by
  refine PS.plus (ps_for hp hc (hi T) (PG.any hg) (PSs.any hb) hs) fun D σ H z h hz => ?_
  obtain ⟨A, sl, s, p⟩ := h hz
  refine ⟨A, sl, s, to_post p fun ds sl1 q H1 _ s1 k1 r1 p1 => ?_⟩
  obtain ⟨J, hv⟩ := q
  obtain ⟨⟨Gd, hG, wk⟩, hh, _⟩ := r1
  dsimp only at hG wk hh p1
  refine for_it (g := fun v σ H Q => ∃ T, tTg G T t v σ H Q) (tb := fun D σ H => ∃ T, tSm G W T m D σ H) (D := plusE D) wk (fun i σ H => ∃ A sl, Sr G { T with hd := hv ++ T.hd } A sl σ H ∧ SPost G W T (plusE D) (forL t m (ds.drop i) sl)) ⟨A, sl1, s1.holds hh, by rw [List.drop_zero]; exact SPost.plus p1⟩ (fun i σ H _ ⟨A, sl, s, _⟩ => hG (T.N A) H fun p hp => s.held p (List.mem_append_left _ hp)) (fun i x σ H H' hi ⟨A, sl, s, p⟩ y => ?_) fun σ H ⟨A, sl, s, p⟩ => ?_
  · obtain ⟨sm, y⟩ := y
    obtain ⟨d, hd, rd⟩ := y (T.N A) (fun p h => s.fresh h) fun p hp => s.held p (List.mem_append_left _ hp)
    have e : ds.drop i = d :: ds.drop (i + 1) := by
      obtain ⟨hl, e⟩ := List.getElem?_eq_some_iff.mp hd
      rw [List.drop_eq_getElem_cons hl, e]
    rw [e] at p
    unfold forL at p
    split at p
    · rename_i sl2 hb2
      refine ⟨{ T with hd := hv ++ T.hd }, fun hz' => ⟨A, sl, d, sl2, s.grown sm hz', rd, hb2, fun σ' _ s' => ⟨{ T with hd := hv ++ T.hd }, fun _ => ⟨A, sl2, s', ?_⟩⟩⟩⟩
      exact step_post (T := T) (T' := { T with hd := hv ++ T.hd }) (D := plusE D) rfl rfl rfl (fun p hp => List.mem_append_right _ hp) p fun A sl σ H s p => ⟨A, sl, s, p⟩
    · exact p.elim
  · rw [List.drop_length] at p
    exact fun hz => p A σ H (Sr.unhold (T := T) (T' := { T with hd := hv ++ T.hd }) rfl rfl rfl (fun p hp => List.mem_append_right _ hp) s) hz
theorem fs_while {n : Nat} (hp : PassesOwn (model X.prog X.w) X.A X.env X.xe) (hcd : FB G W X c dc) (hb : FSs G W X body m) : FS G W X (.While c body [] pos) (mWhile n dc m) := fun T => by
  refine PS.plus (ps_while hp (hcd T) (hb T)) fun D σ H z h => ?_
  obtain ⟨A, sl, s, p⟩ := h z
  refine ⟨fun k σ H => ∃ A sl, Sr G T A sl σ H ∧ SPost G W T (plusE D) (whileL dc m k sl), ⟨n, A, sl, s, SPost.plus p⟩, ?_⟩
  intro k σ H ⟨A, sl, s, p⟩
  cases k with
  | zero => exact p.elim
  | succ k =>
    unfold whileL at p
    refine fun hz => ⟨A, sl, s, to_post p fun b sl1 v H1 _ s1 k1 r1 p1 => ?_⟩
    cases r1
    cases b with
    | false => exact fun hz => p1 A σ H1 s1 hz
    | true =>
      refine ⟨fun σ' H' => ∃ A sl, Sr G T A sl σ' H' ∧ SPost G W T (plusE D) (whileL dc m k sl), fun σ' H' w => ⟨k, Nat.lt_succ_self k, w⟩, fun _ => ⟨A, sl1, s1, ?_⟩⟩
      exact step_post (D := plusE D) rfl rfl rfl (fun p hp => hp) p1 fun A sl σ H s p => ⟨A, sl, s, p⟩
end
end F

set_option Elab.async false
set_option linter.all false
set_option maxRecDepth 100000
set_option maxHeartbeats 4000000
namespace F
open PySem PySem.Spec PyProof.Rows L2

/-! ### list comprehensions -/
def wipeD (sl : Sl) : List Nat → Sl
  | [] => sl
  | v :: vs => (wipeD sl vs).set v none
def merge (sl1 slw : Sl) : List Nat → Sl
  | [] => slw
  | v :: vs => (merge sl1 slw vs).set v (sl1.getD v none)
def noOwn (sl : Sl) (vs : List Nat) : Bool := vs.all fun v => !isM sl v
/-- the turns of a comprehension: what is made, the slots behind it -/
def lcL (vs : List Nat) (t : Tg) (c : Sl → R Bool) (e : Ev) : List D → Sl → Option (List D × Sl)
  | [], sl => some ([], sl)
  | d :: ds, sl => match bindT t d (wipeD sl vs) with
    | none => none
    | some sl1 => match c sl1 with
      | .ok true sl2 => match e sl2 with
        | .ok (.v x) sl3 => match lcL vs t c e ds sl3 with
          | some (ys, sl4) => some (x :: ys, sl4)
          | none => none
        | _ => none
      | .ok false sl2 => lcL vs t c e ds sl2
      | _ => none
def dLc (vs : List Nat) (t : Tg) (c : Sl → R Bool) (e : Ev) (it : Lv) : Lv := fun sl => (it sl).bind fun ds sl1 => if noOwn sl1 vs then match lcL vs t c e ds sl1 with
  | some (ys, slw) => .ok ys (merge sl1 slw vs)
  | none => .bad
  else .bad
def cYes : Sl → R Bool := fun sl => .ok true sl

theorem wipeD_len (sl : Sl) : ∀ vs, (wipeD sl vs).length = sl.length
  | [] => rfl
  | v :: vs => by simp [wipeD, wipeD_len sl vs]
theorem wipeD_get {sl : Sl} {i : Nat} : ∀ {vs : List Nat}, (wipeD sl vs)[i]? = if i ∈ vs then (if i < sl.length then some none else none) else sl[i]?
  | [] => by simp [wipeD]
  | v :: vs => by
    simp only [wipeD, List.getElem?_set, wipeD_len]
    by_cases h : v = i
    · subst h; simp
    · rw [if_neg h, wipeD_get]
      simp only [List.mem_cons, Ne.symm h, false_or]
theorem wipe_get {σ : St} {i : Nat} : ∀ {vs : List Nat}, (wipe σ vs)[i]? = if i ∈ vs then (if i < σ.length then some none else none) else σ[i]?
  | [] => by simp [wipe]
  | v :: vs => by
    simp only [wipe, List.getElem?_set, wipe_length]
    by_cases h : v = i
    · subst h; simp
    · rw [if_neg h, wipe_get]
      simp only [List.mem_cons, Ne.symm h, false_or]
theorem merge_len (sl1 slw : Sl) : ∀ vs, (merge sl1 slw vs).length = slw.length
  | [] => rfl
  | v :: vs => by simp [merge, merge_len sl1 slw vs]
theorem merge_get {sl1 slw : Sl} (hl : sl1.length = slw.length) {i : Nat} : ∀ {vs : List Nat}, (merge sl1 slw vs)[i]? = if i ∈ vs then sl1[i]? else slw[i]?
  | [] => by simp [merge]
  | v :: vs => by
    simp only [merge, List.getElem?_set, merge_len]
    by_cases h : v = i
    · subst h
      simp only [if_true, List.mem_cons, true_or]
      by_cases q : v < slw.length
      · rw [if_pos q]
        rw [List.getD_eq_getElem?_getD]
        rw [List.getElem?_eq_getElem (by rw [hl]; exact q)]; rfl
      · rw [if_neg q, List.getElem?_eq_none (by rw [hl]; exact Nat.le_of_not_lt q)]
    · rw [if_neg h, merge_get hl]
      simp only [List.mem_cons, Ne.symm h, false_or]
theorem wipe_alike {σ σ' : St} {ns vs : List Nat} (h : Alike ns σ σ') (hs : ∀ n ∈ ns, n ∈ vs) : wipe σ' vs = wipe σ vs := by
  apply List.ext_getElem?
  intro i
  rw [wipe_get, wipe_get, h.1]
  by_cases q : i ∈ vs
  · rw [if_pos q, if_pos q]
  · rw [if_neg q, if_neg q, h.2 i fun z => q (hs i z)]
theorem wipe_wipe {σ : St} {vs : List Nat} : wipe (wipe σ vs) vs = wipe σ vs := by
  apply List.ext_getElem?
  intro i
  rw [wipe_get, wipe_get, wipe_length]
  by_cases q : i ∈ vs
  · rw [if_pos q, if_pos q]
  · rw [if_neg q, if_neg q]

section
variable {G : Glue} {W : WX} {X : Cx} {T T' : Act} {A : Nat → Option Addr} {sl : Sl} {σ : St} {H H1 : Hp} {Dd : Addr}
/-- names forgotten -/
theorem Sr.wiped (r : Sr G T A sl σ H) (vs : List Nat) : Sr G T A (wipeD sl vs) (wipe σ vs) H := by
  refine ⟨fun i d e => ?_, fun i xs e => ?_, by rw [wipeD_len, wipe_length]; exact r.len, r.inj, r.own, r.alive, r.kept, r.trk, r.iot, r.held, r.sz⟩
  · rw [wipeD_get] at e
    split at e
    · split at e <;> cases e
    · rename_i h
      obtain ⟨v, e1, e2⟩ := r.val i d e
      exact ⟨v, by rw [wipe_get, if_neg h]; exact e1, e2⟩
  · rw [wipeD_get] at e
    split at e
    · split at e <;> cases e
    · rename_i h
      obtain ⟨a, vs', e1, e2, e3, e4⟩ := r.mu i xs e
      exact ⟨a, vs', e1, by rw [wipe_get, if_neg h]; exact e2, e3, e4⟩
/-- .. with a place that is another's -/
abbrev Act.away (T : Act) (p : Addr) : Act := { T with N0 := fun a => T.N0 a ∨ a = p }
theorem HSz.upd {vs : List V} (h : HSz H) (hl : vs.length ≤ sizeLine) : HSz (upd H Dd (.lst vs)) := fun a xs e => by
  by_cases z : a = Dd
  · subst z
    unfold Rd at e
    rw [upd_same] at e
    rcases e with (e | ⟨o, e⟩) | (e | ⟨o, e⟩) <;> cases e
    exact hl
  · refine h a xs ?_
    unfold Rd at e ⊢
    rw [upd_ne z] at e
    exact e
/-- a new list at Dd that the slots do not see -/
theorem Sr.block (r : Sr G T A sl σ H) (hD : H Dd = none) {vs : List V} (hl : vs.length ≤ sizeLine) : Sr G (T.away Dd) A sl σ (L2.upd H Dd (.lst vs)) := by
  have sm : Same H (L2.upd H Dd (.lst vs)) := same_fresh hD _
  have g := r.grown sm (HSz.upd (Dd := Dd) r.sz hl)
  have up : ∀ {d : D} {v : V}, Rv G (T.N A) H d v → Rv G ((T.away Dd).N A) (L2.upd H Dd (.lst vs)) d v := fun h => by
    refine Rv.keep (O := fun _ => False) (.same sm) (fun _ z => z.elim) (h.anti' fun a o e z => ?_)
    rcases z with (z | z) | z
    · exact .inl z
    · subst z; rw [hD] at e; cases e
    · exact .inr z
  have ups : ∀ {d : List D} {v : List V}, Rvs G (T.N A) H d v → Rvs G ((T.away Dd).N A) (L2.upd H Dd (.lst vs)) d v := fun h => by
    refine Rvs.keep (O := fun _ => False) (.same sm) (fun _ z => z.elim) (h.anti' fun a o e z => ?_)
    rcases z with (z | z) | z
    · exact .inl z
    · subst z; rw [hD] at e; cases e
    · exact .inr z
  refine ⟨fun i d e => ?_, fun i xs e => ?_, r.len, r.inj, fun i a e => ?_, g.alive, g.kept, fun b h => ?_, r.iot, fun p hp => up (r.held p hp), g.sz⟩
  · obtain ⟨v, e1, e2⟩ := r.val i d e; exact ⟨v, e1, up e2⟩
  · obtain ⟨a, vs', e1, e2, e3, e4⟩ := r.mu i xs e; exact ⟨a, vs', e1, e2, sm _ _ e3, ups e4⟩
  · have ne : a ≠ Dd := fun z => by subst z; exact r.fresh hD (.inr ⟨i, e⟩)
    rcases r.own i a e with ⟨h1, h2, h3⟩ | ⟨h1, h2, h3⟩
    · exact .inl ⟨h1, fun z => z.elim h2 ne, h3⟩
    · exact .inr ⟨h1, h2, .inl h3⟩
  · rcases h with h | h
    · exact g.trk b h
    · exact ⟨_, by rw [h]; exact upd_same⟩
/-- the list at Dd is written -/
theorem Sr.grow (r : Sr G T A sl σ H) (hN : T.N0 Dd) (hO : ¬ Own A Dd) (h0 : T.H0 Dd = none) {us vs : List V} (hD : H Dd = some (.lst us)) (hl : vs.length ≤ sizeLine) : Sr G T A sl σ (L2.upd H Dd (.lst vs)) := by
  have k : Keep (fun a => a = Dd) H (L2.upd H Dd (.lst vs)) := Keep.upd hD (fun z => z) rfl
  have hN' : ∀ a, a = Dd → T.N A a := fun a z => by rw [z]; exact .inl hN
  refine ⟨fun i d e => ?_, fun i xs e => ?_, r.len, r.inj, r.own, fun i a e => ?_, fun b o e n => ?_, fun b h => ?_, r.iot, fun p hp => Rv.keep k hN' (r.held p hp), HSz.upd (Dd := Dd) r.sz hl⟩
  · obtain ⟨v, e1, e2⟩ := r.val i d e; exact ⟨v, e1, Rv.keep k hN' e2⟩
  · obtain ⟨a, vs', e1, e2, e3, e4⟩ := r.mu i xs e
    exact ⟨a, vs', e1, e2, by rw [upd_ne fun z => hO ⟨i, by rw [← z]; exact e1⟩]; exact e3, Rvs.keep k hN' e4⟩
  · obtain ⟨xs, q⟩ := r.alive i a e
    exact ⟨xs, by rw [upd_ne fun z => hO ⟨i, by rw [← z]; exact e⟩]; exact q⟩
  · rw [upd_ne fun z => by rw [z, h0] at e; cases e]; exact r.kept b o e n
  · by_cases z : b = Dd
    · exact ⟨_, by rw [z]; exact upd_same⟩
    · obtain ⟨o, q⟩ := r.trk b h; exact ⟨o, by rw [upd_ne z]; exact q⟩
theorem SqT.del {K : PySem.W.Frag} {a : Addr} {xs us : List V} (hD : H Dd = some (.lst us)) (h : SqT K H a xs) : SqT K (L2.del H Dd) a xs := by
  have ne : ∀ {o : HO}, H a = some o → (∀ us, o ≠ .lst us) → L2.del H Dd a = some o := fun {o} e n => by
    rw [L2.del_ne fun z => by rw [z, hD] at e; exact n _ (Option.some.inj e).symm]; exact e
  rcases h with (h | ⟨o, h⟩) | h
  · exact .inl (.inl (ne h fun _ z => nomatch z))
  · exact .inl (.inr ⟨o, ne h fun _ z => nomatch z⟩)
  · exact .inr h
theorem Rv.del {N N' : Addr → Prop} {us : List V} (hD : H Dd = some (.lst us)) (hN : N Dd) (hNN : ∀ a, N' a → N a) : ∀ {d : D} {v : V}, Rv G N H d v → Rv G N' (L2.del H Dd) d v := by
  intro d v h
  refine Rv.rec (G := G) (N := N) (H := H) (motive_1 := fun d v _ => Rv G N' (L2.del H Dd) d v) (motive_2 := fun ds vs _ => Rvs G N' (L2.del H Dd) ds vs) .non .bl .int .str ?_ ?_ ?_ .nil ?_ h
  · intro a vs ds hs _ ih; exact .tup (SqT.del hD hs) ih
  · intro a vs ds hs n _ ih
    exact .lst (by rw [L2.del_ne fun z => n (by rw [z]; exact hN)]; exact hs) (fun z => n (hNN a z)) ih
  · intro a vs ds hs _ ih
    rcases hs with ⟨o, hs⟩ | hs
    · exact .scr (.inl ⟨o, by rw [L2.del_ne fun z => by rw [z, hD] at hs; cases hs]; exact hs⟩) ih
    · exact .scr (.inr hs) ih
  · intro d v ds vs _ _ h1 h2; exact .cons h1 h2
theorem Rvs.del {N N' : Addr → Prop} {us : List V} (hD : H Dd = some (.lst us)) (hN : N Dd) (hNN : ∀ a, N' a → N a) : ∀ {d : List D} {v : List V}, Rvs G N H d v → Rvs G N' (L2.del H Dd) d v
  | [], _, h => by cases h; exact .nil
  | d :: ds, _, h => by
    cases h with
    | cons h1 h2 => exact .cons (Rv.del hD hN hNN h1) (Rvs.del hD hN hNN h2)
theorem isM_no {sl : Sl} {vs : List Nat} (h : noOwn sl vs = true) {i : Nat} (hi : i ∈ vs) {xs : List D} : sl[i]? ≠ some (some (Sv.m xs)) := fun e => by
  have := List.all_eq_true.mp h i hi
  simp [isM, e] at this
/-- behind the block -/
theorem Sr.unblock {sl1 slc : Sl} {vs : List Nat} {us : List V} (r1 : Sr G T A sl1 σ H1) (h0 : T'.N0 = (T.away Dd).N0) (hH : T'.H0 = T.H0) (hio : T'.io = T.io) (rw' : Sr G T' A (wipeD slc vs) (wipe σ vs) H) (k : Keep (Own A) H1 H) (h1 : H1 Dd = none) (hD : H Dd = some (.lst us)) (no : noOwn sl1 vs = true) :
    Sr G T A (merge sl1 slc vs) σ (L2.del H Dd) ∧ Keep (Own A) H1 (L2.del H Dd) := by
  have k' : Keep (Own A) H1 (L2.del H Dd) := fun a o e f => by rw [L2.del_ne fun z => by rw [z, h1] at e; cases e]; exact k a o e f
  have hl : sl1.length = slc.length := by
    have := rw'.len
    rw [wipeD_len, wipe_length] at this
    rw [this]; exact r1.len
  have nO : ¬ Own A Dd := fun ⟨i, e⟩ => r1.fresh h1 (.inr ⟨i, e⟩)
  have hNN : ∀ a, T.N A a → T'.N A a := fun a z => by
    rcases z with z | z
    · exact .inl (by rw [h0]; exact .inl z)
    · exact .inr z
  have hND : T'.N A Dd := .inl (by rw [h0]; exact .inr rfl)
  refine ⟨⟨fun i d e => ?_, fun i xs e => ?_, by rw [merge_len, ← hl]; exact r1.len, r1.inj, r1.own, fun i a e => ?_, fun b o e n => ?_, fun b h => ?_, r1.iot, fun p hp => Rv.keep k' (fun _ z => .inr z) (r1.held p hp), fun a xs e => ?_⟩, k'⟩
  · rw [merge_get hl] at e
    split at e
    · obtain ⟨v, e1, e2⟩ := r1.val i d e; exact ⟨v, e1, Rv.keep k' (fun _ z => .inr z) e2⟩
    · rename_i hi
      obtain ⟨v, e1, e2⟩ := rw'.val i d (by rw [wipeD_get, if_neg hi]; exact e)
      rw [wipe_get, if_neg hi] at e1
      exact ⟨v, e1, Rv.del hD hND hNN e2⟩
  · rw [merge_get hl] at e
    split at e
    · rename_i hi; exact absurd e (isM_no no hi)
    · rename_i hi
      obtain ⟨a, vs', e1, e2, e3, e4⟩ := rw'.mu i xs (by rw [wipeD_get, if_neg hi]; exact e)
      rw [wipe_get, if_neg hi] at e2
      exact ⟨a, vs', e1, e2, by rw [L2.del_ne fun z => nO ⟨i, by rw [← z]; exact e1⟩]; exact e3, Rvs.del hD hND hNN e4⟩
  · obtain ⟨xs, q⟩ := rw'.alive i a e
    exact ⟨xs, by rw [L2.del_ne fun z => nO ⟨i, by rw [← z]; exact e⟩]; exact q⟩
  · rw [L2.del_ne fun z => by rw [z, r1.fresh0 h1] at e; cases e]
    exact rw'.kept b o (by rw [hH]; exact e) (by rw [hio]; exact n)
  · obtain ⟨o, q⟩ := rw'.trk b (by rw [h0]; exact .inl h)
    exact ⟨o, by rw [L2.del_ne fun z => r1.fresh h1 (.inl (by rw [← z]; exact h))]; exact q⟩
  · refine rw'.sz a xs ?_
    have dn : ∀ {o : HO}, L2.del H Dd a = some o → H a = some o := fun {o} q => by
      by_cases z : a = Dd
      · rw [z, L2.del_same] at q; cases q
      · rw [L2.del_ne z] at q; exact q
    rcases e with (e | ⟨o, e⟩) | (e | ⟨o, e⟩)
    · exact .inl (.inl (dn e))
    · exact .inl (.inr ⟨o, dn e⟩)
    · exact .inr (.inl (dn e))
    · exact .inr (.inr ⟨o, dn e⟩)
end

abbrev noW : WX := fun _ _ _ _ => False
/-- a comprehension's test -/
def FTs (G : Glue) (X : Cx) (ifs : List Expr) (c : Sl → R Bool) : Prop := ∀ T, PTs X ifs fun σ H Q => HSz H → ∃ A sl, Sr G T A sl σ H ∧ PostB G noW T A σ H (c sl) Q
theorem fts_nil {G : Glue} {X : Cx} : FTs G X [] cYes := fun T => ⟨fun pins s σ H Q I q => by
  obtain ⟨A, sl, sr, p⟩ := q (Inv.hsz I)
  exact pts_nil.run pins s σ H Q I (p true H sr .refl rfl)⟩
theorem fts_one {G : Glue} {X : Cx} {c : Expr} {d : Ev} (h : FB G noW X c d) : FTs G X [c] (dB d) := fun T => pts_one (h T)
/-- one way through a list comprehension -/
theorem lc_read {G : Glue} {W : WX} {X : Cx} {tg iter elt : Expr} {T : Act} {t : Tg} {it : Lv} {c : Sl → R Bool} {e : Ev} {vs : List Nat} {σ : St} {H : Hp} {Q : VK} (hs : ∀ n ∈ t.slots, n ∈ vs)
    (h : tNew G W T (dLc vs t c e it) σ H Q) :
    tLc (tIt G W T it) (fun v σ H Q => ∃ T, tTg G T t v σ H Q) (fun σ H Q => ∃ T, HSz H → ∃ A sl, Sr G T A sl σ H ∧ PostB G noW T A σ H (c sl) Q) (fun σ H Q => ∃ T, tEv G noW T e σ H Q) vs σ H Q := fun hz => by
  obtain ⟨A, sl, s, p⟩ := h hz
  refine ⟨A, sl, s, PostG.bind p fun ds sl1 q H1 _ s1 k1 r1 p1 => ?_⟩
  obtain ⟨J, hv⟩ := q
  obtain ⟨⟨Gd, hG, wk⟩, hh, hle⟩ := r1
  dsimp only at hG wk hh p1
  split at p1
  · rename_i no
    split at p1
    · rename_i Y SLW hY
      intro Dd hD
      have sb := ((s1.holds hh).block hD (vs := []) (Nat.zero_le _)).wiped vs
      have nO : ¬ Own A Dd := fun ⟨i, z⟩ => s1.fresh hD (.inr ⟨i, z⟩)
      have h0D : T.H0 Dd = none := s1.fresh0 hD
      refine lc_it (g := fun v σ H Q => ∃ T, tTg G T t v σ H Q) (tt := fun σ H Q => ∃ T, HSz H → ∃ A sl, Sr G T A sl σ H ∧ PostB G noW T A σ H (c sl) Q) (te := fun σ H Q => ∃ T, tEv G noW T e σ H Q) (vs := vs) (σ := σ) (Qd := fun H => Q (.ref Dd) H) wk
        (fun i H => ∃ slc accD accV, Sr G (Act.away { T with hd := hv ++ T.hd } Dd) A (wipeD slc vs) (wipe σ vs) H ∧ H Dd = some (.lst accV) ∧ Rvs G ((Act.away { T with hd := hv ++ T.hd } Dd).N A) H accD accV ∧ accD.length ≤ i ∧ Keep (Own A) H1 H ∧
          ∃ ys, lcL vs t c e (ds.drop i) slc = some (ys, SLW) ∧ accD ++ ys = Y)
        ⟨sl1, [], [], sb, upd_same, .nil, Nat.le_refl _, .same (same_fresh hD _), Y, by rw [List.drop_zero]; exact hY, rfl⟩
        (fun i H _ ⟨slc, accD, accV, sr, _⟩ => hG _ H fun p hp => sr.held p (List.mem_append_left _ hp)) (fun i x H H' hi ⟨slc, accD, accV, sr, hDD, ra, hlen, kk, ys, hl, hY'⟩ y => ?_) fun H ⟨slc, accD, accV, sr, hDD, ra, hlen, kk, ys, hl, hY'⟩ => ?_
      · obtain ⟨sm, y⟩ := y
        obtain ⟨d, hd, rd⟩ := y _ (fun p h => sr.fresh h) fun p hp => sr.held p (List.mem_append_left _ hp)
        have ed : ds.drop i = d :: ds.drop (i + 1) := by
          obtain ⟨hl, e⟩ := List.getElem?_eq_some_iff.mp hd
          rw [List.drop_eq_getElem_cons hl, e]
        rw [ed] at hl
        unfold lcL at hl
        split at hl
        · cases hl
        · rename_i slb hb
          refine ⟨_, fun hz' => ⟨A, _, d, slb, sr.grown sm hz', rd, hb, fun σ2 al s2 => ?_⟩⟩
          have e2 : wipe σ2 vs = wipe σ vs := by rw [wipe_alike al hs, wipe_wipe]
          refine ⟨e2, _, fun hz2 => ⟨A, slb, s2, ?_⟩⟩
          have nxt : ∀ {slc' : Sl} {H3 : Hp}, Sr G (Act.away { T with hd := hv ++ T.hd } Dd) A slc' σ2 H3 → Sr G (Act.away { T with hd := hv ++ T.hd } Dd) A (wipeD slc' vs) (wipe σ vs) H3 := fun s3 => by
            have := s3.wiped vs
            rw [e2] at this; exact this
          have keepD : ∀ {H3 : Hp}, Keep (Own A) H' H3 → H3 Dd = some (.lst accV) := fun k => k _ _ (sm _ _ hDD) fun z => absurd z nO
          split at hl
          · rename_i sl2 hc
            rw [hc]
            intro b H3 s3 k3 eb
            subst eb
            rw [if_pos rfl]
            split at hl
            · rename_i x' sl3 he
              split at hl
              · rename_i ys' sl4 hrec
                cases hl
                refine ⟨_, fun hz3 => ⟨A, sl2, s3, ?_⟩⟩
                rw [he]
                intro v H4 s4 k4 r4
                have kt : Keep (Own A) H H4 := (Keep.same sm).trans (k3.trans k4)
                have hD4 : H4 Dd = some (.lst accV) := keepD (k3.trans k4)
                have lt : accD.length < sizeLine := by omega
                have ra4 := Rvs.keep kt (fun _ z => .inr z) ra
                have la := ra.length
                have kD : Keep (fun a => a = Dd) H4 (L2.upd H4 Dd (.lst (accV ++ [v]))) := Keep.upd hD4 (fun z => z) rfl
                refine ⟨accV, hD4, by omega, sl3, accD ++ [x'], accV ++ [v], (nxt s4).grow (.inr rfl) nO h0D hD4 (by rw [List.length_append]; show _ + 1 ≤ _; omega), upd_same, ?_, by rw [List.length_append]; show _ + 1 ≤ _; omega, ?_, ys', hrec, by rw [List.append_assoc]; exact hY'⟩
                · exact Rvs.keep kD (fun a z => .inl (.inr z)) (ra4.append (.cons r4 .nil))
                · intro b o e f
                  rw [upd_ne fun z => by rw [z, hD] at e; cases e]
                  exact (kk.trans kt) b o e f
              · cases hl
            · cases hl
          · rename_i sl2 hc
            rw [hc]
            intro b H3 s3 k3 eb
            subst eb
            rw [if_neg (by simp)]
            have kt : Keep (Own A) H H3 := (Keep.same sm).trans k3
            exact ⟨sl2, accD, accV, nxt s3, keepD k3, Rvs.keep kt (fun _ z => .inr z) ra, by omega, kk.trans kt, ys, hl, hY'⟩
          · cases hl
      · rw [List.drop_length] at hl
        unfold lcL at hl
        cases hl
        rw [List.append_nil] at hY'
        subst hY'
        obtain ⟨sr', kr⟩ := Sr.unblock (T' := Act.away { T with hd := hv ++ T.hd } Dd) s1 rfl rfl rfl sr kk hD hDD no
        have eH : H = L2.upd (L2.del H Dd) Dd (.lst accV) := by
          funext a
          by_cases z : a = Dd
          · subst z; rw [upd_same]; exact hDD
          · rw [upd_ne z, L2.del_ne z]
        have := p1 accV (L2.del H Dd) sr' kr (Rvs.del hDD (.inl (.inr rfl)) (fun a z => by
          rcases z with z | z
          · exact .inl (.inl z)
          · exact .inr z) ra) Dd L2.del_same
        rw [← eH] at this
        exact this
    · exact p1.elim
  · exact p1.elim
section
variable {G : Glue} {W : WX} {X : Cx} {tg iter elt : Expr} {ifs : List Expr} {scope : Scope} {own : List (Str × Nat)} {pos spos : Pos} {t : Tg} {it : Lv} {c : Sl → R Bool} {e : Ev} {vs : List Nat}
theorem PTs.any {f : Act → TT} (h : ∀ T, PTs X ifs (f T)) : PTs X ifs fun σ H Q => ∃ T, f T σ H Q := ⟨fun pins s σ H Q I ⟨T, q⟩ => (h T).run pins s σ H Q I q⟩
theorem fl_lc (hN : X.N.Nodup) (ok : BlkOk X.N X.env.scope scope own) (hi : FI G W X tg iter it)
    (hg : ∀ (s : Shared) (H : Hp) (C : Addr) (cl : List (Str × Addr)) (fp : List Addr), FG G (X.blk s H scope (compEnvC scope cl C X.env) fp) tg t)
    (ht : ∀ (s : Shared) (H : Hp) (C : Addr) (cl : List (Str × Addr)) (fp : List Addr), FTs G (X.blk s H scope (compEnvC scope cl C X.env) fp) ifs c)
    (he : ∀ (s : Shared) (H : Hp) (C : Addr) (cl : List (Str × Addr)) (fp : List Addr), FE G noW (X.blk s H scope (compEnvC scope cl C X.env) fp) elt e)
    (hv : own.map (·.2) = vs := by rfl) (hsl : ∀ n ∈ t.slots, n ∈ vs := by decide) (hc : X.calm = true := by rfl) (hs : ∀ x, foldedSetIterable iter X.env x = pure x := by intro _; rfl) :
    FL G W X (.ListComp elt [⟨tg, iter, ifs, 0⟩] scope pos) (dLc vs t c e it) := fun T => by
  subst hv
  exact PE.imp (pe_lc hc hN (hi T) ok (fun s H C cl fp => PG.any (hg s H C cl fp)) (fun s H C cl fp => PTs.any (ht s H C cl fp)) (fun s H C cl fp => PE.any (he s H C cl fp)) hs) fun σ H Q h => lc_read (tg := tg) (iter := iter) (elt := elt) (X := X) hsl h
end
end F

set_option Elab.async false
set_option linter.all false
set_option maxRecDepth 100000
set_option maxHeartbeats 4000000
namespace F
open PySem PySem.Spec PyProof.Rows L2

section
variable {G : Glue} {W : WX} {X : Cx} {tg iter elt : Expr} {ifs : List Expr} {scope : Scope} {own : List (Str × Nat)} {pos spos py : Pos} {t : Tg} {it : Lv} {c : Sl → R Bool} {e : Ev} {vs : List Nat} {i : Nat} {y : Str}
theorem set_new {T : Act} {l : Lv} {D : Ends} {σ : St} {H : Hp} (h : tSm G W T (mSet i (dL l)) D σ H) : tNew G W T l σ H fun x H1 => HSz H1 → D.nx (σ.set i (some x)) H1 := fun hz => by
  obtain ⟨A, sl, s, p⟩ := h hz
  refine ⟨A, sl, s, ?_⟩
  unfold mSet dL at p
  cases hl : l sl with
  | ok ds sl1 =>
    rw [hl] at p
    intro vs H1 s1 k1 r1 q hq hz'
    have sm := same_fresh hq (.lst vs)
    exact p A _ _ ((s1.grown sm hz').set i (.lst upd_same (s1.fresh hq) (Rvs.keep (.same sm) (fun _ z => .inr z) r1)))
  | ex x sl1 =>
    rw [hl] at p
    exact fun c od H' x s => p A σ H' c od x s
  | bad => rw [hl] at p; exact p
theorem new_new {T : Act} {l : Lv} {D : Ends} {σ : St} {H : Hp} (h : tSm G W T (mNew (i + 1) l) D σ H) : tNew G W T l σ H fun x H1 => HSz H1 → D.nx (σ.set (i + 1) (some x)) H1 := fun hz => by
  obtain ⟨A, sl, s, p⟩ := h hz
  refine ⟨A, sl, s, ?_⟩
  unfold mNew at p
  cases hl : l sl with
  | ok ds sl1 =>
    rw [hl] at p
    intro vs H1 s1 k1 r1 q hq hz'
    exact p _ _ _ (s1.setM (.inr (Nat.succ_ne_zero i)) hq r1 hz')
  | ex x sl1 =>
    rw [hl] at p
    exact fun c od H' x s => p A σ H' c od x s
  | bad => rw [hl] at p; exact p
/-- x = [..] of a local name -/
theorem fs_setLc (hN : X.N.Nodup) (ok : BlkOk X.N X.env.scope scope own) (hi : FI G W X tg iter it)
    (hg : ∀ (s : Shared) (H : Hp) (C : Addr) (cl : List (Str × Addr)) (fp : List Addr), FG G (X.blk s H scope (compEnvC scope cl C X.env) fp) tg t)
    (ht : ∀ (s : Shared) (H : Hp) (C : Addr) (cl : List (Str × Addr)) (fp : List Addr), FTs G (X.blk s H scope (compEnvC scope cl C X.env) fp) ifs c)
    (he : ∀ (s : Shared) (H : Hp) (C : Addr) (cl : List (Str × Addr)) (fp : List Addr), FE G noW (X.blk s H scope (compEnvC scope cl C X.env) fp) elt e)
    (hsw : swapsWith (.ListComp elt [⟨tg, iter, ifs, 0⟩] scope pos) (some (.Name y py)) spos.line X.env = pure true)
    (hy : X.N[i]? = some y := by rfl) (hyl : X.env.scope.names.lookup y = some .local := by rfl)
    (hv : own.map (·.2) = vs := by rfl) (hsl : ∀ n ∈ t.slots, n ∈ vs := by decide) (hc : X.calm = true := by rfl) (hs : ∀ x, foldedSetIterable iter X.env x = pure x := by intro _; rfl) :
    FS G W X (.Assign [.Name y py] (.ListComp elt [⟨tg, iter, ifs, 0⟩] scope pos) spos) (mSet i (dL (dLc vs t c e it))) := fun T => by
  subst hv
  exact PS.plus (ps_setLc hc hN hy hyl hsw (hi T) ok (fun s H C cl fp => PG.any (hg s H C cl fp)) (fun s H C cl fp => PTs.any (ht s H C cl fp)) (fun s H C cl fp => PE.any (he s H C cl fp)) hs) fun D σ H z h =>
    lc_read (tg := tg) (iter := iter) (elt := elt) (X := X) hsl (set_new h)
theorem fs_newLc (hN : X.N.Nodup) (ok : BlkOk X.N X.env.scope scope own) (hi : FI G W X tg iter it)
    (hg : ∀ (s : Shared) (H : Hp) (C : Addr) (cl : List (Str × Addr)) (fp : List Addr), FG G (X.blk s H scope (compEnvC scope cl C X.env) fp) tg t)
    (ht : ∀ (s : Shared) (H : Hp) (C : Addr) (cl : List (Str × Addr)) (fp : List Addr), FTs G (X.blk s H scope (compEnvC scope cl C X.env) fp) ifs c)
    (he : ∀ (s : Shared) (H : Hp) (C : Addr) (cl : List (Str × Addr)) (fp : List Addr), FE G noW (X.blk s H scope (compEnvC scope cl C X.env) fp) elt e)
    (hsw : swapsWith (.ListComp elt [⟨tg, iter, ifs, 0⟩] scope pos) (some (.Name y py)) spos.line X.env = pure true)
    (hy : X.N[i + 1]? = some y := by rfl) (hyl : X.env.scope.names.lookup y = some .local := by rfl)
    (hv : own.map (·.2) = vs := by rfl) (hsl : ∀ n ∈ t.slots, n ∈ vs := by decide) (hc : X.calm = true := by rfl) (hs : ∀ x, foldedSetIterable iter X.env x = pure x := by intro _; rfl) :
    FS G W X (.Assign [.Name y py] (.ListComp elt [⟨tg, iter, ifs, 0⟩] scope pos) spos) (mNew (i + 1) (dLc vs t c e it)) := fun T => by
  subst hv
  exact PS.plus (ps_setLc hc hN hy hyl hsw (hi T) ok (fun s H C cl fp => PG.any (hg s H C cl fp)) (fun s H C cl fp => PTs.any (ht s H C cl fp)) (fun s H C cl fp => PE.any (he s H C cl fp)) hs) fun D σ H z h =>
    lc_read (tg := tg) (iter := iter) (elt := elt) (X := X) hsl (new_new h)
end

/-! ### several names at once -/
/-- a component: data, or a new list -/
inductive Cm where
  | v (d : Ev) | l (d : Lv)
def evC : Cm → Sl → R Sv
  | .v d, sl => (d sl).bind fun x sl1 => match x with
    | .v d => .ok (.v d) sl1
    | .r _ => .bad
  | .l d, sl => (d sl).bind fun ds sl1 => .ok (.m ds) sl1
def evCs : List Cm → Sl → R (List Sv)
  | [], sl => .ok [] sl
  | c :: cs, sl => (evC c sl).bind fun x sl1 => (evCs cs sl1).bind fun xs sl2 => .ok (x :: xs) sl2
def setAll {α : Type} (sl : List (Option α)) : List Nat → List α → List (Option α)
  | i :: is, x :: xs => (setAll sl is xs).set i (some x)
  | _, _ => sl
def mPar (is : List Nat) (cs : List Cm) : Sm := fun sl => (evCs cs sl).to fun xs sl1 => .nx (setAll sl1 is xs)
theorem Rvs.of_zip {G : Glue} {N : Addr → Prop} {H : Hp} : ∀ {ds : List D} {vs : List V}, ds.length = vs.length → (∀ p ∈ ds.zip vs, Rv G N H p.1 p.2) → Rvs G N H ds vs
  | [], [], _, _ => .nil
  | [], _ :: _, e, _ => by simp at e
  | _ :: _, [], e, _ => by simp at e
  | d :: ds, v :: vs, e, h => .cons (h (d, v) (by simp)) (Rvs.of_zip (by simpa using e) fun p hp => h p (by simp [hp]))
theorem Rvs.zip {G : Glue} {N : Addr → Prop} {H : Hp} : ∀ {ds : List D} {vs : List V}, Rvs G N H ds vs → ∀ p ∈ ds.zip vs, Rv G N H p.1 p.2
  | [], _, h, p, hp => by simp at hp
  | d :: ds, _, h, p, hp => by
    cases h with
    | cons h1 h2 =>
      rcases List.mem_cons.mp (by simpa using hp) with rfl | hp
      · exact h1
      · exact Rvs.zip h2 p hp
/-- what waits to be bound: data that is held, new lists that no one sees -/
inductive Pend (G : Glue) (A : Nat → Option Addr) (H : Hp) : Act → List Sv → List V → Act → Prop
  | nil {T : Act} : Pend G A H T [] [] T
  | v {T T' : Act} {d : D} {x : V} {xs : List Sv} {vs : List V} : Pend G A H { T with hd := (d, x) :: T.hd } xs vs T' → Pend G A H T (.v d :: xs) (x :: vs) T'
  | m {T T' : Act} {ds : List D} {p : Addr} {ws : List V} {xs : List Sv} {vs : List V} : H p = some (.lst ws) → ds.length = ws.length → ¬ T.N A p → T.H0 p = none → T.io ≠ some p →
      Pend G A H { (T.away p) with hd := ds.zip ws ++ T.hd } xs vs T' → Pend G A H T (.m ds :: xs) (.ref p :: vs) T'
theorem Pend.keep {G : Glue} {A : Nat → Option Addr} {H H' : Hp} {T T' : Act} {xs : List Sv} {vs : List V} (h : Pend G A H T xs vs T') (k : Keep (Own A) H H') : Pend G A H' T xs vs T' := by
  induction h with
  | nil => exact .nil
  | v _ ih => exact .v ih
  | m h1 h2 h3 h4 h5 _ ih => exact .m (k _ _ h1 fun z => absurd (.inr z) h3) h2 h3 h4 h5 ih
def tCs (G : Glue) (W : WX) (T : Act) (cs : List Cm) : TA := fun σ H Q => HSz H → ∃ A sl, Sr G T A sl σ H ∧ match evCs cs sl with
  | .ok xs sl' => ∀ (vs : List V) (T' : Act) (H' : Hp), Keep (Own A) H H' → Pend G A H' T xs vs T' → Sr G T' A sl' σ H' → Q vs H'
  | .ex e sl' => ∀ c od H', ExR G T.N0 H' e c od → Sr G T A sl' σ H' → W c od σ H'
  | .bad => False
def FC (G : Glue) (W : WX) (X : Cx) (es : List Expr) (cs : List Cm) : Prop := ∀ T, PA X es (tCs G W T cs)
section
variable {G : Glue} {W : WX} {X : Cx} {a : Expr} {es : List Expr} {da : Ev} {l : Lv} {cs : List Cm} {T T' : Act} {A : Nat → Option Addr} {sl : Sl} {σ : St} {H : Hp}
theorem PA.any {es : List Expr} {f : Act → TA} (h : ∀ T, PA X es (f T)) : PA X es fun σ H Q => ∃ T, f T σ H Q := ⟨fun pos pins s σ H Q I ⟨T, q⟩ => (h T).run pos pins s σ H Q I q⟩
theorem Sr.home {q : Addr} {hd : List (D × V)} (nO : ¬ Own A q) (r : Sr G { (T.away q) with hd := hd ++ T.hd } A sl σ H) : Sr G T A sl σ H := by
  have hN : ∀ a, T.N A a → Act.N { (T.away q) with hd := hd ++ T.hd } A a := fun a z => by
    rcases z with z | z
    · exact .inl (.inl z)
    · exact .inr z
  refine ⟨fun i d e => ?_, fun i xs e => ?_, r.len, r.inj, fun i a e => ?_, r.alive, r.kept, fun b h => r.trk b (.inl h), r.iot, fun p hp => (r.held p (List.mem_append_right _ hp)).anti hN, r.sz⟩
  · obtain ⟨v, e1, e2⟩ := r.val i d e; exact ⟨v, e1, e2.anti hN⟩
  · obtain ⟨a, vs, e1, e2, e3, e4⟩ := r.mu i xs e; exact ⟨a, vs, e1, e2, e3, e4.anti hN⟩
  · rcases r.own i a e with ⟨h1, h2, h3⟩ | ⟨h1, h2, h3⟩
    · exact .inl ⟨h1, fun z => h2 (.inl z), h3⟩
    · rcases h3 with h3 | h3
      · exact .inr ⟨h1, h2, h3⟩
      · exact absurd ⟨i, by rw [← h3]; exact e⟩ nO
theorem fc_nil : FC G W X [] [] := fun T => PA.plus pa_nil fun σ H Q z h => by
  obtain ⟨A, sl, s, p⟩ := h z
  exact fun _ => p [] T H .refl .nil s
theorem Pend.N0 {xs : List Sv} {vs : List V} (h : Pend G A H T xs vs T') : ∀ a, T.N0 a → T'.N0 a := by
  induction h with
  | nil => exact fun _ z => z
  | v _ ih => exact ih
  | m _ _ _ _ _ _ ih => exact fun a z => ih a (.inl z)
theorem exr_mono {N N' : Addr → Prop} {x : Ex} {c : Value} {od : Option Addr} (hn : ∀ a, N' a → N a) (h : ExR G N H x c od) : ExR G N' H x c od := h.anti hn
theorem fc_v (ha : FE G W X a da) (hr : FC G W X es cs) (hs : starEach (a :: es) X.env = (false, eval a X.env) :: starEach es X.env := by rfl) : FC G W X (a :: es) (.v da :: cs) := fun T =>
  F.PA.plus (pa_cons (ha T) (F.PA.any (f := fun T => tCs G W T cs) hr) hs) fun σ H Q z h hz => by
    obtain ⟨A, sl, s, p⟩ := h hz
    refine ⟨A, sl, s, ?_⟩
    simp only [evCs, evC] at p
    cases hd : da sl with
    | bad => rw [hd] at p; exact p
    | ex e sl1 => rw [hd] at p; exact fun c od H' x s' => p c od H' x s'
    | ok x sl1 =>
      rw [hd] at p
      intro v H1 s1 k1 r1
      match x, r1, p with
      | .v d, r1, p =>
        refine ⟨{ T with hd := (d, v) :: T.hd }, fun _ => ⟨A, sl1, s1.hold r1, ?_⟩⟩
        dsimp only [R.bind] at p
        cases hc : evCs cs sl1 with
        | bad => rw [hc] at p; exact p
        | ex e sl2 => rw [hc] at p; exact fun c od H' x s' => p c od H' x (Sr.unhold (T := T) (T' := { T with hd := (d, v) :: T.hd }) rfl rfl rfl (fun q hq => List.mem_cons_of_mem _ hq) s')
        | ok xs sl2 => rw [hc] at p; exact fun vs T' H' kk pe s' _ => p (v :: vs) T' H' (k1.trans kk) (.v pe) s'
      | .r _, r1, p => exact p.elim
theorem fc_l (ha : FL G W X a l) (hr : FC G W X es cs) (hs : starEach (a :: es) X.env = (false, eval a X.env) :: starEach es X.env := by rfl) : FC G W X (a :: es) (.l l :: cs) := fun T =>
  F.PA.plus (pa_cons (ha T) (F.PA.any (f := fun T => tCs G W T cs) hr) hs) fun σ H Q z h hz => by
    obtain ⟨A, sl, s, p⟩ := h hz
    refine ⟨A, sl, s, ?_⟩
    simp only [evCs, evC] at p
    cases hd : l sl with
    | bad => rw [hd] at p; exact p
    | ex e sl1 => rw [hd] at p; exact fun c od H' x s' => p c od H' x s'
    | ok ds sl1 =>
      rw [hd] at p
      intro ws H1 s1 k1 r1 q hq
      have hl : ws.length ≤ sizeLine → Sr G (T.away q) A sl1 σ (upd H1 q (.lst ws)) := fun hl => s1.block hq hl
      refine ⟨{ (T.away q) with hd := ds.zip ws ++ T.hd }, fun hz2 => ⟨A, sl1, (hl (hz2 q ws (.inl (.inl upd_same)))).holds (fun pr hp => ?_), ?_⟩⟩
      · have sm := same_fresh hq (.lst ws)
        refine Rv.keep (O := fun _ => False) (.same sm) (fun _ z => z.elim) ((Rvs.zip r1 pr hp).anti' fun b o e z => ?_)
        rcases z with (z | z) | z
        · exact .inl z
        · subst z; rw [hq] at e; cases e
        · exact .inr z
      · dsimp only [R.bind] at p
        cases hc : evCs cs sl1 with
        | bad => rw [hc] at p; exact p
        | ex e sl2 =>
          rw [hc] at p
          exact fun c od H' x s' => p c od H' (x.anti fun a z => .inl z) (Sr.home (fun z => s1.fresh hq (.inr z)) s')
        | ok xs sl2 =>
          rw [hc] at p
          intro vs T' H' kk pe s' _
          have nO : ¬ Own A q := fun z => s1.fresh hq (.inr z)
          exact p (.ref q :: vs) T' H' (k1.trans ((Keep.same (same_fresh hq _)).trans kk)) (.m (kk _ _ upd_same fun z => absurd z nO) r1.length (s1.fresh hq) (s1.fresh0 hq) (fun z => s1.fresh hq (.inr ⟨0, s1.iot q z⟩)) pe) s'
theorem Sr.adopt {p : Addr} {ds : List D} {ws : List V} {i : Nat} (r : Sr G { (T.away p) with hd := ds.zip ws ++ T.hd } A sl σ H) (hp : H p = some (.lst ws)) (hl : ds.length = ws.length) (n0 : ¬ T.N0 p) (h0 : T.H0 p = none) (hio : T.io ≠ some p) (hi : T.io = none ∨ i ≠ 0) :
    Sr G T (fun j => if j = i then some p else A j) (sl.set i (some (Sv.m ds))) (σ.set i (some (.ref p))) H := by
  have nO : ¬ Own A p := fun ⟨j, e⟩ => by
    rcases r.own j p e with ⟨_, h, _⟩ | ⟨h, _⟩
    · exact h (.inr rfl)
    · exact hio h
  have hN : ∀ b, T.N (fun j => if j = i then some p else A j) b → Act.N { (T.away p) with hd := ds.zip ws ++ T.hd } A b := fun b h => by
    rcases h with h | ⟨j, h⟩
    · exact .inl (.inl h)
    · dsimp only at h
      split at h
      · cases h; exact .inl (.inr rfl)
      · exact .inr ⟨j, h⟩
  refine ⟨fun j d' e => ?_, fun j xs' e => ?_, by simpa using r.len, fun j l a e1 e2 => ?_, fun j a e => ?_, fun j a e => ?_, r.kept, fun b e => r.trk b (.inl e), fun a e => ?_, fun q hq => (r.held q (List.mem_append_right _ hq)).anti hN, r.sz⟩
  · by_cases hj : i = j
    · subst hj
      rw [List.getElem?_set] at e
      simp only [if_true] at e
      split at e <;> cases e
    · rw [List.getElem?_set_ne hj] at e
      obtain ⟨v', e1, e2⟩ := r.val j d' e; exact ⟨v', by rw [List.getElem?_set_ne hj]; exact e1, e2.anti hN⟩
  · by_cases hj : i = j
    · subst hj
      rw [List.getElem?_set] at e
      simp only [if_true] at e
      split at e
      · rename_i hlt
        cases e
        exact ⟨p, ws, if_pos rfl, by rw [List.getElem?_set]; simp only [if_true]; rw [if_pos (by rw [← r.len]; exact hlt)], hp, (Rvs.of_zip hl fun q hq => r.held q (List.mem_append_left _ hq)).anti hN⟩
      · cases e
    · rw [List.getElem?_set_ne hj] at e
      obtain ⟨a, vs', e1, e2, e3, e4⟩ := r.mu j xs' e
      exact ⟨a, vs', by rw [if_neg (Ne.symm hj)]; exact e1, by rw [List.getElem?_set_ne hj]; exact e2, e3, e4.anti hN⟩
  · by_cases g1 : j = i
    · by_cases g2 : l = i
      · rw [g1, g2]
      · rw [if_pos g1] at e1; rw [if_neg g2] at e2; cases e1; exact absurd ⟨l, e2⟩ nO
    · by_cases g2 : l = i
      · rw [if_neg g1] at e1; rw [if_pos g2] at e2; cases e2; exact absurd ⟨j, e1⟩ nO
      · rw [if_neg g1] at e1; rw [if_neg g2] at e2; exact r.inj j l a e1 e2
  · by_cases h1 : j = i
    · rw [if_pos h1] at e; cases e
      exact .inl ⟨h0, n0, hio⟩
    · rw [if_neg h1] at e
      rcases r.own j a e with ⟨g1, g2, g3⟩ | ⟨g1, g2, g3⟩
      · exact .inl ⟨g1, fun z => g2 (.inl z), g3⟩
      · rcases g3 with g3 | g3
        · exact .inr ⟨g1, g2, g3⟩
        · exact absurd ⟨j, by rw [← g3]; exact e⟩ nO
  · by_cases h1 : j = i
    · rw [if_pos h1] at e; cases e; exact ⟨ws, hp⟩
    · rw [if_neg h1] at e; exact r.alive j a e
  · have h0 : (0 : Nat) ≠ i := fun h => by
      rcases hi with h1 | h1
      · rw [h1] at e; cases e
      · exact h1 h.symm
    rw [if_neg h0]; exact r.iot a e
/-- a new list is never bound to the first name -/
def okX : List Nat → List Sv → Bool
  | i :: is, .m _ :: xs => decide (i ≠ 0) && okX is xs
  | _ :: is, .v _ :: xs => okX is xs
  | _, _ => true
def okC : List Nat → List Cm → Bool
  | i :: is, .l _ :: xs => decide (i ≠ 0) && okC is xs
  | _ :: is, .v _ :: xs => okC is xs
  | _, _ => true
theorem evCs_ok : ∀ (cs : List Cm) (is : List Nat) (sl sl' : Sl) (xs : List Sv), evCs cs sl = .ok xs sl' → okC is cs = true → okX is xs = true
  | [], is, _, _, _, e, _ => by cases e; cases is <;> rfl
  | c :: cs, [], _, _, xs, _, _ => by cases xs <;> rfl
  | c :: cs, i :: is, sl, sl', xs, e, h => by
    simp only [evCs] at e
    cases h1 : evC c sl with
    | ok x sl1 =>
      rw [h1] at e
      dsimp only [R.bind] at e
      cases h2 : evCs cs sl1 with
      | ok ys sl2 =>
        rw [h2] at e
        cases e
        cases c with
        | v d =>
          have ih := evCs_ok cs is _ _ _ h2 (by simpa [okC] using h)
          simp only [evC] at h1
          cases hd : d sl with
          | ok y sl3 =>
            rw [hd] at h1
            cases y with
            | v z => cases h1; simpa [okX] using ih
            | r _ => cases h1
          | ex _ _ => rw [hd] at h1; cases h1
          | bad => rw [hd] at h1; cases h1
        | l d =>
          simp only [okC, Bool.and_eq_true] at h
          have ih := evCs_ok cs is _ _ _ h2 h.2
          simp only [evC] at h1
          cases hd : d sl with
          | ok y sl3 => rw [hd] at h1; cases h1; simp only [okX, Bool.and_eq_true]; exact ⟨h.1, ih⟩
          | ex _ _ => rw [hd] at h1; cases h1
          | bad => rw [hd] at h1; cases h1
      | ex _ _ => rw [h2] at e; cases e
      | bad => rw [h2] at e; cases e
    | ex _ _ => rw [h1] at e; cases e
    | bad => rw [h1] at e; cases e
theorem Pend.bound {xs : List Sv} {vs : List V} (h : Pend G A H T xs vs T') : ∀ {is : List Nat} {sl : Sl} {σ : St}, is.length = xs.length → okX is xs = true → Sr G T' A sl σ H → ∃ A', Sr G T A' (setAll sl is xs) (setAll σ is vs) H := by
  induction h with
  | nil => exact fun {is sl σ} hl _ s => ⟨A, by cases is <;> exact s⟩
  | @v T T' d x xs vs _ ih =>
    intro is sl σ hl h0 s
    cases is with
    | nil => simp at hl
    | cons i is =>
      obtain ⟨A', s'⟩ := ih (by simpa using hl) (by simpa [okX] using h0) s
      exact ⟨A', (Sr.unhold (T := T) (T' := { T with hd := (d, x) :: T.hd }) rfl rfl rfl (fun q hq => List.mem_cons_of_mem _ hq) (s'.set i (s'.held _ List.mem_cons_self)))⟩
  | @m T T' ds p ws xs vs h1 h2 h3 h4 h5 _ ih =>
    intro is sl σ hl h0 s
    cases is with
    | nil => simp at hl
    | cons i is =>
      simp only [okX, Bool.and_eq_true] at h0
      obtain ⟨A', s'⟩ := ih (by simpa using hl) h0.2 s
      exact ⟨_, s'.adopt h1 h2 (fun z => h3 (.inl z)) h4 h5 (.inr (of_decide_eq_true h0.1))⟩
theorem setAll_two {α : Type} {sl : List (Option α)} {i j : Nat} {x y : α} (h : i ≠ j) : setAll sl [i, j] [x, y] = (sl.set i (some x)).set j (some y) := by
  simp only [setAll]; exact List.set_comm _ _ h.symm
theorem setAll_three {α : Type} {sl : List (Option α)} {i j l : Nat} {x y z : α} (h1 : i ≠ j) (h2 : i ≠ l) (h3 : j ≠ l) : setAll sl [i, j, l] [x, y, z] = ((sl.set i (some x)).set j (some y)).set l (some z) := by
  simp only [setAll]
  rw [List.set_comm _ _ h3.symm, List.set_comm _ _ h2.symm, List.set_comm _ _ h1.symm]
theorem pend_len {xs : List Sv} {vs : List V} (h : Pend G A H T xs vs T') : xs.length = vs.length := by
  induction h with
  | nil => rfl
  | v _ ih => simp [ih]
  | m _ _ _ _ _ _ ih => simp [ih]
theorem evCs_len : ∀ (cs : List Cm) (sl sl' : Sl) (xs : List Sv), evCs cs sl = .ok xs sl' → xs.length = cs.length
  | [], _, _, _, e => by cases e; rfl
  | c :: cs, sl, sl', xs, e => by
    simp only [evCs] at e
    cases h : evC c sl with
    | ok x sl1 =>
      rw [h] at e
      dsimp only [R.bind] at e
      cases h2 : evCs cs sl1 with
      | ok ys sl2 => rw [h2] at e; cases e; simp [evCs_len cs _ _ _ h2]
      | ex _ _ => rw [h2] at e; cases e
      | bad => rw [h2] at e; cases e
    | ex _ _ => rw [h] at e; cases e
    | bad => rw [h] at e; cases e
variable {x y z : Str} {i j l' : Nat} {b c : Expr} {px py pz pt pos : Pos} {kt k2 : Nat} {pt2 : Pos}
theorem fs_par2 (hN : X.N.Nodup) (ha : FC G W X [a, b] cs) (hcs : cs.length = 2) (h0 : okC [i, j] cs = true) (hij : i ≠ j) (hi : X.N[i]? = some x := by rfl) (hj : X.N[j]? = some y := by rfl)
    (hx : X.env.scope.names.lookup x = some .local := by rfl) (hy : X.env.scope.names.lookup y = some .local := by rfl) (hc : X.calm = true := by rfl)
    (hw : swappedStores [.Tuple [.Name x px, .Name y py] kt pt] (.Tuple [a, b] k2 pt2) X.env = pure (some [x, y]) := by rfl)
    (hs : swapsWithSole [.Tuple [.Name x px, .Name y py] kt pt] (.Tuple [a, b] k2 pt2) pos.line X.env = pure false := by rfl) :
    FS G W X (.Assign [.Tuple [.Name x px, .Name y py] kt pt] (.Tuple [a, b] k2 pt2) pos) (mPar [i, j] cs) := fun T =>
  PS.plus (ps_par hc hN hi hj hij hx hy (ha T) hw hs) fun D σ H z h hz => by
    obtain ⟨A, sl, s, p⟩ := h hz
    refine ⟨A, sl, s, ?_⟩
    unfold mPar at p
    cases hd : evCs cs sl with
    | bad => rw [hd] at p; exact p
    | ex e sl1 => rw [hd] at p; exact fun c od H' x s' => p A σ H' c od x s'
    | ok xs sl1 =>
      rw [hd] at p
      intro vs T' H' kk pe s'
      have hlx := evCs_len _ _ _ _ hd
      have hlv := pend_len pe
      obtain ⟨A', s2⟩ := pe.bound (is := [i, j]) (by rw [hlx, hcs]; rfl) (evCs_ok _ _ _ _ _ hd h0) s'
      match vs, hlv, s2 with
      | [v, w], _, s2 =>
        refine ⟨v, w, rfl, fun hz => ?_⟩
        rw [← setAll_two hij]
        exact p A' _ H' s2
      | [], hlv, _ => rw [hlx, hcs] at hlv; cases hlv
      | [_], hlv, _ => rw [hlx, hcs] at hlv; cases hlv
      | _ :: _ :: _ :: _, hlv, _ => rw [hlx, hcs] at hlv; simp at hlv
theorem fs_par3 (hN : X.N.Nodup) (ha : FC G W X [a, b, c] cs) (hcs : cs.length = 3) (h0 : okC [i, j, l'] cs = true) (hij : i ≠ j) (hil : i ≠ l') (hjl : j ≠ l') (hi : X.N[i]? = some x := by rfl) (hj : X.N[j]? = some y := by rfl) (hl : X.N[l']? = some z := by rfl)
    (hx : X.env.scope.names.lookup x = some .local := by rfl) (hy : X.env.scope.names.lookup y = some .local := by rfl) (hz' : X.env.scope.names.lookup z = some .local := by rfl) (hc : X.calm = true := by rfl)
    (hw : swappedStores [.Tuple [.Name x px, .Name y py, .Name z pz] kt pt] (.Tuple [a, b, c] k2 pt2) X.env = pure (some [x, y, z]) := by rfl)
    (hs : swapsWithSole [.Tuple [.Name x px, .Name y py, .Name z pz] kt pt] (.Tuple [a, b, c] k2 pt2) pos.line X.env = pure false := by rfl) :
    FS G W X (.Assign [.Tuple [.Name x px, .Name y py, .Name z pz] kt pt] (.Tuple [a, b, c] k2 pt2) pos) (mPar [i, j, l'] cs) := fun T =>
  PS.plus (ps_par3 hc hN hi hj hl hij hil hjl hx hy hz' (ha T) hw hs) fun D σ H z h hz => by
    obtain ⟨A, sl, s, p⟩ := h hz
    refine ⟨A, sl, s, ?_⟩
    unfold mPar at p
    cases hd : evCs cs sl with
    | bad => rw [hd] at p; exact p
    | ex e sl1 => rw [hd] at p; exact fun c od H' x s' => p A σ H' c od x s'
    | ok xs sl1 =>
      rw [hd] at p
      intro vs T' H' kk pe s'
      have hlx := evCs_len _ _ _ _ hd
      have hlv := pend_len pe
      obtain ⟨A', s2⟩ := pe.bound (is := [i, j, l']) (by rw [hlx, hcs]; rfl) (evCs_ok _ _ _ _ _ hd h0) s'
      match vs, hlv, s2 with
      | [u, v, w], _, s2 =>
        refine ⟨u, v, w, rfl, fun hz => ?_⟩
        rw [← setAll_three hij hil hjl]
        exact p A' _ H' s2
      | [], hlv, _ => rw [hlx, hcs] at hlv; cases hlv
      | [_], hlv, _ => rw [hlx, hcs] at hlv; cases hlv
      | [_, _], hlv, _ => rw [hlx, hcs] at hlv; cases hlv
      | _ :: _ :: _ :: _ :: _, hlv, _ => rw [hlx, hcs] at hlv; simp at hlv
end

/-! ### raise -/
section
variable {G : Glue} {W : WX} {X : Cx} {n : Nat} {x : Str} {p pos : Pos}
/-- what of the text an own exception class without a body must have -/
structure ExC (G : Glue) (mg : Str → Option Value) (x : Str) (n : Nat) (bm : List Value) (nid : String) : Prop where
  g : mg x = some (.ref (G.exA n))
  k : PySem.W.keepIn G.K (.ref (G.exA n)) = true
  x : PySem.W.excIn G.K (G.exA n) bm nid = true
  b : PySem.W.subIn G.K (.ref (G.exA n)) (.type "BaseException") = some true
  t : PySem.W.typeIn G.K (.ref (G.exA n)) = some (.type "type")
/-- X() -/
theorem pmk_own0 {C : Addr} {bmB : List Value} {B newId initId : String} (EF : ExcBaseFacts B newId initId bmB) (q : PySem.W.excIn X.K C bmB newId = true) (gC : X.mg x = some (.ref C)) (kC : PySem.W.keepIn X.K (.ref C) = true) (r : Raises X (.ref C)) (hg : Gl X x)
    (hdb : (x == ("__debug__" : Str)) = false := by decide) : PMk X (.Call (.Name x p) [] [] pos) (fun _ H Q => Q (.ref C) none H) := by
  intro pins s σ H Q I h
  refine wpAny_Call_Name_kw (ld_glob I hg gC ?_ hdb)
  refine PySem.W.callWith_K0 I.kIn kC ?_
  show wpAny _ _ (call (.ref C) []) _ _ _
  obtain ⟨bm, N, nm, qn, bs, hdct, sn, sub, ab, col, dd, k0, k1, k2, k3, k5, mN, hC, hN, hni, T⟩ := exc_obj I.kIn q
  exact wpAny_call_exc_subT EF T hC hN hni (fun h' e hm => mk_of I hm r h (I.hok.gone hm.new)) (Nat.zero_le _)
theorem fs_raise0 {bm : List Value} {B nid iid : String} {pos' : Pos} (EF : ExcBaseFacts B nid iid bm) (E : ExC G X.mg x n bm nid) (tk : Takes X W) (hK : X.K = G.K := by rfl) (hg : Gl X x := by rfl) (hc : X.calm = true := by rfl) (hdb : (x == ("__debug__" : Str)) = false := by decide) :
    FS G W X (.Raise (some (.Call (.Name x p) [] [] pos)) none pos') (mRaise n) :=
  fs_raise (bmB := []) (B := "") (newId := "") (initId := "") (xp := .Name x p) tk hc (pmk_own0 (initId := iid) EF (by rw [hK]; exact E.x) E.g (by rw [hK]; exact E.k) (raises_own (by rw [hK]; exact E.b) (by rw [hK]; exact E.t)) hg hdb)
end

/-! ### try: several except clauses without a name -/
def Ex.cls : Ex → Nat
  | .plain n => n
  | .field n _ => n
def findH : List (Nat × Sm) → Nat → Option Sm
  | [], _ => none
  | (m, s) :: r, n => if n = m then some s else findH r n
def mTry (known : List Nat) (b : Sm) (hs : List (Nat × Sm)) : Sm := fun sl => match b sl with
  | .ex e sl1 => if e.cls ∈ known then match findH hs e.cls with
    | some m => m sl1
    | none => .ex e sl1
    else .bad
  | f => f
section
variable {G : Glue} {W : WX} {X : Cx} {body : List Stmt} {mb : Sm} {hds : List ExceptHandler} {h₀ : ExceptHandler} {pos : Pos} {known : List Nat}
/-- the clauses -/
inductive FHs (G : Glue) (X : Cx) : List ExceptHandler → List (Nat × Sm) → Prop
  | nil : FHs G X [] []
  | cons {x : Str} {n : Nat} {m : Sm} {b₀ : Stmt} {suite : List Stmt} {np pos' : Pos} {hds : List ExceptHandler} {l : List (Nat × Sm)} (hg : Gl X x) (hd : (x == ("__debug__" : Str)) = false) (hm : X.mg x = some (.ref (G.exA n)))
      (hsu : ∀ (a : Addr) (oe : Obj) (pn : List (Addr × Obj)), FSs G noW (X.suite a ((a, oe) :: pn)) (b₀ :: suite) m) (r : FHs G X hds l) : FHs G X (.ExceptHandler (some (.Name x np)) none (b₀ :: suite) pos' :: hds) ((n, m) :: l)
def hdL (G : Glue) (T : Act) (l : List (Nat × Sm)) : List (Value × (Addr → Value → Option Addr → TS)) := l.map fun q => (.ref (G.exA q.1), fun _ _ _ => tSm G noW T q.2)
theorem FHs.ok {T : Act} {l : List (Nat × Sm)} (h : FHs G X hds l) : HdsOk X hds (hdL G T l) := by
  induction h with
  | nil => exact .nil
  | cons hg hd hm hsu r ih => exact .cons ⟨hg, hd, .inl hm⟩ (fun a oe cls d pn _ _ => hsu a oe pn T) ih
theorem many_ex {T : Act} {D : Ends} {l : List (Nat × Sm)} {e : Ex} {sl : Sl} {A : Nat → Option Addr} {σ : St} {H : Hp} {c : Value} {od : Option Addr} {Kf : PySem.W.Frag} (hk : Kf = G.K) (hx : ∀ n ∈ known, ∀ m ∈ known, PySem.W.exmOne G.K (.ref (G.exA n)) (.ref (G.exA m)) = some (decide (n = m)))
    (hl : ∀ q ∈ l, q.1 ∈ known) (he : e.cls ∈ known) (x : ExR G T.N0 H e c od) (s : Sr G T A sl σ H)
    (p : SPost G W T D (match findH l e.cls with | some m => m sl | none => .ex e sl)) (nx : ∀ q ∈ l, ∀ sl, SPost G W T D (q.2 sl) → SPost G noW T D (q.2 sl)) : wMany Kf W D (hdL G T l) c od σ H := by
  subst hk
  have ec : c = .ref (G.exA e.cls) := by
    cases e with
    | plain n => exact x.1
    | field n d => exact x.1
  induction l with
  | nil => exact p A σ H c od x s
  | cons q l ih =>
    obtain ⟨m, ms⟩ := q
    simp only [findH] at p
    refine ⟨decide (e.cls = m), by rw [ec]; exact hx _ he _ (hl (m, ms) List.mem_cons_self), fun hb => ?_, fun hb => ?_⟩
    · have : e.cls = m := of_decide_eq_true hb
      rw [if_pos this] at p
      exact fun a _ hz => ⟨A, sl, s, nx (m, ms) List.mem_cons_self sl p⟩
    · have : ¬ e.cls = m := of_decide_eq_false hb
      rw [if_neg this] at p
      exact ih (fun q hq => hl q (List.mem_cons_of_mem _ hq)) p fun q hq => nx q (List.mem_cons_of_mem _ hq)
/-- a suite that raises nothing -/
def Calm (m : Sm) : Prop := ∀ sl, match m sl with | .ex _ _ => False | _ => True
theorem calm_post {T : Act} {D : Ends} {m : Sm} (h : Calm m) {sl : Sl} (p : SPost G W T D (m sl)) : SPost G noW T D (m sl) := by
  have := h sl
  cases hm : m sl with
  | ex e sl' => rw [hm] at this; exact this.elim
  | nx _ => rw [hm] at p; exact p
  | rt _ _ => rw [hm] at p; exact p
  | bk _ => rw [hm] at p; exact p
  | ct _ => rw [hm] at p; exact p
  | bad => rw [hm] at p; exact p
theorem fs_try {l : List (Nat × Sm)} (tk : Takes X W) (hb : ∀ (W' : WX) (pn : List (Addr × Obj)) (xe : Value → Shared → Prop), Takes (X.tr pn xe) W' → PassesOwn (model X.prog X.w) X.A X.env xe → FSs G W' (X.tr pn xe) body mb) (hh : FHs G X (h₀ :: hds) l)
    (hx : ∀ n ∈ known, ∀ m ∈ known, PySem.W.exmOne G.K (.ref (G.exA n)) (.ref (G.exA m)) = some (decide (n = m))) (hl : ∀ q ∈ l, q.1 ∈ known) (hcalm : ∀ q ∈ l, Calm q.2) (hK : X.K = G.K := by rfl) (hs : X.stack = X.env :: X.outer := by rfl) (hf : X.env.frame = some X.env.locals := by rfl) :
    FS G W X (.Try body (h₀ :: hds) [] [] pos) (mTry known mb l) := fun T =>
  PS.imp (ps_try_many (tb := fun W' => tSm G W' T mb) hs hf tk (fun W' pn xe t q => hb W' pn xe t q T) (hh.ok (T := T))) fun D σ H h hz => by
    obtain ⟨A, sl, s, p⟩ := h hz
    refine ⟨A, sl, s, ?_⟩
    unfold mTry at p
    cases hm : mb sl with
    | nx sl' => rw [hm] at p; exact p
    | rt x sl' => rw [hm] at p; exact p
    | bk sl' => rw [hm] at p; exact p
    | ct sl' => rw [hm] at p; exact p
    | bad => rw [hm] at p; exact p
    | ex e sl' =>
      rw [hm] at p
      dsimp only at p
      split at p
      · rename_i he
        exact fun A' σ' H' c od x s' => many_ex hK hx hl he x s' p fun q hq sl p => calm_post (hcalm q hq) p
      · exact p.elim
end
end F

set_option Elab.async false
set_option linter.all false
set_option maxRecDepth 100000
set_option maxHeartbeats 4000000
/-! ### tuple * 1 -/
namespace L2
open PySem PySem.Spec PyProof.Rows
theorem tuple_mul1 (l : Addr) (items : Array Value) (n : Nat) (dd : Option Addr) (sl : Array (Option Value)) (u : Tok) :
    Meets (Builtin.«tuple.__mul__» ⟨[.ref l, .int 1 u], []⟩) (fun _ R s => s.heap.get? l = some { cls := .type "tuple", dict := dd, data := .seq items n, slots := sl } ∧
      R (.ok (.ret (Value.ref l))) s) :=
  .of_wp fun prog w A R s h => by
    obtain ⟨hp, g, d, tk, os⟩ := s
    obtain ⟨hl, h⟩ := h
    have f1 := AutoSeq1.idx_int
    wp_walk using wpAny_loadPart' hl
    exact ⟨_, rfl, h⟩
def rRep1 (K : PySem.W.Frag) : R2 := fun x y H Q => ∃ l xs, x = .ref l ∧ y = .int 1 ∧ SqT K H l xs ∧ Q (.ref l) H
theorem op_rep1 {X : Cx} : OpR X (binaryOp .Mult) (rRep1 X.K) := by
  intro pins s σ H x y v u Q I rx ry h
  obtain ⟨l, xs, rfl, rfl, hT, q⟩ := h
  cases rx
  obtain ⟨t, rfl⟩ := ry
  obtain ⟨its, r, ⟨⟨cls, dd, data, sl⟩, ho, hc, n, hd⟩, hs⟩ := I.tuple hT
  simp only at hc hd
  subst hc hd
  refine wpAny_binaryOp_repeat_ref (T := "tuple") (U := "int") (by decide) ⟨_, ho, rfl⟩ (fun s' => typeIs_int s' 1 t) noFill_tuple_mul F.fills_int_mul F.slot_int_rmul repeat_tuple F.slot_int_index.lookup
    (call_meets F.slot_int_rmul (typeIs_int s 1 t) F.entry_int_rmul (F.args_int_rmul_2 _ _) (int_rmul_tuple 1 t l its.toArray n dd sl)
      ⟨ho, rfl, ⟨_, ho, rfl⟩, call_meets F.slot_tuple_mul ⟨_, ho, rfl⟩ F.entry_tuple_mul (F.args_tuple_mul_2 _ _) (tuple_mul1 l its.toArray n dd sl t) ⟨ho, ?_⟩⟩)
  exact ⟨.ref l, H, I, rfl, q⟩
/-! ### set(xs) of ints -/
def rSetI (K : PySem.W.Frag) (w : World) : List V → Hp → VK → Prop := fun xs H Q => ∃ (l : Addr) (ns : List Int), xs = [.ref l] ∧ SqT K H l (ns.map V.int) ∧ ns.length ≤ 1000 ∧
  ∀ (p : Addr) (S : Int → Bool) (c : Nat), H p = none → (∀ k, S k = true ↔ k ∈ ns) → c ≤ ns.length → Q (.ref p) (upd H p (SetO w p S c))
theorem cr_setI {X : Cx} (hc : X.calm = true) : CallR X (.type "set") (rSetI X.K X.w) := by
  intro pins s σ H vs us Q I r h
  obtain ⟨l, ns, rfl, hq, hl, q⟩ := h
  rw [Vals.ref1 r]
  have hd := I.ok.hd hc
  obtain ⟨its, rv, pt, hz⟩ := I.tuple hq
  have hi : IntsAre its.toArray.toList ns := ints_of_vals rv
  refine call_set_tupI ns hd (show s.heap.IsTuple l its.toArray from pt) hi (by unfold scanBound; omega) fun h' tk c R1 hcn k => ?_
  have hn := I.hok.fresh (Nat.le_refl s.heap.objs.size)
  exact ⟨.ref s.heap.objs.size, _, I.laid (t' := tk) (o := SetO X.w s.heap.objs.size (fun j => decide (j ∈ ns)) c) k (Nat.le_refl _) (setO_new R1), rfl, q _ _ c hn (fun k => by simp) hcn⟩
end L2
namespace F
open PySem PySem.Spec PyProof.Rows L2
section
variable {G : Glue} {W : WX} {X : Cx} {a b c e : Expr} {es : List Expr} {da db dc : Ev} {ds : Evs} {pos p p2 : Pos} {T : Act} {A : Nat → Option Addr} {sl : Sl} {σ : St} {H : Hp} {l lb : Lv}
def dMulT : D → D → Re D
  | .tup a, .int k => if k = 1 then .ok (.tup a) else if decide (2 ≤ k) && decide (k ≤ 1000) && decide (a ≠ []) && decide (a.length ≤ 1000) then .ok (.tup (List.replicate k.toNat a).flatten) else .bad
  | x, y => dMul x y
theorem o_mulT (hK : X.K = G.K := by rfl) : Op2 G X (binaryOp .Mult) dMulT := by
  obtain ⟨r, hr, q⟩ := o_mul (G := G) (X := X)
  refine ⟨_, hr.or (op_rep1.or op_repT), fun N H x y d e z Q hz hn rx ry h k => ?_⟩
  unfold dMulT at h
  split at h
  · rename_i a i
    obtain ⟨p, vs, e1, s1, r1⟩ := tupK hK rx
    split at h
    · rename_i h1
      cases h
      subst h1
      exact .inr (.inl ⟨p, vs, e1, ry.int, s1, by rw [e1] at rx; exact k _ H (Same.refl H) (by rw [← e1]; exact (by rw [e1]; exact .tup (hK ▸ s1) r1))⟩)
    · split at h
      · rename_i hf
        cases h
        simp only [Bool.and_eq_true, decide_eq_true_eq] at hf
        refine .inr (.inr ⟨p, i, vs, e1, ry.int, s1, fun z => hf.1.2 ?_, hf.1.1.1, hf.1.1.2, by rw [← r1.length]; exact hf.2, fun p' hp' => ?_⟩)
        · subst z; cases r1; rfl
        · exact k _ _ (same_fresh hp' _) (.tup (SqT.of upd_same) (Rvs.keep (O := fun _ => False) (.same (same_fresh hp' _)) (fun _ z => z.elim) (r1.rep _)))
      · cases h
  · exact .inl (q N H x y _ _ z Q hz hn rx ry h k)
/-! ### what is walked: a list or a tuple, as it comes; the list of a name, from then on only read -/
def iSeqL (K : PySem.W.Frag) (tl : TE) : TI := fun σ H R => tl σ H fun x H1 => ∃ a, x = .ref a ∧ (((∃ xs, SqL K H1 a xs) ∧ R (Itl K a) H1) ∨ ((∃ xs, SqT K H1 a xs) ∧ R (Itt K a) H1))
theorem pi_seq {tg l : Expr} {tl : TE} (hl : PE X l tl) : PI X tg l (iSeqL X.K tl) := by
  refine ⟨fun pins s σ H R I h => ?_⟩
  refine thn (hl.run pins s σ H _ I h) fun v s1 ⟨x, H1, I1, r1, q1⟩ => ?_
  obtain ⟨a, e, q⟩ := q1
  subst e
  cases r1
  rcases q with ⟨⟨xs, hq⟩, q⟩ | ⟨⟨xs, hq⟩, q⟩
  · obtain ⟨its, rv, p, hz⟩ := I1.list hq
    refine wpAny_pyIter_list p.isList ?_
    refine ⟨s1.heap.objs.size, [s1.heap.objs.size], _, _, H1, rfl, I1.kept (t' := s1.toks) fun b o e => Heap.get?_push_of_some _ e, turn_list a _, ⟨_, Heap.get?_push_size _ rfl, rfl, rfl⟩, fun b hb => ?_, q⟩
    have e : b = s1.heap.objs.size := by simpa using hb
    subst e
    exact I1.fpOk (Nat.le_refl _) (I1.hok.fresh (Nat.le_refl _))
  · obtain ⟨its, rv, p, hz⟩ := I1.tuple hq
    refine wpAny_pyIter_tuple (show s1.heap.IsTuple a its.toArray from p) ?_
    refine ⟨s1.heap.objs.size, [s1.heap.objs.size], _, _, H1, rfl, I1.kept (t' := s1.toks) fun b o e => Heap.get?_push_of_some _ e, turn_tuple a _, ⟨_, Heap.get?_push_size _ rfl, rfl, rfl⟩, fun b hb => ?_, q⟩
    have e : b = s1.heap.objs.size := by simpa using hb
    subst e
    exact I1.fpOk (Nat.le_refl _) (I1.hok.fresh (Nat.le_refl _))
theorem fi_seq {tg : Expr} (ha : FE G W X a da) (hK : X.K = G.K := by rfl) : FI G W X tg a (iSeq da) := fun T => PI.imp (pi_seq (ha T)) fun σ H R h hz => by
  obtain ⟨A, sl, s, p⟩ := h hz
  refine ⟨A, sl, s, PostG.bind p fun x sl1 v H1 _ s1 k1 r1 p1 => ?_⟩
  match x, r1, p1 with
  | .v (.lst ds), r1, p1 =>
    cases r1 with
    | lst h1 h2 h3 =>
      refine ⟨_, rfl, .inl ⟨⟨_, SqL.of h1⟩, p1 (Itl X.K _, [(.lst ds, .ref _)]) H1 s1 .refl ⟨wk_list, fun p hp => ?_, by rw [h3.length]; exact lst_le s1.sz h1⟩⟩⟩
      rw [List.mem_singleton.mp hp]; exact .lst h1 h2 h3
  | .v (.tup ds), r1, p1 =>
    cases r1 with
    | tup h1 h2 =>
      refine ⟨_, rfl, .inr ⟨⟨_, hK ▸ h1⟩, p1 (Itt X.K _, [(.tup ds, .ref _)]) H1 s1 .refl ⟨wk_tup hK, fun p hp => ?_, by rw [h2.length]; exact SqT.le s1.sz h1⟩⟩⟩
      rw [List.mem_singleton.mp hp]; exact .tup h1 h2
/-- the list of the name at place i is from here on only read -/
theorem Sr.freeze {i : Nat} {xs : List D} (r : Sr G T A sl σ H) (hx : sl[i]? = some (some (.m xs))) (hi : T.io = none ∨ i ≠ 0) : Sr G T (fun j => if j = i then none else A j) (sl.set i (some (.v (.lst xs)))) σ H := by
  obtain ⟨a, vs, ha, hs, hH, hv⟩ := r.mu i xs hx
  have sub : ∀ b, T.N (fun j => if j = i then none else A j) b → T.N A b := fun b z => by
    rcases z with z | ⟨j, z⟩
    · exact .inl z
    · dsimp only at z
      split at z
      · cases z
      · exact .inr ⟨j, z⟩
  have hlt : i < sl.length := (List.getElem?_eq_some_iff.mp hx).1
  refine ⟨fun j d e => ?_, fun j ys e => ?_, by simpa using r.len, fun j l b e1 e2 => ?_, fun j b e => ?_, fun j b e => ?_, r.kept, r.trk, fun b e => ?_, fun p hp => (r.held p hp).anti sub, r.sz⟩
  · by_cases hj : i = j
    · subst hj
      rw [List.getElem?_set_self hlt] at e
      cases e
      refine ⟨_, hs, .lst hH (fun z => ?_) (hv.anti sub)⟩
      rcases z with z | ⟨j, z⟩
      · rcases r.own i a ha with ⟨_, h, _⟩ | ⟨h1, h2, _⟩
        · exact h z
        · rcases hi with hi | hi
          · rw [hi] at h1; cases h1
          · exact hi h2
      · dsimp only at z
        split at z
        · cases z
        · rename_i hne; exact hne (r.inj j i a z ha)
    · rw [List.getElem?_set_ne hj] at e
      obtain ⟨v, e1, e2⟩ := r.val j d e; exact ⟨v, e1, e2.anti sub⟩
  · by_cases hj : i = j
    · subst hj
      rw [List.getElem?_set_self hlt] at e
      cases e
    · rw [List.getElem?_set_ne hj] at e
      obtain ⟨b, ws, e1, e2, e3, e4⟩ := r.mu j ys e
      exact ⟨b, ws, by rw [if_neg (Ne.symm hj)]; exact e1, e2, e3, e4.anti sub⟩
  · split at e1
    · cases e1
    · split at e2
      · cases e2
      · exact r.inj j l b e1 e2
  · split at e
    · cases e
    · exact r.own j b e
  · split at e
    · cases e
    · exact r.alive j b e
  · have : (0 : Nat) ≠ i := fun z => by
      rcases hi with h | h
      · rw [h] at e; cases e
      · exact h z.symm
    rw [if_neg this]; exact r.iot b e
def frz (i : Nat) (sl : Sl) : Sl := match sl[i]? with
  | some (some (.m ds)) => sl.set i (some (.v (.lst ds)))
  | _ => sl
def mFrz (i : Nat) (m : Sm) : Sm := fun sl => m (frz i sl)
theorem Sr.frz {i : Nat} (r : Sr G T A sl σ H) : ∃ A', Sr G T A' (frz (i + 1) sl) σ H := by
  unfold F.frz
  split
  · rename_i ds e; exact ⟨_, r.freeze e (.inr (Nat.succ_ne_zero i))⟩
  · exact ⟨A, r⟩
theorem fs_frz {st : Stmt} {m : Sm} (i : Nat) (h : FS G W X st m) : FS G W X st (mFrz (i + 1) m) := fun T => PS.imp (h T) fun D σ H h hz => by
  obtain ⟨A, sl, s, p⟩ := h hz
  obtain ⟨A', s'⟩ := s.frz (i := i)
  exact ⟨A', _, s', p⟩

/-! ### new lists by an operator -/
def Op2L (G : Glue) (X : Cx) (op : Value → Value → Sem Value) (f : D → D → Re (List D)) : Prop := ∃ r : R2, OpR X op r ∧
  ∀ (N : Addr → Prop) (H : Hp) (x y : V) (d e : D) (z : List D) (Q : VK), HSz H → (∀ p, H p = none → ¬ N p) → Rl G N H d x → Rl G N H e y → f d e = .ok z →
    (∀ vs, Rvs G N H z vs → ∀ p, H p = none → Q (.ref p) (upd H p (.lst vs))) → r x y H Q
def dBinL (f : D → D → Re (List D)) (a b : Ev) : Lv := fun sl => (a sl).bind fun x sl1 => (b sl1).bind fun y sl2 => match getS sl2 x, getS sl2 y with
  | some d, some e => match f d e with
    | .ok z => .ok z sl2
    | _ => .bad
  | _, _ => .bad
theorem fl_op {op : Operator} {f : D → D → Re (List D)} (ho : Op2L G X (binaryOp op) f) (ha : FE G W X a da) (hb : FE G W X b db) : FL G W X (.BinOp a op b pos) (dBinL f da db) := fun T => by
  obtain ⟨r, hr, q⟩ := ho
  refine PE.plus (pe_op hr (ha T) (hb T)) fun σ H Q z h hz => ?_
  obtain ⟨A, sl, s, p⟩ := h hz
  refine ⟨A, sl, s, PostG.bind p fun x sl1 u H1 _ s1 k1 r1 p1 _ => ⟨A, sl1, s1, PostG.bind p1 fun y sl2 v H2 _ s2 k2 r2 p2 => ?_⟩⟩
  split at p2
  · rename_i d e e1 e2
    split at p2
    · rename_i z hf
      exact q _ H2 u v d e z _ s2.sz (fun p h => s2.fresh h) (Rl.of s2 (Rs.keep k2 r1) e1) (Rl.of s2 r2 e2) hf fun vs rv p hp hz' => p2 vs H2 s2 .refl rv p hp
    · exact p2.elim
  · exact p2.elim
def dAddL : D → D → Re (List D)
  | .lst a, .lst b => if fits (a.length + b.length) then .ok (a ++ b) else .bad
  | _, _ => .bad
theorem o_addL : Op2L G X (binaryOp .Add) dAddL := by
  refine ⟨_, op_cat, fun N H x y d e z Q hz hn rx ry h k => ?_⟩
  unfold dAddL at h
  split at h
  · rename_i a b
    split at h
    · rename_i hf
      cases h
      obtain ⟨p, vs, e1, s1, r1⟩ := rx.lst
      obtain ⟨q, ws, e2, s2, r2⟩ := ry.lst
      exact ⟨p, q, vs, ws, e1, e2, s1, s2, by rw [← r1.length, ← r2.length]; exact fits_le hf, fun p' hp' => k _ (r1.append r2) p' hp'⟩
    · cases h
  · cases h
def dMulL : D → D → Re (List D)
  | .lst a, .int k => if decide (-(2 ^ 63) ≤ k) && decide (k < 2 ^ 63) && fits (a.length * k.toNat) then .ok (List.replicate k.toNat a).flatten else .bad
  | _, _ => .bad
theorem o_mulL : Op2L G X (binaryOp .Mult) dMulL := by
  refine ⟨_, op_rep, fun N H x y d e z Q hz hn rx ry h k => ?_⟩
  unfold dMulL at h
  split at h
  · split at h
    · rename_i hf
      cases h
      obtain ⟨p, vs, e1, s1, r1⟩ := rx.lst
      simp only [Bool.and_eq_true, decide_eq_true_eq] at hf
      exact ⟨p, _, vs, e1, ry.int, s1, hf.1.1, hf.1.2, by rw [← r1.length]; exact fits_le hf.2, fun p' hp' => k _ (r1.rep _) p' hp'⟩
    · cases h
  · cases h
/-! ### a or b, by truth, both new lists -/
def dOrL (a b : Lv) : Lv := fun sl => (a sl).bind fun ds sl1 => if ds.isEmpty then b sl1 else .ok ds sl1
theorem fl_one (h : FL G W X a l) : FL G W X (.BoolOp .Or [a] pos) l := fun T => pe_one (h T)
theorem PostG.imp {α β : Type} {rel : Hp → α → β → Prop} {Q Q' : β → Hp → Prop} {r : R α} (p : PostG rel G W T A σ H r Q) (f : ∀ v H, Q v H → Q' v H) : PostG rel G W T A σ H r Q' := by
  cases r with
  | ok s sl' => exact fun v H' a b c => f _ _ (p v H' a b c)
  | ex e sl' => exact p
  | bad => exact p
theorem fl_or {rest : List Expr} (ha : FL G W X a l) (hb : FL G W X (.BoolOp .Or (b :: rest) pos) lb) : FL G W X (.BoolOp .Or (a :: b :: rest) pos) (dOrL l lb) := fun T => by
  refine PE.plus (pe_orT (ha T) (hb T)) fun σ H Q z h hz => ?_
  obtain ⟨A, sl, s, p⟩ := h hz
  refine ⟨A, sl, s, PostG.bind p fun ds sl1 vs H1 _ s1 k1 r1 p1 p hp => ⟨!vs.isEmpty, .inl ⟨vs, SqL.of upd_same, rfl⟩, ?_⟩⟩
  have sm := same_fresh hp (.lst vs)
  cases r1 with
  | nil =>
    rw [if_neg (by simp)]
    intro hz2
    exact ⟨A, sl1, s1.grown sm hz2, PostG.keep (.same sm) (p1.imp fun v H' q p hp _ => q p hp)⟩
  | cons h1 h2 =>
    rw [if_pos (by simp)]
    exact fun _ => p1 _ H1 s1 .refl (.cons h1 h2) p hp

/-! ### defs that hand back a new list -/
/-- a promise: the list that comes is new -/
def spF (G : Glue) (n : Nat) (f : List D → Re (List D)) : Sp := fun vs H Q E => ∃ (N : Addr → Prop) (ds : List D), (∀ p, N p → ∃ o, H p = some o) ∧ Rvs G N H ds vs ∧ ds.length = n ∧
  match f ds with
  | .ok zs => ∀ ws H' p, Same H H' → HSz (upd H' p (.lst ws)) → Rvs G N H' zs ws → H' p = none → Q (.ref p) (upd H' p (.lst ws))
  | _ => False
theorem spF.len {n : Nat} {f : List D → Re (List D)} {vs : List V} {H : Hp} {Q : VK} {E : XK} (h : spF G n f vs H Q E) : vs.length = n := by
  obtain ⟨N, ds, _, r, e, _⟩ := h
  rw [← r.length, e]
def runF (n : Nat) (m : Sm) (l : Lv) (ds : List D) : Re (List D) := match m (initS n ds) with
  | .nx sl => match l sl with
    | .ok zs _ => .ok zs
    | _ => .bad
  | _ => .bad
theorem fn_fresh {P : Program} {w : World} {mg : Str → Option Value} {base : Heap} {x qual : Str} {st : Stmt} {f : Addr} {fd : FuncData} {N ps : List Str} {k n : Nat} {e : Expr} {st1 : Stmt} {m : Sm} (F : Fun G.K x qual st f fd) (S : FnScope N ps (defScope st)) (hn : ps.length = n) (hb : defBody st = [st1, .Return (some e) pos])
    (hbody : ∀ (cdv : Value) (A : Around) (outer : List Env) (s : Shared) (H : Hp) (E : XK), Room k (A.deeper (envOfC qual (defScope st) s.heap.objs.size f cdv)) →
      Takes (cxOf (L2.CX P w) P w G.K mg base N qual (defScope st) f cdv A outer s H E) (wOf E) →
      FS G (wOf E) (cxOf (L2.CX P w) P w G.K mg base N qual (defScope st) f cdv A outer s H E) st1 m ∧ FL G (wOf E) (cxOf (L2.CX P w) P w G.K mg base N qual (defScope st) f cdv A outer s H E) e l) : FnOk P w G.K mg base (L2.CX P w) (k + 1) f fd ps (spF G n (runF N.length m l)) := by
  refine F.okX S (fun vs H Q E h => by rw [h.len, hn]) fun cdv A outer s H vs Q E hr h => ?_
  obtain ⟨N0, ds, tr, r, hl, h⟩ := h
  rw [hb]
  obtain ⟨b1, b2⟩ := hbody cdv A outer s H E hr (takes_of rfl rfl rfl rfl)
  refine ⟨_, pss_cons (b1 ⟨N0, H, none, []⟩) (pss_one (ps_ret (PE.plus (t' := fun σ H' Q => tNew G (wOf E) ⟨N0, H, none, []⟩ l σ H' fun v H' => HSz H' → Q v H') (b2 ⟨N0, H, none, []⟩) fun σ H Q _ p => p))), fun hz => ⟨_, _, sr_start tr r hz, ?_⟩⟩
  unfold runF at h
  cases h1 : m (initS N.length ds) with
  | nx sl1 =>
    rw [h1] at h
    dsimp only at h
    intro A' σ H1 s1 hz
    refine ⟨A', sl1, s1, ?_⟩
    cases hm : l sl1 with
    | ok zs sl =>
      rw [hm] at h
      exact fun ws H1 s1 k1 r1 p hp hz2 => h ws H1 p (fun b o e => s1.kept b o e (by simp)) hz2 (r1.anti fun a z => .inl z) hp
    | ex e sl => rw [hm] at h; exact h.elim
    | bad => rw [hm] at h; exact h.elim
  | rt _ _ => rw [h1] at h; exact h.elim
  | bk _ => rw [h1] at h; exact h.elim
  | ct _ => rw [h1] at h; exact h.elim
  | ex _ _ => rw [h1] at h; exact h.elim
  | bad => rw [h1] at h; exact h.elim
/-- a call of such a def -/
def dCallF (n : Nat) (f : List D → Re (List D)) (r : Evs) : Lv := fun sl => (r sl).bind fun xs sl1 => match asVs xs with
  | some ds => if ds.length = n then match f ds with
    | .ok z => .ok z sl1
    | _ => .bad
    else .bad
  | none => .bad
theorem fl_call {x : Str} {k n : Nat} {ps : List Str} {f : List D → Re (List D)} (c : Cal X.prog X.w X.K X.mg X.base k x ps (spF G n f)) (tk : Takes X W) (hr : Room k X.A) (ha : FA G W X (e :: es) ds) (hg : Gl X x := by rfl) (hdb : (x == ("__debug__" : Str)) = false := by decide)
    (he : starEach (e :: es) X.env = (false, eval e X.env) :: starEach es X.env := by rfl) (hpl : (backTo pos (starEach es X.env)).any (·.1) = false := by rfl) : FL G W X (.Call (.Name x p) (e :: es) [] pos) (dCallF n f ds) := fun T => by
  obtain ⟨fa, fd, h1, h2, h3, h4⟩ := c.ex
  refine PE.plus (pe_callS h4 hr hg h1 h2 h3 (fun σ => passAt tk σ) (ha T) hdb he hpl) fun σ H Q z h hz => ?_
  obtain ⟨A, sl, s, p⟩ := h hz
  refine ⟨A, sl, s, PostG.bind p fun xs sl1 vs H1 _ s1 k1 r1 p1 => ?_⟩
  split at p1
  · rename_i ds' e'
    have rv := asVs_rv r1 e'
    split at p1
    · rename_i hn
      cases hf : f ds' with
      | ok zs =>
        rw [hf] at p1
        refine ⟨T.N A, ds', s1.tracked, rv, hn, ?_⟩
        rw [hf]
        intro ws H' p sm hz1 rz hp _
        exact p1 ws H' (s1.grown sm (hsz_down _ _ _ hp hz1)) (.same sm) rz p hp
      | ex e => rw [hf] at p1; exact p1.elim
      | bad => rw [hf] at p1; exact p1.elim
    · exact p1.elim
  · exact p1.elim
end
end F

set_option Elab.async false
set_option linter.all false
set_option maxRecDepth 100000
set_option maxHeartbeats 4000000
namespace F
open PySem PySem.Spec PyProof.Rows L2
/-! ### the built-ins -/
theorem bb_len : bootBuiltins "len" = some (.builtin "len") := by decide +kernel
theorem bb_abs : bootBuiltins "abs" = some (.builtin "abs") := by decide +kernel
theorem bb_max : bootBuiltins "max" = some (.builtin "max") := by decide +kernel
theorem bb_min : bootBuiltins "min" = some (.builtin "min") := by decide +kernel
theorem bb_sum : bootBuiltins "sum" = some (.builtin "sum") := by decide +kernel
theorem bb_all : bootBuiltins "all" = some (.builtin "all") := by decide +kernel
theorem bb_any : bootBuiltins "any" = some (.builtin "any") := by decide +kernel
theorem bb_sorted : bootBuiltins "sorted" = some (.builtin "sorted") := by decide +kernel
theorem bb_isinstance : bootBuiltins "isinstance" = some (.builtin "isinstance") := by decide +kernel
theorem bb_int : bootBuiltins "int" = some (.type "int") := by decide +kernel
theorem bb_bool : bootBuiltins "bool" = some (.type "bool") := by decide +kernel
theorem bb_str : bootBuiltins "str" = some (.type "str") := by decide +kernel
theorem bb_list : bootBuiltins "list" = some (.type "list") := by decide +kernel
theorem bb_tuple : bootBuiltins "tuple" = some (.type "tuple") := by decide +kernel
theorem bb_set : bootBuiltins "set" = some (.type "set") := by decide +kernel
theorem bb_range : bootBuiltins "range" = some (.type "range") := by decide +kernel
theorem bb_zip : bootBuiltins "zip" = some (.type "zip") := by decide +kernel
theorem bb_enumerate : bootBuiltins "enumerate" = some (.type "enumerate") := by decide +kernel
/-! ### sorted(set(..)) of ints -/
def insI (k : Int) : List Int → List Int
  | [] => [k]
  | x :: xs => if k < x then k :: x :: xs else if k = x then x :: xs else x :: insI k xs
def sortI (xs : List Int) : List Int := xs.foldr insI []
theorem insI_mem {k j : Int} : ∀ {xs : List Int}, j ∈ insI k xs ↔ j = k ∨ j ∈ xs
  | [] => by simp [insI]
  | x :: xs => by
    unfold insI
    split
    · simp
    · split
      · rename_i h; subst h; simp
      · simp only [List.mem_cons, insI_mem (xs := xs)]
        constructor
        · rintro (h | h | h) <;> simp [h]
        · rintro (h | h | h) <;> simp [h]
theorem sortI_mem {j : Int} : ∀ {xs : List Int}, j ∈ sortI xs ↔ j ∈ xs
  | [] => by simp [sortI]
  | x :: xs => by
    show j ∈ insI x (sortI xs) ↔ _
    rw [insI_mem, sortI_mem (xs := xs)]; simp
theorem insI_lt {k : Int} : ∀ {xs : List Int}, xs.Pairwise (· < ·) → (insI k xs).Pairwise (· < ·)
  | [], _ => by simp [insI]
  | x :: xs, h => by
    obtain ⟨h1, h2⟩ := List.pairwise_cons.mp h
    unfold insI
    split
    · rename_i hk
      exact List.pairwise_cons.mpr ⟨fun y hy => by
        rcases List.mem_cons.mp hy with rfl | hy
        · exact hk
        · exact Int.lt_trans hk (h1 y hy), h⟩
    · split
      · exact h
      · exact List.pairwise_cons.mpr ⟨fun y hy => by
          rcases insI_mem.mp hy with rfl | hy
          · omega
          · exact h1 y hy, insI_lt h2⟩
theorem sortI_lt : ∀ {xs : List Int}, (sortI xs).Pairwise (· < ·)
  | [] => .nil
  | x :: xs => insI_lt (sortI_lt (xs := xs))
theorem lt_uniq : ∀ {xs ys : List Int}, xs.Pairwise (· < ·) → ys.Pairwise (· < ·) → (∀ k, k ∈ xs ↔ k ∈ ys) → xs = ys
  | [], [], _, _, _ => rfl
  | [], y :: ys, _, _, h => by have := (h y).mpr (by simp); simp at this
  | x :: xs, [], _, _, h => by have := (h x).mp (by simp); simp at this
  | x :: xs, y :: ys, h1, h2, h => by
    obtain ⟨a1, a2⟩ := List.pairwise_cons.mp h1
    obtain ⟨b1, b2⟩ := List.pairwise_cons.mp h2
    have e : x = y := by
      rcases List.mem_cons.mp ((h x).mp (by simp)) with e | e
      · exact e
      · rcases List.mem_cons.mp ((h y).mpr (by simp)) with e' | e'
        · exact e'.symm
        · have := a1 y e'; have := b1 x e; omega
    subst e
    refine congrArg (x :: ·) (lt_uniq a2 b2 fun k => ⟨fun hk => ?_, fun hk => ?_⟩)
    · rcases List.mem_cons.mp ((h k).mp (by simp [hk])) with e | e
      · have := a1 k hk; omega
      · exact e
    · rcases List.mem_cons.mp ((h k).mpr (by simp [hk])) with e | e
      · have := b1 k hk; omega
      · exact e
section
variable {G : Glue} {W : WX} {X : Cx} {a : Expr} {da : Ev} {pos p p2 pos2 : Pos}
def dSortSet (a : Ev) : Lv := fun sl => (a sl).bind fun x sl1 => match getS sl1 x with
  | some (.tup xs) => match intsOf xs with
    | some ns => if decide (ns.length < 64) then .ok ((sortI ns).map .int) sl1 else .bad
    | none => .bad
  | _ => .bad
theorem fl_sortSet (ha : FE G W X a da) (hm1 : X.mg "sorted" = none) (hm2 : X.mg "set" = none) (hc : X.calm = true := by rfl) (hK : X.K = G.K := by rfl) (hg1 : Gl X "sorted" := by rfl) (hg2 : Gl X "set" := by rfl) (hs : starEach [a] X.env = (false, eval a X.env) :: starEach [] X.env := by rfl)
    (hs2 : starEach [.Call (.Name "set" p2) [a] [] pos2] X.env = (false, eval (.Call (.Name "set" p2) [a] [] pos2) X.env) :: starEach [] X.env := by rfl) : FL G W X (.Call (.Name "sorted" p) [.Call (.Name "set" p2) [a] [] pos2] [] pos) (dSortSet da) := fun T => by
  refine PE.plus (pe_callB (cr_sortedSet hc) hg1 hm1 bb_sorted (pa_cons (pe_callTy (cr_setI hc) hg2 hm2 bb_set (pa_cons (ha T) pa_nil hs) (he := hs)) pa_nil hs2) (he := hs2)) fun σ H Q z h hz => ?_
  obtain ⟨A, sl, s, q⟩ := h hz
  refine ⟨A, sl, s, PostG.bind q fun x sl1 v H1 _ s1 k1 r1 p1 => ?_⟩
  split at p1
  · rename_i xs e
    split at p1
    · rename_i ns e2
      split at p1
      · rename_i hl
        have hl := of_decide_eq_true hl
        obtain ⟨l, vs, rfl, sq, rv⟩ := tupK hK (Rl.of s1 r1 e)
        have ev := ints_rv rv e2
        subst ev
        refine ⟨l, ns, rfl, sq, by omega, fun q S c hq hS hcl => ⟨q, S, c, rfl, upd_same, by omega, fun ms r hms hm hlen hr hz2 => ?_⟩⟩
        have em : ms = sortI ns := lt_uniq hms sortI_lt fun k => by rw [hm, hS, sortI_mem]
        subst em
        have sm := same_fresh hq (SetO X.w q S c)
        exact p1 _ _ (s1.grown sm (hsz_down _ _ _ hr hz2)) (.same sm) (Rvs.ints _ |> fun z => by simpa using z) r hr
      · exact p1.elim
    · exact p1.elim
  · exact p1.elim
end
/-! ### what a law's text has -/
/-- a constant of the module -/
def GlobD (G : Glue) (mg : Str → Option Value) (x : Str) (d : D) : Prop := ∃ v u, mg x = some u ∧ RelV v u ∧ ∀ N H, Rv G N H d v
theorem GlobD.fe {G : Glue} {W : WX} {X : Cx} {x : Str} {d : D} {pos : Pos} (h : GlobD G X.mg x d) (hg : Gl X x := by rfl) (hd : (x == ("__debug__" : Str)) = false := by decide) : FE G W X (.Name x pos) (dC d) := by
  obtain ⟨v, u, h1, h2, h3⟩ := h
  exact fe_glob h1 h2 h3 hg hd
def Calms (l : List (Nat × Sm)) : Prop := ∀ q ∈ l, Calm q.2
theorem calms_nil : Calms [] := fun _ h => nomatch h
theorem calms_cons {n : Nat} {m : Sm} {l : List (Nat × Sm)} (h : Calm m) (hs : Calms l) : Calms ((n, m) :: l) := fun q hq => by
  rcases List.mem_cons.mp hq with rfl | hq
  · exact h
  · exact hs q hq
theorem calm_retC {d : D} : Calm (mRet (dC d)) := fun _ => trivial
theorem hu130 {A : Around} {k : Nat} (h : Room k A) : A.units + 130 < cLine := by have := h.un; omega
end F

set_option Elab.async false
set_option linter.all false
set_option maxRecDepth 100000
set_option maxHeartbeats 4000000
namespace F
open PySem PySem.Spec PyProof.Rows L2
/-! ### the law's own promise, and the end -/
def ScriptOk (ns : List Int) : Prop := ns.length ≤ 63 ∧ ∀ z ∈ ns, Builtin.Int.intBits z ≤ 1048576
def spLaw (K : PySem.W.Frag) : Sp := fun vs H Q _ => ∃ (a : Addr) (ns : List Int), vs = [.ref a] ∧ SqL K H a (ns.map V.int) ∧ ScriptOk ns ∧ Only H ∧ ∀ H', Q (.bl true) H'
theorem law_imp {G : Glue} {f : List D → Re D} (hl : ∀ ns, ScriptOk ns → f [.scr (ns.map .int)] = .ok (.bl true)) : ∀ vs H Q E, spLaw G.K vs H Q E → spP G 1 f vs H Q E := fun vs H Q E h => by
  obtain ⟨a, ns, rfl, sq, ok, on, q⟩ := h
  refine ⟨fun _ => False, [.scr (ns.map .int)], fun _ z => z.elim, .cons (.scr ?_ (Rvs.ints ns)) .nil, rfl, ?_⟩
  · rcases sq with (z | ⟨o, z⟩) | z
    · rcases on a with e | ⟨o, xs, e⟩
      · rw [e] at z; cases z
      · rw [e] at z; cases z
    · exact .inl ⟨o, z⟩
    · exact .inr z
  · rw [hl ns ok]
    intro v H' sm r
    cases r
    exact q H'
/-- is an error of class S what «except R» names -/
theorem exm_pair {K : PySem.W.Frag} {S R : Addr} {v : Bool} (h1 : PySem.W.subIn K (.ref R) (.type "BaseException") = some true) (h2 : PySem.W.isClsIn K R = true) (h3 : PySem.W.typeIn K (.ref R) = some (.type "type")) (h4 : PySem.W.subIn K (.ref S) (.ref R) = some v) :
    PySem.W.exmOne K (.ref S) (.ref R) = some v := by
  have e1 : (PySem.W.subIn K (.ref R) (.type "BaseException") == some true) = true := by rw [h1] <;> rfl
  have e2 : ((PySem.W.clsIn K R).isSome && PySem.W.typeIn K (.ref R) == some (.type "type")) = true := by
    have h2' : (PySem.W.clsIn K R).isSome = true := h2
    rw [h2', h3] <;> rfl
  show (if (PySem.W.subIn K (.ref R) (.type "BaseException") == some true) = true then (if ((PySem.W.clsIn K R).isSome && PySem.W.typeIn K (.ref R) == some (.type "type")) = true then PySem.W.subIn K (.ref S) (.ref R) else none) else none) = some v
  rw [if_pos e1, if_pos e2]
  exact h4
theorem fn_none {P : Program} {w : World} {K : PySem.W.Frag} {mg : Str → Option Value} {base : Heap} {k : Nat} {f : Addr} {fd : FuncData} {ps : List Str} {sp : Sp} (h : ∀ vs H Q E, ¬ sp vs H Q E) : FnOk P w K mg base (L2.CX P w) k f fd ps sp :=
  ⟨fun vs H Q E z => absurd z (h vs H Q E), fun A outer s H args us vs Q E _ _ _ _ z => absurd z (h vs H Q E)⟩
theorem no_P {G : Glue} {n : Nat} : ∀ vs H Q E, ¬ spP G n (fun _ => .bad) vs H Q E := fun vs H Q E h => by
  obtain ⟨_, _, _, _, _, z⟩ := h
  exact z
theorem no_T {G : Glue} {n : Nat} : ∀ vs H Q E, ¬ spT G n (fun _ _ => .bad) vs H Q E := fun vs H Q E h => by
  obtain ⟨_, _, _, _, _, _, _, _, _, _, _, _, _, z⟩ := h
  exact z
theorem cal_mk {P : Program} {w : World} {K : PySem.W.Frag} {mg : Str → Option Value} {base h : Heap} {k : Nat} {x : Str} {ps : List Str} {sp : Sp} {f : Addr} {fd : FuncData} (X : K.In h) (G : h.Ns mainGlobals mg) (a : PySem.W.nsIn K mainGlobals x = some (some (.ref f)))
    (kp : PySem.W.keepIn K (.ref f) = true) (b : Binds K fd ps []) (ok : FnOk P w K mg base (L2.CX P w) k f fd ps sp) : Cal P w K mg base k x ps sp := ⟨⟨f, fd, PySem.W.mg_of X G a, kp, b, ok⟩⟩
theorem walk {l : PySem.W.OpenLaw} {k : Nat} {q : Program} {loose : List Str} {XP : (Str → Option Value) → Heap → Prop} {YP : World → Heap → Prop} {d : DefRec} {K : Params → PySem.W.Frag} (hr : Room k callerA) (hn : l.most = some 63) (hdf : d.params.defaults = [])
    (hY : ∀ (w : World) (h : Heap), YP w h → (K w.params).In h)
    (F : ∀ (w : World) (mg : Str → Option Value) (fa : Addr) (h : Heap), (K w.params).In h → h.Ns mainGlobals mg → mg d.name = some (.ref fa) →
      ∃ fd : FuncData, (∀ (s : Shared) (u : Value), BindsTo s fd ⟨[u], []⟩ [("script", u)]) ∧ ∀ base : Heap, (K w.params).In base → base.Ns mainGlobals mg → FnOk l.prog w (K w.params) mg base (L2.CX l.prog w) k fa fd ["script"] (spLaw (K w.params))) :
    PySem.W.WalkO q loose XP YP l.row.toRowW d [] (fun f vs => PySem.call f vs) :=
  L2.walk_ofB (n := 63) (k := k) (x := "script") (CX := fun w => L2.CX l.prog w) (sp := fun w => spLaw (K w.params)) hn (by decide) hdf hr hY F (fun _ _ a ns hl hb on hS => ⟨a, ns, rfl, hS, ⟨hl, hb⟩, on, fun _ => rfl⟩)
    fun w H s e s' z => by
      obtain ⟨_, _, _, _, _, _, _, _, _, _, _, _, z⟩ := z
      exact z
end F

set_option Elab.async false
set_option linter.all false
set_option maxRecDepth 100000
set_option maxHeartbeats 4000000
namespace F
open PySem PySem.Spec
/-! ### reading meanings: rules for simp -/
section
variable {α β : Type} {a : α} {sl : Sl} {e : Ex} {f : α → Sl → R β} {g : α → Sl → Fl} {m m1 m2 : Sm} {x : S} {d : D} {ds : List D} {p q r : Ev} {rs : Evs} {l : Lv}
@[simp] theorem ev_bind_ok : (R.ok a sl).bind f = f a sl := rfl
@[simp] theorem ev_bind_ex : (R.ex e sl : R α).bind f = .ex e sl := rfl
@[simp] theorem ev_bind_bad : (R.bad : R α).bind f = .bad := rfl
@[simp] theorem ev_to_ok : (R.ok a sl).to g = g a sl := rfl
@[simp] theorem ev_to_ex : (R.ex e sl : R α).to g = .ex e sl := rfl
@[simp] theorem ev_to_bad : (R.bad : R α).to g = .bad := rfl
@[simp] theorem ev_seq_nx : (Fl.nx sl).seq m = m sl := rfl
@[simp] theorem ev_seq_rt : (Fl.rt x sl).seq m = .rt x sl := rfl
@[simp] theorem ev_seq_bk : (Fl.bk sl).seq m = .bk sl := rfl
@[simp] theorem ev_seq_ct : (Fl.ct sl).seq m = .ct sl := rfl
@[simp] theorem ev_seq_ex : (Fl.ex e sl).seq m = .ex e sl := rfl
@[simp] theorem ev_seq_bad : (Fl.bad).seq m = .bad := rfl
@[simp] theorem ev_mSeq : mSeq m1 m2 sl = (m1 sl).seq m2 := rfl
@[simp] theorem ev_mNil : mNil sl = .nx sl := rfl
@[simp] theorem ev_mBrk : mBrk sl = .bk sl := rfl
@[simp] theorem ev_mCont : mCont sl = .ct sl := rfl
@[simp] theorem ev_mRaise {n : Nat} : mRaise n sl = .ex (.plain n) sl := rfl
@[simp] theorem ev_mRetN : mRetN sl = .rt (.v .non) sl := rfl
@[simp] theorem ev_mRet : mRet p sl = (p sl).to fun x sl1 => .rt x sl1 := rfl
@[simp] theorem ev_mDrop : mDrop p sl = (p sl).to fun _ sl1 => .nx sl1 := rfl
@[simp] theorem ev_mIf : mIf p m1 m2 sl = (dB p sl).to fun k sl1 => if k = true then m1 sl1 else m2 sl1 := rfl
@[simp] theorem ev_dB : dB p sl = (p sl).bind asB := rfl
@[simp] theorem ev_asB {b : Bool} : asB (.v (.bl b)) sl = .ok b sl := rfl
def mSetK (i : Nat) : S → Sl → Fl
  | .v d, sl => .nx (sl.set i (some (.v d)))
  | .r _, _ => .bad
@[simp] theorem ev_mSetK {i : Nat} : mSetK i (.v d) sl = .nx (sl.set i (some (.v d))) := rfl
@[simp] theorem ev_mSet {i : Nat} : mSet i p sl = (p sl).to (mSetK i) := by
  unfold mSet; congr 1; funext x sl; cases x <;> rfl
@[simp] theorem ev_dC : dC d sl = .ok (.v d) sl := rfl
@[simp] theorem ev_dVar {i : Nat} : dVar i sl = match sl[i]? with
  | some (some (.v d)) => .ok (.v d) sl
  | some (some (.m _)) => .ok (.r i) sl
  | _ => .bad := rfl
@[simp] theorem ev_two {f : D → D → Re D} {d e z : D} (h : f d e = .ok z) : two f sl (.v d) (.v e) = .ok (.v z) sl := by
  unfold two; simp only [getS, h]
@[simp] theorem ev_dBin {f : D → D → Re D} : dBin f p q sl = (p sl).bind fun x sl1 => (q sl1).bind fun y sl2 => two f sl2 x y := rfl
@[simp] theorem ev_dChain {f g : D → D → Re D} : dChain f g p q r sl = (p sl).bind fun x sl1 => (q sl1).bind fun y sl2 => ((two f sl2 x y).bind asB).bind fun k sl3 => if k = true then (r sl3).bind fun z sl4 => two g sl4 y z else .ok (.v (.bl false)) sl3 := rfl
@[simp] theorem ev_dAnd : dAnd p q sl = ((p sl).bind asB).bind fun k sl1 => if k = true then q sl1 else .ok (.v (.bl false)) sl1 := rfl
@[simp] theorem ev_dOr : dOr p q sl = ((p sl).bind asB).bind fun k sl1 => if k = true then .ok (.v (.bl true)) sl1 else q sl1 := rfl
@[simp] theorem ev_dNot : dNot p sl = ((p sl).bind asB).bind fun k sl1 => .ok (.v (.bl (!k))) sl1 := rfl
@[simp] theorem ev_dIf : dIf p q r sl = ((p sl).bind asB).bind fun k sl1 => if k = true then q sl1 else r sl1 := rfl
@[simp] theorem ev_dNil : dNil sl = .ok [] sl := rfl
@[simp] theorem ev_dCons : dCons p rs sl = (p sl).bind fun x sl1 => (rs sl1).bind fun xs sl2 => .ok (x :: xs) sl2 := rfl
@[simp] theorem ev_asVs0 : asVs [] = some [] := rfl
@[simp] theorem ev_asVs1 {s : List S} : asVs (.v d :: s) = match asVs s with | some ds => some (d :: ds) | none => none := rfl
@[simp] theorem ev_getS : getS sl (.v d) = some d := rfl
@[simp] theorem ev_getAll0 : getAll sl [] = some [] := rfl
@[simp] theorem ev_getAll1 {s : List S} : getAll sl (.v d :: s) = match getAll sl s with | some ds => some (d :: ds) | none => none := by
  simp only [getAll, getS]
  all_goals (cases getAll sl s <;> rfl)
@[simp] theorem ev_dTup : dTup rs sl = (rs sl).bind fun xs sl1 => match asVs xs with
  | some ds => if fits ds.length then .ok (.v (.tup ds)) sl1 else .bad
  | none => .bad := rfl
@[simp] theorem ev_dItems : dItems rs sl = (rs sl).bind fun xs sl1 => match asVs xs with
  | some ds => if fits ds.length then .ok ds sl1 else .bad
  | none => .bad := rfl
@[simp] theorem ev_dL : dL l sl = (l sl).bind fun ds sl1 => .ok (.v (.lst ds)) sl1 := rfl
@[simp] theorem ev_dCB {f : List D → Re D} : dCB f rs sl = (rs sl).bind fun xs sl1 => match getAll sl1 xs with
  | some ds => match f ds with
    | .ok z => .ok (.v z) sl1
    | _ => .bad
  | none => .bad := rfl
@[simp] theorem ev_dCall {n : Nat} {f : List D → Re D} : dCall n f rs sl = (rs sl).bind fun xs sl1 => match asVs xs with
  | some ds => match ari n f ds with
    | .ok z => .ok (.v z) sl1
    | .ex e => .ex e sl1
    | .bad => .bad
  | none => .bad := rfl
@[simp] theorem ev_ari {n : Nat} {f : List D → Re D} : ari n f ds = if ds.length = n then f ds else .bad := rfl
def fin : Fl → Re D
  | .nx _ => .ok .non
  | .rt s sl => match retV sl s with
    | some d => .ok d
    | none => .bad
  | .ex e _ => .ex e
  | _ => .bad
theorem ev_runP {n : Nat} : runP n m ds = fin (m (initS n ds)) := rfl
@[simp] theorem ev_fin_nx : fin (.nx sl) = .ok .non := rfl
@[simp] theorem ev_fin_rt : fin (.rt (.v d) sl) = .ok d := rfl
@[simp] theorem ev_fin_ex : fin (.ex e sl) = .ex e := rfl
@[simp] theorem ev_fin_if {c : Prop} [Decidable c] {a b : Fl} : fin (if c then a else b) = if c then fin a else fin b := by split <;> rfl
@[simp] theorem ev_bind_if {c : Prop} [Decidable c] {a b : R α} : (if c then a else b).bind f = if c then a.bind f else b.bind f := by split <;> rfl
@[simp] theorem ev_to_if {c : Prop} [Decidable c] {a b : R α} : (if c then a else b).to g = if c then a.to g else b.to g := by split <;> rfl
@[simp] theorem ev_seq_if {c : Prop} [Decidable c] {a b : Fl} : (if c then a else b).seq m = if c then a.seq m else b.seq m := by split <;> rfl
@[simp] theorem ev_initS {n : Nat} : initS n ds = ds.map (fun d => some (Sv.v d)) ++ List.replicate (n - ds.length) none := rfl
@[simp] theorem ev_retV : retV sl (.v d) = some d := rfl
@[simp] theorem ev_dIsi {ns : List String} : dIsi ns p sl = (p sl).bind fun x sl1 => match getS sl1 x with
  | some d => .ok (.v (.bl (ns.any (isTy d)))) sl1
  | none => .bad := rfl
@[simp] theorem ev_fits {n : Nat} (h : n ≤ 1000) : fits n = true := by
  unfold fits; exact decide_eq_true (Nat.le_of_lt (L2.small1000 h))
@[simp] theorem ev_getR {i : Nat} : getS sl (.r i) = match sl[i]? with
  | some (some (.m xs)) => some (.lst xs)
  | _ => none := rfl
theorem ev_two_g {f : D → D → Re D} {x y : S} {d e z : D} (h1 : getS sl x = some d) (h2 : getS sl y = some e) (h : f d e = .ok z) : two f sl x y = .ok (.v z) sl := by
  unfold two; simp only [h1, h2, h]
@[simp] theorem ev_two_r {f : D → D → Re D} {i : Nat} {xs : List D} {e z : D} (h1 : sl[i]? = some (some (.m xs))) (h : f (.lst xs) e = .ok z) : two f sl (.r i) (.v e) = .ok (.v z) sl :=
  ev_two_g (by rw [ev_getR, h1]) rfl h
@[simp] theorem ev_getAllr {s : List S} {i : Nat} : getAll sl (.r i :: s) = match getS sl (.r i), getAll sl s with | some d, some ds => some (d :: ds) | _, _ => none := by
  simp only [getAll]
  all_goals (cases getS sl (.r i) <;> cases getAll sl s <;> rfl)
@[simp] theorem ev_mSetIx {i : Nat} : mSetIx i p q sl = (p sl).to fun x sl1 => if isM sl1 i then (q sl1).to fun y sl2 => match x, sl2[i]?, getS sl2 y with
  | .v d, some (some (.m ys)), some (.int k) => match L2.ixN ys.length k with
    | some j => .nx (sl2.set i (some (.m (ys.set j d))))
    | none => .bad
  | _, _, _ => .bad
  else .bad := rfl
@[simp] theorem ev_mNew {i : Nat} : mNew i l sl = (l sl).to fun ds sl1 => .nx (sl1.set i (some (.m ds))) := rfl
@[simp] theorem ev_dNoPart : dNoPart sl = .ok none sl := rfl
@[simp] theorem ev_dPart : dPart p sl = (p sl).bind fun x sl1 => match getS sl1 x with
  | some (.int i) => .ok (some i) sl1
  | _ => .bad := rfl
def sliceO : Option D → Option Int → Option Int → Sl → R S
  | some (.tup xs), l, u, sl => .ok (.v (.tup (cut xs l u))) sl
  | some (.lst xs), l, u, sl => .ok (.v (.lst (cut xs l u))) sl
  | some (.scr xs), l, u, sl => .ok (.v (.lst (cut xs l u))) sl
  | _, _, _, _ => .bad
@[simp] theorem ev_dSl {lo hi : Ov} : dSl p lo hi sl = (p sl).bind fun x sl1 => (lo sl1).bind fun l sl2 => (hi sl2).bind fun u sl3 => sliceO (getS sl3 x) l u sl3 := by
  unfold dSl
  congr 1; funext x sl1; congr 1; funext l sl2; congr 1; funext u sl3
  cases getS sl3 x with
  | none => rfl
  | some d => cases d <;> rfl
@[simp] theorem ev_slice_t {u : List D} {l h : Option Int} : sliceO (some (.tup u)) l h sl = .ok (.v (.tup (cut u l h))) sl := rfl
@[simp] theorem ev_slice_l {u : List D} {l h : Option Int} : sliceO (some (.lst u)) l h sl = .ok (.v (.lst (cut u l h))) sl := rfl
@[simp] theorem ev_slice_s {u : List D} {l h : Option Int} : sliceO (some (.scr u)) l h sl = .ok (.v (.lst (cut u l h))) sl := rfl
@[simp] theorem ev_dCL {f : List D → Re (List D)} : dCL f rs sl = (rs sl).bind fun xs sl1 => match getAll sl1 xs with
  | some ds => match f ds with
    | .ok z => .ok z sl1
    | _ => .bad
  | none => .bad := rfl
@[simp] theorem ev_dOrL {l2 : Lv} : dOrL l l2 sl = (l sl).bind fun ds sl1 => if ds.isEmpty then l2 sl1 else .ok ds sl1 := rfl
@[simp] theorem b_list_l {u : List D} : bList [.lst u] = .ok u := rfl
@[simp] theorem b_list_t {u : List D} : bList [.tup u] = .ok u := rfl
@[simp] theorem ev_mFor {t : Tg} {it : Lv} : mFor t it m sl = (it sl).to fun ds sl1 => forL t m ds sl1 := rfl
@[simp] theorem ev_forL0 {t : Tg} : forL t m [] sl = .nx sl := rfl
theorem ev_forL1 {t : Tg} : forL t m (d :: ds) sl = match bindT t d sl with
    | some sl1 => (m sl1).step (forL t m ds)
    | none => .bad := rfl
@[simp] theorem ev_step_nx {k : Sl → Fl} : (Fl.nx sl).step k = k sl := rfl
@[simp] theorem ev_step_ct {k : Sl → Fl} : (Fl.ct sl).step k = k sl := rfl
@[simp] theorem ev_step_bk {k : Sl → Fl} : (Fl.bk sl).step k = .nx sl := rfl
@[simp] theorem ev_step_rt {k : Sl → Fl} : (Fl.rt x sl).step k = .rt x sl := rfl
@[simp] theorem ev_bindT_nm {i : Nat} : bindT (.nm i) d sl = some (sl.set i (some (.v d))) := by simp [bindT]
@[simp] theorem ev_bindT_tp {ts : List Tg} {xs : List D} : bindT (.tp ts) (.tup xs) sl = bindTs ts xs sl := by simp [bindT]
@[simp] theorem ev_bindTs0 : bindTs [] [] sl = some sl := by simp [bindTs]
@[simp] theorem ev_bindTs1 {t : Tg} {ts : List Tg} {xs : List D} : bindTs (t :: ts) (d :: xs) sl = match bindT t d sl with
    | some sl' => bindTs ts xs sl'
    | none => none := by
  simp only [bindTs]
  all_goals (cases bindT t d sl <;> rfl)
@[simp] theorem ev_iEnumL : iEnumL p sl = (p sl).bind fun x sl1 => match x with
  | .v (.lst xs) => .ok (enumFrom 0 xs) sl1
  | _ => .bad := rfl
@[simp] theorem ev_iSeq : iSeq p sl = (p sl).bind fun x sl1 => match x with
  | .v (.lst ds) => .ok ds sl1
  | .v (.tup ds) => .ok ds sl1
  | _ => .bad := rfl
@[simp] theorem ev_iRange2 : iRange2 p q sl = (p sl).bind fun x sl1 => (q sl1).bind fun y sl2 => match getS sl2 x, getS sl2 y with
  | some (.int i), some (.int j) => if rgOk i j then .ok (rgD i j) sl2 else .bad
  | _, _ => .bad := rfl
@[simp] theorem ev_iRange1 : iRange1 p sl = (p sl).bind fun x sl1 => match getS sl1 x with
  | some (.int n) => if rgOk 0 n then .ok (rgD 0 n) sl1 else .bad
  | _ => .bad := rfl
@[simp] theorem ev_iZip : iZip p q sl = (p sl).bind fun x sl1 => (q sl1).bind fun y sl2 => match x, y with
  | .v (.lst xs), .v (.lst ys) => .ok (zipD xs ys) sl2
  | .v (.tup xs), .v (.tup ys) => .ok (zipD xs ys) sl2
  | _, _ => .bad := rfl
@[simp] theorem ev_mAsg {t : Tg} : mAsg t p sl = (p sl).to fun x sl1 => match x with
  | .v d => match bindT t d sl1 with
    | some sl2 => .nx sl2
    | none => .bad
  | .r _ => .bad := rfl
@[simp] theorem ev_dUn {f : D → Re D} : dUn f p sl = (p sl).bind fun x sl1 => match getS sl1 x with
  | some d => match f d with
    | .ok z => .ok (.v z) sl1
    | _ => .bad
  | none => .bad := rfl
@[simp] theorem op_neg_i {i : Int} : dNeg (.int i) = .ok (.int (-i)) := rfl
theorem cut_to {xs : List α} {k : Nat} : cut xs none (some (k : Int)) = xs.take k := by
  unfold cut
  rw [HT.sIx_none, HT.sIx_nat]
  simp only [List.drop_zero, Nat.sub_zero]
  by_cases h : k ≤ xs.length
  · rw [Nat.min_eq_left h]
  · rw [Nat.min_eq_right (by omega), List.take_length, List.take_of_length_le (by omega)]
theorem cut_from {xs : List α} {k h : Nat} (hh : xs.length ≤ h) : cut xs (some (k : Int)) (some (h : Int)) = xs.drop k := by
  unfold cut
  rw [HT.sIx_nat, HT.sIx_nat, Nat.min_eq_right hh]
  by_cases hk : k ≤ xs.length
  · rw [Nat.min_eq_left hk]; exact List.take_of_length_le (by rw [List.length_drop]; omega)
  · rw [Nat.min_eq_right (by omega), List.drop_of_length_le (Nat.le_refl _), List.drop_of_length_le (by omega), List.take_nil]
theorem cut_rest {xs : List α} {k : Nat} : cut xs (some (k : Int)) none = xs.drop k := by
  unfold cut
  rw [HT.sIx_nat, HT.sIx_none]
  by_cases hk : k ≤ xs.length
  · rw [Nat.min_eq_left hk]; exact List.take_of_length_le (by rw [List.length_drop]; omega)
  · rw [Nat.min_eq_right (by omega), List.drop_of_length_le (Nat.le_refl _), List.drop_of_length_le (by omega), List.take_nil]
def finT : Fl → Re (D × List D)
  | .nx sl => match sl[0]? with
    | some (some (Sv.m bs')) => .ok (.non, bs')
    | _ => .bad
  | .rt s sl => match sl[0]?, retT sl s with
    | some (some (Sv.m bs')), some d => .ok (d, bs')
    | _, _ => .bad
  | _ => .bad
theorem ev_runT {n : Nat} {bs : List D} : runT n m bs ds = finT (m (initT n bs ds)) := rfl
@[simp] theorem ev_finT_rt {bs : List D} {s2 : Sl} : finT (.rt (.v d) (some (.m bs) :: s2)) = .ok (d, bs) := rfl
@[simp] theorem ev_finT_if {c : Prop} [Decidable c] {a b : Fl} : finT (if c then a else b) = if c then finT a else finT b := by split <;> rfl
@[simp] theorem ev_initT {n : Nat} {bs : List D} : initT n bs ds = some (.m bs) :: (ds.map (fun d => some (Sv.v d)) ++ List.replicate (n - (ds.length + 1)) none) := rfl
@[simp] theorem ev_dCallT {n : Nat} {f : List D → List D → Re (D × List D)} : dCallT n f rs sl = (rs sl).bind fun xs sl1 => match xs with
  | .r i :: ss => match sl1[i]?, asVs ss with
    | some (some (.m bs)), some ds => if ds.length + 1 = n then match f bs ds with
      | .ok (z, bs') => .ok (.v z) (sl1.set i (some (.m bs')))
      | _ => .bad
      else .bad
    | _, _ => .bad
  | _ => .bad := rfl
/-! the operations on what they are for -/
variable {i j : Int} {u v : List D} {b1 b2 : Bool}
@[simp] theorem op_add_i : dAdd (.int i) (.int j) = .ok (.int (i + j)) := rfl
@[simp] theorem op_sub_i : dSub (.int i) (.int j) = .ok (.int (i - j)) := rfl
@[simp] theorem op_div_i (h : divOk j = true) : dDiv (.int i) (.int j) = .ok (.int (i / j)) := by simp only [dDiv, h, if_true]
@[simp] theorem op_mod_i (h : 0 < j) : dMod (.int i) (.int j) = .ok (.int (i % j)) := by simp only [dMod, h, decide_true, if_true]
@[simp] theorem op_mul_i (h : mulOk i j = true) : dMulT (.int i) (.int j) = .ok (.int (i * j)) := by simp only [dMulT, dMul, h, if_true]
@[simp] theorem op_lt_i : dLt (.int i) (.int j) = .ok (.bl (decide (i < j))) := rfl
@[simp] theorem op_le_i : dLe (.int i) (.int j) = .ok (.bl (decide (i ≤ j))) := rfl
@[simp] theorem op_gt_i : dGt (.int i) (.int j) = .ok (.bl (decide (j < i))) := rfl
@[simp] theorem op_ge_i : dGe (.int i) (.int j) = .ok (.bl (decide (j ≤ i))) := rfl
@[simp] theorem op_eq_i : dEq (.int i) (.int j) = .ok (.bl (i == j)) := rfl
@[simp] theorem op_ne_i : dNe (.int i) (.int j) = .ok (.bl (!(i == j))) := rfl
@[simp] theorem op_eq_b : dEq (.bl b1) (.bl b2) = .ok (.bl (b1 == b2)) := rfl
@[simp] theorem op_ne_b : dNe (.bl b1) (.bl b2) = .ok (.bl (!(b1 == b2))) := rfl
@[simp] theorem op_ix_t : dIx (.tup u) (.int i) = match L2.atI u i with | some d => .ok d | none => .bad := rfl
@[simp] theorem op_ix_l : dIx (.lst u) (.int i) = match L2.atI u i with | some d => .ok d | none => .bad := rfl
@[simp] theorem b_len_t : bLen [.tup u] = .ok (.int u.length) := rfl
@[simp] theorem b_len_l : bLen [.lst u] = .ok (.int u.length) := rfl
@[simp] theorem b_len_s : bLen [.scr u] = .ok (.int u.length) := rfl
@[simp] theorem b_int_i : bInt [.int i] = .ok (.int i) := rfl
@[simp] theorem b_abs_i : bAbs [.int i] = .ok (.int (if i < 0 then -i else i)) := rfl
@[simp] theorem b_tuple_l : bTuple [.lst u] = .ok (.tup u) := rfl
@[simp] theorem b_tuple_t : bTuple [.tup u] = .ok (.tup u) := rfl
@[simp] theorem op_add_t (h : fits (u.length + v.length) = true) : dAdd (.tup u) (.tup v) = .ok (.tup (u ++ v)) := by simp only [dAdd, h, if_true]
@[simp] theorem op_add_l (h : fits (u.length + v.length) = true) : dAdd (.lst u) (.lst v) = .ok (.lst (u ++ v)) := by simp only [dAdd, h, if_true]
end
end F

set_option Elab.async false
set_option linter.all false
set_option maxRecDepth 100000
set_option maxHeartbeats 4000000
namespace F
open PySem PySem.Spec
/-! ### comprehensions that change nothing outside -/
theorem merge_back {sl slw : Sl} {vs : List Nat} (h : wipeD slw vs = wipeD sl vs) : merge sl slw vs = sl := by
  have hl : sl.length = slw.length := by
    have := congrArg List.length h
    rw [wipeD_len, wipeD_len] at this
    exact this.symm
  refine List.ext_getElem? fun i => ?_
  rw [merge_get hl]
  split
  · rfl
  · rename_i hi
    have := congrArg (fun l => l[i]?) h
    rw [wipeD_get, wipeD_get, if_neg hi, if_neg hi] at this
    exact this
theorem lc_filter {t : Tg} {c : Sl → R Bool} {e : Ev} {vs : List Nat} {p : D → Bool} {f : D → D} {base : Sl} : ∀ {ds : List D} {sl : Sl},
    (∀ d ∈ ds, ∃ sl1 sl2, bindT t d base = some sl1 ∧ c sl1 = .ok (p d) sl2 ∧ wipeD sl2 vs = base ∧ (p d = true → ∃ sl3, e sl2 = .ok (.v (f d)) sl3 ∧ wipeD sl3 vs = base)) → wipeD sl vs = base →
    ∃ sl', lcL vs t c e ds sl = some ((ds.filter p).map f, sl') ∧ wipeD sl' vs = base
  | [], sl, h, hb => ⟨sl, rfl, hb⟩
  | d :: ds, sl, h, hb => by
    obtain ⟨sl1, sl2, h1, h2, h3, h4⟩ := h d (by simp)
    have tl := fun {sl : Sl} (hb : wipeD sl vs = base) => lc_filter (f := f) (ds := ds) (sl := sl) (fun d hd => h d (by simp [hd])) hb
    cases hp : p d with
    | true =>
      obtain ⟨sl3, h5, h6⟩ := h4 hp
      obtain ⟨sl', h7, h8⟩ := tl h6
      refine ⟨sl', ?_, h8⟩
      rw [hp] at h2
      simp only [lcL, hb, h1, h2, h5, h7, List.filter_cons, hp, if_true, List.map_cons]
    | false =>
      obtain ⟨sl', h7, h8⟩ := tl h3
      refine ⟨sl', ?_, h8⟩
      rw [hp] at h2
      simp only [lcL, hb, h1, h2, h7, List.filter_cons, hp, if_false, Bool.false_eq_true]
theorem dLc_filter {t : Tg} {c : Sl → R Bool} {e : Ev} {vs : List Nat} {it : Lv} {p : D → Bool} {f : D → D} {ds : List D} {sl : Sl} (hi : it sl = .ok ds sl) (hn : noOwn sl vs = true)
    (h : ∀ d ∈ ds, ∃ sl1 sl2, bindT t d (wipeD sl vs) = some sl1 ∧ c sl1 = .ok (p d) sl2 ∧ wipeD sl2 vs = wipeD sl vs ∧ (p d = true → ∃ sl3, e sl2 = .ok (.v (f d)) sl3 ∧ wipeD sl3 vs = wipeD sl vs)) :
    dLc vs t c e it sl = .ok ((ds.filter p).map f) sl := by
  obtain ⟨sl', h1, h2⟩ := lc_filter (f := f) h rfl
  unfold dLc
  rw [hi, ev_bind_ok, if_pos hn, h1]
  dsimp only
  rw [merge_back h2]
theorem lc_mapY {t : Tg} {e : Ev} {vs : List Nat} {f : D → D} {base : Sl} : ∀ {ds : List D} {sl : Sl}, (∀ d ∈ ds, ∃ sl1 sl2, bindT t d base = some sl1 ∧ e sl1 = .ok (.v (f d)) sl2 ∧ wipeD sl2 vs = base) → wipeD sl vs = base →
    ∃ sl', lcL vs t cYes e ds sl = some (ds.map f, sl') ∧ wipeD sl' vs = base
  | [], sl, h, hb => ⟨sl, rfl, hb⟩
  | d :: ds, sl, h, hb => by
    obtain ⟨sl1, sl2, h1, h2, h3⟩ := h d (by simp)
    obtain ⟨sl', h4, h5⟩ := lc_mapY (f := f) (ds := ds) (sl := sl2) (fun d hd => h d (by simp [hd])) h3
    refine ⟨sl', ?_, h5⟩
    simp only [lcL, hb, h1, cYes, h2, h4, List.map_cons]
theorem dLc_map {t : Tg} {e : Ev} {vs : List Nat} {it : Lv} {f : D → D} {ds : List D} {sl sl0 : Sl} (hi : it sl = .ok ds sl0) (hn : noOwn sl0 vs = true)
    (h : ∀ d ∈ ds, ∃ sl1 sl2, bindT t d (wipeD sl0 vs) = some sl1 ∧ e sl1 = .ok (.v (f d)) sl2 ∧ wipeD sl2 vs = wipeD sl0 vs) :
    dLc vs t cYes e it sl = .ok (ds.map f) sl0 := by
  obtain ⟨sl', h1, h2⟩ := lc_mapY (f := f) h rfl
  unfold dLc
  rw [hi, ev_bind_ok, if_pos hn, h1]
  dsimp only
  rw [merge_back h2]
/-! ### a loop that looks for the first -/
theorem forL_find {i : Nat} {m : Sm} {sl : Sl} {p : D → Bool} {g : D → S} : ∀ {ds : List D} {x : Option Sv}, (∀ d ∈ ds, m (sl.set i (some (.v d))) = if p d = true then .rt (g d) (sl.set i (some (.v d))) else .nx (sl.set i (some (.v d)))) →
    (∃ d, ds.find? p = some d ∧ forL (.nm i) m ds (sl.set i x) = .rt (g d) (sl.set i (some (.v d)))) ∨ (ds.find? p = none ∧ ∃ y, forL (.nm i) m ds (sl.set i x) = .nx (sl.set i y))
  | [], x, _ => .inr ⟨rfl, x, rfl⟩
  | d :: ds, x, h => by
    have hd := h d (by simp)
    rw [ev_forL1, ev_bindT_nm]
    dsimp only
    rw [List.set_set, hd]
    cases hp : p d with
    | true =>
      left
      exact ⟨d, by rw [List.find?_cons_of_pos hp], by rw [if_pos rfl]; rfl⟩
    | false =>
      rw [if_neg (by simp), ev_step_nx, List.find?_cons_of_neg (by simp [hp])]
      exact forL_find fun d hd => h d (by simp [hd])
end F

set_option Elab.async false
set_option linter.all false
/-! endless texts: (a, b) tells a, then b over and over -/
namespace Las
abbrev L := List Int
def cyc (b : L) (i : Nat) : Int := b.getD (i % b.length) 0
def wd (a b : L) (i : Nat) : Int := if i < a.length then a.getD i 0 else cyc b (i - a.length)
def Per (f : Nat → Int) (s p : Nat) : Prop := ∀ i, s ≤ i → f (i + p) = f i
theorem Per.mul {f : Nat → Int} {s p : Nat} (h : Per f s p) : ∀ k, Per f s (k * p)
  | 0 => fun i _ => by rw [Nat.zero_mul, Nat.add_zero]
  | k + 1 => fun i hi => by rw [Nat.succ_mul, ← Nat.add_assoc, h (i + k * p) (by omega), Per.mul h k i hi]
theorem Per.sub {f : Nat → Int} {s p q : Nat} (hp : Per f s p) (hq : Per f s q) (h : p ≤ q) : Per f s (q - p) := fun i hi => by
  have h1 := hp (i + (q - p)) (by omega)
  rw [show i + (q - p) + p = i + q by omega, hq i hi] at h1
  exact h1.symm
theorem Per.gcd {f : Nat → Int} {s : Nat} : ∀ (n p q : Nat), p + q ≤ n → Per f s p → Per f s q → Per f s (Nat.gcd p q)
  | 0, p, q, h, hp, hq => by
    have e1 : p = 0 := by omega
    have e2 : q = 0 := by omega
    subst e1; subst e2; exact hp
  | n + 1, p, q, h, hp, hq => by
    by_cases h0 : p = 0
    · subst h0; rw [Nat.gcd_zero_left]; exact hq
    by_cases h1 : q = 0
    · subst h1; rw [Nat.gcd_zero_right]; exact hp
    by_cases hle : p ≤ q
    · have := Per.gcd n p (q - p) (by omega) hp (hp.sub hq hle)
      rwa [Nat.gcd_sub_self_right hle] at this
    · have := Per.gcd n (p - q) q (by omega) (hq.sub hp (by omega)) hq
      rwa [Nat.gcd_sub_self_left (by omega)] at this
theorem Per.mono {f : Nat → Int} {s t p : Nat} (h : Per f s p) (hs : s ≤ t) : Per f t p := fun i hi => h i (by omega)
theorem cyc_mod (b : L) (i : Nat) : cyc b (i % b.length) = cyc b i := by unfold cyc; rw [Nat.mod_mod]
theorem cyc_per (b : L) : Per (cyc b) 0 b.length := fun i _ => by unfold cyc; rw [Nat.add_mod_right]
theorem wd_lo {a b : L} {i : Nat} (h : i < a.length) : wd a b i = a.getD i 0 := if_pos h
theorem wd_hi {a b : L} {i : Nat} (h : a.length ≤ i) : wd a b i = cyc b (i - a.length) := if_neg (by omega)
theorem wd_per (a b : L) : Per (wd a b) a.length b.length := fun i hi => by
  rw [wd_hi hi, wd_hi (by omega), show i + b.length - a.length = i - a.length + b.length by omega]
  exact cyc_per b _ (Nat.zero_le _)
/-- told alike over a stretch of both lengths together: alike for ever -/
theorem fine_wilf {f g : Nat → Int} {s p q : Nat} (hp0 : 0 < p) (hq0 : 0 < q) (hf : Per f s p) (hg : Per g s q) (h : ∀ i, s ≤ i → i < s + p + q → f i = g i) : ∀ i, s ≤ i → f i = g i := by
  have gp : Per g s p := fun i hi => by
    -- i = i0 + k q
    have key : ∀ k i0, s ≤ i0 → i0 < s + q → g (i0 + k * q + p) = g (i0 + k * q) := fun k i0 h1 h2 => by
      have e1 : g (i0 + k * q + p) = g (i0 + p) := by rw [show i0 + k * q + p = i0 + p + k * q by omega]; exact hg.mul k _ (by omega)
      rw [e1, hg.mul k i0 h1, ← h (i0 + p) (by omega) (by omega), hf i0 h1, h i0 h1 (by omega)]
    have e : i = s + (i - s) % q + (i - s) / q * q := by
      have := Nat.mod_add_div (i - s) q
      rw [Nat.mul_comm] at this
      omega
    rw [e]
    exact key _ _ (by omega) (by have := Nat.mod_lt (i - s) hq0; omega)
  intro i hi
  have e : i = s + (i - s) % p + (i - s) / p * p := by
    have := Nat.mod_add_div (i - s) p
    rw [Nat.mul_comm] at this
    omega
  have hm := Nat.mod_lt (i - s) hp0
  rw [e, hf.mul _ _ (by omega), gp.mul _ _ (by omega)]
  exact h _ (by omega) (by omega)
/-! ### the shortest round -/
/-- b is m letters over and over -/
def Rep (m : Nat) (b : L) : Prop := m ∣ b.length ∧ Per (cyc b) 0 m
def Prim (b : L) : Prop := ∀ m, 0 < m → Rep m b → m = b.length
theorem getD_take {b : L} {m i : Nat} (h : i < m) : (b.take m).getD i 0 = b.getD i 0 := by
  rw [List.getD_eq_getElem?_getD, List.getD_eq_getElem?_getD, List.getElem?_take, if_pos h]
theorem getD_drop {b : L} {m i : Nat} : (b.drop m).getD i 0 = b.getD (m + i) 0 := by
  rw [List.getD_eq_getElem?_getD, List.getD_eq_getElem?_getD, List.getElem?_drop]
theorem getD_append_lo {a b : L} {i : Nat} (h : i < a.length) : (a ++ b).getD i 0 = a.getD i 0 := by
  rw [List.getD_eq_getElem?_getD, List.getD_eq_getElem?_getD, List.getElem?_append_left h]
theorem getD_append_hi {a b : L} {i : Nat} (h : a.length ≤ i) : (a ++ b).getD i 0 = b.getD (i - a.length) 0 := by
  rw [List.getD_eq_getElem?_getD, List.getD_eq_getElem?_getD, List.getElem?_append_right h]
theorem ext0 {a b : L} (hl : a.length = b.length) (h : ∀ i, i < a.length → a.getD i 0 = b.getD i 0) : a = b := by
  refine List.ext_getElem hl fun i h1 h2 => ?_
  have := h i h1
  rw [List.getD_eq_getElem?_getD, List.getD_eq_getElem?_getD, List.getElem?_eq_getElem h1, List.getElem?_eq_getElem h2] at this
  exact this
theorem flat_len {xs : L} : ∀ k, (List.replicate k xs).flatten.length = k * xs.length
  | 0 => by simp
  | k + 1 => by rw [List.replicate_succ, List.flatten_cons, List.length_append, flat_len k, Nat.succ_mul]; omega
theorem flat_get {xs : L} : ∀ k i, i < k * xs.length → (List.replicate k xs).flatten.getD i 0 = xs.getD (i % xs.length) 0
  | 0, i, h => by omega
  | k + 1, i, h => by
    rw [List.replicate_succ, List.flatten_cons]
    by_cases hi : i < xs.length
    · rw [getD_append_lo hi, Nat.mod_eq_of_lt hi]
    · rw [getD_append_hi (by omega), flat_get k _ (by rw [Nat.succ_mul] at h; omega)]
      congr 1
      conv => rhs; rw [show i = i - xs.length + xs.length by omega, Nat.add_mod_right]
theorem cyc_lt {b : L} {i : Nat} (h : i < b.length) : cyc b i = b.getD i 0 := by unfold cyc; rw [Nat.mod_eq_of_lt h]
theorem Per.mod {f : Nat → Int} {m : Nat} (h : Per f 0 m) (i : Nat) : f i = f (i % m) := by
  have := h.mul (i / m) (i % m) (Nat.zero_le _)
  rw [← this]
  congr 1
  have := Nat.mod_add_div i m
  rw [Nat.mul_comm] at this
  omega
/-- what the program asks of m -/
theorem rep_iff {m : Nat} {b : L} (h0 : 0 < m) (hl : m ≤ b.length) : (b.length % m = 0 ∧ (List.replicate (b.length / m) (b.take m)).flatten = b) ↔ Rep m b := by
  have tl : (b.take m).length = m := by rw [List.length_take]; omega
  constructor
  · rintro ⟨h1, h2⟩
    have hd : m ∣ b.length := Nat.dvd_of_mod_eq_zero h1
    refine ⟨hd, fun i _ => ?_⟩
    have hk : b.length / m * m = b.length := Nat.div_mul_cancel hd
    have gen : ∀ j, j < b.length → b.getD j 0 = b.getD (j % m) 0 := fun j hj => by
      have := flat_get (xs := b.take m) (b.length / m) j (by rw [tl, hk]; exact hj)
      rw [h2, tl, getD_take (Nat.mod_lt _ h0)] at this
      exact this
    have hb : 0 < b.length := by omega
    unfold cyc
    rw [gen _ (Nat.mod_lt _ hb), gen (i % b.length) (Nat.mod_lt _ hb), Nat.mod_mod_of_dvd _ hd, Nat.mod_mod_of_dvd _ hd, Nat.add_mod_right]
  · rintro ⟨hd, hp⟩
    refine ⟨Nat.mod_eq_zero_of_dvd hd, ?_⟩
    have hk : b.length / m * m = b.length := Nat.div_mul_cancel hd
    refine ext0 (by rw [flat_len, tl, hk]) fun i hi => ?_
    rw [flat_len, tl, hk] at hi
    rw [flat_get _ _ (by rw [tl, hk]; exact hi), tl, getD_take (Nat.mod_lt _ h0)]
    have hm := Nat.mod_lt i h0
    rw [← cyc_lt hi, ← cyc_lt (show i % m < b.length by omega)]
    exact (hp.mod i).symm
def repB (b : L) (m : Nat) : Bool := decide (b.length % m = 0) && decide ((List.replicate (b.length / m) (b.take m)).flatten = b)
def srt (b : L) : L := match (List.range' 1 b.length).find? (repB b) with
  | some m => b.take m
  | none => b
theorem rep_self (b : L) : Rep b.length b := ⟨Nat.dvd_refl _, cyc_per b⟩
theorem srt_spec {b : L} (hb : b ≠ []) : ∃ m, 0 < m ∧ m ≤ b.length ∧ Rep m b ∧ srt b = b.take m ∧ ∀ j, 0 < j → j < m → ¬ Rep j b := by
  have hl : 0 < b.length := List.length_pos_iff.mpr hb
  have conv : ∀ j, 0 < j → j ≤ b.length → (repB b j = true ↔ Rep j b) := fun j h1 h2 => by
    unfold repB
    rw [Bool.and_eq_true, decide_eq_true_eq, decide_eq_true_eq]
    exact rep_iff h1 h2
  cases h : (List.range' 1 b.length).find? (repB b) with
  | none =>
    have := List.find?_eq_none.mp h b.length (by rw [List.mem_range'_1]; omega)
    exact absurd ((conv _ hl (Nat.le_refl _)).mpr (rep_self b)) (by simpa using this)
  | some m =>
    have hm := List.find?_some h
    have hin := List.mem_of_find?_eq_some h
    rw [List.mem_range'_1] at hin
    refine ⟨m, by omega, by omega, (conv m (by omega) (by omega)).mp hm, by unfold srt; rw [h], fun j h1 h2 h3 => ?_⟩
    obtain ⟨_, as, bs, e, hall⟩ := List.find?_eq_some_iff_append.mp h
    have hj : j ∈ List.range' 1 b.length := by rw [List.mem_range'_1]; omega
    rw [e] at hj
    rcases List.mem_append.mp hj with hj | hj
    · have := hall j hj
      rw [(conv j h1 (by omega)).mpr h3] at this
      simp at this
    · have hs : (as ++ m :: bs).Pairwise (· < ·) := by rw [← e]; exact List.pairwise_lt_range'
      have hp := (List.pairwise_append.mp hs).2.1
      rcases List.mem_cons.mp hj with rfl | hj
      · omega
      · have := (List.pairwise_cons.mp hp).1 j hj; omega
theorem cyc_take {m : Nat} {b : L} (h0 : 0 < m) (hl : m ≤ b.length) (hr : Rep m b) (i : Nat) : cyc (b.take m) i = cyc b i := by
  have tl : (b.take m).length = m := by rw [List.length_take]; omega
  have hm := Nat.mod_lt i h0
  rw [hr.2.mod i, cyc_lt (show i % m < b.length by omega)]
  unfold cyc
  rw [tl, getD_take hm]
theorem srt_cyc {b : L} (hb : b ≠ []) (i : Nat) : cyc (srt b) i = cyc b i := by
  obtain ⟨m, h0, hl, hr, e, _⟩ := srt_spec hb
  rw [e]; exact cyc_take h0 hl hr i
theorem srt_ne {b : L} (hb : b ≠ []) : srt b ≠ [] := by
  obtain ⟨m, h0, hl, hr, e, _⟩ := srt_spec hb
  rw [e]
  intro z
  have := congrArg List.length z
  rw [List.length_take, List.length_nil] at this
  omega
theorem srt_prim {b : L} (hb : b ≠ []) : Prim (srt b) := by
  obtain ⟨m, h0, hl, hr, e, hmin⟩ := srt_spec hb
  have tl : (b.take m).length = m := by rw [List.length_take]; omega
  intro j hj hrj
  rw [e] at hrj ⊢
  rw [tl]
  obtain ⟨d, p⟩ := hrj
  rw [tl] at d
  have hjm : j ≤ m := Nat.le_of_dvd h0 d
  rcases Nat.lt_or_ge j m with h | h
  · refine absurd (⟨Nat.dvd_trans d hr.1, fun i hi => ?_⟩ : Rep j b) (hmin j hj h)
    have := p i hi
    rw [cyc_take h0 hl hr, cyc_take h0 hl hr] at this
    exact this
  · omega
theorem srt_of_prim {b : L} (hb : b ≠ []) (hp : Prim b) : srt b = b := by
  obtain ⟨m, h0, hl, hr, e, _⟩ := srt_spec hb
  rw [e, hp m h0 hr, List.take_length]
end Las

set_option Elab.async false
set_option linter.all false
namespace Las
/-! ### the short form -/
def rot1 (b : L) : L := b.getLastD 0 :: b.dropLast
def strip : Nat → L → L → L × L
  | 0, a, b => (a, b)
  | n + 1, a, b => if a ≠ [] ∧ a.getLastD 0 = b.getLastD 0 then strip n a.dropLast (rot1 b) else (a, b)
def short (a b : L) : L × L := strip a.length a (srt b)
/-- the form of fewest letters -/
def Norm (a b : L) : Prop := b ≠ [] ∧ Prim b ∧ (a = [] ∨ a.getLastD 0 ≠ b.getLastD 0)
theorem rot1_len {b : L} (h : b ≠ []) : (rot1 b).length = b.length := by
  have : 0 < b.length := List.length_pos_iff.mpr h
  unfold rot1; rw [List.length_cons, List.length_dropLast]; omega
theorem rot1_ne (b : L) : rot1 b ≠ [] := by unfold rot1; simp
theorem lastD {b : L} (h : b ≠ []) : b.getLastD 0 = b.getD (b.length - 1) 0 := by
  rw [List.getLastD_eq_getLast?, List.getLast?_eq_getElem?, List.getD_eq_getElem?_getD]
theorem getD_dropLast {b : L} {i : Nat} (h : i < b.length - 1) : b.dropLast.getD i 0 = b.getD i 0 := by
  rw [List.getD_eq_getElem?_getD, List.getD_eq_getElem?_getD, List.getElem?_dropLast, if_pos h]
theorem rot1_cyc {b : L} (h : b ≠ []) (i : Nat) : cyc (rot1 b) (i + 1) = cyc b i := by
  have hl : 0 < b.length := List.length_pos_iff.mpr h
  have hm := Nat.mod_lt i hl
  unfold cyc
  rw [rot1_len h]
  by_cases e : i % b.length = b.length - 1
  · have e1 : (i + 1) % b.length = 0 := by
      rw [Nat.add_mod, e]
      rcases Nat.lt_or_ge 1 b.length with h1 | h1
      · rw [Nat.mod_eq_of_lt h1, show b.length - 1 + 1 = b.length by omega, Nat.mod_self]
      · have : b.length = 1 := by omega
        rw [this]
    rw [e1, e, ← lastD h]
    rfl
  · have h1 : 1 < b.length := by omega
    have e1 : (i + 1) % b.length = i % b.length + 1 := by
      rw [Nat.add_mod, Nat.mod_eq_of_lt h1, Nat.mod_eq_of_lt (by omega)]
    rw [e1]
    show (b.getLastD 0 :: b.dropLast).getD (i % b.length + 1) 0 = _
    rw [List.getD_cons_succ, getD_dropLast (by omega)]
theorem prim_iff {b : L} : Prim b ↔ ∀ m, 0 < m → m ∣ b.length → (∀ i, cyc b (i + m) = cyc b i) → m = b.length :=
  ⟨fun h m h0 h1 h2 => h m h0 ⟨h1, fun i _ => h2 i⟩, fun h m h0 h1 => h m h0 h1.1 fun i => h1.2 i (Nat.zero_le _)⟩
theorem rot1_prim {b : L} (h : b ≠ []) (hp : Prim b) : Prim (rot1 b) := prim_iff.mpr fun m h0 h1 h2 => by
  rw [rot1_len h] at h1 ⊢
  refine prim_iff.mp hp m h0 h1 fun i => ?_
  rw [← rot1_cyc h, ← rot1_cyc h, show i + m + 1 = i + 1 + m by omega]
  exact h2 _
theorem dropLast_len {a : L} : a.dropLast.length = a.length - 1 := List.length_dropLast
theorem strip_wd : ∀ (n : Nat) (a b : L), b ≠ [] → ∀ i, wd (strip n a b).1 (strip n a b).2 i = wd a b i
  | 0, _, _, _, _ => rfl
  | n + 1, a, b, h, i => by
    unfold strip
    split
    · rename_i hc
      rw [strip_wd n _ _ (rot1_ne b)]
      have hl : 0 < a.length := List.length_pos_iff.mpr hc.1
      have hb : 0 < b.length := List.length_pos_iff.mpr h
      by_cases h1 : i < a.length - 1
      · rw [wd_lo (by rw [dropLast_len]; exact h1), wd_lo (by omega), getD_dropLast h1]
      · rw [wd_hi (by rw [dropLast_len]; omega), dropLast_len]
        by_cases h2 : i = a.length - 1
        · rw [wd_lo (by omega), h2, Nat.sub_self, ← lastD hc.1, hc.2]
          unfold cyc; rw [rot1_len h, Nat.zero_mod]; rfl
        · rw [wd_hi (by omega), show i - (a.length - 1) = i - a.length + 1 by omega, rot1_cyc h]
    · rfl
theorem strip_norm : ∀ (n : Nat) (a b : L), a.length ≤ n → b ≠ [] → Prim b → Norm (strip n a b).1 (strip n a b).2
  | 0, a, b, hn, h, hp => ⟨h, hp, .inl (show a = [] from List.length_eq_zero_iff.mp (by omega))⟩
  | n + 1, a, b, hn, h, hp => by
    unfold strip
    split
    · rename_i hc
      have hl : 0 < a.length := List.length_pos_iff.mpr hc.1
      exact strip_norm n _ _ (by rw [dropLast_len]; omega) (rot1_ne b) (rot1_prim h hp)
    · rename_i hc
      refine ⟨h, hp, ?_⟩
      by_cases e : a = []
      · exact .inl e
      · exact .inr fun z => hc ⟨e, z⟩
theorem short_wd {a b : L} (h : b ≠ []) (i : Nat) : wd (short a b).1 (short a b).2 i = wd a b i := by
  unfold short
  rw [strip_wd _ _ _ (srt_ne h)]
  unfold wd
  rw [srt_cyc h]
theorem short_norm {a b : L} (h : b ≠ []) : Norm (short a b).1 (short a b).2 := strip_norm _ _ _ (Nat.le_refl _) (srt_ne h) (srt_prim h)
theorem strip_of_norm {n : Nat} {a b : L} (h : Norm a b) : strip n a b = (a, b) := by
  cases n with
  | zero => rfl
  | succ n =>
    unfold strip
    rw [if_neg]
    rintro ⟨h1, h2⟩
    rcases h.2.2 with e | e
    · exact h1 e
    · exact e h2
theorem short_of_norm {a b : L} (h : Norm a b) : short a b = (a, b) := by
  unfold short; rw [srt_of_prim h.1 h.2.1]; exact strip_of_norm h
/-! ### one endless text, one short form -/
theorem round_min {a b c d : L} (h1 : Norm a b) (hd : d ≠ []) (h : ∀ i, wd a b i = wd c d i) : b.length ∣ d.length := by
  have hb : 0 < b.length := List.length_pos_iff.mpr h1.1
  have p1 : Per (wd a b) (max a.length c.length) b.length := (wd_per a b).mono (Nat.le_max_left _ _)
  have p2 : Per (wd a b) (max a.length c.length) d.length := fun i hi => by rw [h, h]; exact wd_per c d i (by omega)
  have pg := Per.gcd _ _ _ (Nat.le_refl _) p1 p2
  have hg : 0 < Nat.gcd b.length d.length := Nat.gcd_pos_of_pos_left _ hb
  have key : Nat.gcd b.length d.length = b.length := by
    refine prim_iff.mp h1.2.1 _ hg (Nat.gcd_dvd_left _ _) fun i => ?_
    -- far enough out
    have far : ∀ j, cyc b j = wd a b (a.length + (j + (max a.length c.length) * b.length)) := fun j => by
      rw [wd_hi (by omega), show a.length + (j + max a.length c.length * b.length) - a.length = j + max a.length c.length * b.length by omega]
      exact ((cyc_per b).mul _ j (Nat.zero_le _)).symm
    have hk : max a.length c.length ≤ max a.length c.length * b.length := Nat.le_mul_of_pos_right _ hb
    rw [far, far, show a.length + (i + Nat.gcd b.length d.length + max a.length c.length * b.length) = a.length + (i + max a.length c.length * b.length) + Nat.gcd b.length d.length by omega]
    exact pg _ (by omega)
  rw [← key]; exact Nat.gcd_dvd_right _ _
theorem norm_le {a b c d : L} (h1 : Norm a b) (h2 : Norm c d) (h : ∀ i, wd a b i = wd c d i) (hl : b.length = d.length) : ¬ a.length < c.length := fun hlt => by
  have hd : 0 < d.length := List.length_pos_iff.mpr h2.1
  have hc : c ≠ [] := fun e => by rw [e] at hlt; simp at hlt
  rcases h2.2.2 with e | e
  · exact hc e
  · refine e ?_
    rw [lastD hc, lastD h2.1]
    have e1 : wd c d (c.length - 1) = c.getD (c.length - 1) 0 := wd_lo (by omega)
    have e2 : wd c d (c.length - 1 + d.length) = d.getD (d.length - 1) 0 := by
      rw [wd_hi (by omega), show c.length - 1 + d.length - c.length = d.length - 1 by omega, cyc_lt (by omega)]
    rw [← e1, ← e2, ← h, ← h, ← hl]
    exact (wd_per a b _ (by omega)).symm
theorem norm_uniq {a b c d : L} (h1 : Norm a b) (h2 : Norm c d) (h : ∀ i, wd a b i = wd c d i) : a = c ∧ b = d := by
  have hl : b.length = d.length := Nat.dvd_antisymm (round_min h1 h2.1 h) (round_min h2 h1.1 fun i => (h i).symm)
  have hb : 0 < b.length := List.length_pos_iff.mpr h1.1
  have ha : a.length = c.length := by
    have := norm_le h1 h2 h hl
    have := norm_le h2 h1 (fun i => (h i).symm) hl.symm
    omega
  refine ⟨ext0 ha fun i hi => ?_, ext0 hl fun i hi => ?_⟩
  · rw [← wd_lo hi, h, wd_lo (by omega)]
  · have e := h (a.length + i)
    rw [wd_hi (by omega), wd_hi (by omega), ha, Nat.add_sub_cancel_left, cyc_lt hi, cyc_lt (by omega)] at e
    exact e
theorem short_eq_iff {a b c d : L} (hb : b ≠ []) (hd : d ≠ []) : short a b = short c d ↔ ∀ i, wd a b i = wd c d i := by
  constructor
  · intro e i; rw [← short_wd hb, ← short_wd hd, e]
  · intro h
    obtain ⟨e1, e2⟩ := norm_uniq (short_norm (a := a) hb) (short_norm (a := c) hd) fun i => by rw [short_wd hb, short_wd hd]; exact h i
    exact Prod.ext e1 e2
theorem short_eq_self {a b : L} (hb : b ≠ []) : short a b = (a, b) ↔ Norm a b :=
  ⟨fun e => by have := short_norm (a := a) hb; rw [e] at this; exact this, short_of_norm⟩
theorem short_short {a b : L} (hb : b ≠ []) : short (short a b).1 (short a b).2 = short a b := short_of_norm (short_norm hb)
end Las

set_option Elab.async false
set_option linter.all false
set_option maxRecDepth 100000
set_option maxHeartbeats 4000000
namespace F
open PySem PySem.Spec Las
def tI (xs : L) : D := .tup (xs.map .int)
def lI (xs : L) : D := .lst (xs.map .int)
def lasD (a b : L) : D := .tup [tI a, tI b]
def lasL (a b : L) : D := .lst [lI a, lI b]
def letters (w : Int) (xs : L) : Prop := ∀ x ∈ xs, 1 ≤ x ∧ x ≤ w
theorem letters.mono {w v : Int} {xs : L} (h : letters w xs) (hv : w ≤ v) : letters v xs := fun x hx => ⟨(h x hx).1, Int.le_trans (h x hx).2 hv⟩
@[simp] theorem tI_len {xs : L} : (xs.map D.int).length = xs.length := List.length_map _
theorem eqv_int {i j : Int} : D.eqv (.int i) (.int j) = decide (i = j) := by simp only [D.eqv]; rfl
theorem eqvs_ints : ∀ {xs ys : L}, D.eqvs (xs.map .int) (ys.map .int) = decide (xs = ys)
  | [], [] => by simp [D.eqvs]
  | [], _ :: _ => by simp [D.eqvs]
  | _ :: _, [] => by simp [D.eqvs]
  | x :: xs, y :: ys => by
    simp only [List.map_cons, D.eqvs, eqv_int, eqvs_ints, List.cons.injEq]
    by_cases h1 : x = y <;> by_cases h2 : xs = ys <;> simp [h1, h2]
theorem depths_ints : ∀ {xs : L}, D.depths (xs.map .int) = 0
  | [] => by simp [D.depths]
  | x :: xs => by simp only [List.map_cons, D.depths, D.depth, depths_ints]; rfl
theorem eqv_tI {xs ys : L} : D.eqv (tI xs) (tI ys) = decide (xs = ys) := by unfold tI; simp only [D.eqv, eqvs_ints]
theorem depth_tI {xs : L} : D.depth (tI xs) = 1 := by unfold tI; simp only [D.depth, depths_ints]
theorem eq_tI {xs ys : L} : dEq (tI xs) (tI ys) = .ok (.bl (decide (xs = ys))) := by
  unfold dEq shallow; rw [depth_tI, depth_tI, eqv_tI]; rfl
theorem ne_tI {xs ys : L} : dNe (tI xs) (tI ys) = .ok (.bl (!decide (xs = ys))) := by
  unfold dNe shallow; rw [depth_tI, depth_tI, eqv_tI]; rfl
theorem eqv_las {a b c d : L} : D.eqv (lasD a b) (lasD c d) = decide (a = c ∧ b = d) := by
  unfold lasD
  simp only [D.eqv, D.eqvs, eqv_tI]
  by_cases h1 : a = c <;> by_cases h2 : b = d <;> simp [h1, h2]
theorem depth_las {a b : L} : D.depth (lasD a b) = 2 := by
  unfold lasD; simp only [D.depth, D.depths, depth_tI]; rfl
theorem eq_las {a b c d : L} : dEq (lasD a b) (lasD c d) = .ok (.bl (decide (a = c ∧ b = d))) := by
  unfold dEq shallow; rw [depth_las, depth_las, eqv_las]; rfl
theorem ne_las {a b c d : L} : dNe (lasD a b) (lasD c d) = .ok (.bl (!decide (a = c ∧ b = d))) := by
  unfold dNe shallow; rw [depth_las, depth_las, eqv_las]; rfl
theorem tI_nil : tI [] = .tup [] := rfl
theorem in_int {x : Int} {ys : L} {neg : Bool} : dIn neg (.int x) (tI ys) = .ok (.bl (if neg then !decide (x ∈ ys) else decide (x ∈ ys))) := by
  have e : isIn (.int x) (ys.map .int) = decide (x ∈ ys) := by
    unfold isIn
    induction ys with
    | nil => rfl
    | cons y ys ih =>
      simp only [List.map_cons, List.any_cons, ih, eqv_int, List.mem_cons]
      by_cases h1 : y = x
      · simp [h1]
      · have h2 : ¬ x = y := fun z => h1 z.symm
        simp [h1, h2]
  unfold dIn tI
  simp only [items, depths_ints, e, D.depth]
  rfl
theorem atI_ints {xs : L} {i : Nat} (h : i < xs.length) : L2.atI (xs.map D.int) (i : Int) = some (.int (xs.getD i 0)) := by
  refine L2.atI_nat ?_
  rw [List.getElem?_map, List.getElem?_eq_getElem h, List.getD_eq_getElem?_getD, List.getElem?_eq_getElem h]
  rfl
theorem atI_last {xs : L} (h : xs ≠ []) : L2.atI (xs.map D.int) (-1) = some (.int (xs.getLastD 0)) := by
  have hl : 0 < xs.length := List.length_pos_iff.mpr h
  unfold L2.atI L2.ixN
  rw [tI_len, if_neg (by omega), if_pos (by omega)]
  rw [show (-1 + (xs.length : Int)).toNat = xs.length - 1 by omega, lastD h, List.getD_eq_getElem?_getD]
  simp only [Option.bind_some]
  rw [List.getElem?_map, List.getElem?_eq_getElem (by omega)]
  rfl
theorem slice_to {xs : L} {k : Nat} {sl : Sl} : sliceO (some (tI xs)) none (some (k : Int)) sl = .ok (.v (tI (xs.take k))) sl := by
  unfold tI; rw [ev_slice_t, cut_to, List.map_take]
theorem slice_rest {xs : L} {k : Nat} {sl : Sl} : sliceO (some (tI xs)) (some (k : Int)) none sl = .ok (.v (tI (xs.drop k))) sl := by
  unfold tI; rw [ev_slice_t, cut_rest, List.map_drop]
theorem add_tI {xs ys : L} (h : xs.length + ys.length ≤ 1000) : dAdd (tI xs) (tI ys) = .ok (tI (xs ++ ys)) := by
  unfold tI
  rw [op_add_t (ev_fits (by rw [tI_len, tI_len]; exact h)), List.map_append]
theorem len_tI {xs : L} : bLen [tI xs] = .ok (.int xs.length) := by unfold tI; rw [b_len_t, tI_len]
theorem cut_nolast {α : Type} {xs : List α} : cut xs none (some (-1)) = xs.dropLast := by
  unfold cut
  rw [HT.sIx_none]
  have e : HT.sIx xs.length xs.length (some (-1)) = xs.length - 1 := by
    show (if (-1 : Int) < 0 then (-1 + (xs.length : Int)).toNat else min (-1 : Int).toNat xs.length) = _
    rw [if_pos (by decide)]; omega
  rw [e, List.drop_zero, Nat.sub_zero, ← List.dropLast_eq_take]
end F

set_option Elab.async false
set_option linter.all false
set_option maxRecDepth 100000
set_option maxHeartbeats 0
namespace W
open PySem PySem.Spec PyProof.Rows L2 F
def top (i : Nat) : Stmt := PySem.Challenge.pw_endlessfingers_k28_main_one_short_lasso.main.body.getD i (.Pass ⟨0, 0, 0, 0⟩)
structure Tx (G : Glue) (mg : Str → Option Value) : Prop where
  z_abs : mg "abs" = none
  z_all : mg "all" = none
  z_bool : mg "bool" = none
  z_enumerate : mg "enumerate" = none
  z_int : mg "int" = none
  z_isinstance : mg "isinstance" = none
  z_len : mg "len" = none
  z_list : mg "list" = none
  z_max : mg "max" = none
  z_min : mg "min" = none
  z_range : mg "range" = none
  z_str : mg "str" = none
  z_tuple : mg "tuple" = none
  z_zip : mg "zip" = none
  v_MOST_PLACE : GlobD G mg "MOST_PLACE" (.int 1000000000000000000000000000000)
  v_MOST_WIDE : GlobD G mg "MOST_WIDE" (.int 3)
  e_Unfit : ExC G mg "Unfit" 0 [.type "ValueError", .type "Exception", .type "BaseException", .type "object"] "ValueError.__new__"
section
variable {G : Glue} {P : Program} {w : World} {mg : Str → Option Value} {base : Heap}
/-! is_number -/
abbrev s_is_number : Stmt := top 3
theorem sc_is_number : FnScope ["thing"] ["thing"] (defScope s_is_number) := ⟨rfl, rfl, rfl, by decide +kernel, rfl, by decide +kernel, by decide +kernel⟩
def m_is_number : Sm := (mRet (dAnd (dIsi ["int"] (dVar 0)) (dNot (dIsi ["bool"] (dVar 0)))))
def M_is_number : List D → Re D := runP 1 m_is_number
theorem fn_is_number {f : Addr} {fd : FuncData} {k : Nat} (T : Tx G mg) (F : Fun G.K "is_number" "is_number" s_is_number f fd) : FnOk P w G.K mg base (L2.CX P w) (k + 1) f fd ["thing"] (spP G 1 (runP 1 m_is_number)) :=
  fn_pure (N := ["thing"]) F sc_is_number rfl fun cdv A outer s H E hr tk => by
    have hu : _ := hu130 hr
    have hN := sc_is_number.nd
    exact (fss_one (fs_ret (fe_and (fe_isi1 asked_int bb_int T.z_isinstance T.z_int (fe_var (i := 0))) (fe_one (fe_not (fe_isi1 asked_bool bb_bool T.z_isinstance T.z_bool (fe_var (i := 0))))))))

/-! tuple_of -/
abbrev s_tuple_of : Stmt := top 4
theorem sc_tuple_of : FnScope ["thing", "part"] ["thing"] (defScope s_tuple_of) := ⟨rfl, rfl, rfl, by decide +kernel, rfl, by decide +kernel, by decide +kernel⟩
def m_tuple_of (r : List D → Re D) : Sm := (mSeq (mIf (dIsi ["list", "tuple"] (dVar 0)) (mRet (dCB bTuple (dCons (dL (dLc [1] (.nm 1) cYes (dCall 1 r (dCons (dVar 1) dNil)) (iSeq (dVar 0)))) dNil))) mNil)
    (mRet (dVar 0)))
def M_tuple_of : Nat → List D → Re D
  | 0 => fun _ => .bad
  | j + 1 => runP 2 (m_tuple_of (M_tuple_of j))
theorem fn_tuple_of {f : Addr} {fd : FuncData} {k : Nat} {r : List D → Re D} (T : Tx G mg) (F : Fun G.K "tuple_of" "tuple_of" s_tuple_of f fd) (c_tuple_of : Cal P w G.K mg base k "tuple_of" ["thing"] (spP G 1 r)) : FnOk P w G.K mg base (L2.CX P w) (k + 1) f fd ["thing"] (spP G 1 (runP 2 (m_tuple_of r))) :=
  fn_pure (N := ["thing", "part"]) F sc_tuple_of rfl fun cdv A outer s H E hr tk => by
    have hu : _ := hu130 hr
    have hN := sc_tuple_of.nd
    exact (fss_cons (fs_if (fb_val (fe_isi2 asked_list asked_tuple bb_list bb_tuple T.z_isinstance T.z_list T.z_tuple (fe_var (i := 0)))) (fss_one (fs_ret (fe_callTy c_tuple bb_tuple T.z_tuple (fa_cons (fe_new (fl_lc (own := [("part", 1)]) hN (blkOk_by (by rfl)) (fi_seq (fe_var (i := 0))) (fun _ _ _ _ _ => (fg_name (i := 1) hN)) (fun _ _ _ _ _ => fts_nil) (fun _ _ _ _ _ => (fe_call c_tuple_of L2.takes0 hr (fa_cons (fe_var (i := 1)) fa_nil))))) fa_nil)))) fss_nil)
    (fss_one (fs_ret (fe_var (i := 0)))))

/-! is_tuple_of -/
abbrev s_is_tuple_of : Stmt := top 5
theorem sc_is_tuple_of : FnScope ["thing", "many"] ["thing", "many"] (defScope s_is_tuple_of) := ⟨rfl, rfl, rfl, by decide +kernel, rfl, by decide +kernel, by decide +kernel⟩
def m_is_tuple_of : Sm := (mRet (dAnd (dIsi ["tuple"] (dVar 0)) (dBin dEq (dCB bLen (dCons (dVar 0) dNil)) (dVar 1))))
def M_is_tuple_of : List D → Re D := runP 2 m_is_tuple_of
theorem fn_is_tuple_of {f : Addr} {fd : FuncData} {k : Nat} (T : Tx G mg) (F : Fun G.K "is_tuple_of" "is_tuple_of" s_is_tuple_of f fd) : FnOk P w G.K mg base (L2.CX P w) (k + 1) f fd ["thing", "many"] (spP G 2 (runP 2 m_is_tuple_of)) :=
  fn_pure (N := ["thing", "many"]) F sc_is_tuple_of rfl fun cdv A outer s H E hr tk => by
    have hu : _ := hu130 hr
    have hN := sc_is_tuple_of.nd
    exact (fss_one (fs_ret (fe_and (fe_isi1 asked_tuple bb_tuple T.z_isinstance T.z_tuple (fe_var (i := 0))) (fe_one (fe_cmp (o_eq hu) (fe_callB c_len bb_len T.z_len (fa_cons (fe_var (i := 0)) fa_nil)) (fe_var (i := 1)))))))

/-! is_letter -/
abbrev s_is_letter : Stmt := top 8
theorem sc_is_letter : FnScope ["wide", "thing"] ["wide", "thing"] (defScope s_is_letter) := ⟨rfl, rfl, rfl, by decide +kernel, rfl, by decide +kernel, by decide +kernel⟩
def m_is_letter : Sm := (mRet (dAnd (dCall 1 M_is_number (dCons (dVar 1) dNil)) (dChain dLe dLe (dC (.int 1)) (dVar 1) (dVar 0))))
def M_is_letter : List D → Re D := runP 2 m_is_letter
theorem fn_is_letter {f : Addr} {fd : FuncData} {k : Nat} (T : Tx G mg) (F : Fun G.K "is_letter" "is_letter" s_is_letter f fd) (c_is_number : Cal P w G.K mg base k "is_number" ["thing"] (spP G 1 M_is_number)) : FnOk P w G.K mg base (L2.CX P w) (k + 1) f fd ["wide", "thing"] (spP G 2 (runP 2 m_is_letter)) :=
  fn_pure (N := ["wide", "thing"]) F sc_is_letter rfl fun cdv A outer s H E hr tk => by
    have hu : _ := hu130 hr
    have hN := sc_is_letter.nd
    exact (fss_one (fs_ret (fe_and (fe_call c_is_number tk hr (fa_cons (fe_var (i := 1)) fa_nil)) (fe_one (fe_chain o_le o_le fe_int (fe_var (i := 1)) (fe_var (i := 0)))))))

/-! is_text -/
abbrev s_is_text : Stmt := top 9
theorem sc_is_text : FnScope ["wide", "thing", "own"] ["wide", "thing"] (defScope s_is_text) := ⟨rfl, rfl, rfl, by decide +kernel, rfl, by decide +kernel, by decide +kernel⟩
def m_is_text : Sm := (mRet (dAnd (dIsi ["tuple"] (dVar 1)) (dCB bAll (dCons (dL (dLc [2] (.nm 2) cYes (dCall 2 M_is_letter (dCons (dVar 0) (dCons (dVar 2) dNil))) (iSeq (dVar 1)))) dNil))))
def M_is_text : List D → Re D := runP 3 m_is_text
theorem fn_is_text {f : Addr} {fd : FuncData} {k : Nat} (T : Tx G mg) (F : Fun G.K "is_text" "is_text" s_is_text f fd) (c_is_letter : Cal P w G.K mg base k "is_letter" ["wide", "thing"] (spP G 2 M_is_letter)) : FnOk P w G.K mg base (L2.CX P w) (k + 1) f fd ["wide", "thing"] (spP G 2 (runP 3 m_is_text)) :=
  fn_pure (N := ["wide", "thing", "own"]) F sc_is_text rfl fun cdv A outer s H E hr tk => by
    have hu : _ := hu130 hr
    have hN := sc_is_text.nd
    exact (fss_one (fs_ret (fe_and (fe_isi1 asked_tuple bb_tuple T.z_isinstance T.z_tuple (fe_var (i := 1))) (fe_one (fe_callB c_all bb_all T.z_all (fa_cons (fe_new (fl_lc (own := [("own", 2)]) hN (blkOk_by (by rfl)) (fi_seq (fe_var (i := 1))) (fun _ _ _ _ _ => (fg_name (i := 2) hN)) (fun _ _ _ _ _ => fts_nil) (fun _ _ _ _ _ => (fe_call c_is_letter L2.takes0 hr (fa_cons (fe_var (i := 0)) (fa_cons (fe_var (i := 2)) fa_nil)))))) fa_nil))))))

/-! sure_wide_of -/
abbrev s_sure_wide_of : Stmt := top 12
theorem sc_sure_wide_of : FnScope ["wide"] ["wide"] (defScope s_sure_wide_of) := ⟨rfl, rfl, rfl, by decide +kernel, rfl, by decide +kernel, by decide +kernel⟩
def m_sure_wide_of : Sm := (mIf (dOr (dNot (dCall 1 M_is_number (dCons (dVar 0) dNil))) (dNot (dChain dLe dLe (dC (.int 1)) (dVar 0) (dC (.int 3))))) (mRaise 0) mNil)
def M_sure_wide_of : List D → Re D := runP 1 m_sure_wide_of
theorem fn_sure_wide_of {f : Addr} {fd : FuncData} {k : Nat} (T : Tx G mg) (F : Fun G.K "sure_wide_of" "sure_wide_of" s_sure_wide_of f fd) (c_is_number : Cal P w G.K mg base k "is_number" ["thing"] (spP G 1 M_is_number)) : FnOk P w G.K mg base (L2.CX P w) (k + 1) f fd ["wide"] (spP G 1 (runP 1 m_sure_wide_of)) :=
  fn_pure (N := ["wide"]) F sc_sure_wide_of rfl fun cdv A outer s H E hr tk => by
    have hu : _ := hu130 hr
    have hN := sc_sure_wide_of.nd
    exact (fss_one (fs_if (fb_w (fw_or (fb_not (fb_val (fe_call c_is_number tk hr (fa_cons (fe_var (i := 0)) fa_nil)))) (fw_one_or (fb_not (fb_chain o_le o_le fe_int (fe_var (i := 0)) T.v_MOST_WIDE.fe))))) (fss_one (fs_raise0 PySem.F.excBase_ValueError T.e_Unfit tk)) fss_nil))

/-! is_lasso_form -/
abbrev s_is_lasso_form : Stmt := top 13
theorem sc_is_lasso_form : FnScope ["wide", "thing", "own"] ["wide", "thing"] (defScope s_is_lasso_form) := ⟨rfl, rfl, rfl, by decide +kernel, rfl, by decide +kernel, by decide +kernel⟩
def m_is_lasso_form : Sm := (mRet (dAnd (dCall 2 M_is_tuple_of (dCons (dVar 1) (dCons (dC (.int 2)) dNil))) (dAnd (dCB bAll (dCons (dL (dLc [2] (.nm 2) cYes (dCall 2 M_is_text (dCons (dVar 0) (dCons (dVar 2) dNil))) (iSeq (dVar 1)))) dNil)) (dBin dNe (dBin dIx (dVar 1) (dC (.int 1))) (dTup dNil)))))
def M_is_lasso_form : List D → Re D := runP 3 m_is_lasso_form
theorem fn_is_lasso_form {f : Addr} {fd : FuncData} {k : Nat} (T : Tx G mg) (F : Fun G.K "is_lasso_form" "is_lasso_form" s_is_lasso_form f fd) (c_is_tuple_of : Cal P w G.K mg base k "is_tuple_of" ["thing", "many"] (spP G 2 M_is_tuple_of)) (c_is_text : Cal P w G.K mg base k "is_text" ["wide", "thing"] (spP G 2 M_is_text)) : FnOk P w G.K mg base (L2.CX P w) (k + 1) f fd ["wide", "thing"] (spP G 2 (runP 3 m_is_lasso_form)) :=
  fn_pure (N := ["wide", "thing", "own"]) F sc_is_lasso_form rfl fun cdv A outer s H E hr tk => by
    have hu : _ := hu130 hr
    have hN := sc_is_lasso_form.nd
    exact (fss_one (fs_ret (fe_and (fe_call c_is_tuple_of tk hr (fa_cons (fe_var (i := 1)) (fa_cons fe_int fa_nil))) (fe_and (fe_callB c_all bb_all T.z_all (fa_cons (fe_new (fl_lc (own := [("own", 2)]) hN (blkOk_by (by rfl)) (fi_seq (fe_var (i := 1))) (fun _ _ _ _ _ => (fg_name (i := 2) hN)) (fun _ _ _ _ _ => fts_nil) (fun _ _ _ _ _ => (fe_call c_is_text L2.takes0 hr (fa_cons (fe_var (i := 0)) (fa_cons (fe_var (i := 2)) fa_nil)))))) fa_nil)) (fe_one (fe_cmp (o_ne hu) (fe_ix (fe_var (i := 1)) fe_int) (fe_tup fa_nil)))))))

/-! sure_lasso -/
abbrev s_sure_lasso : Stmt := top 14
theorem sc_sure_lasso : FnScope ["wide", "lasso", "own"] ["wide", "lasso"] (defScope s_sure_lasso) := ⟨rfl, rfl, rfl, by decide +kernel, rfl, by decide +kernel, by decide +kernel⟩
def m_sure_lasso : Sm := (mSeq (mDrop (dCall 1 M_sure_wide_of (dCons (dVar 0) dNil)))
    (mSeq (mSet 2 (dCall 1 (M_tuple_of 20) (dCons (dVar 1) dNil)))
    (mSeq (mIf (dNot (dCall 2 M_is_lasso_form (dCons (dVar 0) (dCons (dVar 2) dNil)))) (mRaise 0) mNil)
    (mRet (dVar 2)))))
def M_sure_lasso : List D → Re D := runP 3 m_sure_lasso
theorem fn_sure_lasso {f : Addr} {fd : FuncData} {k : Nat} (T : Tx G mg) (F : Fun G.K "sure_lasso" "sure_lasso" s_sure_lasso f fd) (c_sure_wide_of : Cal P w G.K mg base k "sure_wide_of" ["wide"] (spP G 1 M_sure_wide_of)) (c_tuple_of : Cal P w G.K mg base k "tuple_of" ["thing"] (spP G 1 (M_tuple_of 20))) (c_is_lasso_form : Cal P w G.K mg base k "is_lasso_form" ["wide", "thing"] (spP G 2 M_is_lasso_form)) : FnOk P w G.K mg base (L2.CX P w) (k + 1) f fd ["wide", "lasso"] (spP G 2 (runP 3 m_sure_lasso)) :=
  fn_pure (N := ["wide", "lasso", "own"]) F sc_sure_lasso rfl fun cdv A outer s H E hr tk => by
    have hu : _ := hu130 hr
    have hN := sc_sure_lasso.nd
    exact (fss_cons (fs_expr (fe_call c_sure_wide_of tk hr (fa_cons (fe_var (i := 0)) fa_nil)))
    (fss_cons (fs_set (i := 2) hN (fe_call c_tuple_of tk hr (fa_cons (fe_var (i := 1)) fa_nil)))
    (fss_cons (fs_if (fb_not (fb_val (fe_call c_is_lasso_form tk hr (fa_cons (fe_var (i := 0)) (fa_cons (fe_var (i := 2)) fa_nil))))) (fss_one (fs_raise0 PySem.F.excBase_ValueError T.e_Unfit tk)) fss_nil)
    (fss_one (fs_ret (fe_var (i := 2)))))))

/-! sure_many -/
abbrev s_sure_many : Stmt := top 15
theorem sc_sure_many : FnScope ["many", "most"] ["many", "most"] (defScope s_sure_many) := ⟨rfl, rfl, rfl, by decide +kernel, rfl, by decide +kernel, by decide +kernel⟩
def m_sure_many : Sm := (mIf (dOr (dNot (dCall 1 M_is_number (dCons (dVar 0) dNil))) (dNot (dChain dLe dLe (dC (.int 0)) (dVar 0) (dVar 1)))) (mRaise 0) mNil)
def M_sure_many : List D → Re D := runP 2 m_sure_many
theorem fn_sure_many {f : Addr} {fd : FuncData} {k : Nat} (T : Tx G mg) (F : Fun G.K "sure_many" "sure_many" s_sure_many f fd) (c_is_number : Cal P w G.K mg base k "is_number" ["thing"] (spP G 1 M_is_number)) : FnOk P w G.K mg base (L2.CX P w) (k + 1) f fd ["many", "most"] (spP G 2 (runP 2 m_sure_many)) :=
  fn_pure (N := ["many", "most"]) F sc_sure_many rfl fun cdv A outer s H E hr tk => by
    have hu : _ := hu130 hr
    have hN := sc_sure_many.nd
    exact (fss_one (fs_if (fb_w (fw_or (fb_not (fb_val (fe_call c_is_number tk hr (fa_cons (fe_var (i := 0)) fa_nil)))) (fw_one_or (fb_not (fb_chain o_le o_le fe_int (fe_var (i := 0)) (fe_var (i := 1))))))) (fss_one (fs_raise0 PySem.F.excBase_ValueError T.e_Unfit tk)) fss_nil))

/-! shortest_round -/
abbrev s_shortest_round : Stmt := top 16
theorem sc_shortest_round : FnScope ["round_so", "many"] ["round_so"] (defScope s_shortest_round) := ⟨rfl, rfl, rfl, by decide +kernel, rfl, by decide +kernel, by decide +kernel⟩
def m_shortest_round : Sm := (mSeq (mFor (.nm 1) (iRange2 (dC (.int 1)) (dBin dAdd (dCB bLen (dCons (dVar 0) dNil)) (dC (.int 1)))) (mIf (dAnd (dBin dEq (dBin dMod (dCB bLen (dCons (dVar 0) dNil)) (dVar 1)) (dC (.int 0))) (dBin dEq (dBin dMulT (dSl (dVar 0) dNoPart (dPart (dVar 1))) (dBin dDiv (dCB bLen (dCons (dVar 0) dNil)) (dVar 1))) (dVar 0))) (mRet (dSl (dVar 0) dNoPart (dPart (dVar 1)))) mNil))
    (mRet (dVar 0)))
def M_shortest_round : List D → Re D := runP 2 m_shortest_round
theorem fn_shortest_round {f : Addr} {fd : FuncData} {k : Nat} (T : Tx G mg) (F : Fun G.K "shortest_round" "shortest_round" s_shortest_round f fd) : FnOk P w G.K mg base (L2.CX P w) (k + 1) f fd ["round_so"] (spP G 1 (runP 2 m_shortest_round)) :=
  fn_pure (N := ["round_so", "many"]) F sc_shortest_round rfl fun cdv A outer s H E hr tk => by
    have hu : _ := hu130 hr
    have hN := sc_shortest_round.nd
    exact (fss_cons (fs_for (L2.passes_of rfl) (fi_range2 fe_int (fe_op o_add (fe_callB c_len bb_len T.z_len (fa_cons (fe_var (i := 0)) fa_nil)) fe_int) T.z_range) (fg_name (i := 1) hN) (fss_one (fs_if (fb_w (fw_and (fb_cmp (o_eq hu) (fe_op o_mod (fe_callB c_len bb_len T.z_len (fa_cons (fe_var (i := 0)) fa_nil)) (fe_var (i := 1))) fe_int) (fw_one_and (fb_cmp (o_eq hu) (fe_op o_mulT (fe_sl (fe_var (i := 0)) fo_none (fo_some (fe_var (i := 1)))) (fe_op o_div (fe_callB c_len bb_len T.z_len (fa_cons (fe_var (i := 0)) fa_nil)) (fe_var (i := 1)))) (fe_var (i := 0)))))) (fss_one (fs_ret (fe_sl (fe_var (i := 0)) fo_none (fo_some (fe_var (i := 1)))))) fss_nil)))
    (fss_one (fs_ret (fe_var (i := 0)))))

/-! short_in -/
abbrev s_short_in : Stmt := top 17
theorem sc_short_in : FnScope ["ahead", "round_so", "front", "back"] ["ahead", "round_so"] (defScope s_short_in) := ⟨rfl, rfl, rfl, by decide +kernel, rfl, by decide +kernel, by decide +kernel⟩
def m_short_in : Sm := (mSeq (mPar [2, 3] [.v (dVar 0), .v (dCall 1 M_shortest_round (dCons (dVar 1) dNil))])
    (mSeq (mWhile 100000 (dAnd (dBin dNe (dVar 2) (dTup dNil)) (dBin dEq (dBin dIx (dVar 2) (dUn dNeg (dC (.int 1)))) (dBin dIx (dVar 3) (dUn dNeg (dC (.int 1)))))) (mPar [2, 3] [.v (dSl (dVar 2) dNoPart (dPart (dUn dNeg (dC (.int 1))))), .v (dTup (dCons (dBin dIx (dVar 3) (dUn dNeg (dC (.int 1)))) (dStar (dSl (dVar 3) dNoPart (dPart (dUn dNeg (dC (.int 1))))) dNil)))]))
    (mRet (dTup (dCons (dVar 2) (dCons (dVar 3) dNil))))))
def M_short_in : List D → Re D := runP 4 m_short_in
theorem fn_short_in {f : Addr} {fd : FuncData} {k : Nat} (T : Tx G mg) (F : Fun G.K "short_in" "short_in" s_short_in f fd) (c_shortest_round : Cal P w G.K mg base k "shortest_round" ["round_so"] (spP G 1 M_shortest_round)) : FnOk P w G.K mg base (L2.CX P w) (k + 1) f fd ["ahead", "round_so"] (spP G 2 (runP 4 m_short_in)) :=
  fn_pure (N := ["ahead", "round_so", "front", "back"]) F sc_short_in rfl fun cdv A outer s H E hr tk => by
    have hu : _ := hu130 hr
    have hN := sc_short_in.nd
    exact (fss_cons (fs_par2 (i := 2) (j := 3) hN (fc_v (fe_var (i := 0)) (fc_v (fe_call c_shortest_round tk hr (fa_cons (fe_var (i := 1)) fa_nil)) fc_nil)) rfl rfl (by decide))
    (fss_cons (fs_while (L2.passes_of rfl) (fb_w (fw_and (fb_cmp (o_ne hu) (fe_var (i := 2)) (fe_tup fa_nil)) (fw_one_and (fb_cmp (o_eq hu) (fe_ix (fe_var (i := 2)) (fe_neg fe_int)) (fe_ix (fe_var (i := 3)) (fe_neg fe_int)))))) (fss_one (fs_par2 (i := 2) (j := 3) hN (fc_v (fe_sl (fe_var (i := 2)) fo_none (fo_some (fe_neg fe_int))) (fc_v (fe_tup (fa_cons (fe_ix (fe_var (i := 3)) (fe_neg fe_int)) (fa_star (fe_sl (fe_var (i := 3)) fo_none (fo_some (fe_neg fe_int))) fa_nil))) fc_nil)) rfl rfl (by decide))))
    (fss_one (fs_ret (fe_tup (fa_cons (fe_var (i := 2)) (fa_cons (fe_var (i := 3)) fa_nil)))))))

/-! lasso_short -/
abbrev s_lasso_short : Stmt := top 18
theorem sc_lasso_short : FnScope ["lasso", "own"] ["lasso"] (defScope s_lasso_short) := ⟨rfl, rfl, rfl, by decide +kernel, rfl, by decide +kernel, by decide +kernel⟩
def m_lasso_short : Sm := (mSeq (mSet 1 (dCall 2 M_sure_lasso (dCons (dC (.int 3)) (dCons (dVar 0) dNil))))
    (mRet (dCall 2 M_short_in (dCons (dBin dIx (dVar 1) (dC (.int 0))) (dCons (dBin dIx (dVar 1) (dC (.int 1))) dNil)))))
def M_lasso_short : List D → Re D := runP 2 m_lasso_short
theorem fn_lasso_short {f : Addr} {fd : FuncData} {k : Nat} (T : Tx G mg) (F : Fun G.K "lasso_short" "lasso_short" s_lasso_short f fd) (c_sure_lasso : Cal P w G.K mg base k "sure_lasso" ["wide", "lasso"] (spP G 2 M_sure_lasso)) (c_short_in : Cal P w G.K mg base k "short_in" ["ahead", "round_so"] (spP G 2 M_short_in)) : FnOk P w G.K mg base (L2.CX P w) (k + 1) f fd ["lasso"] (spP G 1 (runP 2 m_lasso_short)) :=
  fn_pure (N := ["lasso", "own"]) F sc_lasso_short rfl fun cdv A outer s H E hr tk => by
    have hu : _ := hu130 hr
    have hN := sc_lasso_short.nd
    exact (fss_cons (fs_set (i := 1) hN (fe_call c_sure_lasso tk hr (fa_cons T.v_MOST_WIDE.fe (fa_cons (fe_var (i := 0)) fa_nil))))
    (fss_one (fs_ret (fe_call c_short_in tk hr (fa_cons (fe_ix (fe_var (i := 1)) fe_int) (fa_cons (fe_ix (fe_var (i := 1)) fe_int) fa_nil))))))

/-! is_short -/
abbrev s_is_short : Stmt := top 19
theorem sc_is_short : FnScope ["lasso", "own"] ["lasso"] (defScope s_is_short) := ⟨rfl, rfl, rfl, by decide +kernel, rfl, by decide +kernel, by decide +kernel⟩
def m_is_short : Sm := (mSeq (mSet 1 (dCall 2 M_sure_lasso (dCons (dC (.int 3)) (dCons (dVar 0) dNil))))
    (mRet (dBin dEq (dCall 2 M_short_in (dCons (dBin dIx (dVar 1) (dC (.int 0))) (dCons (dBin dIx (dVar 1) (dC (.int 1))) dNil))) (dVar 1))))
def M_is_short : List D → Re D := runP 2 m_is_short
theorem fn_is_short {f : Addr} {fd : FuncData} {k : Nat} (T : Tx G mg) (F : Fun G.K "is_short" "is_short" s_is_short f fd) (c_sure_lasso : Cal P w G.K mg base k "sure_lasso" ["wide", "lasso"] (spP G 2 M_sure_lasso)) (c_short_in : Cal P w G.K mg base k "short_in" ["ahead", "round_so"] (spP G 2 M_short_in)) : FnOk P w G.K mg base (L2.CX P w) (k + 1) f fd ["lasso"] (spP G 1 (runP 2 m_is_short)) :=
  fn_pure (N := ["lasso", "own"]) F sc_is_short rfl fun cdv A outer s H E hr tk => by
    have hu : _ := hu130 hr
    have hN := sc_is_short.nd
    exact (fss_cons (fs_set (i := 1) hN (fe_call c_sure_lasso tk hr (fa_cons T.v_MOST_WIDE.fe (fa_cons (fe_var (i := 0)) fa_nil))))
    (fss_one (fs_ret (fe_cmp (o_eq hu) (fe_call c_short_in tk hr (fa_cons (fe_ix (fe_var (i := 1)) fe_int) (fa_cons (fe_ix (fe_var (i := 1)) fe_int) fa_nil))) (fe_var (i := 1))))))

/-! same_endless -/
abbrev s_same_endless : Stmt := top 20
theorem sc_same_endless : FnScope ["one", "other", "near", "far"] ["one", "other"] (defScope s_same_endless) := ⟨rfl, rfl, rfl, by decide +kernel, rfl, by decide +kernel, by decide +kernel⟩
def m_same_endless : Sm := (mSeq (mPar [2, 3] [.v (dCall 2 M_sure_lasso (dCons (dC (.int 3)) (dCons (dVar 0) dNil))), .v (dCall 2 M_sure_lasso (dCons (dC (.int 3)) (dCons (dVar 1) dNil)))])
    (mRet (dBin dEq (dCall 2 M_short_in (dCons (dBin dIx (dVar 2) (dC (.int 0))) (dCons (dBin dIx (dVar 2) (dC (.int 1))) dNil))) (dCall 2 M_short_in (dCons (dBin dIx (dVar 3) (dC (.int 0))) (dCons (dBin dIx (dVar 3) (dC (.int 1))) dNil))))))
def M_same_endless : List D → Re D := runP 4 m_same_endless
theorem fn_same_endless {f : Addr} {fd : FuncData} {k : Nat} (T : Tx G mg) (F : Fun G.K "same_endless" "same_endless" s_same_endless f fd) (c_sure_lasso : Cal P w G.K mg base k "sure_lasso" ["wide", "lasso"] (spP G 2 M_sure_lasso)) (c_short_in : Cal P w G.K mg base k "short_in" ["ahead", "round_so"] (spP G 2 M_short_in)) : FnOk P w G.K mg base (L2.CX P w) (k + 1) f fd ["one", "other"] (spP G 2 (runP 4 m_same_endless)) :=
  fn_pure (N := ["one", "other", "near", "far"]) F sc_same_endless rfl fun cdv A outer s H E hr tk => by
    have hu : _ := hu130 hr
    have hN := sc_same_endless.nd
    exact (fss_cons (fs_par2 (i := 2) (j := 3) hN (fc_v (fe_call c_sure_lasso tk hr (fa_cons T.v_MOST_WIDE.fe (fa_cons (fe_var (i := 0)) fa_nil))) (fc_v (fe_call c_sure_lasso tk hr (fa_cons T.v_MOST_WIDE.fe (fa_cons (fe_var (i := 1)) fa_nil))) fc_nil)) rfl rfl (by decide))
    (fss_one (fs_ret (fe_cmp (o_eq hu) (fe_call c_short_in tk hr (fa_cons (fe_ix (fe_var (i := 2)) fe_int) (fa_cons (fe_ix (fe_var (i := 2)) fe_int) fa_nil))) (fe_call c_short_in tk hr (fa_cons (fe_ix (fe_var (i := 3)) fe_int) (fa_cons (fe_ix (fe_var (i := 3)) fe_int) fa_nil)))))))

/-! entry_at -/
abbrev s_entry_at : Stmt := top 21
theorem sc_entry_at : FnScope ["ahead", "round_so", "place"] ["ahead", "round_so", "place"] (defScope s_entry_at) := ⟨rfl, rfl, rfl, by decide +kernel, rfl, by decide +kernel, by decide +kernel⟩
def m_entry_at : Sm := (mSeq (mIf (dBin dLe (dVar 2) (dCB bLen (dCons (dVar 0) dNil))) (mRet (dBin dIx (dVar 0) (dBin dSub (dVar 2) (dC (.int 1))))) mNil)
    (mRet (dBin dIx (dVar 1) (dBin dMod (dBin dSub (dBin dSub (dVar 2) (dCB bLen (dCons (dVar 0) dNil))) (dC (.int 1))) (dCB bLen (dCons (dVar 1) dNil))))))
def M_entry_at : List D → Re D := runP 3 m_entry_at
theorem fn_entry_at {f : Addr} {fd : FuncData} {k : Nat} (T : Tx G mg) (F : Fun G.K "entry_at" "entry_at" s_entry_at f fd) : FnOk P w G.K mg base (L2.CX P w) (k + 1) f fd ["ahead", "round_so", "place"] (spP G 3 (runP 3 m_entry_at)) :=
  fn_pure (N := ["ahead", "round_so", "place"]) F sc_entry_at rfl fun cdv A outer s H E hr tk => by
    have hu : _ := hu130 hr
    have hN := sc_entry_at.nd
    exact (fss_cons (fs_if (fb_cmp o_le (fe_var (i := 2)) (fe_callB c_len bb_len T.z_len (fa_cons (fe_var (i := 0)) fa_nil))) (fss_one (fs_ret (fe_ix (fe_var (i := 0)) (fe_op o_sub (fe_var (i := 2)) fe_int)))) fss_nil)
    (fss_one (fs_ret (fe_ix (fe_var (i := 1)) (fe_op o_mod (fe_op o_sub (fe_op o_sub (fe_var (i := 2)) (fe_callB c_len bb_len T.z_len (fa_cons (fe_var (i := 0)) fa_nil))) fe_int) (fe_callB c_len bb_len T.z_len (fa_cons (fe_var (i := 1)) fa_nil)))))))

/-! sure_spot -/
abbrev s_sure_spot : Stmt := top 22
theorem sc_sure_spot : FnScope ["place"] ["place"] (defScope s_sure_spot) := ⟨rfl, rfl, rfl, by decide +kernel, rfl, by decide +kernel, by decide +kernel⟩
def m_sure_spot : Sm := (mSeq (mDrop (dCall 2 M_sure_many (dCons (dVar 0) (dCons (dC (.int 1000000000000000000000000000000)) dNil))))
    (mIf (dBin dEq (dVar 0) (dC (.int 0))) (mRaise 0) mNil))
def M_sure_spot : List D → Re D := runP 1 m_sure_spot
theorem fn_sure_spot {f : Addr} {fd : FuncData} {k : Nat} (T : Tx G mg) (F : Fun G.K "sure_spot" "sure_spot" s_sure_spot f fd) (c_sure_many : Cal P w G.K mg base k "sure_many" ["many", "most"] (spP G 2 M_sure_many)) : FnOk P w G.K mg base (L2.CX P w) (k + 1) f fd ["place"] (spP G 1 (runP 1 m_sure_spot)) :=
  fn_pure (N := ["place"]) F sc_sure_spot rfl fun cdv A outer s H E hr tk => by
    have hu : _ := hu130 hr
    have hN := sc_sure_spot.nd
    exact (fss_cons (fs_expr (fe_call c_sure_many tk hr (fa_cons (fe_var (i := 0)) (fa_cons T.v_MOST_PLACE.fe fa_nil))))
    (fss_one (fs_if (fb_cmp (o_eq hu) (fe_var (i := 0)) fe_int) (fss_one (fs_raise0 PySem.F.excBase_ValueError T.e_Unfit tk)) fss_nil)))

/-! letter_at -/
abbrev s_letter_at : Stmt := top 23
theorem sc_letter_at : FnScope ["lasso", "place", "own"] ["lasso", "place"] (defScope s_letter_at) := ⟨rfl, rfl, rfl, by decide +kernel, rfl, by decide +kernel, by decide +kernel⟩
def m_letter_at : Sm := (mSeq (mSet 2 (dCall 2 M_sure_lasso (dCons (dC (.int 3)) (dCons (dVar 0) dNil))))
    (mSeq (mDrop (dCall 1 M_sure_spot (dCons (dVar 1) dNil)))
    (mRet (dCall 3 M_entry_at (dCons (dBin dIx (dVar 2) (dC (.int 0))) (dCons (dBin dIx (dVar 2) (dC (.int 1))) (dCons (dVar 1) dNil)))))))
def M_letter_at : List D → Re D := runP 3 m_letter_at
theorem fn_letter_at {f : Addr} {fd : FuncData} {k : Nat} (T : Tx G mg) (F : Fun G.K "letter_at" "letter_at" s_letter_at f fd) (c_sure_lasso : Cal P w G.K mg base k "sure_lasso" ["wide", "lasso"] (spP G 2 M_sure_lasso)) (c_sure_spot : Cal P w G.K mg base k "sure_spot" ["place"] (spP G 1 M_sure_spot)) (c_entry_at : Cal P w G.K mg base k "entry_at" ["ahead", "round_so", "place"] (spP G 3 M_entry_at)) : FnOk P w G.K mg base (L2.CX P w) (k + 1) f fd ["lasso", "place"] (spP G 2 (runP 3 m_letter_at)) :=
  fn_pure (N := ["lasso", "place", "own"]) F sc_letter_at rfl fun cdv A outer s H E hr tk => by
    have hu : _ := hu130 hr
    have hN := sc_letter_at.nd
    exact (fss_cons (fs_set (i := 2) hN (fe_call c_sure_lasso tk hr (fa_cons T.v_MOST_WIDE.fe (fa_cons (fe_var (i := 0)) fa_nil))))
    (fss_cons (fs_expr (fe_call c_sure_spot tk hr (fa_cons (fe_var (i := 1)) fa_nil)))
    (fss_one (fs_ret (fe_call c_entry_at tk hr (fa_cons (fe_ix (fe_var (i := 2)) fe_int) (fa_cons (fe_ix (fe_var (i := 2)) fe_int) (fa_cons (fe_var (i := 1)) fa_nil))))))))

/-! moved_on -/
abbrev s_moved_on : Stmt := top 24
theorem sc_moved_on : FnScope ["lasso", "many", "own", "ahead", "round_so", "rest"] ["lasso", "many"] (defScope s_moved_on) := ⟨rfl, rfl, rfl, by decide +kernel, rfl, by decide +kernel, by decide +kernel⟩
def m_moved_on : Sm := (mSeq (mSet 2 (dCall 2 M_sure_lasso (dCons (dC (.int 3)) (dCons (dVar 0) dNil))))
    (mSeq (mDrop (dCall 2 M_sure_many (dCons (dVar 1) (dCons (dC (.int 1000000000000000000000000000000)) dNil))))
    (mSeq (mAsg (.tp [(.nm 3), (.nm 4)]) (dVar 2))
    (mSeq (mIf (dBin dLe (dVar 1) (dCB bLen (dCons (dVar 3) dNil))) (mRet (dCall 2 M_short_in (dCons (dSl (dVar 3) (dPart (dVar 1)) dNoPart) (dCons (dVar 4) dNil)))) mNil)
    (mSeq (mSet 5 (dBin dMod (dBin dSub (dVar 1) (dCB bLen (dCons (dVar 3) dNil))) (dCB bLen (dCons (dVar 4) dNil))))
    (mRet (dCall 2 M_short_in (dCons (dTup dNil) (dCons (dBin dAdd (dSl (dVar 4) (dPart (dVar 5)) dNoPart) (dSl (dVar 4) dNoPart (dPart (dVar 5)))) dNil)))))))))
def M_moved_on : List D → Re D := runP 6 m_moved_on
theorem fn_moved_on {f : Addr} {fd : FuncData} {k : Nat} (T : Tx G mg) (F : Fun G.K "moved_on" "moved_on" s_moved_on f fd) (c_sure_lasso : Cal P w G.K mg base k "sure_lasso" ["wide", "lasso"] (spP G 2 M_sure_lasso)) (c_sure_many : Cal P w G.K mg base k "sure_many" ["many", "most"] (spP G 2 M_sure_many)) (c_short_in : Cal P w G.K mg base k "short_in" ["ahead", "round_so"] (spP G 2 M_short_in)) : FnOk P w G.K mg base (L2.CX P w) (k + 1) f fd ["lasso", "many"] (spP G 2 (runP 6 m_moved_on)) :=
  fn_pure (N := ["lasso", "many", "own", "ahead", "round_so", "rest"]) F sc_moved_on rfl fun cdv A outer s H E hr tk => by
    have hu : _ := hu130 hr
    have hN := sc_moved_on.nd
    exact (fss_cons (fs_set (i := 2) hN (fe_call c_sure_lasso tk hr (fa_cons T.v_MOST_WIDE.fe (fa_cons (fe_var (i := 0)) fa_nil))))
    (fss_cons (fs_expr (fe_call c_sure_many tk hr (fa_cons (fe_var (i := 1)) (fa_cons T.v_MOST_PLACE.fe fa_nil))))
    (fss_cons (fs_asg (fe_var (i := 2)) (fg_tup (fgs_cons (fg_name (i := 3) hN) (fgs_cons (fg_name (i := 4) hN) fgs_nil)) rfl))
    (fss_cons (fs_if (fb_cmp o_le (fe_var (i := 1)) (fe_callB c_len bb_len T.z_len (fa_cons (fe_var (i := 3)) fa_nil))) (fss_one (fs_ret (fe_call c_short_in tk hr (fa_cons (fe_sl (fe_var (i := 3)) (fo_some (fe_var (i := 1))) fo_none) (fa_cons (fe_var (i := 4)) fa_nil))))) fss_nil)
    (fss_cons (fs_set (i := 5) hN (fe_op o_mod (fe_op o_sub (fe_var (i := 1)) (fe_callB c_len bb_len T.z_len (fa_cons (fe_var (i := 3)) fa_nil))) (fe_callB c_len bb_len T.z_len (fa_cons (fe_var (i := 4)) fa_nil))))
    (fss_one (fs_ret (fe_call c_short_in tk hr (fa_cons (fe_tup fa_nil) (fa_cons (fe_op o_add (fe_sl (fe_var (i := 4)) (fo_some (fe_var (i := 5))) fo_none) (fe_sl (fe_var (i := 4)) fo_none (fo_some (fe_var (i := 5))))) fa_nil))))))))))

/-! put_ahead -/
abbrev s_put_ahead : Stmt := top 25
theorem sc_put_ahead : FnScope ["text", "lasso", "own", "told"] ["text", "lasso"] (defScope s_put_ahead) := ⟨rfl, rfl, rfl, by decide +kernel, rfl, by decide +kernel, by decide +kernel⟩
def m_put_ahead : Sm := (mSeq (mPar [2, 3] [.v (dCall 2 M_sure_lasso (dCons (dC (.int 3)) (dCons (dVar 1) dNil))), .v (dCall 1 (M_tuple_of 20) (dCons (dVar 0) dNil))])
    (mSeq (mIf (dNot (dCall 2 M_is_text (dCons (dC (.int 3)) (dCons (dVar 3) dNil)))) (mRaise 0) mNil)
    (mRet (dCall 2 M_short_in (dCons (dBin dAdd (dVar 3) (dBin dIx (dVar 2) (dC (.int 0)))) (dCons (dBin dIx (dVar 2) (dC (.int 1))) dNil))))))
def M_put_ahead : List D → Re D := runP 4 m_put_ahead
theorem fn_put_ahead {f : Addr} {fd : FuncData} {k : Nat} (T : Tx G mg) (F : Fun G.K "put_ahead" "put_ahead" s_put_ahead f fd) (c_short_in : Cal P w G.K mg base k "short_in" ["ahead", "round_so"] (spP G 2 M_short_in)) (c_sure_lasso : Cal P w G.K mg base k "sure_lasso" ["wide", "lasso"] (spP G 2 M_sure_lasso)) (c_tuple_of : Cal P w G.K mg base k "tuple_of" ["thing"] (spP G 1 (M_tuple_of 20))) (c_is_text : Cal P w G.K mg base k "is_text" ["wide", "thing"] (spP G 2 M_is_text)) : FnOk P w G.K mg base (L2.CX P w) (k + 1) f fd ["text", "lasso"] (spP G 2 (runP 4 m_put_ahead)) :=
  fn_pure (N := ["text", "lasso", "own", "told"]) F sc_put_ahead rfl fun cdv A outer s H E hr tk => by
    have hu : _ := hu130 hr
    have hN := sc_put_ahead.nd
    exact (fss_cons (fs_par2 (i := 2) (j := 3) hN (fc_v (fe_call c_sure_lasso tk hr (fa_cons T.v_MOST_WIDE.fe (fa_cons (fe_var (i := 1)) fa_nil))) (fc_v (fe_call c_tuple_of tk hr (fa_cons (fe_var (i := 0)) fa_nil)) fc_nil)) rfl rfl (by decide))
    (fss_cons (fs_if (fb_not (fb_val (fe_call c_is_text tk hr (fa_cons T.v_MOST_WIDE.fe (fa_cons (fe_var (i := 3)) fa_nil))))) (fss_one (fs_raise0 PySem.F.excBase_ValueError T.e_Unfit tk)) fss_nil)
    (fss_one (fs_ret (fe_call c_short_in tk hr (fa_cons (fe_op o_add (fe_var (i := 3)) (fe_ix (fe_var (i := 2)) fe_int)) (fa_cons (fe_ix (fe_var (i := 2)) fe_int) fa_nil)))))))

/-! first_apart -/
abbrev s_first_apart : Stmt := top 26
theorem sc_first_apart : FnScope ["one", "other", "near", "far", "most", "place"] ["one", "other"] (defScope s_first_apart) := ⟨rfl, rfl, rfl, by decide +kernel, rfl, by decide +kernel, by decide +kernel⟩
def m_first_apart : Sm := (mSeq (mPar [2, 3] [.v (dCall 2 M_sure_lasso (dCons (dC (.int 3)) (dCons (dVar 0) dNil))), .v (dCall 2 M_sure_lasso (dCons (dC (.int 3)) (dCons (dVar 1) dNil)))])
    (mSeq (mSet 4 (dBin dAdd (dBin dAdd (dCB bMax2 (dCons (dCB bLen (dCons (dBin dIx (dVar 2) (dC (.int 0))) dNil)) (dCons (dCB bLen (dCons (dBin dIx (dVar 3) (dC (.int 0))) dNil)) dNil))) (dCB bLen (dCons (dBin dIx (dVar 2) (dC (.int 1))) dNil))) (dCB bLen (dCons (dBin dIx (dVar 3) (dC (.int 1))) dNil))))
    (mSeq (mFor (.nm 5) (iRange2 (dC (.int 1)) (dBin dAdd (dVar 4) (dC (.int 1)))) (mIf (dBin dNe (dCall 3 M_entry_at (dCons (dBin dIx (dVar 2) (dC (.int 0))) (dCons (dBin dIx (dVar 2) (dC (.int 1))) (dCons (dVar 5) dNil)))) (dCall 3 M_entry_at (dCons (dBin dIx (dVar 3) (dC (.int 0))) (dCons (dBin dIx (dVar 3) (dC (.int 1))) (dCons (dVar 5) dNil))))) (mRet (dVar 5)) mNil))
    (mRet (dC .non)))))
def M_first_apart : List D → Re D := runP 6 m_first_apart
theorem fn_first_apart {f : Addr} {fd : FuncData} {k : Nat} (T : Tx G mg) (F : Fun G.K "first_apart" "first_apart" s_first_apart f fd) (c_sure_lasso : Cal P w G.K mg base k "sure_lasso" ["wide", "lasso"] (spP G 2 M_sure_lasso)) (c_entry_at : Cal P w G.K mg base k "entry_at" ["ahead", "round_so", "place"] (spP G 3 M_entry_at)) : FnOk P w G.K mg base (L2.CX P w) (k + 1) f fd ["one", "other"] (spP G 2 (runP 6 m_first_apart)) :=
  fn_pure (N := ["one", "other", "near", "far", "most", "place"]) F sc_first_apart rfl fun cdv A outer s H E hr tk => by
    have hu : _ := hu130 hr
    have hN := sc_first_apart.nd
    exact (fss_cons (fs_par2 (i := 2) (j := 3) hN (fc_v (fe_call c_sure_lasso tk hr (fa_cons T.v_MOST_WIDE.fe (fa_cons (fe_var (i := 0)) fa_nil))) (fc_v (fe_call c_sure_lasso tk hr (fa_cons T.v_MOST_WIDE.fe (fa_cons (fe_var (i := 1)) fa_nil))) fc_nil)) rfl rfl (by decide))
    (fss_cons (fs_set (i := 4) hN (fe_op o_add (fe_op o_add (fe_callB c_max2 bb_max T.z_max (fa_cons (fe_callB c_len bb_len T.z_len (fa_cons (fe_ix (fe_var (i := 2)) fe_int) fa_nil)) (fa_cons (fe_callB c_len bb_len T.z_len (fa_cons (fe_ix (fe_var (i := 3)) fe_int) fa_nil)) fa_nil))) (fe_callB c_len bb_len T.z_len (fa_cons (fe_ix (fe_var (i := 2)) fe_int) fa_nil))) (fe_callB c_len bb_len T.z_len (fa_cons (fe_ix (fe_var (i := 3)) fe_int) fa_nil))))
    (fss_cons (fs_for (L2.passes_of rfl) (fi_range2 fe_int (fe_op o_add (fe_var (i := 4)) fe_int) T.z_range) (fg_name (i := 5) hN) (fss_one (fs_if (fb_cmp (o_ne hu) (fe_call c_entry_at tk hr (fa_cons (fe_ix (fe_var (i := 2)) fe_int) (fa_cons (fe_ix (fe_var (i := 2)) fe_int) (fa_cons (fe_var (i := 5)) fa_nil)))) (fe_call c_entry_at tk hr (fa_cons (fe_ix (fe_var (i := 3)) fe_int) (fa_cons (fe_ix (fe_var (i := 3)) fe_int) (fa_cons (fe_var (i := 5)) fa_nil))))) (fss_one (fs_ret (fe_var (i := 5)))) fss_nil)))
    (fss_one (fs_ret fe_non)))))

/-! _law_box -/
abbrev s__law_box : Stmt := top 28
theorem sc__law_box : FnScope ["script", "k", "cell"] ["script", "k"] (defScope s__law_box) := ⟨rfl, rfl, rfl, by decide +kernel, rfl, by decide +kernel, by decide +kernel⟩
def l__law_box : Lv := (dItems (dCons (dBin dMulT (dCB bAbs (dCons (dVar 2) dNil)) (dCB bInt (dCons (dBin dGe (dCB bAbs (dCons (dVar 2) dNil)) (dBin dPow (dC (.int 10)) (dC (.int 18)))) dNil))) (dCons (dBin dAdd (dBin dAdd (dBin dMod (dCB bInt (dCons (dVar 2) dNil)) (dC (.int 2305843009213693951))) (dBin dMulT (dC (.int 39373)) (dVar 1))) (dC (.int 2518077))) (dCons (dC (.int 0)) dNil))))
def m__law_box : Sm := (mSet 2 (dIf (dBin dLt (dVar 1) (dCB bLen (dCons (dVar 0) dNil))) (dBin dIx (dVar 0) (dVar 1)) (dC (.int 0))))
def M__law_box : List D → Re (List D) := runF 3 m__law_box l__law_box
theorem fn__law_box {f : Addr} {fd : FuncData} {k : Nat} (T : Tx G mg) (F : Fun G.K "_law_box" "_law_box" s__law_box f fd) : FnOk P w G.K mg base (L2.CX P w) (k + 1) f fd ["script", "k"] (spF G 2 (runF 3 m__law_box l__law_box)) :=
  fn_fresh (N := ["script", "k", "cell"]) F sc__law_box rfl rfl fun cdv A outer s H E hr tk => by
    have hu : _ := hu130 hr
    have hN := sc__law_box.nd
    exact ⟨(fs_set (i := 2) hN (fe_if (fb_cmp o_lt (fe_var (i := 1)) (fe_callB c_len bb_len T.z_len (fa_cons (fe_var (i := 0)) fa_nil))) (fe_ix (fe_var (i := 0)) (fe_var (i := 1))) fe_int)), (fl_lst (fa_cons (fe_op o_mulT (fe_callB c_abs bb_abs T.z_abs (fa_cons (fe_var (i := 2)) fa_nil)) (fe_callTy c_int bb_int T.z_int (fa_cons (fe_cmp o_ge (fe_callB c_abs bb_abs T.z_abs (fa_cons (fe_var (i := 2)) fa_nil)) (fe_op o_pow fe_int fe_int)) fa_nil))) (fa_cons (fe_op o_add (fe_op o_add (fe_op o_mod (fe_callTy c_int bb_int T.z_int (fa_cons (fe_var (i := 2)) fa_nil)) fe_int) (fe_op o_mulT fe_int (fe_var (i := 1)))) fe_int) (fa_cons fe_int fa_nil))))⟩

/-! _law_take -/
abbrev s__law_take : Stmt := top 29
theorem sc__law_take : FnScope ["tin", "below", "once", "broad", "twice", "drawn"] ["tin", "below"] (defScope s__law_take) := ⟨rfl, rfl, rfl, by decide +kernel, rfl, by decide +kernel, by decide +kernel⟩
def m__law_take : Sm := (mSeq (mIf (dBin dGt (dBin dIx (dVar 0) (dC (.int 0))) (dC (.int 0))) (mSeq (mSet 5 (dBin dMod (dCB bInt (dCons (dBin dIx (dVar 0) (dC (.int 0))) dNil)) (dVar 1)))
    (mSeq (mSetIx 0 (dBin dDiv (dBin dIx (dVar 0) (dC (.int 0))) (dVar 1)) (dC (.int 0)))
    (mRet (dVar 5)))) mNil)
    (mSeq (mSetIx 0 (dBin dAdd (dBin dIx (dVar 0) (dC (.int 2))) (dC (.int 1))) (dC (.int 2)))
    (mSeq (mSet 2 (dBin dMod (dCB bInt (dCons (dBin dMulT (dBin dAdd (dBin dIx (dVar 0) (dC (.int 1))) (dBin dMulT (dC (.int 48271)) (dBin dIx (dVar 0) (dC (.int 2))))) (dBin dAdd (dC (.int 39373)) (dBin dIx (dVar 0) (dC (.int 2))))) dNil)) (dC (.int 2147483647))))
    (mSeq (mSet 3 (dBin dAdd (dBin dMod (dCB bInt (dCons (dVar 2) dNil)) (dC (.int 40009))) (dC (.int 7))))
    (mSeq (mSet 4 (dBin dMod (dCB bInt (dCons (dBin dMulT (dBin dAdd (dBin dAdd (dVar 2) (dBin dIx (dVar 0) (dC (.int 2)))) (dBin dDiv (dBin dIx (dVar 0) (dC (.int 1))) (dC (.int 1000003)))) (dVar 3)) dNil)) (dC (.int 2147483629))))
    (mRet (dBin dMod (dCB bInt (dCons (dBin dDiv (dBin dMod (dCB bInt (dCons (dBin dAdd (dBin dMulT (dVar 4) (dC (.int 48271))) (dVar 2)) dNil)) (dC (.int 2147483587))) (dC (.int 64))) dNil)) (dVar 1))))))))
def M__law_take : List D → List D → Re (D × List D) := runT 6 m__law_take
theorem fn__law_take {f : Addr} {fd : FuncData} {k : Nat} (T : Tx G mg) (F : Fun G.K "_law_take" "_law_take" s__law_take f fd) : FnOk P w G.K mg base (L2.CX P w) (k + 1) f fd ["tin", "below"] (spT G 2 (runT 6 m__law_take)) :=
  fn_T (N := ["tin", "below", "once", "broad", "twice", "drawn"]) F sc__law_take rfl fun cdv A outer s H E hr tk => by
    have hu : _ := hu130 hr
    have hN := sc__law_take.nd
    exact (fss_cons (fs_if (fb_cmp o_gt (fe_ix (fe_var (i := 0)) fe_int) fe_int) (fss_cons (fs_set (i := 5) hN (fe_op o_mod (fe_callTy c_int bb_int T.z_int (fa_cons (fe_ix (fe_var (i := 0)) fe_int) fa_nil)) (fe_var (i := 1))))
    (fss_cons (fs_setIx (i := 0) (fe_op o_div (fe_ix (fe_var (i := 0)) fe_int) (fe_var (i := 1))) fe_int)
    (fss_one (fs_ret (fe_var (i := 5)))))) fss_nil)
    (fss_cons (fs_setIx (i := 0) (fe_op o_add (fe_ix (fe_var (i := 0)) fe_int) fe_int) fe_int)
    (fss_cons (fs_set (i := 2) hN (fe_op o_mod (fe_callTy c_int bb_int T.z_int (fa_cons (fe_op o_mulT (fe_op o_add (fe_ix (fe_var (i := 0)) fe_int) (fe_op o_mulT fe_int (fe_ix (fe_var (i := 0)) fe_int))) (fe_op o_add fe_int (fe_ix (fe_var (i := 0)) fe_int))) fa_nil)) fe_int))
    (fss_cons (fs_set (i := 3) hN (fe_op o_add (fe_op o_mod (fe_callTy c_int bb_int T.z_int (fa_cons (fe_var (i := 2)) fa_nil)) fe_int) fe_int))
    (fss_cons (fs_set (i := 4) hN (fe_op o_mod (fe_callTy c_int bb_int T.z_int (fa_cons (fe_op o_mulT (fe_op o_add (fe_op o_add (fe_var (i := 2)) (fe_ix (fe_var (i := 0)) fe_int)) (fe_op o_div (fe_ix (fe_var (i := 0)) fe_int) fe_int)) (fe_var (i := 3))) fa_nil)) fe_int))
    (fss_one (fs_ret (fe_op o_mod (fe_callTy c_int bb_int T.z_int (fa_cons (fe_op o_div (fe_op o_mod (fe_callTy c_int bb_int T.z_int (fa_cons (fe_op o_add (fe_op o_mulT (fe_var (i := 4)) fe_int) (fe_var (i := 2))) fa_nil)) fe_int) fe_int) fa_nil)) (fe_var (i := 1))))))))))

/-! _law_cells -/
abbrev s__law_cells : Stmt := top 30
theorem sc__law_cells : FnScope ["script", "most", "cells", "k", "cell", "spot"] ["script", "most"] (defScope s__law_cells) := ⟨rfl, rfl, rfl, by decide +kernel, rfl, by decide +kernel, by decide +kernel⟩
def m__law_cells : Sm := (mSeq (mNew 2 (dOrL (dCL bList (dCons (dSl (dVar 0) dNoPart (dPart (dVar 1))) dNil)) (dItems (dCons (dC (.int 0)) dNil))))
    (mSeq (mFor (.tp [(.nm 3), (.nm 4)]) (iEnumL (dSl (dVar 0) (dPart (dVar 1)) (dPart (dC (.int 63))))) (mSeq (mSet 5 (dBin dMod (dCB bInt (dCons (dVar 3) dNil)) (dVar 1)))
    (mSetIx 2 (dBin dAdd (dBin dIx (dVar 2) (dVar 5)) (dBin dMulT (dVar 4) (dBin dAdd (dVar 3) (dC (.int 2))))) (dVar 5))))
    (mRet (dVar 2))))
def M__law_cells : List D → Re D := runP 6 m__law_cells
theorem fn__law_cells {f : Addr} {fd : FuncData} {k : Nat} (T : Tx G mg) (F : Fun G.K "_law_cells" "_law_cells" s__law_cells f fd) : FnOk P w G.K mg base (L2.CX P w) (k + 1) f fd ["script", "most"] (spP G 2 (runP 6 m__law_cells)) :=
  fn_pure (N := ["script", "most", "cells", "k", "cell", "spot"]) F sc__law_cells rfl fun cdv A outer s H E hr tk => by
    have hu : _ := hu130 hr
    have hN := sc__law_cells.nd
    exact (fss_cons (fs_new (i := 1) hN (fl_or (fl_callTy c_list bb_list T.z_list (fa_cons (fe_sl (fe_var (i := 0)) fo_none (fo_some (fe_var (i := 1)))) fa_nil)) (fl_one (fl_lst (fa_cons fe_int fa_nil)))))
    (fss_cons (fs_for (L2.passes_of rfl) (fi_enumL (fe_sl (fe_var (i := 0)) (fo_some (fe_var (i := 1))) (fo_some fe_int)) T.z_enumerate) (fg_tup (fgs_cons (fg_name (i := 3) hN) (fgs_cons (fg_name (i := 4) hN) fgs_nil)) rfl) (fss_cons (fs_set (i := 5) hN (fe_op o_mod (fe_callTy c_int bb_int T.z_int (fa_cons (fe_var (i := 3)) fa_nil)) (fe_var (i := 1))))
    (fss_one (fs_setIx (i := 2) (fe_op o_add (fe_ix (fe_var (i := 2)) (fe_var (i := 5))) (fe_op o_mulT (fe_var (i := 4)) (fe_op o_add (fe_var (i := 3)) fe_int))) (fe_var (i := 5))))))
    (fss_one (fs_ret (fe_var (i := 2))))))

/-! _law_same -/
abbrev s__law_same : Stmt := top 31
theorem sc__law_same : FnScope ["got", "goal", "mine", "own"] ["got", "goal"] (defScope s__law_same) := ⟨rfl, rfl, rfl, by decide +kernel, rfl, by decide +kernel, by decide +kernel⟩
def m__law_same (r : List D → Re D) : Sm := (mSeq (mIf (dIsi ["list", "tuple"] (dVar 1)) (mSeq (mIf (dOr (dBin dNe (dIsi ["list"] (dVar 0)) (dIsi ["list"] (dVar 1))) (dBin dNe (dIsi ["tuple"] (dVar 0)) (dIsi ["tuple"] (dVar 1)))) (mRet (dC (.bl false))) mNil)
    (mRet (dAnd (dBin dEq (dCB bLen (dCons (dVar 0) dNil)) (dCB bLen (dCons (dVar 1) dNil))) (dCB bAll (dCons (dL (dLc [2, 3] (.tp [(.nm 2), (.nm 3)]) cYes (dCall 2 r (dCons (dVar 2) (dCons (dVar 3) dNil))) (iZip (dVar 0) (dVar 1)))) dNil))))) mNil)
    (mSeq (mIf (dOr (dBin (dIs false) (dVar 1) (dC .non)) (dIsi ["bool", "str"] (dVar 1))) (mRet (dAnd (dBin dEq (dVar 0) (dVar 1)) (dAnd (dBin dEq (dIsi ["bool"] (dVar 0)) (dIsi ["bool"] (dVar 1))) (dBin dEq (dBin (dIs false) (dVar 0) (dC .non)) (dBin (dIs false) (dVar 1) (dC .non)))))) mNil)
    (mRet (dAnd (dIsi ["int"] (dVar 0)) (dAnd (dNot (dIsi ["bool"] (dVar 0))) (dBin dEq (dVar 0) (dVar 1)))))))
def M__law_same : Nat → List D → Re D
  | 0 => fun _ => .bad
  | j + 1 => runP 4 (m__law_same (M__law_same j))
theorem fn__law_same {f : Addr} {fd : FuncData} {k : Nat} {r : List D → Re D} (T : Tx G mg) (F : Fun G.K "_law_same" "_law_same" s__law_same f fd) (c__law_same : Cal P w G.K mg base k "_law_same" ["got", "goal"] (spP G 2 r)) : FnOk P w G.K mg base (L2.CX P w) (k + 1) f fd ["got", "goal"] (spP G 2 (runP 4 (m__law_same r))) :=
  fn_pure (N := ["got", "goal", "mine", "own"]) F sc__law_same rfl fun cdv A outer s H E hr tk => by
    have hu : _ := hu130 hr
    have hN := sc__law_same.nd
    exact (fss_cons (fs_if (fb_val (fe_isi2 asked_list asked_tuple bb_list bb_tuple T.z_isinstance T.z_list T.z_tuple (fe_var (i := 1)))) (fss_cons (fs_if (fb_w (fw_or (fb_cmp (o_ne hu) (fe_isi1 asked_list bb_list T.z_isinstance T.z_list (fe_var (i := 0))) (fe_isi1 asked_list bb_list T.z_isinstance T.z_list (fe_var (i := 1)))) (fw_one_or (fb_cmp (o_ne hu) (fe_isi1 asked_tuple bb_tuple T.z_isinstance T.z_tuple (fe_var (i := 0))) (fe_isi1 asked_tuple bb_tuple T.z_isinstance T.z_tuple (fe_var (i := 1))))))) (fss_one (fs_ret fe_bl)) fss_nil)
    (fss_one (fs_ret (fe_and (fe_cmp (o_eq hu) (fe_callB c_len bb_len T.z_len (fa_cons (fe_var (i := 0)) fa_nil)) (fe_callB c_len bb_len T.z_len (fa_cons (fe_var (i := 1)) fa_nil))) (fe_one (fe_callB c_all bb_all T.z_all (fa_cons (fe_new (fl_lc (own := [("mine", 2), ("own", 3)]) hN (blkOk_by (by rfl)) (fi_zip (fe_var (i := 0)) (fe_var (i := 1)) T.z_zip) (fun _ _ _ _ _ => (fg_tup (fgs_cons (fg_name (i := 2) hN) (fgs_cons (fg_name (i := 3) hN) fgs_nil)) rfl)) (fun _ _ _ _ _ => fts_nil) (fun _ _ _ _ _ => (fe_call c__law_same L2.takes0 hr (fa_cons (fe_var (i := 2)) (fa_cons (fe_var (i := 3)) fa_nil)))))) fa_nil))))))) fss_nil)
    (fss_cons (fs_if (fb_w (fw_or (fb_cmp o_is (fe_var (i := 1)) fe_non) (fw_one_or (fb_val (fe_isi2 asked_bool asked_str bb_bool bb_str T.z_isinstance T.z_bool T.z_str (fe_var (i := 1))))))) (fss_one (fs_ret (fe_and (fe_cmp (o_eq hu) (fe_var (i := 0)) (fe_var (i := 1))) (fe_and (fe_cmp (o_eq hu) (fe_isi1 asked_bool bb_bool T.z_isinstance T.z_bool (fe_var (i := 0))) (fe_isi1 asked_bool bb_bool T.z_isinstance T.z_bool (fe_var (i := 1)))) (fe_one (fe_cmp (o_eq hu) (fe_cmp o_is (fe_var (i := 0)) fe_non) (fe_cmp o_is (fe_var (i := 1)) fe_non))))))) fss_nil)
    (fss_one (fs_ret (fe_and (fe_isi1 asked_int bb_int T.z_isinstance T.z_int (fe_var (i := 0))) (fe_and (fe_not (fe_isi1 asked_bool bb_bool T.z_isinstance T.z_bool (fe_var (i := 0)))) (fe_one (fe_cmp (o_eq hu) (fe_var (i := 0)) (fe_var (i := 1))))))))))

/-! _law_lists -/
abbrev s__law_lists : Stmt := top 32
theorem sc__law_lists : FnScope ["matter", "own"] ["matter"] (defScope s__law_lists) := ⟨rfl, rfl, rfl, by decide +kernel, rfl, by decide +kernel, by decide +kernel⟩
def m__law_lists (r : List D → Re D) : Sm := (mRet (dIf (dIsi ["list", "tuple"] (dVar 0)) (dL (dLc [1] (.nm 1) cYes (dCall 1 r (dCons (dVar 1) dNil)) (iSeq (dVar 0)))) (dVar 0)))
def M__law_lists : Nat → List D → Re D
  | 0 => fun _ => .bad
  | j + 1 => runP 2 (m__law_lists (M__law_lists j))
theorem fn__law_lists {f : Addr} {fd : FuncData} {k : Nat} {r : List D → Re D} (T : Tx G mg) (F : Fun G.K "_law_lists" "_law_lists" s__law_lists f fd) (c__law_lists : Cal P w G.K mg base k "_law_lists" ["matter"] (spP G 1 r)) : FnOk P w G.K mg base (L2.CX P w) (k + 1) f fd ["matter"] (spP G 1 (runP 2 (m__law_lists r))) :=
  fn_pure (N := ["matter", "own"]) F sc__law_lists rfl fun cdv A outer s H E hr tk => by
    have hu : _ := hu130 hr
    have hN := sc__law_lists.nd
    exact (fss_one (fs_ret (fe_if (fb_val (fe_isi2 asked_list asked_tuple bb_list bb_tuple T.z_isinstance T.z_list T.z_tuple (fe_var (i := 0)))) (fe_new (fl_lc (own := [("own", 1)]) hN (blkOk_by (by rfl)) (fi_seq (fe_var (i := 0))) (fun _ _ _ _ _ => (fg_name (i := 1) hN)) (fun _ _ _ _ _ => fts_nil) (fun _ _ _ _ _ => (fe_call c__law_lists L2.takes0 hr (fa_cons (fe_var (i := 1)) fa_nil))))) (fe_var (i := 0)))))

/-! _law_of -/
abbrev s__law_of : Stmt := top 33
theorem sc__law_of : FnScope ["tin", "goods"] ["tin", "goods"] (defScope s__law_of) := ⟨rfl, rfl, rfl, by decide +kernel, rfl, by decide +kernel, by decide +kernel⟩
def m__law_of : Sm := (mRet (dBin dIx (dVar 1) (dCallT 2 M__law_take (dCons (dVar 0) (dCons (dCB bLen (dCons (dVar 1) dNil)) dNil)))))
def M__law_of : List D → List D → Re (D × List D) := runT 2 m__law_of
theorem fn__law_of {f : Addr} {fd : FuncData} {k : Nat} (T : Tx G mg) (F : Fun G.K "_law_of" "_law_of" s__law_of f fd) (c__law_take : Cal P w G.K mg base k "_law_take" ["tin", "below"] (spT G 2 M__law_take)) : FnOk P w G.K mg base (L2.CX P w) (k + 1) f fd ["tin", "goods"] (spT G 2 (runT 2 m__law_of)) :=
  fn_T (N := ["tin", "goods"]) F sc__law_of rfl fun cdv A outer s H E hr tk => by
    have hu : _ := hu130 hr
    have hN := sc__law_of.nd
    exact (fss_one (fs_ret (fe_ix (fe_var (i := 1)) (fe_callT c__law_take tk hr (fa_cons (fe_var (i := 0)) (fa_cons (fe_callB c_len bb_len T.z_len (fa_cons (fe_var (i := 1)) fa_nil)) fa_nil))))))

/-! _law_pick -/
abbrev s__law_pick : Stmt := top 34
theorem sc__law_pick : FnScope ["tin", "goods", "most", "left", "found", "lap"] ["tin", "goods", "most"] (defScope s__law_pick) := ⟨rfl, rfl, rfl, by decide +kernel, rfl, by decide +kernel, by decide +kernel⟩
def m__law_pick : Sm := (mSeq (mPar [3, 4] [.l (dCL bList (dCons (dVar 1) dNil)), .l (dItems dNil)])
    (mSeq (mFor (.nm 5) (iRange1 (dCB bMin2 (dCons (dVar 2) (dCons (dCB bLen (dCons (dVar 3) dNil)) dNil)))) (mDrop (dMut 4 mAppend (dCons (dMut 3 mPopAt (dCons (dCallT 2 M__law_take (dCons (dVar 0) (dCons (dCB bLen (dCons (dVar 3) dNil)) dNil))) dNil)) dNil))))
    (mRet (dVar 4))))
def M__law_pick : List D → List D → Re (D × List D) := runT 6 m__law_pick
theorem fn__law_pick {f : Addr} {fd : FuncData} {k : Nat} (T : Tx G mg) (F : Fun G.K "_law_pick" "_law_pick" s__law_pick f fd) (c__law_take : Cal P w G.K mg base k "_law_take" ["tin", "below"] (spT G 2 M__law_take)) : FnOk P w G.K mg base (L2.CX P w) (k + 1) f fd ["tin", "goods", "most"] (spT G 3 (runT 6 m__law_pick)) :=
  fn_T (N := ["tin", "goods", "most", "left", "found", "lap"]) F sc__law_pick rfl fun cdv A outer s H E hr tk => by
    have hu : _ := hu130 hr
    have hN := sc__law_pick.nd
    exact (fss_cons (fs_par2 (i := 3) (j := 4) hN (fc_l (fl_callTy c_list bb_list T.z_list (fa_cons (fe_var (i := 1)) fa_nil)) (fc_l (fl_lst fa_nil) fc_nil)) rfl rfl (by decide))
    (fss_cons (fs_for (L2.passes_of rfl) (fi_range1 (fe_callB c_min2 bb_min T.z_min (fa_cons (fe_var (i := 2)) (fa_cons (fe_callB c_len bb_len T.z_len (fa_cons (fe_var (i := 3)) fa_nil)) fa_nil))) T.z_range) (fg_name (i := 5) hN) (fss_one (fs_expr (fe_append (i := 4) (fa_cons (fe_popAt (i := 3) (fa_cons (fe_callT c__law_take tk hr (fa_cons (fe_var (i := 0)) (fa_cons (fe_callB c_len bb_len T.z_len (fa_cons (fe_var (i := 3)) fa_nil)) fa_nil))) fa_nil)) fa_nil)))))
    (fss_one (fs_ret (fe_var (i := 4))))))

/-! _law_texts -/
abbrev s__law_texts : Stmt := top 35
theorem sc__law_texts : FnScope ["wide", "most", "found", "line", "lap", "later", "own", "letter"] ["wide", "most"] (defScope s__law_texts) := ⟨rfl, rfl, rfl, by decide +kernel, rfl, by decide +kernel, by decide +kernel⟩
def m__law_texts : Sm := (mSeq (mPar [2, 3] [.v (dL (dItems (dCons (dTup dNil) dNil))), .v (dL (dItems (dCons (dTup dNil) dNil)))])
    (mSeq (mFor (.nm 4) (iRange1 (dVar 1)) (mSeq (mSet 5 (dL (dItems dNil)))
    (mSeq (mFor (.nm 6) (iSeq (dVar 3)) (mSet 5 (dBin dAdd (dVar 5) (dL (dLc [7] (.nm 7) cYes (dBin dAdd (dVar 6) (dTup (dCons (dVar 7) dNil))) (iRange2 (dC (.int 1)) (dBin dAdd (dVar 0) (dC (.int 1)))))))))
    (mPar [2, 3] [.v (dBin dAdd (dVar 2) (dVar 5)), .v (dVar 5)]))))
    (mRet (dVar 2))))
def M__law_texts : List D → Re D := runP 8 m__law_texts
theorem fn__law_texts {f : Addr} {fd : FuncData} {k : Nat} (T : Tx G mg) (F : Fun G.K "_law_texts" "_law_texts" s__law_texts f fd) : FnOk P w G.K mg base (L2.CX P w) (k + 1) f fd ["wide", "most"] (spP G 2 (runP 8 m__law_texts)) :=
  fn_pure (N := ["wide", "most", "found", "line", "lap", "later", "own", "letter"]) F sc__law_texts rfl fun cdv A outer s H E hr tk => by
    have hu : _ := hu130 hr
    have hN := sc__law_texts.nd
    exact (fss_cons (fs_par2 (i := 2) (j := 3) hN (fc_v (fe_new (fl_lst (fa_cons (fe_tup fa_nil) fa_nil))) (fc_v (fe_new (fl_lst (fa_cons (fe_tup fa_nil) fa_nil))) fc_nil)) rfl rfl (by decide))
    (fss_cons (fs_for (L2.passes_of rfl) (fi_range1 (fe_var (i := 1)) T.z_range) (fg_name (i := 4) hN) (fss_cons (fs_set (i := 5) hN (fe_new (fl_lst fa_nil)))
    (fss_cons (fs_for (L2.passes_of rfl) (fi_seq (fe_var (i := 3))) (fg_name (i := 6) hN) (fss_one (fs_set (i := 5) hN (fe_op o_add (fe_var (i := 5)) (fe_new (fl_lc (own := [("letter", 7)]) hN (blkOk_by (by rfl)) (fi_range2 fe_int (fe_op o_add (fe_var (i := 0)) fe_int) T.z_range) (fun _ _ _ _ _ => (fg_name (i := 7) hN)) (fun _ _ _ _ _ => fts_nil) (fun _ _ _ _ _ => (fe_op o_add (fe_var (i := 6)) (fe_tup (fa_cons (fe_var (i := 7)) fa_nil))))))))))
    (fss_one (fs_par2 (i := 2) (j := 3) hN (fc_v (fe_op o_add (fe_var (i := 2)) (fe_var (i := 5))) (fc_v (fe_var (i := 5)) fc_nil)) rfl rfl (by decide))))))
    (fss_one (fs_ret (fe_var (i := 2))))))

/-! _law_short -/
abbrev s__law_short : Stmt := top 36
theorem sc__law_short : FnScope ["ahead", "back", "many", "lap"] ["ahead", "back"] (defScope s__law_short) := ⟨rfl, rfl, rfl, by decide +kernel, rfl, by decide +kernel, by decide +kernel⟩
def m__law_short : Sm := (mSeq (mFor (.nm 2) (iRange2 (dC (.int 1)) (dBin dAdd (dCB bLen (dCons (dVar 1) dNil)) (dC (.int 1)))) (mIf (dBin dEq (dVar 1) (dBin dMulT (dSl (dVar 1) dNoPart (dPart (dVar 2))) (dBin dDiv (dCB bLen (dCons (dVar 1) dNil)) (dVar 2)))) (mSeq (mSet 1 (dSl (dVar 1) dNoPart (dPart (dVar 2))))
    mBrk) mNil))
    (mSeq (mFor (.nm 3) (iRange1 (dCB bLen (dCons (dVar 0) dNil))) (mIf (dBin dEq (dBin dIx (dVar 0) (dUn dNeg (dC (.int 1)))) (dBin dIx (dVar 1) (dUn dNeg (dC (.int 1))))) (mPar [0, 1] [.v (dSl (dVar 0) dNoPart (dPart (dUn dNeg (dC (.int 1))))), .v (dBin dAdd (dSl (dVar 1) (dPart (dUn dNeg (dC (.int 1)))) dNoPart) (dSl (dVar 1) dNoPart (dPart (dUn dNeg (dC (.int 1))))))]) mBrk))
    (mRet (dTup (dCons (dVar 0) (dCons (dVar 1) dNil))))))
def M__law_short : List D → Re D := runP 4 m__law_short
theorem fn__law_short {f : Addr} {fd : FuncData} {k : Nat} (T : Tx G mg) (F : Fun G.K "_law_short" "_law_short" s__law_short f fd) : FnOk P w G.K mg base (L2.CX P w) (k + 1) f fd ["ahead", "back"] (spP G 2 (runP 4 m__law_short)) :=
  fn_pure (N := ["ahead", "back", "many", "lap"]) F sc__law_short rfl fun cdv A outer s H E hr tk => by
    have hu : _ := hu130 hr
    have hN := sc__law_short.nd
    exact (fss_cons (fs_for (L2.passes_of rfl) (fi_range2 fe_int (fe_op o_add (fe_callB c_len bb_len T.z_len (fa_cons (fe_var (i := 1)) fa_nil)) fe_int) T.z_range) (fg_name (i := 2) hN) (fss_one (fs_if (fb_cmp (o_eq hu) (fe_var (i := 1)) (fe_op o_mulT (fe_sl (fe_var (i := 1)) fo_none (fo_some (fe_var (i := 2)))) (fe_op o_div (fe_callB c_len bb_len T.z_len (fa_cons (fe_var (i := 1)) fa_nil)) (fe_var (i := 2))))) (fss_cons (fs_set (i := 1) hN (fe_sl (fe_var (i := 1)) fo_none (fo_some (fe_var (i := 2)))))
    (fss_one fs_break)) fss_nil)))
    (fss_cons (fs_for (L2.passes_of rfl) (fi_range1 (fe_callB c_len bb_len T.z_len (fa_cons (fe_var (i := 0)) fa_nil)) T.z_range) (fg_name (i := 3) hN) (fss_one (fs_if (fb_cmp (o_eq hu) (fe_ix (fe_var (i := 0)) (fe_neg fe_int)) (fe_ix (fe_var (i := 1)) (fe_neg fe_int))) (fss_one (fs_par2 (i := 0) (j := 1) hN (fc_v (fe_sl (fe_var (i := 0)) fo_none (fo_some (fe_neg fe_int))) (fc_v (fe_op o_add (fe_sl (fe_var (i := 1)) (fo_some (fe_neg fe_int)) fo_none) (fe_sl (fe_var (i := 1)) fo_none (fo_some (fe_neg fe_int)))) fc_nil)) rfl rfl (by decide))) (fss_one fs_break))))
    (fss_one (fs_ret (fe_tup (fa_cons (fe_var (i := 0)) (fa_cons (fe_var (i := 1)) fa_nil)))))))

/-! _law_row -/
abbrev s__law_row : Stmt := top 37
theorem sc__law_row : FnScope ["tin", "wide", "many", "lap"] ["tin", "wide", "many"] (defScope s__law_row) := ⟨rfl, rfl, rfl, by decide +kernel, rfl, by decide +kernel, by decide +kernel⟩
def m__law_row : Sm := (mRet (dCB bTuple (dCons (dL (dLc [3] (.nm 3) cYes (dBin dAdd (dC (.int 1)) (dCallT 2 M__law_take (dCons (dVar 0) (dCons (dVar 1) dNil)))) (iRange1 (dVar 2)))) dNil)))
def M__law_row : List D → List D → Re (D × List D) := runT 4 m__law_row
theorem fn__law_row {f : Addr} {fd : FuncData} {k : Nat} (T : Tx G mg) (F : Fun G.K "_law_row" "_law_row" s__law_row f fd) (c__law_take : Cal P w G.K mg base k "_law_take" ["tin", "below"] (spT G 2 M__law_take)) : FnOk P w G.K mg base (L2.CX P w) (k + 1) f fd ["tin", "wide", "many"] (spT G 3 (runT 4 m__law_row)) :=
  fn_T (N := ["tin", "wide", "many", "lap"]) F sc__law_row rfl fun cdv A outer s H E hr tk => by
    have hu : _ := hu130 hr
    have hN := sc__law_row.nd
    exact (fss_one (fs_ret (fe_callTy c_tuple bb_tuple T.z_tuple (fa_cons (fe_new (fl_lc (own := [("lap", 3)]) hN (blkOk_by (by rfl)) (fi_range1 (fe_var (i := 2)) T.z_range) (fun _ _ _ _ _ => (fg_name (i := 3) hN)) (fun _ _ _ _ _ => fts_nil) (fun _ _ _ _ _ => (fe_op o_add fe_int (fe_callT c__law_take L2.takes0 hr (fa_cons (fe_var (i := 0)) (fa_cons (fe_var (i := 1)) fa_nil))))))) fa_nil))))

/-! _law_lassos -/
abbrev s__law_lassos : Stmt := top 38
theorem sc__law_lassos : FnScope ["wide", "most", "found", "text", "cut", "own"] ["wide", "most"] (defScope s__law_lassos) := ⟨rfl, rfl, rfl, by decide +kernel, rfl, by decide +kernel, by decide +kernel⟩
def m__law_lassos : Sm := (mSeq (mNew 2 (dItems dNil))
    (mSeq (mFor (.nm 3) (iSeq (dSl (dCall 2 M__law_texts (dCons (dVar 0) (dCons (dVar 1) dNil))) (dPart (dC (.int 1))) dNoPart)) (mFor (.nm 4) (iRange1 (dCB bLen (dCons (dVar 3) dNil))) (mSeq (mSet 5 (dTup (dCons (dSl (dVar 3) dNoPart (dPart (dVar 4))) (dCons (dSl (dVar 3) (dPart (dVar 4)) dNoPart) dNil))))
    (mIf (dBin dEq (dCall 2 M__law_short (dCons (dBin dIx (dVar 5) (dC (.int 0))) (dCons (dBin dIx (dVar 5) (dC (.int 1))) dNil))) (dVar 5)) (mDrop (dMut 2 mAppend (dCons (dVar 5) dNil))) mNil))))
    (mRet (dVar 2))))
def M__law_lassos : List D → Re D := runP 6 m__law_lassos
theorem fn__law_lassos {f : Addr} {fd : FuncData} {k : Nat} (T : Tx G mg) (F : Fun G.K "_law_lassos" "_law_lassos" s__law_lassos f fd) (c__law_texts : Cal P w G.K mg base k "_law_texts" ["wide", "most"] (spP G 2 M__law_texts)) (c__law_short : Cal P w G.K mg base k "_law_short" ["ahead", "back"] (spP G 2 M__law_short)) : FnOk P w G.K mg base (L2.CX P w) (k + 1) f fd ["wide", "most"] (spP G 2 (runP 6 m__law_lassos)) :=
  fn_pure (N := ["wide", "most", "found", "text", "cut", "own"]) F sc__law_lassos rfl fun cdv A outer s H E hr tk => by
    have hu : _ := hu130 hr
    have hN := sc__law_lassos.nd
    exact (fss_cons (fs_new (i := 1) hN (fl_lst fa_nil))
    (fss_cons (fs_for (L2.passes_of rfl) (fi_seq (fe_sl (fe_call c__law_texts tk hr (fa_cons (fe_var (i := 0)) (fa_cons (fe_var (i := 1)) fa_nil))) (fo_some fe_int) fo_none)) (fg_name (i := 3) hN) (fss_one (fs_for (L2.passes_of rfl) (fi_range1 (fe_callB c_len bb_len T.z_len (fa_cons (fe_var (i := 3)) fa_nil)) T.z_range) (fg_name (i := 4) hN) (fss_cons (fs_set (i := 5) hN (fe_tup (fa_cons (fe_sl (fe_var (i := 3)) fo_none (fo_some (fe_var (i := 4)))) (fa_cons (fe_sl (fe_var (i := 3)) (fo_some (fe_var (i := 4))) fo_none) fa_nil))))
    (fss_one (fs_if (fb_cmp (o_eq hu) (fe_call c__law_short tk hr (fa_cons (fe_ix (fe_var (i := 5)) fe_int) (fa_cons (fe_ix (fe_var (i := 5)) fe_int) fa_nil))) (fe_var (i := 5))) (fss_one (fs_expr (fe_append (i := 2) (fa_cons (fe_var (i := 5)) fa_nil)))) fss_nil))))))
    (fss_one (fs_ret (fe_var (i := 2))))))

/-! law -/
abbrev s_law : Stmt := top 39
theorem sc_law : FnScope ["script", "tin", "wide", "every", "one", "ahead", "back", "lap", "told", "got", "other", "text", "many", "kind", "place", "k"] ["script"] (defScope s_law) := ⟨rfl, rfl, rfl, by decide +kernel, rfl, by decide +kernel, by decide +kernel⟩
def law_13 : Sm := (mRet (dCall 2 (M__law_same 20) (dCons (dVar 9) (dCons (dL (dItems (dCons (dVar 4) (dCons (dC (.bl true)) (dCons (dC (.bl true)) dNil))))) dNil))))
def law_from_13 : Sm := law_13
def law_12 : Sm := (mSet 9 (dL (dItems (dCons (dCall 2 M_moved_on (dCons (dCall 2 M_put_ahead (dCons (dVar 11) (dCons (dVar 8) dNil))) (dCons (dCB bLen (dCons (dVar 11) dNil)) dNil))) (dCons (dBin dEq (dCall 2 M_put_ahead (dCons (dSl (dVar 11) dNoPart (dPart (dC (.int 1)))) (dCons (dCall 2 M_put_ahead (dCons (dSl (dVar 11) (dPart (dC (.int 1))) dNoPart) (dCons (dVar 4) dNil))) dNil))) (dCall 2 M_put_ahead (dCons (dVar 11) (dCons (dVar 4) dNil)))) (dCons (dBin dEq (dCall 2 M_moved_on (dCons (dCall 2 M_moved_on (dCons (dVar 8) (dCons (dVar 12) dNil))) (dCons (dC (.int 3)) dNil))) (dCall 2 M_moved_on (dCons (dVar 4) (dCons (dBin dAdd (dVar 12) (dC (.int 3))) dNil)))) dNil))))))
def law_from_12 : Sm := mSeq law_12 law_from_13
def law_11 : Sm := (mSet 12 (dCallT 2 M__law_take (dCons (dVar 1) (dCons (dC (.int 9)) dNil))))
def law_from_11 : Sm := mSeq law_11 law_from_12
def law_10 : Sm := (mSet 11 (dCallT 3 M__law_row (dCons (dVar 1) (dCons (dVar 2) (dCons (dBin dAdd (dC (.int 1)) (dCallT 2 M__law_take (dCons (dVar 1) (dCons (dC (.int 4)) dNil)))) dNil)))))
def law_from_10 : Sm := mSeq law_10 law_from_11
def law_9 : Sm := (mFor (.nm 10) (iSeq (dCallT 3 M__law_pick (dCons (dVar 1) (dCons (dVar 3) (dCons (dC (.int 12)) dNil))))) (mSeq (mSet 14 (dCall 2 M_first_apart (dCons (dVar 4) (dCons (dVar 10) dNil))))
    (mSeq (mIf (dOr (dNot (dCall 2 (M__law_same 20) (dCons (dL (dItems (dCons (dCall 1 M_is_short (dCons (dVar 10) dNil)) (dCons (dCall 2 M_same_endless (dCons (dVar 8) (dCons (dVar 10) dNil))) (dCons (dCall 1 M_lasso_short (dCons (dVar 10) dNil)) dNil))))) (dCons (dL (dItems (dCons (dC (.bl true)) (dCons (dBin dEq (dVar 4) (dVar 10)) (dCons (dVar 10) dNil))))) dNil)))) (dBin dNe (dBin (dIs false) (dVar 14) (dC .non)) (dBin dEq (dVar 4) (dVar 10)))) (mRet (dC (.bl false))) mNil)
    (mSeq (mIf (dAnd (dBin (dIs true) (dVar 14) (dC .non)) (dOr (dBin dEq (dCall 2 M_letter_at (dCons (dVar 8) (dCons (dVar 14) dNil))) (dCall 2 M_letter_at (dCons (dVar 10) (dCons (dVar 14) dNil)))) (dBin dNe (dL (dLc [15] (.nm 15) (dB (dBin dNe (dCall 2 M_letter_at (dCons (dVar 4) (dCons (dVar 15) dNil))) (dCall 2 M_letter_at (dCons (dVar 10) (dCons (dVar 15) dNil))))) (dC (.int 1)) (iRange2 (dC (.int 1)) (dVar 14)))) (dL (dItems dNil))))) (mRet (dC (.bl false))) mNil)
    (mIf (dAnd (dBin dNe (dVar 10) (dVar 4)) (dAnd (dBin dLe (dBin dAdd (dCB bLen (dCons (dBin dIx (dVar 10) (dC (.int 0))) dNil)) (dCB bLen (dCons (dBin dIx (dVar 10) (dC (.int 1))) dNil))) (dBin dAdd (dCB bLen (dCons (dBin dIx (dVar 4) (dC (.int 0))) dNil)) (dCB bLen (dCons (dBin dIx (dVar 4) (dC (.int 1))) dNil)))) (dBin (dIs false) (dVar 14) (dC .non)))) (mRet (dC (.bl false))) mNil)))))
def law_from_9 : Sm := mSeq law_9 law_from_10
def law_8 : Sm := (mIf (dNot (dCall 2 (M__law_same 20) (dCons (dVar 9) (dCons (dL (dItems (dCons (dVar 4) (dCons (dC (.bl true)) (dCons (dC (.bl true)) (dCons (dC .non) (dCons (dBin dEq (dVar 8) (dVar 4)) (dCons (dC (.bl true)) dNil)))))))) dNil)))) (mRet (dC (.bl false))) mNil)
def law_from_8 : Sm := mSeq law_8 law_from_9
def law_7 : Sm := (mSet 9 (dL (dItems (dCons (dCall 1 M_lasso_short (dCons (dVar 8) dNil)) (dCons (dCall 2 M_same_endless (dCons (dVar 8) (dCons (dVar 4) dNil))) (dCons (dCall 2 M_same_endless (dCons (dCall 1 (M__law_lists 20) (dCons (dVar 4) dNil)) (dCons (dVar 8) dNil))) (dCons (dCall 2 M_first_apart (dCons (dVar 8) (dCons (dVar 4) dNil))) (dCons (dCall 1 M_is_short (dCons (dVar 8) dNil)) (dCons (dCall 1 M_is_short (dCons (dVar 4) dNil)) dNil)))))))))
def law_from_7 : Sm := mSeq law_7 law_from_8
def law_6 : Sm := (mSet 8 (dTup (dCons (dVar 5) (dCons (dVar 6) dNil))))
def law_from_6 : Sm := mSeq law_6 law_from_7
def law_5 : Sm := (mFor (.nm 7) (iRange1 (dBin dAdd (dC (.int 1)) (dCallT 2 M__law_take (dCons (dVar 1) (dCons (dC (.int 4)) dNil))))) (mSeq (mSet 13 (dCallT 2 M__law_take (dCons (dVar 1) (dCons (dC (.int 3)) dNil))))
    (mSeq (mIf (dBin dEq (dVar 13) (dC (.int 0))) (mSet 5 (dBin dAdd (dVar 5) (dVar 6))) (mIf (dBin dEq (dVar 13) (dC (.int 1))) (mSet 6 (dBin dMulT (dVar 6) (dBin dAdd (dC (.int 1)) (dCallT 2 M__law_take (dCons (dVar 1) (dCons (dC (.int 3)) dNil)))))) (mPar [5, 6] [.v (dBin dAdd (dVar 5) (dSl (dVar 6) dNoPart (dPart (dC (.int 1))))), .v (dBin dAdd (dSl (dVar 6) (dPart (dC (.int 1))) dNoPart) (dSl (dVar 6) dNoPart (dPart (dC (.int 1)))))])))
    (mIf (dBin dGt (dBin dAdd (dCB bLen (dCons (dVar 5) dNil)) (dCB bLen (dCons (dVar 6) dNil))) (dC (.int 24))) mBrk mNil))))
def law_from_5 : Sm := mSeq law_5 law_from_6
def law_4 : Sm := (mAsg (.tp [(.nm 5), (.nm 6)]) (dVar 4))
def law_from_4 : Sm := mSeq law_4 law_from_5
def law_3 : Sm := (mSet 4 (dCallT 2 M__law_of (dCons (dVar 1) (dCons (dVar 3) dNil))))
def law_from_3 : Sm := mSeq law_3 law_from_4
def law_2 : Sm := (mSet 3 (dCall 2 M__law_lassos (dCons (dVar 2) (dCons (dC (.int 5)) dNil))))
def law_from_2 : Sm := mSeq law_2 law_from_3
def law_1 : Sm := (mSet 2 (dBin dAdd (dC (.int 1)) (dCallT 2 M__law_take (dCons (dVar 1) (dCons (dC (.int 2)) dNil)))))
def law_from_1 : Sm := mSeq law_1 law_from_2
def law_0 : Sm := (mNew 1 (dCallF 2 M__law_box (dCons (dCall 2 M__law_cells (dCons (dVar 0) (dCons (dC (.int 1)) dNil))) (dCons (dC (.int 0)) dNil))))
def law_from_0 : Sm := mSeq law_0 law_from_1
def m_law : Sm := law_from_0
def M_law : List D → Re D := runP 16 m_law
theorem fn_law {f : Addr} {fd : FuncData} {k : Nat} (T : Tx G mg) (F : Fun G.K "law" "law" s_law f fd) (c__law_box : Cal P w G.K mg base k "_law_box" ["script", "k"] (spF G 2 M__law_box)) (c__law_lassos : Cal P w G.K mg base k "_law_lassos" ["wide", "most"] (spP G 2 M__law_lassos)) (c__law_of : Cal P w G.K mg base k "_law_of" ["tin", "goods"] (spT G 2 M__law_of)) (c__law_pick : Cal P w G.K mg base k "_law_pick" ["tin", "goods", "most"] (spT G 3 M__law_pick)) (c__law_row : Cal P w G.K mg base k "_law_row" ["tin", "wide", "many"] (spT G 3 M__law_row)) (c__law_take : Cal P w G.K mg base k "_law_take" ["tin", "below"] (spT G 2 M__law_take)) (c__law_same : Cal P w G.K mg base k "_law_same" ["got", "goal"] (spP G 2 (M__law_same 20))) (c__law_cells : Cal P w G.K mg base k "_law_cells" ["script", "most"] (spP G 2 M__law_cells)) (c_lasso_short : Cal P w G.K mg base k "lasso_short" ["lasso"] (spP G 1 M_lasso_short)) (c_same_endless : Cal P w G.K mg base k "same_endless" ["one", "other"] (spP G 2 M_same_endless)) (c_first_apart : Cal P w G.K mg base k "first_apart" ["one", "other"] (spP G 2 M_first_apart)) (c_is_short : Cal P w G.K mg base k "is_short" ["lasso"] (spP G 1 M_is_short)) (c_moved_on : Cal P w G.K mg base k "moved_on" ["lasso", "many"] (spP G 2 M_moved_on)) (c__law_lists : Cal P w G.K mg base k "_law_lists" ["matter"] (spP G 1 (M__law_lists 20))) (c_put_ahead : Cal P w G.K mg base k "put_ahead" ["text", "lasso"] (spP G 2 M_put_ahead)) (c_letter_at : Cal P w G.K mg base k "letter_at" ["lasso", "place"] (spP G 2 M_letter_at)) : FnOk P w G.K mg base (L2.CX P w) (k + 1) f fd ["script"] (spP G 1 (runP 16 m_law)) :=
  fn_pure (N := ["script", "tin", "wide", "every", "one", "ahead", "back", "lap", "told", "got", "other", "text", "many", "kind", "place", "k"]) F sc_law rfl fun cdv A outer s H E hr tk => by
    have hu : _ := hu130 hr
    have hN := sc_law.nd
    exact (fss_cons (fs_new (i := 0) hN (fl_call c__law_box tk hr (fa_cons (fe_call c__law_cells tk hr (fa_cons (fe_var (i := 0)) (fa_cons fe_int fa_nil))) (fa_cons fe_int fa_nil))))
    (fss_cons (fs_set (i := 2) hN (fe_op o_add fe_int (fe_callT c__law_take tk hr (fa_cons (fe_var (i := 1)) (fa_cons fe_int fa_nil)))))
    (fss_cons (fs_set (i := 3) hN (fe_call c__law_lassos tk hr (fa_cons (fe_var (i := 2)) (fa_cons fe_int fa_nil))))
    (fss_cons (fs_set (i := 4) hN (fe_callT c__law_of tk hr (fa_cons (fe_var (i := 1)) (fa_cons (fe_var (i := 3)) fa_nil))))
    (fss_cons (fs_asg (fe_var (i := 4)) (fg_tup (fgs_cons (fg_name (i := 5) hN) (fgs_cons (fg_name (i := 6) hN) fgs_nil)) rfl))
    (fss_cons (fs_for (L2.passes_of rfl) (fi_range1 (fe_op o_add fe_int (fe_callT c__law_take tk hr (fa_cons (fe_var (i := 1)) (fa_cons fe_int fa_nil)))) T.z_range) (fg_name (i := 7) hN) (fss_cons (fs_set (i := 13) hN (fe_callT c__law_take tk hr (fa_cons (fe_var (i := 1)) (fa_cons fe_int fa_nil))))
    (fss_cons (fs_if (fb_cmp (o_eq hu) (fe_var (i := 13)) fe_int) (fss_one (fs_set (i := 5) hN (fe_op o_add (fe_var (i := 5)) (fe_var (i := 6))))) (fss_one (fs_if (fb_cmp (o_eq hu) (fe_var (i := 13)) fe_int) (fss_one (fs_set (i := 6) hN (fe_op o_mulT (fe_var (i := 6)) (fe_op o_add fe_int (fe_callT c__law_take tk hr (fa_cons (fe_var (i := 1)) (fa_cons fe_int fa_nil))))))) (fss_one (fs_par2 (i := 5) (j := 6) hN (fc_v (fe_op o_add (fe_var (i := 5)) (fe_sl (fe_var (i := 6)) fo_none (fo_some fe_int))) (fc_v (fe_op o_add (fe_sl (fe_var (i := 6)) (fo_some fe_int) fo_none) (fe_sl (fe_var (i := 6)) fo_none (fo_some fe_int))) fc_nil)) rfl rfl (by decide))))))
    (fss_one (fs_if (fb_cmp o_gt (fe_op o_add (fe_callB c_len bb_len T.z_len (fa_cons (fe_var (i := 5)) fa_nil)) (fe_callB c_len bb_len T.z_len (fa_cons (fe_var (i := 6)) fa_nil))) fe_int) (fss_one fs_break) fss_nil)))))
    (fss_cons (fs_set (i := 8) hN (fe_tup (fa_cons (fe_var (i := 5)) (fa_cons (fe_var (i := 6)) fa_nil))))
    (fss_cons (fs_set (i := 9) hN (fe_new (fl_lst (fa_cons (fe_call c_lasso_short tk hr (fa_cons (fe_var (i := 8)) fa_nil)) (fa_cons (fe_call c_same_endless tk hr (fa_cons (fe_var (i := 8)) (fa_cons (fe_var (i := 4)) fa_nil))) (fa_cons (fe_call c_same_endless tk hr (fa_cons (fe_call c__law_lists tk hr (fa_cons (fe_var (i := 4)) fa_nil)) (fa_cons (fe_var (i := 8)) fa_nil))) (fa_cons (fe_call c_first_apart tk hr (fa_cons (fe_var (i := 8)) (fa_cons (fe_var (i := 4)) fa_nil))) (fa_cons (fe_call c_is_short tk hr (fa_cons (fe_var (i := 8)) fa_nil)) (fa_cons (fe_call c_is_short tk hr (fa_cons (fe_var (i := 4)) fa_nil)) fa_nil)))))))))
    (fss_cons (fs_if (fb_not (fb_val (fe_call c__law_same tk hr (fa_cons (fe_var (i := 9)) (fa_cons (fe_new (fl_lst (fa_cons (fe_var (i := 4)) (fa_cons fe_bl (fa_cons fe_bl (fa_cons fe_non (fa_cons (fe_cmp (o_eq hu) (fe_var (i := 8)) (fe_var (i := 4))) (fa_cons fe_bl fa_nil)))))))) fa_nil))))) (fss_one (fs_ret fe_bl)) fss_nil)
    (fss_cons (fs_for (L2.passes_of rfl) (fi_seq (fe_callT c__law_pick tk hr (fa_cons (fe_var (i := 1)) (fa_cons (fe_var (i := 3)) (fa_cons fe_int fa_nil))))) (fg_name (i := 10) hN) (fss_cons (fs_set (i := 14) hN (fe_call c_first_apart tk hr (fa_cons (fe_var (i := 4)) (fa_cons (fe_var (i := 10)) fa_nil))))
    (fss_cons (fs_if (fb_w (fw_or (fb_not (fb_val (fe_call c__law_same tk hr (fa_cons (fe_new (fl_lst (fa_cons (fe_call c_is_short tk hr (fa_cons (fe_var (i := 10)) fa_nil)) (fa_cons (fe_call c_same_endless tk hr (fa_cons (fe_var (i := 8)) (fa_cons (fe_var (i := 10)) fa_nil))) (fa_cons (fe_call c_lasso_short tk hr (fa_cons (fe_var (i := 10)) fa_nil)) fa_nil))))) (fa_cons (fe_new (fl_lst (fa_cons fe_bl (fa_cons (fe_cmp (o_eq hu) (fe_var (i := 4)) (fe_var (i := 10))) (fa_cons (fe_var (i := 10)) fa_nil))))) fa_nil))))) (fw_one_or (fb_cmp (o_ne hu) (fe_cmp o_is (fe_var (i := 14)) fe_non) (fe_cmp (o_eq hu) (fe_var (i := 4)) (fe_var (i := 10))))))) (fss_one (fs_ret fe_bl)) fss_nil)
    (fss_cons (fs_if (fb_w (fw_and (fb_cmp o_isNot (fe_var (i := 14)) fe_non) (fw_one_and (fb_w (fw_or (fb_cmp (o_eq hu) (fe_call c_letter_at tk hr (fa_cons (fe_var (i := 8)) (fa_cons (fe_var (i := 14)) fa_nil))) (fe_call c_letter_at tk hr (fa_cons (fe_var (i := 10)) (fa_cons (fe_var (i := 14)) fa_nil)))) (fw_one_or (fb_cmp (o_ne hu) (fe_new (fl_lc (own := [("k", 15)]) hN (blkOk_by (by rfl)) (fi_range2 fe_int (fe_var (i := 14)) T.z_range) (fun _ _ _ _ _ => (fg_name (i := 15) hN)) (fun _ _ _ _ _ => (fts_one (fb_cmp (o_ne hu) (fe_call c_letter_at L2.takes0 hr (fa_cons (fe_var (i := 4)) (fa_cons (fe_var (i := 15)) fa_nil))) (fe_call c_letter_at L2.takes0 hr (fa_cons (fe_var (i := 10)) (fa_cons (fe_var (i := 15)) fa_nil)))))) (fun _ _ _ _ _ => fe_int))) (fe_new (fl_lst fa_nil))))))))) (fss_one (fs_ret fe_bl)) fss_nil)
    (fss_one (fs_if (fb_w (fw_and (fb_cmp (o_ne hu) (fe_var (i := 10)) (fe_var (i := 4))) (fw_and (fb_cmp o_le (fe_op o_add (fe_callB c_len bb_len T.z_len (fa_cons (fe_ix (fe_var (i := 10)) fe_int) fa_nil)) (fe_callB c_len bb_len T.z_len (fa_cons (fe_ix (fe_var (i := 10)) fe_int) fa_nil))) (fe_op o_add (fe_callB c_len bb_len T.z_len (fa_cons (fe_ix (fe_var (i := 4)) fe_int) fa_nil)) (fe_callB c_len bb_len T.z_len (fa_cons (fe_ix (fe_var (i := 4)) fe_int) fa_nil)))) (fw_one_and (fb_cmp o_is (fe_var (i := 14)) fe_non))))) (fss_one (fs_ret fe_bl)) fss_nil))))))
    (fss_cons (fs_set (i := 11) hN (fe_callT c__law_row tk hr (fa_cons (fe_var (i := 1)) (fa_cons (fe_var (i := 2)) (fa_cons (fe_op o_add fe_int (fe_callT c__law_take tk hr (fa_cons (fe_var (i := 1)) (fa_cons fe_int fa_nil)))) fa_nil)))))
    (fss_cons (fs_set (i := 12) hN (fe_callT c__law_take tk hr (fa_cons (fe_var (i := 1)) (fa_cons fe_int fa_nil))))
    (fss_cons (fs_set (i := 9) hN (fe_new (fl_lst (fa_cons (fe_call c_moved_on tk hr (fa_cons (fe_call c_put_ahead tk hr (fa_cons (fe_var (i := 11)) (fa_cons (fe_var (i := 8)) fa_nil))) (fa_cons (fe_callB c_len bb_len T.z_len (fa_cons (fe_var (i := 11)) fa_nil)) fa_nil))) (fa_cons (fe_cmp (o_eq hu) (fe_call c_put_ahead tk hr (fa_cons (fe_sl (fe_var (i := 11)) fo_none (fo_some fe_int)) (fa_cons (fe_call c_put_ahead tk hr (fa_cons (fe_sl (fe_var (i := 11)) (fo_some fe_int) fo_none) (fa_cons (fe_var (i := 4)) fa_nil))) fa_nil))) (fe_call c_put_ahead tk hr (fa_cons (fe_var (i := 11)) (fa_cons (fe_var (i := 4)) fa_nil)))) (fa_cons (fe_cmp (o_eq hu) (fe_call c_moved_on tk hr (fa_cons (fe_call c_moved_on tk hr (fa_cons (fe_var (i := 8)) (fa_cons (fe_var (i := 12)) fa_nil))) (fa_cons fe_int fa_nil))) (fe_call c_moved_on tk hr (fa_cons (fe_var (i := 4)) (fa_cons (fe_op o_add (fe_var (i := 12)) fe_int) fa_nil)))) fa_nil))))))
    (fss_one (fs_ret (fe_call c__law_same tk hr (fa_cons (fe_var (i := 9)) (fa_cons (fe_new (fl_lst (fa_cons (fe_var (i := 4)) (fa_cons fe_bl (fa_cons fe_bl fa_nil))))) fa_nil))))))))))))))))))

end
end W

set_option Elab.async false
set_option linter.all false
set_option maxRecDepth 100000
set_option maxHeartbeats 4000000
namespace W
open F
theorem take_pos (a b c below : Int) (h : 0 < a) (hb : 0 < below) (hd : divOk below = true) : M__law_take [.int a, .int b, .int c] [.int below] = .ok (.int (a % below), [.int (a / below), .int b, .int c]) := by
  simp [M__law_take, m__law_take, ev_runT, h, hb, hd, L2.atI, L2.ixN, isM]
theorem mul_s {i j : Int} (h : j.natAbs < 18446744073709551616) : mulOk i j = true := by unfold mulOk; rw [decide_eq_true h, Bool.or_true]
theorem mul_l {i j : Int} (h : i.natAbs < 18446744073709551616) : mulOk i j = true := by unfold mulOk; rw [decide_eq_true h, Bool.true_or]
def onceV (b c : Int) : Int := ((b + 48271 * (c + 1)) * (39373 + (c + 1))) % 2147483647
def twiceV (b c : Int) : Int := ((onceV b c + (c + 1) + b / 1000003) * (onceV b c % 40009 + 7)) % 2147483629
def takeN (b c below : Int) : Int := ((twiceV b c * 48271 + onceV b c) % 2147483587 / 64) % below
theorem take_neg (a b c below : Int) (h : ¬ 0 < a) (hb : 0 < below) (hd : divOk below = true) (h0 : 0 ≤ c) (hc : c < 1000000000000) : M__law_take [.int a, .int b, .int c] [.int below] = .ok (.int (takeN b c below), [.int a, .int b, .int (c + 1)]) := by
  have d1 : divOk 1000003 = true := by decide
  have d2 : divOk 64 = true := by decide
  have m1 : mulOk 48271 (c + 1) = true := mul_l (by decide)
  have m2 : mulOk (b + 48271 * (c + 1)) (39373 + (c + 1)) = true := mul_s (by omega)
  have m3 : mulOk (onceV b c + (c + 1) + b / 1000003) (onceV b c % 40009 + 7) = true := mul_s (by omega)
  have m4 : mulOk (twiceV b c) 48271 = true := mul_s (by decide)
  unfold onceV at m3
  unfold twiceV onceV at m4
  unfold takeN twiceV onceV
  simp [M__law_take, m__law_take, ev_runT, h, hb, hd, L2.atI, L2.ixN, isM, d1, d2, m1, m2, m3, m4]
end W

namespace W
open F
/-! what the box holds -/
def Tin (k : Int) (ts : List D) : Prop := ∃ a b c : Int, ts = [.int a, .int b, .int c] ∧ 0 ≤ c ∧ c ≤ k
theorem take_law {k below : Int} {ts : List D} (t : Tin k ts) (hk : k < 1000000000000) (hb : 0 < below) (hd : divOk below = true) : ∃ v ts', M__law_take ts [.int below] = .ok (.int v, ts') ∧ 0 ≤ v ∧ v < below ∧ Tin (k + 1) ts' := by
  obtain ⟨a, b, c, rfl, h0, h1⟩ := t
  by_cases h : 0 < a
  · exact ⟨_, _, take_pos a b c below h hb hd, Int.emod_nonneg _ (by omega), Int.emod_lt_of_pos _ hb, _, _, _, rfl, h0, by omega⟩
  · exact ⟨_, _, take_neg a b c below h hb hd h0 (by omega), Int.emod_nonneg _ (by omega), Int.emod_lt_of_pos _ hb, _, _, _, rfl, by omega, by omega⟩
theorem atI_lt {α : Type} {xs : List α} {i : Nat} (h : i < xs.length) : L2.atI xs (i : Int) = some xs[i] := by
  exact L2.atI_nat (List.getElem?_eq_getElem h)
theorem of_law {k : Int} {ts gs : List D} (t : Tin k ts) (hk : k < 1000000000000) (hg : gs ≠ []) (hl : gs.length ≤ 1000) : ∃ g ts', M__law_of ts [.lst gs] = .ok (g, ts') ∧ g ∈ gs ∧ Tin (k + 1) ts' := by
  have h0 : 0 < gs.length := List.length_pos_iff.mpr hg
  obtain ⟨v, ts', e, h1, h2, t'⟩ := take_law (below := gs.length) t hk (by omega) (by
    unfold divOk
    rw [decide_eq_true (by omega), Bool.true_and]
    refine decide_eq_true ?_
    have : (gs.length : Int).natAbs < 2 ^ 10 := by omega
    exact Nat.lt_trans ((Nat.log2_lt (by omega)).mpr this) (by decide))
  obtain ⟨i, rfl⟩ : ∃ i : Nat, v = i := ⟨v.toNat, by omega⟩
  have hi : i < gs.length := by omega
  refine ⟨gs[i], ts', ?_, List.getElem_mem hi, t'⟩
  simp [M__law_of, m__law_of, ev_runT, e, atI_lt hi]
theorem box_law (ns : List Int) (k : Nat) : ∃ ts, M__law_box [.lst (ns.map .int), .int k] = .ok ts ∧ Tin 0 ts := by
  obtain ⟨cell, hcell⟩ : ∃ cell : Int, m__law_box (initS 3 [.lst (ns.map .int), .int k]) = .nx [some (.v (.lst (ns.map .int))), some (.v (.int k)), some (.v (.int cell))] := by
    by_cases h : k < ns.length
    · refine ⟨ns[k], ?_⟩
      have e : L2.atI (ns.map D.int) (k : Int) = some (.int ns[k]) := L2.atI_nat (by simp [h])
      simp [m__law_box, h, e]
    · exact ⟨0, by simp [m__law_box, h]⟩
  have pw : dPow (.int 10) (.int 18) = .ok (.int 1000000000000000000) := rfl
  have m1 : ∀ (c : Prop) [Decidable c], mulOk (if cell < 0 then -cell else cell) (if c then 1 else 0) = true := fun c _ => mul_s (by split <;> decide)
  have m2 : mulOk 39373 (k : Int) = true := mul_l (by decide)
  have bi : ∀ b : Bool, bInt [.bl b] = .ok (.int (if b = true then 1 else 0)) := fun b => rfl
  refine ⟨[.int ((if cell < 0 then -cell else cell) * (if decide (1000000000000000000 ≤ (if cell < 0 then -cell else cell)) = true then 1 else 0)), .int (cell % 2305843009213693951 + 39373 * k + 2518077), .int 0], ?_, _, _, _, rfl, by omega, by omega⟩
  simp only [M__law_box, runF, hcell, l__law_box]
  simp [pw, m2, bi, m1]
theorem lc_map {t : Tg} {e : Ev} {vs : List Nat} {f : D → D} {base : Sl} : ∀ {ds : List D} {sl : Sl}, (∀ d ∈ ds, ∀ sl, wipeD sl vs = base → ∃ sl1 sl2, bindT t d base = some sl1 ∧ e sl1 = .ok (.v (f d)) sl2 ∧ wipeD sl2 vs = base) → wipeD sl vs = base →
    ∃ sl', lcL vs t cYes e ds sl = some (ds.map f, sl') ∧ wipeD sl' vs = base
  | [], sl, h, hb => ⟨sl, rfl, hb⟩
  | d :: ds, sl, h, hb => by
    obtain ⟨sl1, sl2, h1, h2, h3⟩ := h d (by simp) sl hb
    obtain ⟨sl', h4, h5⟩ := lc_map (f := f) (ds := ds) (sl := sl2) (fun d hd => h d (by simp [hd])) h3
    refine ⟨sl', ?_, h5⟩
    simp only [lcL, hb, h1, cYes, h2, h4, List.map_cons]
/-- the cells: some list of ints, not empty -/
theorem cells_law (ns : List Int) (m : Nat) (hm : 0 < m) (hn : ns.length ≤ 63) : ∃ cs : List Int, M__law_cells [.scr (ns.map .int), .int m] = .ok (.lst (cs.map .int)) := by
  have cut1 : cut (ns.map D.int) none (some (m : Int)) = (ns.take m).map .int := by rw [cut_to, List.map_take]
  have cut2 : cut (ns.map D.int) (some (m : Int)) (some 63) = (ns.drop m).map .int := by
    have := cut_from (xs := ns.map D.int) (k := m) (h := 63) (by simpa using hn)
    rw [List.map_drop]; exact this
  have loop : ∀ (xs cs : List Int) (j : Nat) (sl : Sl) (x3 x4 x5 : Option Sv), sl = [some (.v (.scr (ns.map .int))), some (.v (.int m)), some (.m (cs.map .int)), x3, x4, x5] → (xs = [] ∨ cs.length = m) → xs.length + j ≤ 100 → ∃ (cs' : List Int) (x3 x4 x5 : Option Sv),
      forL (.tp [.nm 3, .nm 4]) (mSeq (mSet 5 (dBin dMod (dCB bInt (dCons (dVar 3) dNil)) (dVar 1))) (mSetIx 2 (dBin dAdd (dBin dIx (dVar 2) (dVar 5)) (dBin dMulT (dVar 4) (dBin dAdd (dVar 3) (dC (.int 2))))) (dVar 5))) (enumFrom j (xs.map .int)) sl =
        .nx [some (.v (.scr (ns.map .int))), some (.v (.int m)), some (.m (cs'.map .int)), x3, x4, x5] := by
    intro xs
    induction xs with
    | nil => exact fun cs j sl x3 x4 x5 e _ _ => ⟨cs, x3, x4, x5, by rw [e]; rfl⟩
    | cons x xs ih =>
      intro cs j sl x3 x4 x5 e h hj
      have hl : cs.length = m := h.resolve_left (by simp)
      have hm' : (0 : Int) < m := by omega
      have hr : j % m < m := Nat.mod_lt _ hm
      have hr' : j % m < (cs.map D.int).length := by simpa [hl] using hr
      have e2 : ((j : Int) % (m : Int)) = ((j % m : Nat) : Int) := by omega
      have hat : L2.atI (cs.map D.int) ((j : Int) % (m : Int)) = some (.int cs[j % m]) := by rw [e2]; exact L2.atI_nat (by simp [hl, hr])
      have hix : L2.ixN cs.length ((j : Int) % (m : Int)) = some (j % m) := by
        rw [e2]; unfold L2.ixN
        rw [if_pos (by omega), if_pos (by omega), Int.toNat_natCast]
      have hmul : mulOk x ((j : Int) + 2) = true := mul_s (by simp at hj; omega)
      obtain ⟨cs', y3, y4, y5, h'⟩ := ih (cs.set (j % m) (cs[j % m] + x * ((j : Int) + 2))) (j + 1) [some (.v (.scr (ns.map .int))), some (.v (.int m)), some (.m ((cs.set (j % m) (cs[j % m] + x * ((j : Int) + 2))).map .int)), some (.v (.int j)), some (.v (.int x)), some (.v (.int ((j : Int) % m)))] _ _ _ rfl (.inr (by simpa using hl)) (by simp at hj; omega)
      refine ⟨cs', y3, y4, y5, ?_⟩
      rw [← h', e]
      simp only [List.map_cons, enumFrom, ev_forL1]
      simp [hm, hm', hat, hmul, isM, hix, List.map_set]
  have h0 : ∃ cs : List Int, mNew 2 (dOrL (dCL bList (dCons (dSl (dVar 0) dNoPart (dPart (dVar 1))) dNil)) (dItems (dCons (dC (.int 0)) dNil))) (initS 6 [.scr (ns.map .int), .int m]) = .nx [some (.v (.scr (ns.map .int))), some (.v (.int m)), some (.m (cs.map .int)), none, none, none] ∧ (ns.drop m = [] ∨ cs.length = m) := by
    cases hns : ns.take m with
    | nil =>
      refine ⟨[0], ?_, ?_⟩
      · simp [cut1, hns]
      · left
        have : ns = [] := by
          cases ns with
          | nil => rfl
          | cons a b => cases m with
            | zero => omega
            | succ m => simp at hns
        rw [this]; simp
    | cons a b =>
      refine ⟨a :: b, ?_, ?_⟩
      · simp [cut1, hns]
      · by_cases hlm : ns.length ≤ m
        · exact .inl (List.drop_of_length_le hlm)
        · exact .inr (by rw [← hns, List.length_take]; omega)
  obtain ⟨cs, e1, e2⟩ := h0
  obtain ⟨cs', x3, x4, x5, e3⟩ := loop (ns.drop m) cs 0 _ none none none rfl e2 (by rw [List.length_drop]; omega)
  refine ⟨cs', ?_⟩
  simp only [M__law_cells, ev_runP, m__law_cells, ev_mSeq, e1, ev_seq_nx, ev_mFor, ev_iEnumL]
  simp only [ev_dSl, ev_slice_s, ev_dVar, ev_dPart, ev_dC, ev_bind_ok, List.getElem?_cons_zero, List.getElem?_cons_succ, getS, cut2, ev_to_ok, e3, ev_seq_nx]
  rfl
end W

namespace W
open F
def okD : Nat → D → Bool
  | 0, _ => false
  | j + 1, .tup xs => xs.all (okD j)
  | j + 1, .lst xs => xs.all (okD j)
  | _ + 1, .scr _ => false
  | _ + 1, _ => true
theorem zip_self {d : D} : ∀ {xs : List D}, d ∈ zipD xs xs → ∃ x ∈ xs, d = .tup [x, x]
  | [], h => by cases h
  | x :: xs, h => by
    have h : d ∈ D.tup [x, x] :: zipD xs xs := h
    rcases List.mem_cons.mp h with h | h
    · exact ⟨x, by simp, h⟩
    · obtain ⟨y, h1, h2⟩ := zip_self (xs := xs) h; exact ⟨y, by simp [h1], h2⟩
theorem bls_true {ds : List D} : blsOf (ds.map fun _ => D.bl true) = some (ds.map fun _ => true) := by
  induction ds with
  | nil => rfl
  | cons a b ih => simp [blsOf, ih]
theorem eq_nat (n : Nat) : dEq (.int n) (.int n) = .ok (.bl true) := by rw [op_eq_i]; simp
theorem same_seq {j : Nat} {xs : List D} {d : D} (hd : d = .tup xs ∨ d = .lst xs) (ih : ∀ x ∈ xs, M__law_same j [x, x] = .ok (.bl true)) : M__law_same (j + 1) [d, d] = .ok (.bl true) := by
  have key : ∃ sl', lcL [2, 3] (.tp [.nm 2, .nm 3]) cYes (dCall 2 (M__law_same j) (dCons (dVar 2) (dCons (dVar 3) dNil))) (zipD xs xs) [some (.v d), some (.v d), none, none] = some ((zipD xs xs).map fun _ => .bl true, sl') ∧ wipeD sl' [2, 3] = [some (.v d), some (.v d), none, none] := by
    refine lc_map (base := [some (.v d), some (.v d), none, none]) (fun p hp sl _ => ?_) rfl
    obtain ⟨x, hx, rfl⟩ := zip_self hp
    refine ⟨[some (.v d), some (.v d), some (.v x), some (.v x)], [some (.v d), some (.v d), some (.v x), some (.v x)], by simp, ?_, rfl⟩
    simp [ih x hx]
  obtain ⟨sl', k1, k2⟩ := key
  rcases hd with rfl | rfl
  · simp [M__law_same, m__law_same, ev_runP, isTy, tyName, dLc, noOwn, isM, k1, bAll, bls_true, eq_nat]
  · simp [M__law_same, m__law_same, ev_runP, isTy, tyName, dLc, noOwn, isM, k1, bAll, bls_true, eq_nat]
theorem same_refl : ∀ (j : Nat) (d : D), okD j d = true → M__law_same j [d, d] = .ok (.bl true)
  | 0, _, h => by cases h
  | j + 1, .tup xs, h => same_seq (.inl rfl) fun x hx => same_refl j x (by simp only [okD, List.all_eq_true] at h; exact h x hx)
  | j + 1, .lst xs, h => same_seq (.inr rfl) fun x hx => same_refl j x (by simp only [okD, List.all_eq_true] at h; exact h x hx)
  | j + 1, .scr _, h => by cases h
  | j + 1, .non, _ => by rfl
  | j + 1, .bl b, _ => by cases b <;> rfl
  | j + 1, .int i, _ => by
    simp [M__law_same, m__law_same, ev_runP, isTy, tyName, dIs]
  | j + 1, .str s, _ => by
    have e : dEq (.str s) (.str s) = .ok (.bl true) := by simp [dEq, shallow, D.eqv, D.depth]
    simp [M__law_same, m__law_same, ev_runP, isTy, tyName, dIs, e]
end W

/-! what the program's lasso functions answer -/
namespace W
open F Las
theorem e_num (t : Int) : M_is_number [.int t] = .ok (.bl true) := rfl
theorem e_letter (w t : Int) : M_is_letter [.int w, .int t] = .ok (.bl (decide (1 ≤ t ∧ t ≤ w))) := by
  by_cases h : 1 ≤ t <;> simp [M_is_letter, m_is_letter, ev_runP, e_num, h]
def onI (p : Int → D) : D → D
  | .int x => p x
  | d => d
theorem map_onI {xs : L} {p : Int → D} : (xs.map D.int).map (onI p) = xs.map p := by rw [List.map_map]; rfl
theorem bls_map {α : Type} {xs : List α} {p : α → Bool} : blsOf (xs.map fun x => D.bl (p x)) = some (xs.map p) := by
  induction xs with
  | nil => rfl
  | cons x xs ih => simp only [List.map_cons, blsOf, ih]
theorem all_bl {α : Type} {xs : List α} {p : α → Bool} : bAll [.lst (xs.map fun x => D.bl (p x))] = .ok (.bl (xs.all p)) := by
  simp only [bAll, bls_map, List.all_map]
  rfl
theorem e_text' {w : Int} {xs : L} : M_is_text [.int w, tI xs] = .ok (.bl (xs.all fun x => decide (1 ≤ x ∧ x ≤ w))) := by
  have key := dLc_map (t := .nm 2) (e := dCall 2 M_is_letter (dCons (dVar 0) (dCons (dVar 2) dNil))) (vs := [2]) (it := iSeq (dVar 1)) (f := onI fun x => .bl (decide (1 ≤ x ∧ x ≤ w))) (ds := xs.map .int) (sl := [some (.v (.int w)), some (.v (tI xs)), none]) (sl0 := [some (.v (.int w)), some (.v (tI xs)), none])
    (by simp [tI]) rfl fun d hd => by
      obtain ⟨x, hx, rfl⟩ := List.mem_map.mp hd
      exact ⟨_, [some (.v (.int w)), some (.v (tI xs)), some (.v (.int x))], ev_bindT_nm, by simp [wipeD, e_letter, onI], rfl⟩
  rw [map_onI] at key
  have hi : isTy (tI xs) "tuple" = true := rfl
  simp only [M_is_text, m_is_text, ev_runP]
  simp [key, all_bl, hi]
theorem e_text {w : Int} {xs : L} (h : letters w xs) : M_is_text [.int w, tI xs] = .ok (.bl true) := by
  rw [e_text', List.all_eq_true.mpr fun x hx => decide_eq_true (h x hx)]
theorem e_wide {w : Int} (h : 1 ≤ w ∧ w ≤ 3) : M_sure_wide_of [.int w] = .ok .non := by
  simp [M_sure_wide_of, m_sure_wide_of, ev_runP, e_num, h.1, h.2]
theorem e_form {w : Int} {a b : L} (ha : letters w a) (hb : letters w b) (h0 : b ≠ []) : M_is_lasso_form [.int w, lasD a b] = .ok (.bl true) := by
  have key := dLc_map (t := .nm 2) (e := dCall 2 M_is_text (dCons (dVar 0) (dCons (dVar 2) dNil))) (vs := [2]) (it := iSeq (dVar 1)) (f := fun d => .bl true) (ds := [tI a, tI b]) (sl := [some (.v (.int w)), some (.v (lasD a b)), none]) (sl0 := [some (.v (.int w)), some (.v (lasD a b)), none])
    (by simp [lasD]) rfl fun d hd => by
      refine ⟨_, [some (.v (.int w)), some (.v (lasD a b)), some (.v d)], ev_bindT_nm, ?_, rfl⟩
      simp only [List.mem_cons, List.not_mem_nil, or_false] at hd
      rcases hd with rfl | rfl
      · simp [wipeD, e_text ha]
      · simp [wipeD, e_text hb]
  have h2 : M_is_tuple_of [lasD a b, .int 2] = .ok (.bl true) := rfl
  have h3 : dIx (lasD a b) (.int 1) = .ok (tI b) := rfl
  have h4 : dNe (tI b) (.tup []) = .ok (.bl true) := by rw [← tI_nil, ne_tI]; simp [h0]
  simp [M_is_lasso_form, m_is_lasso_form, ev_runP, h2, key, h3, h4, bAll, blsOf]
/-! tuples of whatever -/
theorem tup_int {j : Nat} {x : Int} : M_tuple_of (j + 1) [.int x] = .ok (.int x) := rfl
theorem tup_seq {j : Nat} {d : D} {xs ys : List D} {f : D → D} (hd : d = .tup xs ∨ d = .lst xs) (h : ∀ x ∈ xs, M_tuple_of j [x] = .ok (f x)) : M_tuple_of (j + 1) [d] = .ok (.tup (xs.map f)) := by
  have key := dLc_map (t := .nm 1) (e := dCall 1 (M_tuple_of j) (dCons (dVar 1) dNil)) (vs := [1]) (it := iSeq (dVar 0)) (f := f) (ds := xs) (sl := [some (.v d), none]) (sl0 := [some (.v d), none])
    (by rcases hd with rfl | rfl <;> simp) rfl fun x hx => ⟨_, [some (.v d), some (.v x)], ev_bindT_nm, by simp [wipeD, h x hx], rfl⟩
  have hi : (["list", "tuple"] : List String).any (isTy d) = true := by rcases hd with rfl | rfl <;> rfl
  simp only [M_tuple_of, m_tuple_of, ev_runP, ev_mSeq, ev_mIf, ev_dB, ev_dIsi, ev_initS, List.map_cons, List.map_nil, List.length_cons, List.length_nil, List.cons_append, List.nil_append, ev_dVar, List.getElem?_cons_zero, ev_bind_ok, ev_getS, hi, ev_asB, ev_to_ok, if_true]
  simp [key]
theorem tup_ints {j : Nat} {xs : L} {d : D} (hd : d = tI xs ∨ d = lI xs) : M_tuple_of (j + 2) [d] = .ok (tI xs) := by
  have := tup_seq (j := j + 1) (ys := []) (d := d) (xs := xs.map D.int) (f := id) hd fun x hx => by
    obtain ⟨y, _, rfl⟩ := List.mem_map.mp hx
    exact tup_int
  rw [this, List.map_id]; rfl
theorem e_tup {a b : L} {d : D} (hd : d = lasD a b ∨ d = lasL a b) : M_tuple_of 20 [d] = .ok (lasD a b) := by
  rcases hd with rfl | rfl
  · have := tup_seq (j := 19) (ys := []) (d := lasD a b) (xs := [tI a, tI b]) (f := id) (.inl rfl) fun x hx => by
      simp only [List.mem_cons, List.not_mem_nil, or_false] at hx
      rcases hx with rfl | rfl <;> exact tup_ints (j := 17) (.inl rfl)
    exact this
  · have := tup_seq (j := 19) (ys := []) (d := lasL a b) (xs := [lI a, lI b]) (f := fun d => match d with | .lst xs => .tup xs | d => d) (.inr rfl) fun x hx => by
      simp only [List.mem_cons, List.not_mem_nil, or_false] at hx
      rcases hx with rfl | rfl <;> exact tup_ints (j := 17) (.inr rfl)
    exact this
theorem e_sure {w : Int} {a b : L} {d : D} (hd : d = lasD a b ∨ d = lasL a b) (hw : 1 ≤ w ∧ w ≤ 3) (ha : letters w a) (hb : letters w b) (h0 : b ≠ []) : M_sure_lasso [.int w, d] = .ok (lasD a b) := by
  simp [M_sure_lasso, m_sure_lasso, ev_runP, e_wide hw, e_tup hd, e_form ha hb h0]
theorem e_many {p m : Int} (h0 : 0 ≤ p) (h1 : p ≤ m) : M_sure_many [.int p, .int m] = .ok .non := by
  simp [M_sure_many, m_sure_many, ev_runP, e_num, h0, h1]
end W

namespace W
open F Las
theorem e_entry {a b : L} {p : Nat} (hp : 1 ≤ p) (hb : b ≠ []) : M_entry_at [tI a, tI b, .int p] = .ok (.int (wd a b (p - 1))) := by
  have hl : 0 < b.length := List.length_pos_iff.mpr hb
  by_cases h : p ≤ a.length
  · have e : L2.atI (a.map D.int) ((p : Int) - 1) = some (.int (a.getD (p - 1) 0)) := by
      rw [show (p : Int) - 1 = ((p - 1 : Nat) : Int) by omega]; exact atI_ints (by omega)
    simp [M_entry_at, m_entry_at, ev_runP, tI, h, e, wd_lo (show p - 1 < a.length by omega)]
  · have h2 : (0 : Int) < b.length := by omega
    have e : L2.atI (b.map D.int) (((p : Int) - a.length - 1) % b.length) = some (.int (cyc b (p - 1 - a.length))) := by
      rw [show ((p : Int) - a.length - 1) % b.length = (((p - 1 - a.length) % b.length : Nat) : Int) by
        rw [Int.natCast_emod]; congr 1; omega]
      rw [atI_ints (Nat.mod_lt _ hl)]; rfl
    simp [M_entry_at, m_entry_at, ev_runP, tI, h, h2, hl, e, wd_hi (show a.length ≤ p - 1 by omega)]
/-! the shortest round -/
theorem rgD_nat (n : Nat) : rgD 1 ((n : Int) + 1) = (List.range' 1 n).map fun k => D.int (k : Nat) := by
  unfold rgD
  rw [show ((n : Int) + 1 - 1).toNat = n by omega, List.range'_eq_map_range, List.map_map]
  exact List.map_congr_left fun k _ => by simp
theorem find_map {α β : Type} {f : α → β} {p : β → Bool} : ∀ {xs : List α}, (xs.map f).find? p = (xs.find? (p ∘ f)).map f
  | [] => rfl
  | x :: xs => by
    simp only [List.map_cons, List.find?_cons, Function.comp]
    cases p (f x) <;> simp [find_map]
def onN (p : Nat → Bool) : D → Bool
  | .int x => p x.toNat
  | _ => false
theorem cut_tI {xs : L} {k : Nat} : cut (xs.map D.int) none (some (k : Int)) = (xs.take k).map .int := by rw [cut_to, List.map_take]
theorem mul_tI {xs : L} {k : Nat} (hk : 1 ≤ k) (hk2 : k ≤ 1000) (h0 : xs ≠ []) (hl : xs.length ≤ 1000) : dMulT (tI xs) (.int k) = .ok (tI (List.replicate k xs).flatten) := by
  unfold dMulT tI
  dsimp only
  have e : (List.replicate k (xs.map D.int)).flatten = ((List.replicate k xs).flatten).map D.int := by
    rw [List.map_flatten, List.map_replicate]
  by_cases h : (k : Int) = 1
  · rw [if_pos h]
    have : k = 1 := by omega
    subst this; simp
  · rw [if_neg h, if_pos, Int.toNat_natCast, e]
    simp [h0]; omega
theorem e_srt {b : L} (hb : b ≠ []) (hl : b.length ≤ 900) : M_shortest_round [tI b] = .ok (tI (srt b)) := by
  have h0 : 0 < b.length := List.length_pos_iff.mpr hb
  have rg : rgOk 1 ((b.length : Int) + 1) = true := by
    unfold rgOk; rw [show ((b.length : Int) + 1 - 1).toNat = b.length by omega]; exact ev_fits (by omega)
  have body : ∀ d ∈ (List.range' 1 b.length).map (fun k => D.int (k : Nat)), (mIf (dAnd (dBin dEq (dBin dMod (dCB bLen (dCons (dVar 0) dNil)) (dVar 1)) (dC (.int 0))) (dBin dEq (dBin dMulT (dSl (dVar 0) dNoPart (dPart (dVar 1))) (dBin dDiv (dCB bLen (dCons (dVar 0) dNil)) (dVar 1))) (dVar 0))) (mRet (dSl (dVar 0) dNoPart (dPart (dVar 1)))) mNil) ([some (Sv.v (tI b)), none].set 1 (some (.v d))) =
      if onN (repB b) d = true then .rt (.v (match d with | .int k => tI (b.take k.toNat) | d => d)) ([some (Sv.v (tI b)), none].set 1 (some (.v d))) else .nx ([some (Sv.v (tI b)), none].set 1 (some (.v d))) := by
    intro d hd
    obtain ⟨k, hk, rfl⟩ := List.mem_map.mp hd
    rw [List.mem_range'_1] at hk
    have k0 : (0 : Int) < k := by omega
    have k0' : 0 < k := by omega
    have dv : divOk (k : Int) = true := by
      unfold divOk
      rw [decide_eq_true k0, Bool.true_and]
      refine decide_eq_true ?_
      have : (k : Int).natAbs < 2 ^ 10 := by omega
      exact Nat.lt_trans ((Nat.log2_lt (by omega)).mpr this) (by decide)
    have tk : b.take k ≠ [] := fun z => by
      have := congrArg List.length z
      rw [List.length_take, List.length_nil] at this; omega
    have md : ((b.length : Int) % (k : Int) == 0) = decide (b.length % k = 0) := by
      rw [← Int.natCast_emod]
      by_cases h : b.length % k = 0 <;> simp [h]
      omega
    have mu := mul_tI (xs := b.take k) (k := b.length / k) (Nat.div_pos (by omega) k0') (by have := Nat.div_le_self b.length k; omega) tk (by rw [List.length_take]; omega)
    have mu' : dMulT (.tup (List.take k (List.map D.int b))) (.int ((b.length : Int) / (k : Int))) = .ok (tI (List.replicate (b.length / k) (b.take k)).flatten) := by
      rw [← Int.natCast_ediv, ← List.map_take]; exact mu
    have eqq : dEq (tI (List.replicate (b.length / k) (b.take k)).flatten) (.tup (List.map D.int b)) = _ := eq_tI (xs := (List.replicate (b.length / k) (b.take k)).flatten) (ys := b)
    have ln : bLen [tI b] = .ok (.int b.length) := by simp [tI]
    simp only [List.set_cons_succ, List.set_cons_zero, ev_mIf, ev_dB, ev_dAnd, ev_dBin, ev_dCB, ev_dCons, ev_dVar, List.getElem?_cons_zero, List.getElem?_cons_succ, ev_bind_ok, ev_dNil, ev_getAll1, ev_getAll0, ln, ev_two (op_mod_i k0), ev_dC, ev_two (op_eq_i), ev_asB, md]
    simp only [onN, Int.toNat_natCast, repB]
    by_cases h1 : b.length % k = 0
    · have tk2 : ∀ (x : Bool) , True := fun _ => trivial
      rw [show tI b = .tup (b.map .int) from rfl]
      by_cases h2 : (List.replicate (b.length / k) (b.take k)).flatten = b
      · have eq2 : dEq (.tup (List.map D.int b)) (.tup (List.map D.int b)) = .ok (.bl true) := by
          have := eq_tI (xs := b) (ys := b)
          rw [decide_eq_true rfl] at this; exact this
        rw [h2] at mu'
        rw [show tI b = .tup (b.map .int) from rfl] at mu'
        simp [h1, cut_tI, k0, dv, mu', eq2, h2]
        unfold tI; rw [List.map_take]
      · rw [decide_eq_false h2] at eqq
        simp [h1, cut_tI, k0, dv, mu', eqq, h2]
    · simp [h1]
  have init : initS 2 [tI b] = [some (Sv.v (tI b)), none].set 1 none := rfl
  have ff := forL_find (i := 1) (x := none) body
  have itr : iRange2 (dC (.int 1)) (dBin dAdd (dCB bLen (dCons (dVar 0) dNil)) (dC (.int 1))) ([some (Sv.v (tI b)), none].set 1 none) = .ok ((List.range' 1 b.length).map fun k => D.int (k : Nat)) ([some (Sv.v (tI b)), none].set 1 none) := by
    rw [← rgD_nat]
    simp [tI, rg]
  simp only [M_shortest_round, m_shortest_round, ev_runP, ev_mSeq, ev_mFor, init, itr, ev_to_ok]
  unfold srt
  have fm : ((List.range' 1 b.length).map fun k => D.int (k : Nat)).find? (onN (repB b)) = ((List.range' 1 b.length).find? (repB b)).map fun k => D.int (k : Nat) := find_map
  rcases ff with ⟨d, h1, h2⟩ | ⟨h1, y, h2⟩
  · rw [h2]
    rw [fm] at h1
    cases hf : (List.range' 1 b.length).find? (repB b) with
    | none => rw [hf] at h1; cases h1
    | some m => rw [hf] at h1; cases h1; rfl
  · rw [h2]
    rw [fm] at h1
    cases hf : (List.range' 1 b.length).find? (repB b) with
    | none => simp
    | some m => rw [hf] at h1; cases h1
end W

namespace W
open F Las
theorem asVs_map : ∀ ds : List D, asVs (ds.map S.v) = some ds
  | [] => rfl
  | d :: ds => by rw [List.map_cons, ev_asVs1, asVs_map ds]
theorem e_strip (x0 x1 : Option Sv) : ∀ (n k : Nat) (a b : L), a.length = n → b ≠ [] → b.length ≤ 900 →
    whileL (dAnd (dBin dNe (dVar 2) (dTup dNil)) (dBin dEq (dBin dIx (dVar 2) (dUn dNeg (dC (.int 1)))) (dBin dIx (dVar 3) (dUn dNeg (dC (.int 1)))))) (mPar [2, 3] [.v (dSl (dVar 2) dNoPart (dPart (dUn dNeg (dC (.int 1))))), .v (dTup (dCons (dBin dIx (dVar 3) (dUn dNeg (dC (.int 1)))) (dStar (dSl (dVar 3) dNoPart (dPart (dUn dNeg (dC (.int 1))))) dNil)))]) (n + 1 + k)
      [x0, x1, some (.v (tI a)), some (.v (tI b))] = .nx [x0, x1, some (.v (tI (strip n a b).1)), some (.v (tI (strip n a b).2))] := by
  intro n
  have i1 : ∀ {xs : L}, xs ≠ [] → dIx (tI xs) (.int (-1)) = .ok (.int (xs.getLastD 0)) := fun h => by
    show (match L2.atI (_ : List D) (-1) with | some d => Re.ok d | none => Re.bad) = _
    rw [atI_last h]
  induction n with
  | zero =>
    intro k a b hn hb hl
    have ha : a = [] := List.length_eq_zero_iff.mp hn
    subst ha
    have e0 : dNe (tI []) (.tup []) = .ok (.bl false) := ne_tI (xs := []) (ys := [])
    rw [show 0 + 1 + k = k + 1 by omega]
    simp [whileL, e0, strip]
  | succ n ih =>
    intro k a b hn hb hl
    have ha : a ≠ [] := fun z => by rw [z] at hn; simp at hn
    have e0 : dNe (.tup (a.map D.int)) (.tup []) = .ok (.bl true) := by
      have := ne_tI (xs := a) (ys := [])
      rw [decide_eq_false ha] at this; exact this
    have f1 : fits (b.length - 1 + 1) = true := ev_fits (by omega)
    have c1 : cut (a.map D.int) none (some (-1)) = (a.map D.int).dropLast := cut_nolast
    have c2 : cut (b.map D.int) none (some (-1)) = (b.map D.int).dropLast := cut_nolast
    rw [show n + 1 + 1 + k = (n + 1 + k) + 1 by omega]
    have ia : dIx (.tup (a.map D.int)) (.int (-1)) = .ok (.int (a.getLastD 0)) := i1 ha
    have ib : dIx (.tup (b.map D.int)) (.int (-1)) = .ok (.int (b.getLastD 0)) := i1 hb
    have ta : tI a = .tup (a.map D.int) := rfl
    have tb : tI b = .tup (b.map D.int) := rfl
    obtain ⟨la, hla⟩ : ∃ x, x = a.getLastD 0 := ⟨_, rfl⟩
    obtain ⟨lb, hlb⟩ : ∃ x, x = b.getLastD 0 := ⟨_, rfl⟩
    rw [← hla] at ia
    rw [← hlb] at ib
    by_cases hc : la = lb
    · have := ih k a.dropLast (rot1 b) (by rw [dropLast_len]; omega) (rot1_ne b) (by rw [rot1_len hb]; exact hl)
      unfold strip
      rw [if_pos ⟨ha, by rw [← hla, ← hlb]; exact hc⟩, ← this]
      simp only [whileL]
      have eb : tI (rot1 b) = .tup (.int lb :: (b.map D.int).dropLast) := by
        unfold tI rot1; rw [List.map_cons, List.map_dropLast, hlb]
      have ea : tI a.dropLast = .tup (a.map D.int).dropLast := by unfold tI; rw [List.map_dropLast]
      have av : asVs (List.map (S.v ∘ D.int) b).dropLast = some (b.map D.int).dropLast := by
        have := asVs_map (b.map D.int).dropLast
        rw [← List.map_dropLast, List.map_map] at this
        rw [← List.map_dropLast, ← List.map_dropLast]; exact this
      rw [eb, ea, ta, tb]
      simp [- op_ix_t, e0, ia, ib, hc, mPar, evCs, evC, setAll, dStar, spread, c1, c2, f1, av]
    · unfold strip
      rw [if_neg (fun z => hc (by rw [hla, hlb]; exact z.2))]
      rw [ta, tb]
      simp [- op_ix_t, whileL, e0, ia, ib, hc]
theorem e_short {a b : L} (hb : b ≠ []) (hl : b.length ≤ 900) (ha : a.length ≤ 90000) : M_short_in [tI a, tI b] = .ok (lasD (short a b).1 (short a b).2) := by
  have hs : (srt b).length ≤ 900 := by
    obtain ⟨m, h0, h1, _, e, _⟩ := srt_spec hb
    rw [e, List.length_take]; omega
  have w := e_strip (some (.v (tI a))) (some (.v (tI b))) a.length (100000 - (a.length + 1)) a (srt b) rfl (srt_ne hb) hs
  rw [show a.length + 1 + (100000 - (a.length + 1)) = 100000 by omega] at w
  simp only [M_short_in, m_short_in, ev_runP]
  simp [mPar, evCs, evC, setAll, e_srt hb hl, mWhile, w]
  rfl
end W

namespace W
open F Las
theorem ix0 {a b : L} : dIx (lasD a b) (.int 0) = .ok (tI a) := rfl
theorem ix1 {a b : L} : dIx (lasD a b) (.int 1) = .ok (tI b) := rfl
/-- a lasso as it is handed in -/
structure Good (d : D) (a b : L) : Prop where
  g : d = lasD a b ∨ d = lasL a b
  la : letters 3 a
  lb : letters 3 b
  b0 : b ≠ []
  al : a.length ≤ 400
  bl : b.length ≤ 400
theorem Good.sure {d : D} {a b : L} (h : Good d a b) : M_sure_lasso [.int 3, d] = .ok (lasD a b) := e_sure h.g (by decide) h.la h.lb h.b0
theorem Good.shrt {d : D} {a b : L} (h : Good d a b) : M_short_in [tI a, tI b] = .ok (lasD (short a b).1 (short a b).2) := e_short h.b0 (by have := h.bl; omega) (by have := h.al; omega)
theorem e_lasso_short {d : D} {a b : L} (h : Good d a b) : M_lasso_short [d] = .ok (lasD (short a b).1 (short a b).2) := by
  simp [- op_ix_t, M_lasso_short, m_lasso_short, ev_runP, h.sure, ix0, ix1, h.shrt]
theorem e_is_short {d : D} {a b : L} (h : Good d a b) : M_is_short [d] = .ok (.bl (decide (short a b = (a, b)))) := by
  have e : dEq (lasD (short a b).1 (short a b).2) (lasD a b) = .ok (.bl (decide (short a b = (a, b)))) := by
    rw [eq_las]; congr 2; exact decide_eq_decide.mpr ⟨fun z => Prod.ext z.1 z.2, fun z => by rw [z]; exact ⟨rfl, rfl⟩⟩
  simp [- op_ix_t, M_is_short, m_is_short, ev_runP, h.sure, ix0, ix1, h.shrt, e]
theorem e_same_endless {d d' : D} {a b a' b' : L} (h : Good d a b) (h' : Good d' a' b') : M_same_endless [d, d'] = .ok (.bl (decide (short a b = short a' b'))) := by
  have e : dEq (lasD (short a b).1 (short a b).2) (lasD (short a' b').1 (short a' b').2) = .ok (.bl (decide (short a b = short a' b'))) := by
    rw [eq_las]; congr 2; exact decide_eq_decide.mpr ⟨fun z => Prod.ext z.1 z.2, fun z => by rw [z]; exact ⟨rfl, rfl⟩⟩
  simp [- op_ix_t, M_same_endless, m_same_endless, ev_runP, h.sure, h'.sure, ix0, ix1, h.shrt, h'.shrt, e, mPar, evCs, evC, setAll]
theorem e_spot {p : Int} (h0 : 1 ≤ p) (h1 : p ≤ 1000000000000000000000000000000) : M_sure_spot [.int p] = .ok .non := by
  have h : ¬ p = 0 := by omega
  simp [M_sure_spot, m_sure_spot, ev_runP, e_many (show 0 ≤ p by omega) h1, h]
theorem e_letter_at {d : D} {a b : L} {p : Nat} (h : Good d a b) (h0 : 1 ≤ p) (h1 : (p : Int) ≤ 1000000000000000000000000000000) : M_letter_at [d, .int p] = .ok (.int (wd a b (p - 1))) := by
  simp [- op_ix_t, M_letter_at, m_letter_at, ev_runP, h.sure, ix0, ix1, e_spot (show 1 ≤ (p : Int) by omega) h1, e_entry h0 h.b0]
/-- the first letters -/
def firsts (f : Nat → Int) (n : Nat) : L := (List.range n).map f
/-- moved on by n letters -/
def moved (a b : L) (n : Nat) : L × L := if n ≤ a.length then (a.drop n, b) else ([], b.drop ((n - a.length) % b.length) ++ b.take ((n - a.length) % b.length))
theorem e_moved {d : D} {a b : L} {n : Nat} (h : Good d a b) (hn : (n : Int) ≤ 1000000000000000000000000000000) : M_moved_on [d, .int n] = .ok (lasD (short (moved a b n).1 (moved a b n).2).1 (short (moved a b n).1 (moved a b n).2).2) := by
  have hl : 0 < b.length := List.length_pos_iff.mpr h.b0
  have al := h.al
  have bl := h.bl
  have tg : ∀ sl : Sl, bindT (.tp [.nm 3, .nm 4]) (lasD a b) sl = some ((sl.set 3 (some (.v (tI a)))).set 4 (some (.v (tI b)))) := fun sl => by simp [lasD]
  have em := e_many (show (0 : Int) ≤ n by omega) hn
  by_cases hle : n ≤ a.length
  · have s := e_short (a := a.drop n) h.b0 (by omega) (by rw [List.length_drop]; omega)
    unfold moved
    rw [if_pos hle]
    simp [- ev_bindT_tp, M_moved_on, m_moved_on, ev_runP, h.sure, em, tg, len_tI, hle, slice_rest, s]
  · have hr := Nat.mod_lt (n - a.length) hl
    have e : ((n : Int) - (a.length : Int)) % (b.length : Int) = (((n - a.length) % b.length : Nat) : Int) := by
      rw [Int.natCast_emod]; congr 1; omega
    unfold moved
    rw [if_neg hle]
    obtain ⟨r, er⟩ : ∃ r, r = (n - a.length) % b.length := ⟨_, rfl⟩
    rw [← er] at e hr ⊢
    have s := e_short (a := []) (b := b.drop r ++ b.take r) (fun z => by
      have := congrArg List.length z
      rw [List.length_append, List.length_drop, List.length_take, List.length_nil] at this; omega) (by rw [List.length_append, List.length_drop, List.length_take]; omega) (by simp)
    have hl' : (0 : Int) < b.length := by omega
    have ad := add_tI (xs := b.drop r) (ys := b.take r) (by rw [List.length_drop, List.length_take]; omega)
    rw [tI_nil] at s
    have mo : dMod (.int ((n : Int) - (a.length : Int))) (.int b.length) = .ok (.int (r : Nat)) := by rw [op_mod_i hl', e]
    simp only [M_moved_on, m_moved_on, ev_runP]
    simp [- ev_bindT_tp, - op_mod_i, h.sure, em, tg, len_tI, hle, mo, slice_rest, slice_to, ad, s]
end W

namespace W
open F Las
theorem e_put {d t : D} {a b xs : L} (h : Good d a b) (ht : t = tI xs ∨ t = lI xs) (hx : letters 3 xs) (hl : xs.length ≤ 100) : M_put_ahead [t, d] = .ok (lasD (short (xs ++ a) b).1 (short (xs ++ a) b).2) := by
  have al := h.al
  have bl := h.bl
  have s := e_short (a := xs ++ a) h.b0 (by omega) (by rw [List.length_append]; omega)
  have ad := add_tI (xs := xs) (ys := a) (by omega)
  have tu : M_tuple_of 20 [t] = .ok (tI xs) := tup_ints (j := 18) ht
  simp [- op_ix_t, M_put_ahead, m_put_ahead, ev_runP, h.sure, tu, e_text hx, mPar, evCs, evC, setAll, ix0, ix1, ad, s]
def faD (f g : Nat → Int) (n : Nat) : D := match (List.range' 1 n).find? (fun p => decide (f (p - 1) ≠ g (p - 1))) with
  | some p => .int (p : Nat)
  | none => .non
theorem e_first_apart {d d' : D} {a b a' b' : L} (h : Good d a b) (h' : Good d' a' b') (hs : max a.length a'.length + b.length + b'.length ≤ 1000) : M_first_apart [d, d'] = .ok (faD (wd a b) (wd a' b') (max a.length a'.length + b.length + b'.length)) := by
  have mx : bMax2 [.int a.length, .int a'.length] = .ok (.int (max a.length a'.length : Nat)) := by
    unfold bMax2
    dsimp only
    by_cases hh : (a'.length : Int) > a.length
    · rw [if_pos hh]; congr 2; omega
    · rw [if_neg hh]; congr 2; omega
  obtain ⟨n, hn⟩ : ∃ n, n = max a.length a'.length + b.length + b'.length := ⟨_, rfl⟩
  have an : ((max a.length a'.length : Nat) : Int) + b.length + b'.length = (n : Nat) := by omega
  obtain ⟨m, hm⟩ : ∃ m, m = max a.length a'.length := ⟨_, rfl⟩
  rw [← hm] at mx an
  rw [← hn]
  have body : ∀ x ∈ (List.range' 1 n).map (fun k => D.int (k : Nat)), (mIf (dBin dNe (dCall 3 M_entry_at (dCons (dBin dIx (dVar 2) (dC (.int 0))) (dCons (dBin dIx (dVar 2) (dC (.int 1))) (dCons (dVar 5) dNil)))) (dCall 3 M_entry_at (dCons (dBin dIx (dVar 3) (dC (.int 0))) (dCons (dBin dIx (dVar 3) (dC (.int 1))) (dCons (dVar 5) dNil))))) (mRet (dVar 5)) mNil) ([some (Sv.v d), some (.v d'), some (.v (lasD a b)), some (.v (lasD a' b')), some (.v (.int n)), none].set 5 (some (.v x))) =
      if onN (fun p => decide (wd a b (p - 1) ≠ wd a' b' (p - 1))) x = true then .rt (.v x) ([some (Sv.v d), some (.v d'), some (.v (lasD a b)), some (.v (lasD a' b')), some (.v (.int n)), none].set 5 (some (.v x))) else .nx ([some (Sv.v d), some (.v d'), some (.v (lasD a b)), some (.v (lasD a' b')), some (.v (.int n)), none].set 5 (some (.v x))) := by
    intro x hx
    obtain ⟨k, hk, rfl⟩ := List.mem_map.mp hx
    rw [List.mem_range'_1] at hk
    simp [- op_ix_t, ix0, ix1, e_entry hk.1 h.b0, e_entry hk.1 h'.b0, onN]
  have ff := forL_find (i := 5) (x := none) (g := fun x => .v x) body
  have rg : rgOk 1 ((n : Int) + 1) = true := by
    unfold rgOk; rw [show ((n : Int) + 1 - 1).toNat = n by omega]; exact ev_fits (by omega)
  have fm : ((List.range' 1 n).map fun k => D.int (k : Nat)).find? (onN (fun p => decide (wd a b (p - 1) ≠ wd a' b' (p - 1)))) = ((List.range' 1 n).find? (fun p => decide (wd a b (p - 1) ≠ wd a' b' (p - 1)))).map fun k => D.int (k : Nat) := find_map
  simp only [M_first_apart, m_first_apart, ev_runP]
  simp [- op_ix_t, h.sure, h'.sure, mPar, evCs, evC, setAll, ix0, ix1, len_tI, mx, an, rg, rgD_nat]
  unfold faD
  rcases ff with ⟨x, h1, h2⟩ | ⟨h1, y, h2⟩
  · simp only [List.set_cons_succ, List.set_cons_zero] at h2
    rw [h2]
    rw [fm] at h1
    cases hf : (List.range' 1 n).find? (fun p => decide (wd a b (p - 1) ≠ wd a' b' (p - 1))) with
    | none => rw [hf] at h1; cases h1
    | some m => rw [hf] at h1; cases h1; rfl
  · simp only [List.set_cons_succ, List.set_cons_zero] at h2
    rw [h2]
    rw [fm] at h1
    cases hf : (List.range' 1 n).find? (fun p => decide (wd a b (p - 1) ≠ wd a' b' (p - 1))) with
    | none => simp
    | some m => rw [hf] at h1; cases h1
theorem intsOf_map : ∀ xs : L, intsOf (xs.map .int) = some xs
  | [] => rfl
  | x :: xs => by simp only [List.map_cons, intsOf, intsOf_map xs]
/-! letters that are asked for -/
def Asks (d : D) (xs : L) : Prop := (d = tI xs ∨ d = lI xs) ∧ xs ∈ [[1], [2], [3], [1, 2], [1, 3], [2, 3], [1, 2, 3]]
def cnt (s xs : L) : Nat := (xs.filter fun x => decide (x ∈ s)).length
end W

namespace W
open F Las
theorem firsts_len {f : Nat → Int} {n : Nat} : (firsts f n).length = n := by unfold firsts; rw [List.length_map, List.length_range]
theorem firsts_get {f : Nat → Int} {n i : Nat} (h : i < n) : (firsts f n).getD i 0 = f i := by
  unfold firsts
  rw [List.getD_eq_getElem?_getD, List.getElem?_map, List.getElem?_range h]; rfl
theorem firsts_lo {a b : L} {n : Nat} (h : n ≤ a.length) : firsts (wd a b) n = a.take n := by
  refine ext0 (by rw [firsts_len, List.length_take]; omega) fun i hi => ?_
  rw [firsts_len] at hi
  rw [firsts_get hi, wd_lo (by omega), getD_take hi]
theorem firsts_hi {a b : L} {k r : Nat} (hb : b ≠ []) (hr : r < b.length) : firsts (wd a b) (a.length + (k * b.length + r)) = a ++ ((List.replicate k b).flatten ++ b.take r) := by
  refine ext0 (by rw [firsts_len, List.length_append, List.length_append, flat_len, List.length_take]; omega) fun i hi => ?_
  rw [firsts_len] at hi
  rw [firsts_get hi]
  by_cases h1 : i < a.length
  · rw [wd_lo h1, getD_append_lo h1]
  · rw [wd_hi (by omega), getD_append_hi (by omega)]
    by_cases h2 : i - a.length < k * b.length
    · rw [getD_append_lo (by rw [flat_len]; exact h2), flat_get _ _ h2]; rfl
    · rw [getD_append_hi (by rw [flat_len]; omega), flat_len, getD_take (by omega)]
      unfold cyc
      congr 1
      rw [show i - a.length = (i - a.length - k * b.length) + b.length * k by rw [Nat.mul_comm b.length k]; omega, Nat.add_mul_mod_self_left, Nat.mod_eq_of_lt (by omega)]
      rw [Nat.mul_comm b.length k]; omega
theorem cnt_append {s xs ys : L} : cnt s (xs ++ ys) = cnt s xs + cnt s ys := by unfold cnt; rw [List.filter_append, List.length_append]
theorem cnt_flat {s xs : L} : ∀ k, cnt s (List.replicate k xs).flatten = k * cnt s xs
  | 0 => by simp [cnt]
  | k + 1 => by rw [List.replicate_succ, List.flatten_cons, cnt_append, cnt_flat k, Nat.succ_mul]; omega
def nxD (f : Nat → Int) (s : L) (p n : Nat) : D := match (List.range' (p + 1) n).find? (fun q => decide (f (q - 1) ∈ s)) with
  | some q => .int (q : Nat)
  | none => .non
theorem rgD_from (p n : Nat) : rgD ((p : Int) + 1) ((p : Int) + n + 1) = (List.range' (p + 1) n).map fun k => D.int (k : Nat) := by
  unfold rgD
  rw [show ((p : Int) + n + 1 - (p + 1)).toNat = n by omega, List.range'_eq_map_range, List.map_map]
  exact List.map_congr_left fun k _ => by simp
end W

namespace W
open F Las
/-! what the law draws -/
theorem div_small {n : Int} (h : 0 < n) (h2 : n ≤ 1000000000000000000000000000000) : divOk n = true := by
  unfold divOk
  rw [decide_eq_true h, Bool.true_and]
  refine decide_eq_true ?_
  have : n.natAbs < 2 ^ 100 := by omega
  exact Nat.lt_trans ((Nat.log2_lt (by omega)).mpr this) (by decide)
theorem draw {k n : Int} {ts : List D} (t : Tin k ts) (hk : k < 1000000000000) (hn : 0 < n) (h2 : n ≤ 1000000000000000000000000000000) : ∃ (v : Nat) (ts' : List D), M__law_take ts [.int n] = .ok (.int v, ts') ∧ (v : Int) < n ∧ Tin (k + 1) ts' := by
  obtain ⟨v, ts', e, h0, h1, t'⟩ := take_law t hk hn (div_small hn h2)
  obtain ⟨m, rfl⟩ : ∃ m : Nat, v = m := ⟨v.toNat, by omega⟩
  exact ⟨m, ts', e, h1, t'⟩
theorem Tin.mono {k k' : Int} {ts : List D} (t : Tin k ts) (h : k ≤ k') : Tin k' ts := by
  obtain ⟨a, b, c, e, h0, h1⟩ := t
  exact ⟨a, b, c, e, h0, by omega⟩
theorem iR1 {n : Nat} {e : Ev} {sl : Sl} (he : e sl = .ok (.v (.int n)) sl) (hn : n ≤ 1000) : iRange1 e sl = .ok ((List.range n).map fun k => D.int (k : Nat)) sl := by
  have rg : rgOk 0 (n : Int) = true := by unfold rgOk; rw [show ((n : Int) - 0).toNat = n by omega]; exact ev_fits hn
  rw [ev_iRange1, he, ev_bind_ok]
  simp only [getS, rg, if_true]
  unfold rgD
  rw [show ((n : Int) - 0).toNat = n by omega]
  congr 1
  exact List.map_congr_left fun k _ => by simp
theorem e_row {k : Int} {w : Nat} : ∀ (n : Nat) {ts : List D}, Tin k ts → k + n < 1000000000000 → n ≤ 900 → 0 < w → w ≤ 1000 → ∃ (xs : L) (ts' : List D), M__law_row ts [.int w, .int n] = .ok (tI xs, ts') ∧ xs.length = n ∧ letters w xs ∧ Tin (k + n) ts' := by
  intro n ts t hk hn hw hw2
  have go : ∀ (ds : List D) (k : Int) (ts : List D) (x : Option Sv), Tin k ts → k + ds.length < 1000000000000 → ∃ (xs : L) (ts' : List D) (x' : Option Sv), lcL [3] (.nm 3) cYes (dBin dAdd (dC (.int 1)) (dCallT 2 M__law_take (dCons (dVar 0) (dCons (dVar 1) dNil)))) ds [some (.m ts), some (.v (.int w)), some (.v (.int n)), x] = some (xs.map .int, [some (.m ts'), some (.v (.int w)), some (.v (.int n)), x']) ∧ xs.length = ds.length ∧ letters w xs ∧ Tin (k + ds.length) ts' := by
    intro ds
    induction ds with
    | nil => exact fun k ts x t _ => ⟨[], ts, x, rfl, rfl, fun _ h => (nomatch h), by simpa using t⟩
    | cons d ds ih =>
      intro k ts x t hk
      simp only [List.length_cons] at hk
      obtain ⟨v, ts1, e, hv, t1⟩ := draw (n := w) t (by omega) (by omega) (by omega)
      obtain ⟨xs, ts', x', e2, hl, hx, t'⟩ := ih (k + 1) ts1 (some (.v d)) t1 (by omega)
      refine ⟨(1 + (v : Int)) :: xs, ts', x', ?_, by simp [hl], ?_, t'.mono (by simp; omega)⟩
      · simp only [lcL, wipeD, ev_bindT_nm, cYes]
        simp [e, e2]
      · intro y hy
        rcases List.mem_cons.mp hy with rfl | hy
        · omega
        · exact hx y hy
  obtain ⟨xs, ts', x', e, hl, hx, t'⟩ := go ((List.range n).map fun k => D.int (k : Nat)) k ts none t (by simpa using hk)
  rw [List.length_map, List.length_range] at hl t'
  refine ⟨xs, ts', ?_, hl, hx, t'⟩
  have it := iR1 (n := n) (e := dVar 2) (sl := [some (.m ts), some (.v (.int w)), some (.v (.int n)), none]) rfl (by omega)
  simp only [M__law_row, m__law_row, ev_runT]
  simp only [ev_mRet, ev_dCB, ev_dCons, ev_dL, ev_initT, dLc]
  simp [- ev_iRange1, it, noOwn, isM, e, merge, tI]
end W

namespace W
open F Las
/-- a loop that stops at the first -/
theorem forL_stop {i : Nat} {m : Sm} {sl : Sl} {p : D → Bool} {g : D → Sl} : ∀ {ds : List D} {x : Option Sv}, (∀ d ∈ ds, m (sl.set i (some (.v d))) = if p d = true then .bk (g d) else .nx (sl.set i (some (.v d)))) →
    (∃ d, ds.find? p = some d ∧ forL (.nm i) m ds (sl.set i x) = .nx (g d)) ∨ (ds.find? p = none ∧ ∃ y, forL (.nm i) m ds (sl.set i x) = .nx (sl.set i y))
  | [], x, _ => .inr ⟨rfl, x, rfl⟩
  | d :: ds, x, h => by
    have hd := h d (by simp)
    rw [ev_forL1, ev_bindT_nm]
    dsimp only
    rw [List.set_set, hd]
    cases hp : p d with
    | true =>
      left
      exact ⟨d, by rw [List.find?_cons_of_pos hp], by rw [if_pos rfl]; rfl⟩
    | false =>
      rw [if_neg (by simp), ev_step_nx, List.find?_cons_of_neg (by simp [hp])]
      exact forL_stop fun d hd => h d (by simp [hd])
theorem rep_noMod {b : L} {m : Nat} (h0 : 0 < m) (hl : m ≤ b.length) : decide (b = (List.replicate (b.length / m) (b.take m)).flatten) = repB b m := by
  unfold repB
  by_cases h : (List.replicate (b.length / m) (b.take m)).flatten = b
  · have e := congrArg List.length h
    rw [flat_len, List.length_take, Nat.min_eq_left hl] at e
    have hm : b.length % m = 0 := by
      have := Nat.mod_add_div b.length m
      rw [Nat.mul_comm] at this; omega
    rw [decide_eq_true h.symm, decide_eq_true hm, decide_eq_true h]; rfl
  · rw [decide_eq_false (fun z => h z.symm), decide_eq_false h, Bool.and_false]
theorem e_lawshort {a b : L} (hb : b ≠ []) (hl : b.length ≤ 400) (ha : a.length ≤ 400) : M__law_short [tI a, tI b] = .ok (lasD (short a b).1 (short a b).2) := by
  have h0 : 0 < b.length := List.length_pos_iff.mpr hb
  -- the round
  have p1 : ∃ x, (mFor (.nm 2) (iRange2 (dC (.int 1)) (dBin dAdd (dCB bLen (dCons (dVar 1) dNil)) (dC (.int 1)))) (mIf (dBin dEq (dVar 1) (dBin dMulT (dSl (dVar 1) dNoPart (dPart (dVar 2))) (dBin dDiv (dCB bLen (dCons (dVar 1) dNil)) (dVar 2)))) (mSeq (mSet 1 (dSl (dVar 1) dNoPart (dPart (dVar 2)))) mBrk) mNil)) [some (.v (tI a)), some (.v (tI b)), none, none] = .nx [some (.v (tI a)), some (.v (tI (srt b))), x, none] := by
    have rg : rgOk 1 ((b.length : Int) + 1) = true := by
      unfold rgOk; rw [show ((b.length : Int) + 1 - 1).toNat = b.length by omega]; exact ev_fits (by omega)
    have body : ∀ d ∈ (List.range' 1 b.length).map (fun k => D.int (k : Nat)), (mIf (dBin dEq (dVar 1) (dBin dMulT (dSl (dVar 1) dNoPart (dPart (dVar 2))) (dBin dDiv (dCB bLen (dCons (dVar 1) dNil)) (dVar 2)))) (mSeq (mSet 1 (dSl (dVar 1) dNoPart (dPart (dVar 2)))) mBrk) mNil) ([some (Sv.v (tI a)), some (.v (tI b)), none, none].set 2 (some (.v d))) =
        if onN (repB b) d = true then .bk [some (.v (tI a)), some (.v (match d with | .int k => tI (b.take k.toNat) | d => d)), some (.v d), none] else .nx ([some (Sv.v (tI a)), some (.v (tI b)), none, none].set 2 (some (.v d))) := by
      intro d hd
      obtain ⟨k, hk, rfl⟩ := List.mem_map.mp hd
      rw [List.mem_range'_1] at hk
      have k0' : 0 < k := by omega
      have dv : divOk (k : Int) = true := div_small (by omega) (by omega)
      have tk : b.take k ≠ [] := fun z => by
        have := congrArg List.length z
        rw [List.length_take, List.length_nil] at this; omega
      have mu := mul_tI (xs := b.take k) (k := b.length / k) (Nat.div_pos (by omega) k0') (by have := Nat.div_le_self b.length k; omega) tk (by rw [List.length_take]; omega)
      have mu' : dMulT (tI (b.take k)) (.int ((b.length : Int) / (k : Int))) = .ok (tI (List.replicate (b.length / k) (b.take k)).flatten) := by
        rw [← Int.natCast_ediv]; exact mu
      have eqq := eq_tI (xs := b) (ys := (List.replicate (b.length / k) (b.take k)).flatten)
      rw [rep_noMod k0' (by omega)] at eqq
      cases hr : repB b k with
      | true =>
        rw [hr] at eqq
        simp [slice_to, len_tI, dv, mu', eqq, onN, hr]
      | false =>
        rw [hr] at eqq
        simp [slice_to, len_tI, dv, mu', eqq, onN, hr]
    have ff := forL_stop (i := 2) (x := none) body
    have fm : ((List.range' 1 b.length).map fun k => D.int (k : Nat)).find? (onN (repB b)) = ((List.range' 1 b.length).find? (repB b)).map fun k => D.int (k : Nat) := find_map
    simp only [ev_mFor]
    simp [len_tI, rg, rgD_nat]
    unfold srt
    rcases ff with ⟨d, h1, h2⟩ | ⟨h1, y, h2⟩
    · simp only [List.set_cons_succ, List.set_cons_zero] at h2
      rw [h2]
      rw [fm] at h1
      cases hf : (List.range' 1 b.length).find? (repB b) with
      | none => rw [hf] at h1; cases h1
      | some m => rw [hf] at h1; cases h1; exact ⟨_, rfl⟩
    · simp only [List.set_cons_succ, List.set_cons_zero] at h2
      rw [h2]
      rw [fm] at h1
      cases hf : (List.range' 1 b.length).find? (repB b) with
      | none => exact ⟨_, rfl⟩
      | some m => rw [hf] at h1; cases h1
  obtain ⟨x2, p1⟩ := p1
  have i1 : ∀ {xs : L}, xs ≠ [] → dIx (tI xs) (.int (-1)) = .ok (.int (xs.getLastD 0)) := fun h => by
    show (match L2.atI (_ : List D) (-1) with | some d => Re.ok d | none => Re.bad) = _
    rw [atI_last h]
  have sl1 : ∀ {xs : L} {sl : Sl}, sliceO (some (tI xs)) none (some (-1)) sl = .ok (.v (tI xs.dropLast)) sl := fun {xs sl} => by
    unfold tI; rw [ev_slice_t, cut_nolast, List.map_dropLast]
  have sl2 : ∀ {xs : L} {sl : Sl}, xs ≠ [] → sliceO (some (tI xs)) (some (-1)) none sl = .ok (.v (tI [xs.getLastD 0])) sl := fun {xs sl} h => by
    have hl : 0 < xs.length := List.length_pos_iff.mpr h
    unfold tI
    rw [ev_slice_t]
    have e : cut (xs.map D.int) (some (-1)) none = (xs.map D.int).drop (xs.length - 1) := by
      unfold cut
      rw [HT.sIx_none, tI_len]
      have e : HT.sIx xs.length 0 (some (-1)) = xs.length - 1 := by
        show (if (-1 : Int) < 0 then (-1 + (xs.length : Int)).toNat else min (-1 : Int).toNat xs.length) = _
        rw [if_pos (by decide)]; omega
      rw [e]
      exact List.take_of_length_le (by rw [List.length_drop, tI_len]; omega)
    rw [e, ← List.map_drop]
    have : xs.drop (xs.length - 1) = [xs.getLastD 0] := by
      refine ext0 (by rw [List.length_drop]; simp; omega) fun i hi => ?_
      rw [List.length_drop] at hi
      have : i = 0 := by omega
      subst this
      rw [getD_drop, Nat.add_zero, lastD h]; rfl
    rw [this]
  -- the laps
  have p2 : ∀ (n : Nat) (ds : List D) (a b : L) (x3 : Option Sv), a.length = n → ds.length = n → b ≠ [] → b.length ≤ 400 → ∃ y, forL (.nm 3) (mIf (dBin dEq (dBin dIx (dVar 0) (dUn dNeg (dC (.int 1)))) (dBin dIx (dVar 1) (dUn dNeg (dC (.int 1))))) (mPar [0, 1] [.v (dSl (dVar 0) dNoPart (dPart (dUn dNeg (dC (.int 1))))), .v (dBin dAdd (dSl (dVar 1) (dPart (dUn dNeg (dC (.int 1)))) dNoPart) (dSl (dVar 1) dNoPart (dPart (dUn dNeg (dC (.int 1))))))]) mBrk) ds [some (.v (tI a)), some (.v (tI b)), x2, x3] =
      .nx [some (.v (tI (strip n a b).1)), some (.v (tI (strip n a b).2)), x2, y] := by
    intro n
    induction n with
    | zero =>
      intro ds a b x3 hn hd hb hl
      have : ds = [] := List.length_eq_zero_iff.mp hd
      subst this
      exact ⟨x3, rfl⟩
    | succ n ih =>
      intro ds a b x3 hn hd hb hl
      have ha : a ≠ [] := fun z => by rw [z] at hn; simp at hn
      cases ds with
      | nil => simp at hd
      | cons d ds =>
        have ia := i1 ha
        have ib := i1 hb
        have sb := fun {sl : Sl} => sl2 (xs := b) (sl := sl) hb
        have er : [b.getLastD 0] ++ b.dropLast = rot1 b := rfl
        have ad := add_tI (xs := [b.getLastD 0]) (ys := b.dropLast) (by rw [dropLast_len]; simp; omega)
        rw [er] at ad
        obtain ⟨la, hla⟩ : ∃ x, x = a.getLastD 0 := ⟨_, rfl⟩
        obtain ⟨lb, hlb⟩ : ∃ x, x = b.getLastD 0 := ⟨_, rfl⟩
        rw [← hla] at ia
        rw [← hlb] at ib sb ad
        rw [ev_forL1, ev_bindT_nm]
        unfold strip
        by_cases hc : la = lb
        · obtain ⟨y, hy⟩ := ih ds a.dropLast (rot1 b) (some (.v d)) (by rw [dropLast_len]; omega) (by simpa using hd) (rot1_ne b) (by rw [rot1_len hb]; exact hl)
          refine ⟨y, ?_⟩
          rw [if_pos ⟨ha, by rw [← hla, ← hlb]; exact hc⟩, ← hy]
          simp [- op_ix_t, ia, ib, hc, mPar, evCs, evC, setAll, sl1, sb, ad]
        · refine ⟨some (.v d), ?_⟩
          rw [if_neg (fun z => hc (by rw [hla, hlb]; exact z.2))]
          simp [- op_ix_t, ia, ib, hc]
  have hs : (srt b).length ≤ 400 := by
    obtain ⟨m, h0, h1, _, e, _⟩ := srt_spec hb
    rw [e, List.length_take]; omega
  obtain ⟨y, hy⟩ := p2 a.length ((List.range a.length).map fun k => D.int (k : Nat)) a (srt b) none rfl (by simp) (srt_ne hb) hs
  have it := iR1 (n := a.length) (e := dCB bLen (dCons (dVar 0) dNil)) (sl := [some (.v (tI a)), some (.v (tI (srt b))), x2, none]) (by simp [len_tI]) (by omega)
  show fin (m__law_short [some (.v (tI a)), some (.v (tI b)), none, none]) = _
  unfold m__law_short
  rw [ev_mSeq, p1, ev_seq_nx, ev_mSeq, ev_mFor, it, ev_to_ok, hy, ev_seq_nx]
  simp [short, lasD]
end W

namespace W
open F Las
theorem letters_take {w : Int} {xs : L} (h : letters w xs) (n : Nat) : letters w (xs.take n) := fun x hx => h x (List.mem_of_mem_take hx)
theorem letters_drop {w : Int} {xs : L} (h : letters w xs) (n : Nat) : letters w (xs.drop n) := fun x hx => h x (List.mem_of_mem_drop hx)
theorem letters_app {w : Int} {xs ys : L} (h : letters w xs) (h' : letters w ys) : letters w (xs ++ ys) := fun x hx => by
  rcases List.mem_append.mp hx with hx | hx
  · exact h x hx
  · exact h' x hx
theorem letters_flat {w : Int} {xs : L} (h : letters w xs) : ∀ k, letters w (List.replicate k xs).flatten
  | 0 => fun x hx => by simp at hx
  | k + 1 => by rw [List.replicate_succ, List.flatten_cons]; exact letters_app h (letters_flat h k)
theorem last_mem {b : L} (h : b ≠ []) : b.getLastD 0 ∈ b := by
  have hl : 0 < b.length := List.length_pos_iff.mpr h
  rw [lastD h, List.getD_eq_getElem?_getD, List.getElem?_eq_getElem (by omega)]
  exact List.getElem_mem _
theorem rot1_mem {b : L} (h : b ≠ []) {x : Int} (hx : x ∈ rot1 b) : x ∈ b := by
  unfold rot1 at hx
  rcases List.mem_cons.mp hx with rfl | hx
  · exact last_mem h
  · exact (List.dropLast_sublist _).subset hx
theorem strip_facts {w : Int} : ∀ (n : Nat) (a b : L), b ≠ [] → letters w a → letters w b → letters w (strip n a b).1 ∧ letters w (strip n a b).2 ∧ (strip n a b).2 ≠ [] ∧ (strip n a b).1.length ≤ a.length ∧ (strip n a b).2.length = b.length
  | 0, a, b, h, ha, hb => ⟨ha, hb, h, Nat.le_refl _, rfl⟩
  | n + 1, a, b, h, ha, hb => by
    unfold strip
    split
    · obtain ⟨h1, h2, h3, h4, h5⟩ := strip_facts n a.dropLast (rot1 b) (rot1_ne b) (fun x hx => ha x ((List.dropLast_sublist _).subset hx)) (fun x hx => hb x (rot1_mem h hx))
      exact ⟨h1, h2, h3, by rw [dropLast_len] at h4; omega, by rw [h5, rot1_len h]⟩
    · exact ⟨ha, hb, h, Nat.le_refl _, rfl⟩
theorem short_facts {w : Int} {a b : L} (h : b ≠ []) (ha : letters w a) (hb : letters w b) : letters w (short a b).1 ∧ letters w (short a b).2 ∧ (short a b).2 ≠ [] ∧ (short a b).1.length ≤ a.length ∧ (short a b).2.length ≤ b.length := by
  obtain ⟨m, h0, h1, _, e, _⟩ := srt_spec h
  have g := strip_facts (w := w) a.length a (srt b) (srt_ne h) ha (by rw [e]; exact letters_take hb m)
  refine ⟨g.1, g.2.1, g.2.2.1, g.2.2.2.1, ?_⟩
  have := g.2.2.2.2
  show (strip a.length a (srt b)).2.length ≤ _
  rw [this, e, List.length_take]; omega
theorem Good.short {d : D} {a b : L} (h : Good d a b) : Good (lasD (short a b).1 (short a b).2) (short a b).1 (short a b).2 := by
  obtain ⟨h1, h2, h3, h4, h5⟩ := short_facts h.b0 h.la h.lb
  exact ⟨.inl rfl, h1, h2, h3, Nat.le_trans h4 h.al, Nat.le_trans h5 h.bl⟩
theorem moved_wd {a b : L} (hb : b ≠ []) (n i : Nat) : wd (moved a b n).1 (moved a b n).2 i = wd a b (i + n) := by
  have hl : 0 < b.length := List.length_pos_iff.mpr hb
  unfold moved
  split
  · rename_i h
    by_cases h1 : i < a.length - n
    · rw [wd_lo (by rw [List.length_drop]; exact h1), wd_lo (by omega), getD_drop, Nat.add_comm]
    · rw [wd_hi (by rw [List.length_drop]; omega), wd_hi (by omega), List.length_drop]; congr 1; omega
  · rename_i h
    have hr := Nat.mod_lt (n - a.length) hl
    obtain ⟨r, er⟩ : ∃ r, r = (n - a.length) % b.length := ⟨_, rfl⟩
    rw [← er] at hr ⊢
    have hlen : (b.drop r ++ b.take r).length = b.length := by rw [List.length_append, List.length_drop, List.length_take]; omega
    have e2 : (i + n - a.length) % b.length = (i % b.length + r) % b.length := by
      rw [show i + n - a.length = i + (n - a.length) by omega, Nat.add_mod, er]
    rw [wd_hi (Nat.zero_le _), wd_hi (by omega)]
    show (b.drop r ++ b.take r).getD ((i - 0) % (b.drop r ++ b.take r).length) 0 = b.getD ((i + n - a.length) % b.length) 0
    rw [hlen, e2, Nat.sub_zero]
    have hm := Nat.mod_lt i hl
    obtain ⟨j, ej⟩ : ∃ j, j = i % b.length := ⟨_, rfl⟩
    rw [← ej] at hm ⊢
    by_cases h2 : j < b.length - r
    · have e3 : (j + r) % b.length = r + j := by rw [Nat.mod_eq_of_lt (by omega), Nat.add_comm]
      rw [getD_append_lo (by rw [List.length_drop]; exact h2), getD_drop, e3]
    · have e3 : (j + r) % b.length = j - (b.length - r) := by
        rw [Nat.mod_eq_sub_mod (by omega), Nat.mod_eq_of_lt (by omega)]; omega
      rw [getD_append_hi (by rw [List.length_drop]; omega), List.length_drop, getD_take (by omega), e3]
theorem moved_ne {a b : L} (hb : b ≠ []) (n : Nat) : (moved a b n).2 ≠ [] := by
  have hl : 0 < b.length := List.length_pos_iff.mpr hb
  unfold moved
  split
  · exact hb
  · intro z
    have := congrArg List.length z
    dsimp only at this
    rw [List.length_append, List.length_drop, List.length_take, List.length_nil] at this
    have := Nat.mod_lt (n - a.length) hl
    omega
theorem moved_facts {w : Int} {a b : L} (ha : letters w a) (hb : letters w b) (n : Nat) : letters w (moved a b n).1 ∧ letters w (moved a b n).2 ∧ (moved a b n).1.length ≤ a.length ∧ (moved a b n).2.length ≤ b.length := by
  unfold moved
  split
  · exact ⟨letters_drop ha n, hb, by rw [List.length_drop]; omega, Nat.le_refl _⟩
  · refine ⟨fun x hx => (nomatch hx), letters_app (letters_drop hb _) (letters_take hb _), Nat.zero_le _, ?_⟩
    dsimp only
    rw [List.length_append, List.length_drop, List.length_take]; omega
/-- moved on, as a lasso that is handed in again -/
theorem Good.moved {d : D} {a b : L} (h : Good d a b) (n : Nat) : Good (lasD (moved a b n).1 (moved a b n).2) (moved a b n).1 (moved a b n).2 := by
  obtain ⟨h1, h2, h3, h4⟩ := moved_facts h.la h.lb n
  exact ⟨.inl rfl, h1, h2, moved_ne h.b0 n, Nat.le_trans h3 h.al, Nat.le_trans h4 h.bl⟩
theorem app_wd_lo {x a b : L} {i : Nat} (h : i < x.length) : wd (x ++ a) b i = x.getD i 0 := by
  rw [wd_lo (by rw [List.length_append]; omega), getD_append_lo h]
theorem app_wd_hi {x a b : L} (i : Nat) : wd (x ++ a) b (i + x.length) = wd a b i := by
  by_cases h : i < a.length
  · rw [wd_lo (by rw [List.length_append]; omega), getD_append_hi (by omega), wd_lo h]; congr 1; omega
  · rw [wd_hi (by rw [List.length_append]; omega), wd_hi (by omega), List.length_append]; congr 1; omega
/-- alike in the first letters, alike for ever -/
theorem far_enough {a b c d : L} {n : Nat} (hb : b ≠ []) (hd : d ≠ []) (hn : max a.length c.length + b.length + d.length ≤ n) (h : ∀ i, i < n → wd a b i = wd c d i) : ∀ i, wd a b i = wd c d i := fun i => by
  rcases Nat.lt_or_ge i n with hi | hi
  · exact h i hi
  · have hl1 : 0 < b.length := List.length_pos_iff.mpr hb
    have hl2 : 0 < d.length := List.length_pos_iff.mpr hd
    exact fine_wilf hl1 hl2 ((wd_per a b).mono (Nat.le_max_left _ _)) ((wd_per c d).mono (Nat.le_max_right _ _)) (fun j _ h2 => h j (by omega)) i (by omega)
theorem firsts_eq {f g : Nat → Int} {n : Nat} : firsts f n = firsts g n ↔ ∀ i, i < n → f i = g i := by
  constructor
  · intro h i hi
    rw [← firsts_get (f := f) hi, h, firsts_get hi]
  · intro h
    exact List.map_congr_left fun i hi => h i (List.mem_range.mp hi)
theorem find_range' {p : Nat → Bool} (s : Nat) : ∀ n, (List.range' (s + 1) n).find? (fun q => p (q - 1)) = ((List.range' s n).find? p).map (· + 1) := fun n => by
  have e : List.range' (s + 1) n = (List.range' s n).map (· + 1) := by
    have := List.map_add_range' (a := 1) s n 1
    rw [Nat.add_comm 1 s] at this
    rw [← this]
    exact List.map_congr_left fun k _ => Nat.add_comm _ _
  rw [e, find_map]
  rfl
theorem find_range {p : Nat → Bool} {m n : Nat} (hmn : m ≤ n) (h : (∀ i, i < m → p i = false) → ∀ i, i < n → p i = false) : (List.range n).find? p = (List.range m).find? p := by
  have e : List.range n = List.range m ++ List.range' m (n - m) := by
    have := List.range'_append_1 (s := 0) (m := m) (n := n - m)
    rw [List.range_eq_range', List.range_eq_range', show List.range' 0 n = List.range' 0 (m + (n - m)) by congr 1; omega, ← this, Nat.zero_add]
  rw [e, List.find?_append]
  cases hm : (List.range m).find? p with
  | some x => rfl
  | none =>
    have h1 := List.find?_eq_none.mp hm
    have h2 := h fun i hi => by simpa using h1 i (List.mem_range.mpr hi)
    rw [Option.none_or]
    exact List.find?_eq_none.mpr fun x hx => by
      rw [List.mem_range'_1] at hx
      simp [h2 x (by omega)]
end W


set_option Elab.async false
set_option linter.all false
set_option maxRecDepth 1000000
set_option maxHeartbeats 4000000
namespace W
open F Las
def every (w : Int) : List D := match M__law_lassos [.int w, .int 5] with
  | .ok (.lst xs) => xs
  | _ => []
theorem every1 : M__law_lassos [.int 1, .int 5] = .ok (.lst (every 1)) := by kernel_rfl
theorem every2 : M__law_lassos [.int 2, .int 5] = .ok (.lst (every 2)) := by kernel_rfl
def chk (w : Int) : D → Bool
  | .tup [.tup as, .tup bs] => match intsOf as, intsOf bs with
    | some a, some b => decide (b ≠ []) && decide (srt b = b) && (decide (a = []) || decide (a.getLastD 0 ≠ b.getLastD 0)) && decide (a.length + b.length ≤ 5) && a.all (fun x => decide (1 ≤ x) && decide (x ≤ w)) && b.all (fun x => decide (1 ≤ x) && decide (x ≤ w))
    | _, _ => false
  | _ => false
theorem chk1 : (every 1).all (chk 1) = true := by kernel_rfl
theorem chk2 : (every 2).all (chk 2) = true := by kernel_rfl
end W

set_option Elab.async false
set_option linter.all false
set_option maxRecDepth 100000
set_option maxHeartbeats 4000000
namespace W
open F Las
theorem intsOf_inv : ∀ {xs : List D} {ns : L}, intsOf xs = some ns → xs = ns.map .int
  | [], ns, h => by cases h; rfl
  | .int x :: xs, ns, h => by
    simp only [intsOf] at h
    cases e : intsOf xs with
    | none => rw [e] at h; cases h
    | some ms => rw [e] at h; cases h; rw [intsOf_inv e]; rfl
  | .non :: _, _, h => by simp [intsOf] at h
  | .bl _ :: _, _, h => by simp [intsOf] at h
  | .str _ :: _, _, h => by simp [intsOf] at h
  | .tup _ :: _, _, h => by simp [intsOf] at h
  | .lst _ :: _, _, h => by simp [intsOf] at h
  | .scr _ :: _, _, h => by simp [intsOf] at h
theorem chk_spec {w : Int} {d : D} (h : chk w d = true) : ∃ a b, d = lasD a b ∧ Norm a b ∧ a.length + b.length ≤ 5 ∧ letters w a ∧ letters w b := by
  unfold chk at h
  split at h
  · split at h
    · rename_i as bs a b e1 e2
      simp only [Bool.and_eq_true, Bool.or_eq_true, decide_eq_true_eq, List.all_eq_true] at h
      obtain ⟨⟨⟨⟨⟨h1, h2⟩, h3⟩, h4⟩, h5⟩, h6⟩ := h
      refine ⟨a, b, by rw [intsOf_inv e1, intsOf_inv e2]; rfl, ⟨h1, by have := srt_prim h1; rw [h2] at this; exact this, h3⟩, h4, fun x hx => h5 x hx, fun x hx => h6 x hx⟩
    · cases h
  · cases h
end W

set_option Elab.async false
set_option linter.all false
set_option maxRecDepth 100000
set_option maxHeartbeats 4000000
namespace W
open F Las
theorem seqIx {i n : Nat} (h : i < n) : PySem.seqIndex? (i : Int) n = some i := by
  have e : L2.ixN n (i : Int) = some i := by
    unfold L2.ixN
    rw [if_pos (by omega), if_pos (by omega), Int.toNat_natCast]
  exact (L2.ixN_seq e).1
theorem e_pick {k : Int} {ts gs : List D} {n : Nat} (t : Tin k ts) (hk : k + 20 < 1000000000000) (hn : n ≤ 12) (hg : gs.length ≤ 900) : ∃ (fs ts' : List D), M__law_pick ts [.lst gs, .int n] = .ok (.lst fs, ts') ∧ (∀ d ∈ fs, d ∈ gs) ∧ fs.length ≤ 12 ∧ Tin (k + 12) ts' := by
  have go : ∀ (ds : List D) (k : Int) (ts left found : List D) (x : Option Sv), Tin k ts → k + ds.length < 1000000000000 → ds.length ≤ left.length → left.length ≤ 900 → found.length + ds.length ≤ 900 → (∀ d ∈ left, d ∈ gs) → (∀ d ∈ found, d ∈ gs) →
      ∃ (left' found' ts' : List D) (x' : Option Sv), forL (.nm 5) (mDrop (dMut 4 mAppend (dCons (dMut 3 mPopAt (dCons (dCallT 2 M__law_take (dCons (dVar 0) (dCons (dCB bLen (dCons (dVar 3) dNil)) dNil))) dNil)) dNil))) ds [some (.m ts), some (.v (.lst gs)), some (.v (.int n)), some (.m left), some (.m found), x] =
        .nx [some (.m ts'), some (.v (.lst gs)), some (.v (.int n)), some (.m left'), some (.m found'), x'] ∧ (∀ d ∈ found', d ∈ gs) ∧ found'.length = found.length + ds.length ∧ Tin (k + ds.length) ts' := by
    intro ds
    induction ds with
    | nil => exact fun k ts left found x t _ _ _ _ _ hf => ⟨left, found, ts, x, rfl, hf, rfl, by simpa using t⟩
    | cons d ds ih =>
      intro k ts left found x t hk hl hl2 hl3 hle hfo
      simp only [List.length_cons] at hk hl hl3
      obtain ⟨v, ts1, e, hv, t1⟩ := draw (n := (left.length : Nat)) t (by omega) (by omega) (by omega)
      have hv' : v < left.length := by omega
      have e2 : mPopAt left [.int (v : Nat)] = .ok (left[v], left.eraseIdx v) := by
        unfold mPopAt
        simp only [seqIx hv']
        rw [if_pos (by rw [Bool.and_eq_true, decide_eq_true_eq, decide_eq_true_eq]; omega), List.getElem?_eq_getElem hv']
      have e3 : mAppend found [left[v]] = .ok (.non, found ++ [left[v]]) := by
        unfold mAppend
        simp only
        rw [if_pos (L2.small1000 (by omega))]
      obtain ⟨left', found', ts', x', h1, h2, h3, h4⟩ := ih (k + 1) ts1 (left.eraseIdx v) (found ++ [left[v]]) (some (.v d)) t1 (by omega) (by rw [List.length_eraseIdx_of_lt hv']; omega) (by rw [List.length_eraseIdx_of_lt hv']; omega) (by simp; omega) (fun d hd => hle d (List.mem_of_mem_eraseIdx hd)) (fun d hd => by
        rcases List.mem_append.mp hd with hd | hd
        · exact hfo d hd
        · rw [List.mem_singleton.mp hd]; exact hle _ (List.getElem_mem _))
      refine ⟨left', found', ts', x', ?_, h2, by rw [h3]; simp; omega, h4.mono (by simp; omega)⟩
      rw [ev_forL1, ev_bindT_nm]
      simp [dMut, mutEnd, isM, e, e2, e3, h1]
  have mn : bMin2 [.int (n : Nat), .int (gs.length : Nat)] = .ok (.int ((min n gs.length : Nat) : Int)) := by
    unfold bMin2
    dsimp only
    by_cases hh : (gs.length : Int) < n
    · rw [if_pos hh]; congr 2; omega
    · rw [if_neg hh]; congr 2; omega
  obtain ⟨q, hq⟩ : ∃ q, q = min n gs.length := ⟨_, rfl⟩
  rw [← hq] at mn
  obtain ⟨left', found', ts', x', h1, h2, h3, h4⟩ := go ((List.range q).map fun k => D.int (k : Nat)) k ts gs [] none t (by simp; omega) (by simp; omega) hg (by simp; omega) (fun d hd => hd) (fun d hd => (nomatch hd))
  rw [List.length_map, List.length_range] at h3 h4
  refine ⟨found', ts', ?_, h2, by rw [h3]; simp; omega, h4.mono (by omega)⟩
  have it := iR1 (n := q) (e := dCB bMin2 (dCons (dVar 2) (dCons (dCB bLen (dCons (dVar 3) dNil)) dNil))) (sl := [some (.m ts), some (.v (.lst gs)), some (.v (.int n)), some (.m gs), some (.m []), none]) (by simp [mn]) (by omega)
  show finT (m__law_pick [some (.m ts), some (.v (.lst gs)), some (.v (.int n)), none, none, none]) = _
  unfold m__law_pick
  rw [ev_mSeq]
  rw [show mPar [3, 4] [.l (dCL bList (dCons (dVar 1) dNil)), .l (dItems dNil)] [some (.m ts), some (.v (.lst gs)), some (.v (.int n)), none, none, none] = .nx [some (.m ts), some (.v (.lst gs)), some (.v (.int n)), some (.m gs), some (.m []), none] by simp [mPar, evCs, evC, setAll]]
  rw [ev_seq_nx, ev_mSeq, ev_mFor, it, ev_to_ok, h1, ev_seq_nx]
  rfl
end W

set_option Elab.async false
set_option linter.all false
set_option maxRecDepth 100000
set_option maxHeartbeats 4000000
namespace W
open F Las
/-! the same endless text, told otherwise -/
theorem re1 {a b : L} (i : Nat) : wd (a ++ b) b i = wd a b i := by
  by_cases h : i < a.length
  · rw [wd_lo (by rw [List.length_append]; omega), getD_append_lo h, wd_lo h]
  · by_cases h2 : i < a.length + b.length
    · rw [wd_lo (by rw [List.length_append]; omega), getD_append_hi (by omega), wd_hi (by omega), cyc_lt (by omega)]
    · rw [wd_hi (by rw [List.length_append]; omega), wd_hi (by omega), List.length_append, show i - a.length = i - (a.length + b.length) + b.length by omega]
      exact ((cyc_per b) _ (Nat.zero_le _)).symm
theorem cyc_flat {b : L} (hb : b ≠ []) {k : Nat} (hk : 0 < k) (i : Nat) : cyc (List.replicate k b).flatten i = cyc b i := by
  have hl : 0 < b.length := List.length_pos_iff.mpr hb
  unfold cyc
  rw [flat_len, flat_get _ _ (Nat.mod_lt _ (Nat.mul_pos hk hl)), Nat.mod_mod_of_dvd _ (Nat.dvd_mul_left _ _)]
theorem re2 {a b : L} (hb : b ≠ []) {k : Nat} (hk : 0 < k) (i : Nat) : wd a (List.replicate k b).flatten i = wd a b i := by
  unfold wd; rw [cyc_flat hb hk]
theorem re3 {a b : L} (hb : b ≠ []) (i : Nat) : wd (a ++ b.take 1) (b.drop 1 ++ b.take 1) i = wd a b i := by
  have hl : 0 < b.length := List.length_pos_iff.mpr hb
  have lt : (b.take 1).length = 1 := by rw [List.length_take]; omega
  have hlen : (b.drop 1 ++ b.take 1).length = b.length := by rw [List.length_append, List.length_drop, lt]; omega
  by_cases h : i < a.length
  · rw [wd_lo (by rw [List.length_append]; omega), getD_append_lo h, wd_lo h]
  · by_cases h2 : i = a.length
    · rw [wd_lo (by rw [List.length_append, lt]; omega), getD_append_hi (by omega), getD_take (by omega), wd_hi (by omega), cyc_lt (by omega)]
    · rw [wd_hi (by rw [List.length_append, lt]; omega), wd_hi (by omega), List.length_append, lt]
      unfold cyc
      rw [hlen]
      have hm := Nat.mod_lt (i - (a.length + 1)) hl
      have e : (i - a.length) % b.length = ((i - (a.length + 1)) % b.length + 1) % b.length := by
        rw [Nat.mod_add_mod]; congr 1; omega
      rw [e]
      obtain ⟨j, ej⟩ : ∃ j, j = (i - (a.length + 1)) % b.length := ⟨_, rfl⟩
      rw [← ej] at hm ⊢
      by_cases h3 : j < b.length - 1
      · rw [getD_append_lo (by rw [List.length_drop]; exact h3), getD_drop, Nat.mod_eq_of_lt (by omega), Nat.add_comm]
      · rw [getD_append_hi (by rw [List.length_drop]; omega), List.length_drop, getD_take (by omega), show j + 1 = b.length by omega, Nat.mod_self]
        congr 1; omega
end W

set_option Elab.async false
set_option linter.all false
set_option maxRecDepth 100000
set_option maxHeartbeats 4000000
namespace W
open F Las
theorem lc1 {v : Nat} {it : Lv} {e : Ev} {f : D → D} {ds : List D} {sl : Sl} (hi : it sl = .ok ds sl) (hn : noOwn sl [v] = true) (h : ∀ d ∈ ds, e (sl.set v (some (.v d))) = .ok (.v (f d)) (sl.set v (some (.v d)))) : dLc [v] (.nm v) cYes e it sl = .ok (ds.map f) sl :=
  dLc_map hi hn fun d hd => ⟨_, _, ev_bindT_nm, by
    show e ((sl.set v none).set v (some (.v d))) = _
    rw [List.set_set]; exact h d hd, by
    show (sl.set v (some (.v d))).set v none = sl.set v none
    rw [List.set_set]⟩
theorem lc1f {v : Nat} {it : Lv} {c : Sl → R Bool} {e : Ev} {p : D → Bool} {f : D → D} {ds : List D} {sl : Sl} (hi : it sl = .ok ds sl) (hn : noOwn sl [v] = true) (hc : ∀ d ∈ ds, c (sl.set v (some (.v d))) = .ok (p d) (sl.set v (some (.v d)))) (h : ∀ d ∈ ds, e (sl.set v (some (.v d))) = .ok (.v (f d)) (sl.set v (some (.v d)))) : dLc [v] (.nm v) c e it sl = .ok ((ds.filter p).map f) sl :=
  dLc_filter hi hn fun d hd => ⟨_, _, ev_bindT_nm, by
    show c ((sl.set v none).set v (some (.v d))) = _
    rw [List.set_set]; exact hc d hd, by
    show (sl.set v (some (.v d))).set v none = sl.set v none
    rw [List.set_set], fun _ => ⟨_, h d hd, by
    show (sl.set v (some (.v d))).set v none = sl.set v none
    rw [List.set_set]⟩⟩
theorem seq_step {whole a r : Sm} (hw : whole = mSeq a r) {s s' : Sl} (h : a s = .nx s') : whole s = r s' := by rw [hw, ev_mSeq, h, ev_seq_nx]
/-- told otherwise: the body of the loop, once -/
structure Told (w : Int) (a b c d : L) (n : Nat) : Prop where
  eq : ∀ i, wd c d i = wd a b i
  d0 : d ≠ []
  len : c.length + d.length ≤ n
  lc : letters w c
  ld : letters w d
abbrev body5 : Sm := (mSeq (mSet 13 (dCallT 2 M__law_take (dCons (dVar 1) (dCons (dC (.int 3)) dNil))))
    (mSeq (mIf (dBin dEq (dVar 13) (dC (.int 0))) (mSet 5 (dBin dAdd (dVar 5) (dVar 6))) (mIf (dBin dEq (dVar 13) (dC (.int 1))) (mSet 6 (dBin dMulT (dVar 6) (dBin dAdd (dC (.int 1)) (dCallT 2 M__law_take (dCons (dVar 1) (dCons (dC (.int 3)) dNil)))))) (mPar [5, 6] [.v (dBin dAdd (dVar 5) (dSl (dVar 6) dNoPart (dPart (dC (.int 1))))), .v (dBin dAdd (dSl (dVar 6) (dPart (dC (.int 1))) dNoPart) (dSl (dVar 6) dNoPart (dPart (dC (.int 1)))))])))
    (mIf (dBin dGt (dBin dAdd (dCB bLen (dCons (dVar 5) dNil)) (dCB bLen (dCons (dVar 6) dNil))) (dC (.int 24))) mBrk mNil)))
theorem end5 {x0 x2 x3 x4 x7 y : Option Sv} {ts : List D} {c d : L} : (mIf (dBin dGt (dBin dAdd (dCB bLen (dCons (dVar 5) dNil)) (dCB bLen (dCons (dVar 6) dNil))) (dC (.int 24))) mBrk mNil) [x0, some (.m ts), x2, x3, x4, some (.v (tI c)), some (.v (tI d)), x7, none, none, none, none, none, y, none, none] =
    if 24 < c.length + d.length then .bk [x0, some (.m ts), x2, x3, x4, some (.v (tI c)), some (.v (tI d)), x7, none, none, none, none, none, y, none, none] else .nx [x0, some (.m ts), x2, x3, x4, some (.v (tI c)), some (.v (tI d)), x7, none, none, none, none, none, y, none, none] := by
  by_cases h : 24 < c.length + d.length
  · have h' : (24 : Int) < (c.length : Int) + d.length := by omega
    simp [len_tI, h, h']
  · have h' : ¬ (24 : Int) < (c.length : Int) + d.length := by omega
    simp [len_tI, h, h']
theorem mid5 {x0 x2 x3 x4 x7 y : Option Sv} {ts : List D} {w : Int} {a b c d : L} {k : Int} (t : Tin k ts) (hk : k < 1000) (T : Told w a b c d 24) : ∃ (c' d' : L) (ts' : List D) (y' : Option Sv), (mSeq (mSet 13 (dCallT 2 M__law_take (dCons (dVar 1) (dCons (dC (.int 3)) dNil)))) (mIf (dBin dEq (dVar 13) (dC (.int 0))) (mSet 5 (dBin dAdd (dVar 5) (dVar 6))) (mIf (dBin dEq (dVar 13) (dC (.int 1))) (mSet 6 (dBin dMulT (dVar 6) (dBin dAdd (dC (.int 1)) (dCallT 2 M__law_take (dCons (dVar 1) (dCons (dC (.int 3)) dNil)))))) (mPar [5, 6] [.v (dBin dAdd (dVar 5) (dSl (dVar 6) dNoPart (dPart (dC (.int 1))))), .v (dBin dAdd (dSl (dVar 6) (dPart (dC (.int 1))) dNoPart) (dSl (dVar 6) dNoPart (dPart (dC (.int 1)))))])))) [x0, some (.m ts), x2, x3, x4, some (.v (tI c)), some (.v (tI d)), x7, none, none, none, none, none, y, none, none] = .nx [x0, some (.m ts'), x2, x3, x4, some (.v (tI c')), some (.v (tI d')), x7, none, none, none, none, none, y', none, none] ∧ Told w a b c' d' 100 ∧ Tin (k + 2) ts' := by
  obtain ⟨u, ts1, e1, hu, t1⟩ := draw (n := 3) t (by omega) (by omega) (by omega)
  have hl : 0 < d.length := List.length_pos_iff.mpr T.d0
  have ll := T.len
  rcases (by omega : u = 0 ∨ u = 1 ∨ u = 2) with rfl | rfl | rfl
  · simp at e1
    have ad := add_tI (xs := c) (ys := d) (by omega)
    exact ⟨c ++ d, d, ts1, some (.v (.int 0)), by simp [e1, ad], ⟨fun i => by rw [re1, T.eq], T.d0, by rw [List.length_append]; omega, letters_app T.lc T.ld, T.ld⟩, t1.mono (by omega)⟩
  · simp at e1
    obtain ⟨v, ts2, e2, hv, t2⟩ := draw (n := 3) t1 (by omega) (by omega) (by omega)
    have mu := mul_tI (xs := d) (k := 1 + v) (by omega) (by omega) T.d0 (by omega)
    have mu' : dMulT (tI d) (.int (1 + (v : Int))) = .ok (tI (List.replicate (1 + v) d).flatten) := by
      rw [show (1 + (v : Int)) = ((1 + v : Nat) : Int) by omega]; exact mu
    have lf : (List.replicate (1 + v) d).flatten.length = (1 + v) * d.length := flat_len _
    have l15 : (1 + v) * d.length ≤ 3 * d.length := Nat.mul_le_mul_right _ (by omega)
    have lp : 0 < (1 + v) * d.length := Nat.mul_pos (by omega) hl
    exact ⟨c, (List.replicate (1 + v) d).flatten, ts2, some (.v (.int 1)), by simp [e1, e2, mu'], ⟨fun i => by rw [re2 T.d0 (by omega), T.eq], fun z => by rw [z] at lf; simp at lf; omega, by omega, T.lc, letters_flat T.ld _⟩, t2.mono (by omega)⟩
  · simp at e1
    have ad1 := add_tI (xs := c) (ys := d.take 1) (by rw [List.length_take]; omega)
    have ad2 := add_tI (xs := d.drop 1) (ys := d.take 1) (by rw [List.length_drop, List.length_take]; omega)
    have sl1 : ∀ {sl : Sl}, sliceO (some (tI d)) none (some 1) sl = .ok (.v (tI (d.take 1))) sl := fun {sl} => slice_to (k := 1)
    have sl2 : ∀ {sl : Sl}, sliceO (some (tI d)) (some 1) none sl = .ok (.v (tI (d.drop 1))) sl := fun {sl} => slice_rest (k := 1)
    refine ⟨c ++ d.take 1, d.drop 1 ++ d.take 1, ts1, some (.v (.int 2)), by simp [- List.drop_one, e1, sl1, sl2, ad1, ad2, mPar, evCs, evC, setAll], ⟨fun i => by rw [re3 T.d0, T.eq], fun z => ?_, ?_, letters_app T.lc (letters_take T.ld 1), letters_app (letters_drop T.ld 1) (letters_take T.ld 1)⟩, t1.mono (by omega)⟩
    · have := congrArg List.length z
      rw [List.length_append, List.length_drop, List.length_take, List.length_nil] at this; omega
    · rw [List.length_append, List.length_append, List.length_drop, List.length_take]; omega
end W

set_option Elab.async false
set_option linter.all false
set_option maxRecDepth 100000
set_option maxHeartbeats 4000000
namespace W
open F Las
theorem seq_assoc {a b c : Sm} {sl sl' : Sl} (h : mSeq a b sl = .nx sl') : mSeq a (mSeq b c) sl = c sl' := by
  rw [ev_mSeq] at h ⊢
  cases e : a sl with
  | nx s1 => rw [e] at h; rw [ev_seq_nx] at h ⊢; rw [ev_mSeq, h, ev_seq_nx]
  | _ => rw [e] at h; simp at h
theorem loop5 {x0 x2 x3 x4 : Option Sv} {w : Int} {a b : L} : ∀ (ds : List D) (x7 y : Option Sv) (ts : List D) (c d : L) (k : Int), Tin k ts → k + 2 * ds.length < 1000 → Told w a b c d 24 → ∃ (c' d' : L) (ts' : List D) (x7' y' : Option Sv),
    forL (.nm 7) body5 ds [x0, some (.m ts), x2, x3, x4, some (.v (tI c)), some (.v (tI d)), x7, none, none, none, none, none, y, none, none] = .nx [x0, some (.m ts'), x2, x3, x4, some (.v (tI c')), some (.v (tI d')), x7', none, none, none, none, none, y', none, none] ∧ Told w a b c' d' 100 ∧ Tin (k + 2 * ds.length) ts'
  | [], x7, y, ts, c, d, k, t, _, T => ⟨c, d, ts, x7, y, rfl, ⟨T.eq, T.d0, by have := T.len; omega, T.lc, T.ld⟩, by simpa using t⟩
  | e :: ds, x7, y, ts, c, d, k, t, hk, T => by
    simp only [List.length_cons] at hk
    obtain ⟨c1, d1, ts1, y1, h1, T1, t1⟩ := mid5 (x0 := x0) (x2 := x2) (x3 := x3) (x4 := x4) (x7 := some (.v e)) (y := y) t (by omega) T
    have hb : body5 [x0, some (.m ts), x2, x3, x4, some (.v (tI c)), some (.v (tI d)), some (.v e), none, none, none, none, none, y, none, none] = _ := (seq_assoc h1).trans end5
    rw [ev_forL1, ev_bindT_nm]
    simp only [List.set_cons_succ, List.set_cons_zero]
    rw [hb]
    by_cases hc : 24 < c1.length + d1.length
    · rw [if_pos hc, ev_step_bk]
      exact ⟨c1, d1, ts1, _, _, rfl, T1, t1.mono (by simp; omega)⟩
    · rw [if_neg hc, ev_step_nx]
      obtain ⟨c', d', ts', x7', y', g1, g2, g3⟩ := loop5 ds (some (.v e)) y1 ts1 c1 d1 (k + 2) t1 (by omega) ⟨T1.eq, T1.d0, by omega, T1.lc, T1.ld⟩
      exact ⟨c', d', ts', x7', y', g1, g2, g3.mono (by simp; omega)⟩
end W

set_option Elab.async false
set_option linter.all false
set_option maxRecDepth 100000
set_option maxHeartbeats 4000000
namespace W
open F Las

theorem h1 {sc : D} {ts : List D} {k : Int} (t : Tin k ts) (hk : k < 1000) : ∃ (W : Nat) (ts' : List D), law_1 [some (.v sc), some (.m ts), none, none, none, none, none, none, none, none, none, none, none, none, none, none] = .nx [some (.v sc), some (.m ts'), some (.v (.int (W : Nat))), none, none, none, none, none, none, none, none, none, none, none, none, none] ∧ 0 < W ∧ W ≤ 2 ∧ Tin (k + 1) ts' := by
  obtain ⟨u, ts1, e1, hu, t1⟩ := draw (n := 2) t (by omega) (by omega) (by omega)
  refine ⟨1 + u, ts1, ?_, by omega, by omega, t1⟩
  simp [law_1, e1]
theorem ev_all {W : Nat} (h0 : 0 < W) (h1 : W ≤ 2) : M__law_lassos [.int W, .int 5] = .ok (.lst (every W)) ∧ (every W).all (chk W) = true := by
  rcases (by omega : W = 1 ∨ W = 2) with rfl | rfl
  · exact ⟨every1, chk1⟩
  · exact ⟨every2, chk2⟩
theorem h2 {sc : D} {ts : List D} {W : Nat} (h0 : 0 < W) (h1 : W ≤ 2) : law_2 [some (.v sc), some (.m ts), some (.v (.int (W : Nat))), none, none, none, none, none, none, none, none, none, none, none, none, none] = .nx [some (.v sc), some (.m ts), some (.v (.int (W : Nat))), some (.v (.lst (every W))), none, none, none, none, none, none, none, none, none, none, none, none] := by
  simp [law_2, (ev_all h0 h1).1]
theorem ev_len {W : Nat} (h0 : 0 < W) (h1 : W ≤ 2) : every W ≠ [] ∧ (every W).length ≤ 900 := by
  rcases (by omega : W = 1 ∨ W = 2) with rfl | rfl
  · have e : (!(every 1).isEmpty && decide ((every 1).length ≤ 900)) = true := by kernel_rfl
    rw [Bool.and_eq_true, decide_eq_true_eq] at e
    exact ⟨fun z => by rw [show every ((1 : Nat) : Int) = every 1 from rfl] at z; rw [z] at e; simp at e, e.2⟩
  · have e : (!(every 2).isEmpty && decide ((every 2).length ≤ 900)) = true := by kernel_rfl
    rw [Bool.and_eq_true, decide_eq_true_eq] at e
    exact ⟨fun z => by rw [show every ((2 : Nat) : Int) = every 2 from rfl] at z; rw [z] at e; simp at e, e.2⟩
theorem h3 {sc : D} {ts : List D} {W : Nat} {k : Int} (t : Tin k ts) (hk : k < 1000) (h0 : 0 < W) (h1 : W ≤ 2) : ∃ (a b : L) (ts' : List D), law_3 [some (.v sc), some (.m ts), some (.v (.int (W : Nat))), some (.v (.lst (every W))), none, none, none, none, none, none, none, none, none, none, none, none] = .nx [some (.v sc), some (.m ts'), some (.v (.int (W : Nat))), some (.v (.lst (every W))), some (.v (lasD a b)), none, none, none, none, none, none, none, none, none, none, none] ∧ (Norm a b ∧ a.length + b.length ≤ 5 ∧ letters W a ∧ letters W b) ∧ Tin (k + 1) ts' := by
  obtain ⟨g, ts1, e1, hg, t1⟩ := of_law (gs := every W) t (by omega) (ev_len h0 h1).1 (by have := (ev_len h0 h1).2; omega)
  obtain ⟨a, b, rfl, n1, n2, n3, n4⟩ := chk_spec (List.all_eq_true.mp (ev_all h0 h1).2 g hg)
  exact ⟨a, b, ts1, by simp [law_3, e1], ⟨n1, n2, n3, n4⟩, t1⟩
theorem h4 {sc : D} {ts : List D} {W : Nat} {a b : L} : law_4 [some (.v sc), some (.m ts), some (.v (.int (W : Nat))), some (.v (.lst (every W))), some (.v (lasD a b)), none, none, none, none, none, none, none, none, none, none, none] = .nx [some (.v sc), some (.m ts), some (.v (.int (W : Nat))), some (.v (.lst (every W))), some (.v (lasD a b)), some (.v (tI a)), some (.v (tI b)), none, none, none, none, none, none, none, none, none] := by
  simp [law_4, lasD]
theorem h5 {sc : D} {ts : List D} {W : Nat} {a b : L} {k : Int} (t : Tin k ts) (hk : k < 100) (hb : b ≠ []) (hl : a.length + b.length ≤ 5) (la : letters W a) (lb : letters W b) : ∃ (c d : L) (ts' : List D) (l7 kd : Option Sv), law_5 [some (.v sc), some (.m ts), some (.v (.int (W : Nat))), some (.v (.lst (every W))), some (.v (lasD a b)), some (.v (tI a)), some (.v (tI b)), none, none, none, none, none, none, none, none, none] = .nx [some (.v sc), some (.m ts'), some (.v (.int (W : Nat))), some (.v (.lst (every W))), some (.v (lasD a b)), some (.v (tI c)), some (.v (tI d)), l7, none, none, none, none, none, kd, none, none] ∧ Told W a b c d 100 ∧ Tin (k + 9) ts' := by
  obtain ⟨u, ts1, e1, hu, t1⟩ := draw (n := 4) t (by omega) (by omega) (by omega)
  obtain ⟨c, d, ts', l7, kd, g1, g2, g3⟩ := loop5 (x0 := some (.v sc)) (x2 := some (.v (.int (W : Nat)))) (x3 := some (.v (.lst (every W)))) (x4 := some (.v (lasD a b))) (w := W) (a := a) (b := b) ((List.range (1 + u)).map fun k => D.int (k : Nat)) none none ts1 a b (k + 1) t1 (by simp; omega) ⟨fun _ => rfl, hb, by omega, la, lb⟩
  refine ⟨c, d, ts', l7, kd, ?_, g2, g3.mono (by simp; omega)⟩
  have rg : rgOk 0 (1 + (u : Int)) = true := by unfold rgOk; exact ev_fits (by omega)
  have rr : rgD 0 (1 + (u : Int)) = (List.range (1 + u)).map fun k => D.int (k : Nat) := by
    unfold rgD
    rw [show (1 + (u : Int) - 0).toNat = 1 + u by omega]
    exact List.map_congr_left fun k _ => by simp
  show mFor _ _ body5 _ = _
  rw [ev_mFor, ev_iRange1]
  simp only [ev_dBin, ev_dC, ev_bind_ok]
  simp only [ev_dCallT, ev_dCons, ev_dVar, ev_dC, ev_dNil, List.getElem?_cons_succ, List.getElem?_cons_zero, ev_bind_ok, ev_asVs1, ev_asVs0, List.length_cons, List.length_nil, if_true, e1]
  simp only [ev_two op_add_i, List.set_cons_succ, List.set_cons_zero, ev_bind_ok, getS, rg, rr, if_true, ev_to_ok]
  exact g1
theorem h6 {sc : D} {ts : List D} {W : Nat} {a b c d : L} {l7 kd : Option Sv} : law_6 [some (.v sc), some (.m ts), some (.v (.int (W : Nat))), some (.v (.lst (every W))), some (.v (lasD a b)), some (.v (tI c)), some (.v (tI d)), l7, none, none, none, none, none, kd, none, none] = .nx [some (.v sc), some (.m ts), some (.v (.int (W : Nat))), some (.v (.lst (every W))), some (.v (lasD a b)), some (.v (tI c)), some (.v (tI d)), l7, some (.v (lasD c d)), none, none, none, none, kd, none, none] := by
  simp [law_6, lasD]

theorem lists_ints {j : Nat} {xs : L} : M__law_lists (j + 2) [tI xs] = .ok (lI xs) := by
  have key := lc1 (v := 1) (it := iSeq (dVar 0)) (e := dCall 1 (M__law_lists (j + 1)) (dCons (dVar 1) dNil)) (f := id) (ds := xs.map .int) (sl := [some (.v (tI xs)), none]) (by simp [tI]) rfl fun x hx => by
    obtain ⟨y, _, rfl⟩ := List.mem_map.mp hx
    have : M__law_lists (j + 1) [.int y] = .ok (.int y) := rfl
    simp [this]
  rw [List.map_id] at key
  have hi : isTy (tI xs) "list" = false := rfl
  have hi2 : isTy (tI xs) "tuple" = true := rfl
  show fin (m__law_lists (M__law_lists (j + 1)) [some (.v (tI xs)), none]) = _
  simp [m__law_lists, hi, hi2, key, lI]
theorem lists_las {a b : L} : M__law_lists 20 [lasD a b] = .ok (lasL a b) := by
  have key := lc1 (v := 1) (it := iSeq (dVar 0)) (e := dCall 1 (M__law_lists 19) (dCons (dVar 1) dNil)) (f := fun d => match d with | .tup xs => .lst xs | d => d) (ds := [tI a, tI b]) (sl := [some (.v (lasD a b)), none]) (by simp [lasD]) rfl fun x hx => by
    have l1 : M__law_lists 19 [tI a] = .ok (lI a) := lists_ints (j := 17)
    have l2 : M__law_lists 19 [tI b] = .ok (lI b) := lists_ints (j := 17)
    simp only [List.mem_cons, List.not_mem_nil, or_false] at hx
    rcases hx with rfl | rfl
    · simp [l1]; rfl
    · simp [l2]; rfl
  have hi : isTy (lasD a b) "list" = false := rfl
  have hi2 : isTy (lasD a b) "tuple" = true := rfl
  show fin (m__law_lists (M__law_lists 19) [some (.v (lasD a b)), none]) = _
  simp [m__law_lists, hi, hi2, key]
  rfl
theorem fa_none {f g : Nat → Int} {n : Nat} (h : ∀ i, f i = g i) : faD f g n = .non := by
  unfold faD
  rw [List.find?_eq_none.mpr fun x _ => by simp [h]]
theorem q7 {sc : D} {ts : List D} {W : Nat} {a b c d : L} {l7 kd : Option Sv} (h1 : Good (lasD a b) a b) (hl : Good (lasL a b) a b) (h2 : Good (lasD c d) c d) (hn : Norm a b) (he : ∀ i, wd c d i = wd a b i) (hb : max a.length c.length + b.length + d.length ≤ 1000) : law_7 [some (.v sc), some (.m ts), some (.v (.int (W : Nat))), some (.v (.lst (every W))), some (.v (lasD a b)), some (.v (tI c)), some (.v (tI d)), l7, some (.v (lasD c d)), none, none, none, none, kd, none, none] = .nx [some (.v sc), some (.m ts), some (.v (.int (W : Nat))), some (.v (.lst (every W))), some (.v (lasD a b)), some (.v (tI c)), some (.v (tI d)), l7, some (.v (lasD c d)), some (.v (.lst [lasD a b, .bl true, .bl true, .non, .bl (decide (c = a ∧ d = b)), .bl true])), none, none, none, kd, none, none] := by
  have e0 : short c d = (a, b) := by rw [← short_of_norm hn]; exact (short_eq_iff h2.b0 h1.b0).mpr he
  have e1 := e_lasso_short h2
  have e2 := e_same_endless h2 h1
  have e3 := e_same_endless hl h2
  have e4 := e_first_apart h2 h1 (by omega)
  have e5 := e_is_short h2
  have e6 := e_is_short h1
  rw [e0] at e1 e5
  rw [e0, short_of_norm hn, decide_eq_true rfl] at e2 e3
  rw [fa_none he] at e4
  rw [short_of_norm hn, decide_eq_true rfl] at e6
  rw [show decide ((a, b) = (c, d)) = decide (c = a ∧ d = b) by rw [decide_eq_decide]; exact ⟨fun z => by cases z; exact ⟨rfl, rfl⟩, fun z => by rw [z.1, z.2]⟩] at e5
  simp (maxDischargeDepth := 9) [law_7, e1, e2, e3, e4, e5, e6, lists_las]
theorem okD_ints {j : Nat} {xs : L} : (xs.map D.int).all (okD (j + 1)) = true := by
  rw [List.all_map, List.all_eq_true]
  exact fun _ _ => rfl
theorem okD_tI {j : Nat} {xs : L} : okD (j + 2) (tI xs) = true := okD_ints
theorem okD_las {j : Nat} {a b : L} : okD (j + 3) (lasD a b) = true := by
  show (okD (j + 2) (tI a) && (okD (j + 2) (tI b) && true)) = true
  rw [okD_tI, okD_tI]; rfl
theorem same_if {e : Ev} {i : Nat} {x : D} {sl : Sl} (h1 : dVar i sl = .ok (.v x) sl) (h2 : e sl = .ok (.v x) sl) (ok : okD 20 x = true) : (mIf (dNot (dCall 2 (M__law_same 20) (dCons (dVar i) (dCons e dNil)))) (mRet (dC (.bl false))) mNil) sl = .nx sl := by
  simp only [ev_mIf, ev_dB, ev_dNot, ev_dCall, ev_dCons, h1, h2, ev_bind_ok, ev_dNil, ev_asVs1, ev_asVs0, ev_ari, List.length_cons, List.length_nil, same_refl 20 x ok, if_true, ev_asB]
  rfl
theorem q8 {sc : D} {ts : List D} {W : Nat} {a b c d : L} {l7 kd : Option Sv} : law_8 [some (.v sc), some (.m ts), some (.v (.int (W : Nat))), some (.v (.lst (every W))), some (.v (lasD a b)), some (.v (tI c)), some (.v (tI d)), l7, some (.v (lasD c d)), some (.v (.lst [lasD a b, .bl true, .bl true, .non, .bl (decide (c = a ∧ d = b)), .bl true])), none, none, none, kd, none, none] = .nx [some (.v sc), some (.m ts), some (.v (.int (W : Nat))), some (.v (.lst (every W))), some (.v (lasD a b)), some (.v (tI c)), some (.v (tI d)), l7, some (.v (lasD c d)), some (.v (.lst [lasD a b, .bl true, .bl true, .non, .bl (decide (c = a ∧ d = b)), .bl true])), none, none, none, kd, none, none] := by
  have e1 := eq_las (a := c) (b := d) (c := a) (d := b)
  refine same_if (x := .lst [lasD a b, .bl true, .bl true, .non, .bl (decide (c = a ∧ d = b)), .bl true]) rfl ?_ ?_
  · simp (maxDischargeDepth := 9) [e1]
  · simp only [okD, List.all_cons, List.all_nil, Bool.and_true, okD_las, Bool.and_self]

theorem fa_spec {f g : Nat → Int} {n : Nat} : (faD f g n = .non ∧ ∀ i, i < n → f i = g i) ∨ (∃ p : Nat, faD f g n = .int p ∧ 1 ≤ p ∧ p ≤ n ∧ f (p - 1) ≠ g (p - 1) ∧ ∀ q, 1 ≤ q → q < p → f (q - 1) = g (q - 1)) := by
  unfold faD
  cases h : (List.range' 1 n).find? (fun p => decide (f (p - 1) ≠ g (p - 1))) with
  | none =>
    left
    refine ⟨rfl, fun i hi => ?_⟩
    have := List.find?_eq_none.mp h (i + 1) (by rw [List.mem_range'_1]; omega)
    simpa using this
  | some p =>
    right
    have h1 := List.find?_some h
    have h2 := List.mem_of_find?_eq_some h
    rw [List.mem_range'_1] at h2
    refine ⟨p, rfl, h2.1, by omega, by simpa using h1, fun q q1 q2 => ?_⟩
    obtain ⟨_, as, bs, e, hall⟩ := List.find?_eq_some_iff_append.mp h
    have hq : q ∈ List.range' 1 n := by rw [List.mem_range'_1]; omega
    rw [e] at hq
    rcases List.mem_append.mp hq with hq | hq
    · simpa using hall q hq
    · have hs : (as ++ p :: bs).Pairwise (· < ·) := by rw [← e]; exact List.pairwise_lt_range'
      have hp := (List.pairwise_append.mp hs).2.1
      rcases List.mem_cons.mp hq with rfl | hq
      · omega
      · have := (List.pairwise_cons.mp hp).1 q hq; omega
abbrev body9 : Sm := (mSeq (mSet 14 (dCall 2 M_first_apart (dCons (dVar 4) (dCons (dVar 10) dNil))))
    (mSeq (mIf (dOr (dNot (dCall 2 (M__law_same 20) (dCons (dL (dItems (dCons (dCall 1 M_is_short (dCons (dVar 10) dNil)) (dCons (dCall 2 M_same_endless (dCons (dVar 8) (dCons (dVar 10) dNil))) (dCons (dCall 1 M_lasso_short (dCons (dVar 10) dNil)) dNil))))) (dCons (dL (dItems (dCons (dC (.bl true)) (dCons (dBin dEq (dVar 4) (dVar 10)) (dCons (dVar 10) dNil))))) dNil)))) (dBin dNe (dBin (dIs false) (dVar 14) (dC .non)) (dBin dEq (dVar 4) (dVar 10)))) (mRet (dC (.bl false))) mNil)
    (mSeq (mIf (dAnd (dBin (dIs true) (dVar 14) (dC .non)) (dOr (dBin dEq (dCall 2 M_letter_at (dCons (dVar 8) (dCons (dVar 14) dNil))) (dCall 2 M_letter_at (dCons (dVar 10) (dCons (dVar 14) dNil)))) (dBin dNe (dL (dLc [15] (.nm 15) (dB (dBin dNe (dCall 2 M_letter_at (dCons (dVar 4) (dCons (dVar 15) dNil))) (dCall 2 M_letter_at (dCons (dVar 10) (dCons (dVar 15) dNil))))) (dC (.int 1)) (iRange2 (dC (.int 1)) (dVar 14)))) (dL (dItems dNil))))) (mRet (dC (.bl false))) mNil)
    (mIf (dAnd (dBin dNe (dVar 10) (dVar 4)) (dAnd (dBin dLe (dBin dAdd (dCB bLen (dCons (dBin dIx (dVar 10) (dC (.int 0))) dNil)) (dCB bLen (dCons (dBin dIx (dVar 10) (dC (.int 1))) dNil))) (dBin dAdd (dCB bLen (dCons (dBin dIx (dVar 4) (dC (.int 0))) dNil)) (dCB bLen (dCons (dBin dIx (dVar 4) (dC (.int 1))) dNil)))) (dBin (dIs false) (dVar 14) (dC .non)))) (mRet (dC (.bl false))) mNil))))

theorem step9 {sc gt : D} {ts : List D} {W : Nat} {a b c d e f : L} {l7 kd x14 : Option Sv} (h1 : Good (lasD a b) a b) (h2 : Good (lasD c d) c d) (h3 : Good (lasD e f) e f) (hn : Norm a b) (hm : Norm e f) (he : ∀ i, wd c d i = wd a b i) (hb : max a.length e.length + b.length + f.length ≤ 900) : ∃ pl : D, body9 [some (.v sc), some (.m ts), some (.v (.int (W : Nat))), some (.v (.lst (every W))), some (.v (lasD a b)), some (.v (tI c)), some (.v (tI d)), l7, some (.v (lasD c d)), some (.v gt), some (.v (lasD e f)), none, none, kd, x14, none] = .nx [some (.v sc), some (.m ts), some (.v (.int (W : Nat))), some (.v (.lst (every W))), some (.v (lasD a b)), some (.v (tI c)), some (.v (tI d)), l7, some (.v (lasD c d)), some (.v gt), some (.v (lasD e f)), none, none, kd, some (.v pl), none] := by
  have sc0 : short c d = (a, b) := by rw [← short_of_norm hn]; exact (short_eq_iff h2.b0 h1.b0).mpr he
  have se : short e f = (e, f) := short_of_norm hm
  have e1 := e_is_short h3
  rw [se, decide_eq_true rfl] at e1
  have e2 := e_same_endless h2 h3
  rw [sc0, se] at e2
  have e3 := e_lasso_short h3
  rw [se] at e3
  have e4 := e_first_apart h1 h3 (by omega)
  have e5 := eq_las (a := a) (b := b) (c := e) (d := f)
  have e6 := ne_las (a := e) (b := f) (c := a) (d := b)
  have is1 : ∀ p : Int, dIs false (.int p) .non = .ok (.bl false) := fun _ => rfl
  have is2 : dIs false .non .non = .ok (.bl true) := rfl
  have is3 : ∀ p : Int, dIs true (.int p) .non = .ok (.bl true) := fun _ => rfl
  have is4 : dIs true .non .non = .ok (.bl false) := rfl
  have ok : ∀ x : Bool, M__law_same 20 [.lst [.bl true, .bl x, lasD e f], .lst [.bl true, .bl x, lasD e f]] = .ok (.bl true) := fun x => same_refl 20 _ (by simp only [okD, List.all_cons, List.all_nil, Bool.and_true, okD_las, Bool.and_self])
  by_cases hq : a = e ∧ b = f
  · obtain ⟨rfl, rfl⟩ := hq
    rw [fa_none (fun _ => rfl)] at e4
    rw [decide_eq_true rfl] at e2
    rw [decide_eq_true ⟨rfl, rfl⟩] at e5 e6
    refine ⟨.non, ?_⟩
    simp (maxDischargeDepth := 9) [body9, e1, e2, e3, e4, e5, e6, is2, is4, ok]
  · have hq' : ¬ (a, b) = (e, f) := fun z => hq (by cases z; exact ⟨rfl, rfl⟩)
    have hq'' : ¬ (e = a ∧ f = b) := fun z => hq ⟨z.1.symm, z.2.symm⟩
    rw [decide_eq_false hq'] at e2
    rw [decide_eq_false hq] at e5
    rw [decide_eq_false hq''] at e6
    rcases fa_spec (f := wd a b) (g := wd e f) (n := max a.length e.length + b.length + f.length) with ⟨_, g2⟩ | ⟨p, g1, g2, g3, g4, g5⟩
    · exfalso
      have := norm_uniq hn hm (far_enough h1.b0 h3.b0 (Nat.le_refl _) g2)
      exact hq this
    · rw [g1] at e4
      refine ⟨.int p, ?_⟩
      have l1 := e_letter_at h2 (p := p) g2 (by omega)
      have l2 := e_letter_at h3 (p := p) g2 (by omega)
      rw [he] at l1
      have key := lc1f (v := 15) (it := iRange2 (dC (.int 1)) (dVar 14)) (c := dB (dBin dNe (dCall 2 M_letter_at (dCons (dVar 4) (dCons (dVar 15) dNil))) (dCall 2 M_letter_at (dCons (dVar 10) (dCons (dVar 15) dNil))))) (e := dC (.int 1)) (p := fun _ => false) (f := fun _ => .int 1) (ds := (List.range' 1 (p - 1)).map fun k => D.int (k : Nat)) (sl := [some (.v sc), some (.m ts), some (.v (.int (W : Nat))), some (.v (.lst (every W))), some (.v (lasD a b)), some (.v (tI c)), some (.v (tI d)), l7, some (.v (lasD c d)), some (.v gt), some (.v (lasD e f)), none, none, kd, some (.v (.int (p : Nat))), none]) (by
          have := rgD_nat (p - 1)
          rw [show ((p - 1 : Nat) : Int) + 1 = p by omega] at this
          have rg : rgOk 1 (p : Int) = true := by unfold rgOk; exact ev_fits (by omega)
          simp [rg, this]) rfl (fun x hx => by
        obtain ⟨k, hk, rfl⟩ := List.mem_map.mp hx
        rw [List.mem_range'_1] at hk
        have l3 := e_letter_at h1 (p := k) hk.1 (by omega)
        have l4 := e_letter_at h3 (p := k) hk.1 (by omega)
        have := g5 k hk.1 (by omega)
        simp [l3, l4, this]) (fun x hx => rfl)
      rw [show ((List.range' 1 (p - 1)).map fun k => D.int (k : Nat)).filter (fun _ => false) = [] from List.filter_eq_nil_iff.mpr fun _ _ => by simp] at key
      have nn : dNe (.lst []) (.lst []) = .ok (.bl false) := rfl
      simp (maxDischargeDepth := 9) [body9, e1, e2, e3, e4, e5, e6, is1, is3, ok, l1, l2, g4, key, nn]
      by_cases hlen : (e.length : Int) + f.length ≤ a.length + b.length <;> simp [ix0, ix1, len_tI, hlen, is1]
end W

set_option Elab.async false
set_option linter.all false
set_option maxRecDepth 100000
set_option maxHeartbeats 4000000
namespace W
open F Las

theorem loop9 {sc gt : D} {ts : List D} {W : Nat} {a b c d : L} {l7 kd : Option Sv} (hW : (W : Int) ≤ 3) (h1 : Good (lasD a b) a b) (h2 : Good (lasD c d) c d) (hn : Norm a b) (he : ∀ i, wd c d i = wd a b i) (hl : a.length + b.length ≤ 5) : ∀ (ds : List D) (x10 x14 : Option Sv), (∀ g ∈ ds, chk W g = true) → ∃ y10 y14, forL (.nm 10) body9 ds [some (.v sc), some (.m ts), some (.v (.int (W : Nat))), some (.v (.lst (every W))), some (.v (lasD a b)), some (.v (tI c)), some (.v (tI d)), l7, some (.v (lasD c d)), some (.v gt), x10, none, none, kd, x14, none] = .nx [some (.v sc), some (.m ts), some (.v (.int (W : Nat))), some (.v (.lst (every W))), some (.v (lasD a b)), some (.v (tI c)), some (.v (tI d)), l7, some (.v (lasD c d)), some (.v gt), y10, none, none, kd, y14, none]
  | [], x10, x14, _ => ⟨x10, x14, rfl⟩
  | g :: ds, x10, x14, h => by
    obtain ⟨e, f, rfl, n1, n2, n3, n4⟩ := chk_spec (h g (by simp))
    obtain ⟨pl, hp⟩ := step9 (sc := sc) (gt := gt) (ts := ts) (W := W) (l7 := l7) (kd := kd) (x14 := x14) h1 h2 (e := e) (f := f) ⟨.inl rfl, n3.mono hW, n4.mono hW, n1.1, by omega, by omega⟩ hn n1 he (by omega)
    obtain ⟨y10, y14, hy⟩ := loop9 hW h1 h2 hn he hl ds (some (.v (lasD e f))) (some (.v pl)) fun g hg => h g (by simp [hg])
    refine ⟨y10, y14, ?_⟩
    rw [ev_forL1, ev_bindT_nm]
    simp only [List.set_cons_succ, List.set_cons_zero]
    rw [hp, ev_step_nx, hy]

theorem q9 {sc gt : D} {ts : List D} {W : Nat} {a b c d : L} {l7 kd : Option Sv} {k : Int} (t : Tin k ts) (hk : k < 500) (h0 : 0 < W) (hw : W ≤ 2) (h1 : Good (lasD a b) a b) (h2 : Good (lasD c d) c d) (hn : Norm a b) (he : ∀ i, wd c d i = wd a b i) (hl : a.length + b.length ≤ 5) : ∃ (ts' : List D) (x10 x14 : Option Sv), law_9 [some (.v sc), some (.m ts), some (.v (.int (W : Nat))), some (.v (.lst (every W))), some (.v (lasD a b)), some (.v (tI c)), some (.v (tI d)), l7, some (.v (lasD c d)), some (.v gt), none, none, none, kd, none, none] = .nx [some (.v sc), some (.m ts'), some (.v (.int (W : Nat))), some (.v (.lst (every W))), some (.v (lasD a b)), some (.v (tI c)), some (.v (tI d)), l7, some (.v (lasD c d)), some (.v gt), x10, none, none, kd, x14, none] ∧ Tin (k + 12) ts' := by
  obtain ⟨fs, ts1, e1, m1, _, t1⟩ := e_pick (n := 12) (gs := every W) t (by omega) (by omega) (ev_len h0 hw).2
  have hch : ∀ g ∈ fs, chk W g = true := fun g hg => List.all_eq_true.mp (ev_all h0 hw).2 g (m1 g hg)
  obtain ⟨y10, y14, hy⟩ := loop9 (sc := sc) (gt := gt) (ts := ts1) (W := W) (l7 := l7) (kd := kd) (by omega) h1 h2 hn he hl fs none none hch
  refine ⟨ts1, y10, y14, ?_, t1⟩
  have e1' : M__law_pick ts [.lst (every W), .int 12] = .ok (.lst fs, ts1) := e1
  show mFor (.nm 10) _ body9 _ = _
  rw [ev_mFor]
  simp [- ev_forL0, e1']
  exact hy

theorem q10 {sc gt : D} {ts : List D} {W : Nat} {a b c d : L} {l7 kd x10 x14 : Option Sv} {k : Int} (t : Tin k ts) (hk : k < 600) (h0 : 0 < W) (hw : W ≤ 2) : ∃ (tx : L) (ts' : List D), law_10 [some (.v sc), some (.m ts), some (.v (.int (W : Nat))), some (.v (.lst (every W))), some (.v (lasD a b)), some (.v (tI c)), some (.v (tI d)), l7, some (.v (lasD c d)), some (.v gt), x10, none, none, kd, x14, none] = .nx [some (.v sc), some (.m ts'), some (.v (.int (W : Nat))), some (.v (.lst (every W))), some (.v (lasD a b)), some (.v (tI c)), some (.v (tI d)), l7, some (.v (lasD c d)), some (.v gt), x10, some (.v (tI tx)), none, kd, x14, none] ∧ tx.length ≤ 4 ∧ letters 3 tx ∧ Tin (k + 5) ts' := by
  obtain ⟨u, ts1, e1, hu, t1⟩ := draw (n := 4) t (by omega) (by omega) (by omega)
  obtain ⟨tx, ts2, e2, l2, l3, t2⟩ := e_row (w := W) (1 + u) t1 (by omega) (by omega) h0 (by omega)
  refine ⟨tx, ts2, ?_, by omega, l3.mono (by omega), t2.mono (by omega)⟩
  have e2' : M__law_row ts1 [.int W, .int (1 + (u : Int))] = .ok (tI tx, ts2) := by
    rw [show (1 + (u : Int)) = ((1 + u : Nat) : Int) by omega]; exact e2
  simp [law_10, e1, e2']

theorem q11 {sc gt : D} {ts : List D} {W : Nat} {a b c d tx : L} {l7 kd x10 x14 : Option Sv} {k : Int} (t : Tin k ts) (hk : k < 700) : ∃ (m : Nat) (ts' : List D), law_11 [some (.v sc), some (.m ts), some (.v (.int (W : Nat))), some (.v (.lst (every W))), some (.v (lasD a b)), some (.v (tI c)), some (.v (tI d)), l7, some (.v (lasD c d)), some (.v gt), x10, some (.v (tI tx)), none, kd, x14, none] = .nx [some (.v sc), some (.m ts'), some (.v (.int (W : Nat))), some (.v (.lst (every W))), some (.v (lasD a b)), some (.v (tI c)), some (.v (tI d)), l7, some (.v (lasD c d)), some (.v gt), x10, some (.v (tI tx)), some (.v (.int (m : Nat))), kd, x14, none] ∧ m ≤ 9 ∧ Tin (k + 1) ts' := by
  obtain ⟨u, ts1, e1, hu, t1⟩ := draw (n := 9) t (by omega) (by omega) (by omega)
  refine ⟨u, ts1, ?_, by omega, t1⟩
  simp [law_11, e1]

theorem put_wd {x a b c d : L} (h : ∀ i, wd a b i = wd c d i) (i : Nat) : wd (x ++ a) b i = wd (x ++ c) d i := by
  by_cases hi : i < x.length
  · rw [app_wd_lo hi, app_wd_lo hi]
  · have : i = (i - x.length) + x.length := by omega
    rw [this, app_wd_hi, app_wd_hi, h]
theorem q12 {sc gt : D} {ts : List D} {W m : Nat} {a b c d tx : L} {l7 kd x10 x14 : Option Sv} (h1 : Good (lasD a b) a b) (h2 : Good (lasD c d) c d) (hn : Norm a b) (he : ∀ i, wd c d i = wd a b i) (hx : letters 3 tx) (hxl : tx.length ≤ 4) (hm : m ≤ 9) (ha : a.length ≤ 5) (hb : b.length ≤ 5) (hc : c.length ≤ 100) (hd : d.length ≤ 100) : law_12 [some (.v sc), some (.m ts), some (.v (.int (W : Nat))), some (.v (.lst (every W))), some (.v (lasD a b)), some (.v (tI c)), some (.v (tI d)), l7, some (.v (lasD c d)), some (.v gt), x10, some (.v (tI tx)), some (.v (.int (m : Nat))), kd, x14, none] = .nx [some (.v sc), some (.m ts), some (.v (.int (W : Nat))), some (.v (.lst (every W))), some (.v (lasD a b)), some (.v (tI c)), some (.v (tI d)), l7, some (.v (lasD c d)), some (.v (.lst [lasD a b, .bl true, .bl true])), x10, some (.v (tI tx)), some (.v (.int (m : Nat))), kd, x14, none] := by
  have gp : ∀ {u v x : L} {g : D}, Good g u v → letters 3 x → x.length + u.length ≤ 400 → Good (lasD (x ++ u) v) (x ++ u) v := fun g hx hl => ⟨.inl rfl, letters_app hx g.la, g.lb, g.b0, by rw [List.length_append]; omega, g.bl⟩
  have hx1 : letters 3 (tx.take 1) := letters_take hx 1
  have hx2 : letters 3 (tx.drop 1) := letters_drop hx 1
  have l1 : (tx.take 1).length ≤ 4 := by rw [List.length_take]; omega
  have l2 : (tx.drop 1).length ≤ 4 := by rw [List.length_drop]; omega
  -- text ahead of told, moved on
  have p1 := e_put h2 (.inl rfl : tI tx = tI tx ∨ tI tx = lI tx) hx (by omega)
  have P1 := Good.short (gp h2 hx (by omega))
  have m1 := e_moved (n := tx.length) P1 (by omega)
  have w1 : short (moved (short (tx ++ c) d).1 (short (tx ++ c) d).2 tx.length).1 (moved (short (tx ++ c) d).1 (short (tx ++ c) d).2 tx.length).2 = (a, b) := by
    rw [← short_of_norm hn]
    refine (short_eq_iff (moved_ne P1.b0 _) h1.b0).mpr fun i => ?_
    rw [moved_wd P1.b0, short_wd h2.b0, app_wd_hi, he]
  rw [w1] at m1
  -- in two parts
  have p2 := e_put h1 (.inl rfl : tI (tx.drop 1) = tI (tx.drop 1) ∨ tI (tx.drop 1) = lI (tx.drop 1)) hx2 (by omega)
  have G2 := gp h1 hx2 (by omega)
  have P2 := Good.short G2
  have sl2 : (short (tx.drop 1 ++ a) b).1.length ≤ (tx.drop 1 ++ a).length := (short_facts G2.b0 G2.la G2.lb).2.2.2.1
  have p3 := e_put P2 (.inl rfl : tI (tx.take 1) = tI (tx.take 1) ∨ tI (tx.take 1) = lI (tx.take 1)) hx1 (by omega)
  have p4 := e_put h1 (.inl rfl : tI tx = tI tx ∨ tI tx = lI tx) hx (by omega)
  have w2 : short (tx.take 1 ++ (short (tx.drop 1 ++ a) b).1) (short (tx.drop 1 ++ a) b).2 = short (tx ++ a) b := by
    refine (short_eq_iff P2.b0 h1.b0).mpr fun i => ?_
    rw [put_wd (fun i => short_wd h1.b0 i), ← List.append_assoc, List.take_append_drop]
  rw [w2] at p3
  have q2 := eq_las (a := (short (tx ++ a) b).1) (b := (short (tx ++ a) b).2) (c := (short (tx ++ a) b).1) (d := (short (tx ++ a) b).2)
  rw [decide_eq_true ⟨rfl, rfl⟩] at q2
  -- moved on twice
  have m2 := e_moved (n := m) h2 (by omega)
  have M2 := Good.short (h2.moved m)
  have m3 := e_moved (n := 3) M2 (by omega)
  have m4 := e_moved (n := m + 3) h1 (by omega)
  have w3 : short (moved (short (moved c d m).1 (moved c d m).2).1 (short (moved c d m).1 (moved c d m).2).2 3).1 (moved (short (moved c d m).1 (moved c d m).2).1 (short (moved c d m).1 (moved c d m).2).2 3).2 = short (moved a b (m + 3)).1 (moved a b (m + 3)).2 := by
    refine (short_eq_iff (moved_ne M2.b0 _) (moved_ne h1.b0 _)).mpr fun i => ?_
    rw [moved_wd M2.b0, short_wd (moved_ne h2.b0 _), moved_wd h2.b0, moved_wd h1.b0, he]
    congr 1; omega
  rw [w3] at m3
  have q3 := eq_las (a := (short (moved a b (m + 3)).1 (moved a b (m + 3)).2).1) (b := (short (moved a b (m + 3)).1 (moved a b (m + 3)).2).2) (c := (short (moved a b (m + 3)).1 (moved a b (m + 3)).2).1) (d := (short (moved a b (m + 3)).1 (moved a b (m + 3)).2).2)
  rw [decide_eq_true ⟨rfl, rfl⟩] at q3
  have m3' : M_moved_on [lasD (short (moved c d m).1 (moved c d m).2).1 (short (moved c d m).1 (moved c d m).2).2, .int 3] = _ := m3
  have m4' : M_moved_on [lasD a b, .int ((m : Int) + 3)] = _ := m4
  have s1 : ∀ {sl : Sl}, sliceO (some (tI tx)) none (some 1) sl = .ok (.v (tI (tx.take 1))) sl := fun {sl} => slice_to (k := 1)
  have s2 : ∀ {sl : Sl}, sliceO (some (tI tx)) (some 1) none sl = .ok (.v (tI (tx.drop 1))) sl := fun {sl} => slice_rest (k := 1)
  simp (maxDischargeDepth := 9) [- List.drop_one, law_12, p1, m1, p2, p3, p4, q2, m2, m3', m4', q3, len_tI, s1, s2]
theorem q13 {sc : D} {ts : List D} {W m : Nat} {a b c d tx : L} {l7 kd x10 x14 : Option Sv} : fin (law_13 [some (.v sc), some (.m ts), some (.v (.int (W : Nat))), some (.v (.lst (every W))), some (.v (lasD a b)), some (.v (tI c)), some (.v (tI d)), l7, some (.v (lasD c d)), some (.v (.lst [lasD a b, .bl true, .bl true])), x10, some (.v (tI tx)), some (.v (.int (m : Nat))), kd, x14, none]) = .ok (.bl true) := by
  have ok : M__law_same 20 [.lst [lasD a b, .bl true, .bl true], .lst [lasD a b, .bl true, .bl true]] = .ok (.bl true) := same_refl 20 _ (by simp only [okD, List.all_cons, List.all_nil, Bool.and_true, okD_las, Bool.and_self])
  simp [law_13, ok]

theorem law_true : ∀ ns, ScriptOk ns → M_law [.scr (ns.map .int)] = .ok (.bl true) := fun ns ok => by
  obtain ⟨cs, ec⟩ := cells_law ns 1 (by decide) ok.1
  obtain ⟨ts, eb, t0⟩ := box_law cs 0
  have ec' : M__law_cells [.scr (ns.map .int), .int 1] = .ok (.lst (cs.map .int)) := ec
  have eb' : M__law_box [.lst (cs.map .int), .int 0] = .ok ts := eb
  have s0 : law_0 (initS 16 [.scr (ns.map .int)]) = .nx [some (.v (.scr (ns.map .int))), some (.m ts), none, none, none, none, none, none, none, none, none, none, none, none, none, none] := by
    simp [law_0, ec', eb', dCallF]
  obtain ⟨W, ts1, f1, W0, W2, t1⟩ := h1 (sc := .scr (ns.map .int)) t0 (by decide)
  obtain ⟨a, b, ts3, f3, ⟨hn, hl, la, lb⟩, t3⟩ := h3 (sc := .scr (ns.map .int)) t1 (by decide) W0 W2
  obtain ⟨c, d, ts5, l7, kd, f5, T5, t5⟩ := h5 (sc := .scr (ns.map .int)) t3 (by decide) hn.1 hl la lb
  have hW : (W : Int) ≤ 3 := by omega
  have tl := T5.len
  have G1 : Good (lasD a b) a b := ⟨.inl rfl, la.mono hW, lb.mono hW, hn.1, by omega, by omega⟩
  have G1' : Good (lasL a b) a b := ⟨.inr rfl, la.mono hW, lb.mono hW, hn.1, by omega, by omega⟩
  have G2 : Good (lasD c d) c d := ⟨.inl rfl, T5.lc.mono hW, T5.ld.mono hW, T5.d0, by omega, by omega⟩
  obtain ⟨ts9, x10, x14, f9, t9⟩ := q9 (sc := .scr (ns.map .int)) (gt := .lst [lasD a b, .bl true, .bl true, .non, .bl (decide (c = a ∧ d = b)), .bl true]) (l7 := l7) (kd := kd) t5 (by decide) W0 W2 G1 G2 hn T5.eq hl
  obtain ⟨tx, ts10, f10, x4, x3, t10⟩ := q10 (sc := .scr (ns.map .int)) (gt := .lst [lasD a b, .bl true, .bl true, .non, .bl (decide (c = a ∧ d = b)), .bl true]) (a := a) (b := b) (c := c) (d := d) (l7 := l7) (kd := kd) (x10 := x10) (x14 := x14) t9 (by decide) W0 W2
  obtain ⟨m, ts11, f11, m9, t11⟩ := q11 (sc := .scr (ns.map .int)) (gt := .lst [lasD a b, .bl true, .bl true, .non, .bl (decide (c = a ∧ d = b)), .bl true]) (W := W) (a := a) (b := b) (c := c) (d := d) (tx := tx) (l7 := l7) (kd := kd) (x10 := x10) (x14 := x14) t10 (by decide)
  show fin (law_from_0 (initS 16 [.scr (ns.map .int)])) = _
  rw [seq_step (whole := law_from_0) (r := law_from_1) rfl s0, seq_step (whole := law_from_1) (r := law_from_2) rfl f1, seq_step (whole := law_from_2) (r := law_from_3) rfl (h2 W0 W2), seq_step (whole := law_from_3) (r := law_from_4) rfl f3, seq_step (whole := law_from_4) (r := law_from_5) rfl h4,
    seq_step (whole := law_from_5) (r := law_from_6) rfl f5, seq_step (whole := law_from_6) (r := law_from_7) rfl h6, seq_step (whole := law_from_7) (r := law_from_8) rfl (q7 G1 G1' G2 hn T5.eq (by omega)), seq_step (whole := law_from_8) (r := law_from_9) rfl q8,
    seq_step (whole := law_from_9) (r := law_from_10) rfl f9, seq_step (whole := law_from_10) (r := law_from_11) rfl f10, seq_step (whole := law_from_11) (r := law_from_12) rfl f11, seq_step (whole := law_from_12) (r := law_from_13) rfl (q12 G1 G2 hn T5.eq x3 x4 m9 (by omega) (by omega) (by omega) (by omega))]
  exact q13
end W

set_option Elab.async false
set_option linter.all false
set_option maxRecDepth 100000
set_option maxHeartbeats 0
namespace W
open PySem PySem.Spec PyProof.Rows L2 F
/-! the top -/
theorem all_mk {l : PySem.W.OpenLaw} {w : World} {K : PySem.W.Frag} {h : Heap} {mg : Str → Option Value} {fa f0 f1 f2 f3 f4 f5 f6 f7 f8 f9 f10 f11 f12 f13 f14 f15 f16 f17 f18 f19 f20 f21 f22 f23 f24 f25 f26 f27 f28 f29 f30 f31 C0 : Addr} (X : K.In h) (Gn : h.Ns mainGlobals mg) (hfa : mg "law" = some (.ref fa))
    {od0 od1 od2 od3 od4 od5 od6 od7 od8 od9 od10 od11 od12 od13 od14 od15 od16 od17 od18 od19 od20 od21 od22 od23 od24 od25 od26 od27 od28 od29 od30 od31 an0 an1 an2 an3 an4 an5 an6 an7 an8 an9 an10 an11 an12 an13 an14 an15 an16 an17 an18 an19 an20 an21 an22 an23 an24 an25 an26 an27 an28 an29 an30 an31 : Option Addr} {sl0 sl1 sl2 sl3 sl4 sl5 sl6 sl7 sl8 sl9 sl10 sl11 sl12 sl13 sl14 sl15 sl16 sl17 sl18 sl19 sl20 sl21 sl22 sl23 sl24 sl25 sl26 sl27 sl28 sl29 sl30 sl31 : Array (Option Value)} {oc0 kV0 dc0 pm0 cd0 ct0 oc1 kV1 dc1 pm1 cd1 ct1 oc2 kV2 dc2 pm2 cd2 ct2 oc3 kV3 dc3 pm3 cd3 ct3 oc4 kV4 dc4 pm4 cd4 ct4 oc5 kV5 dc5 pm5 cd5 ct5 oc6 kV6 dc6 pm6 cd6 ct6 oc7 kV7 dc7 pm7 cd7 ct7 oc8 kV8 dc8 pm8 cd8 ct8 oc9 kV9 dc9 pm9 cd9 ct9 oc10 kV10 dc10 pm10 cd10 ct10 oc11 kV11 dc11 pm11 cd11 ct11 oc12 kV12 dc12 pm12 cd12 ct12 oc13 kV13 dc13 pm13 cd13 ct13 oc14 kV14 dc14 pm14 cd14 ct14 oc15 kV15 dc15 pm15 cd15 ct15 oc16 kV16 dc16 pm16 cd16 ct16 oc17 kV17 dc17 pm17 cd17 ct17 oc18 kV18 dc18 pm18 cd18 ct18 oc19 kV19 dc19 pm19 cd19 ct19 oc20 kV20 dc20 pm20 cd20 ct20 oc21 kV21 dc21 pm21 cd21 ct21 oc22 kV22 dc22 pm22 cd22 ct22 oc23 kV23 dc23 pm23 cd23 ct23 oc24 kV24 dc24 pm24 cd24 ct24 oc25 kV25 dc25 pm25 cd25 ct25 oc26 kV26 dc26 pm26 cd26 ct26 oc27 kV27 dc27 pm27 cd27 ct27 oc28 kV28 dc28 pm28 cd28 ct28 oc29 kV29 dc29 pm29 cd29 ct29 oc30 kV30 dc30 pm30 cd30 ct30 oc31 kV31 dc31 pm31 cd31 ct31 : Value} {t_MOST_PLACE t_MOST_WIDE : Tok}
    (a0 : PySem.W.nsIn K mainGlobals "is_number" = some (some (.ref f0))) (l0 : K.lookup f0 = some ⟨oc0, od0, .func (PySem.W.fnOf "is_number" "is_number" (defArgs s_is_number) (defBody s_is_number) (defScope s_is_number) .none kV0 dc0 pm0 an0 cd0 ct0), sl0⟩) (c0 : PySem.W.codeIn K cd0 "is_number" = true) (k0 : PySem.W.keepIn K (.ref f0) = true)
    (a1 : PySem.W.nsIn K mainGlobals "tuple_of" = some (some (.ref f1))) (l1 : K.lookup f1 = some ⟨oc1, od1, .func (PySem.W.fnOf "tuple_of" "tuple_of" (defArgs s_tuple_of) (defBody s_tuple_of) (defScope s_tuple_of) .none kV1 dc1 pm1 an1 cd1 ct1), sl1⟩) (c1 : PySem.W.codeIn K cd1 "tuple_of" = true) (k1 : PySem.W.keepIn K (.ref f1) = true)
    (a2 : PySem.W.nsIn K mainGlobals "is_tuple_of" = some (some (.ref f2))) (l2 : K.lookup f2 = some ⟨oc2, od2, .func (PySem.W.fnOf "is_tuple_of" "is_tuple_of" (defArgs s_is_tuple_of) (defBody s_is_tuple_of) (defScope s_is_tuple_of) .none kV2 dc2 pm2 an2 cd2 ct2), sl2⟩) (c2 : PySem.W.codeIn K cd2 "is_tuple_of" = true) (k2 : PySem.W.keepIn K (.ref f2) = true)
    (a3 : PySem.W.nsIn K mainGlobals "is_letter" = some (some (.ref f3))) (l3 : K.lookup f3 = some ⟨oc3, od3, .func (PySem.W.fnOf "is_letter" "is_letter" (defArgs s_is_letter) (defBody s_is_letter) (defScope s_is_letter) .none kV3 dc3 pm3 an3 cd3 ct3), sl3⟩) (c3 : PySem.W.codeIn K cd3 "is_letter" = true) (k3 : PySem.W.keepIn K (.ref f3) = true)
    (a4 : PySem.W.nsIn K mainGlobals "is_text" = some (some (.ref f4))) (l4 : K.lookup f4 = some ⟨oc4, od4, .func (PySem.W.fnOf "is_text" "is_text" (defArgs s_is_text) (defBody s_is_text) (defScope s_is_text) .none kV4 dc4 pm4 an4 cd4 ct4), sl4⟩) (c4 : PySem.W.codeIn K cd4 "is_text" = true) (k4 : PySem.W.keepIn K (.ref f4) = true)
    (a5 : PySem.W.nsIn K mainGlobals "sure_wide_of" = some (some (.ref f5))) (l5 : K.lookup f5 = some ⟨oc5, od5, .func (PySem.W.fnOf "sure_wide_of" "sure_wide_of" (defArgs s_sure_wide_of) (defBody s_sure_wide_of) (defScope s_sure_wide_of) .none kV5 dc5 pm5 an5 cd5 ct5), sl5⟩) (c5 : PySem.W.codeIn K cd5 "sure_wide_of" = true) (k5 : PySem.W.keepIn K (.ref f5) = true)
    (a6 : PySem.W.nsIn K mainGlobals "is_lasso_form" = some (some (.ref f6))) (l6 : K.lookup f6 = some ⟨oc6, od6, .func (PySem.W.fnOf "is_lasso_form" "is_lasso_form" (defArgs s_is_lasso_form) (defBody s_is_lasso_form) (defScope s_is_lasso_form) .none kV6 dc6 pm6 an6 cd6 ct6), sl6⟩) (c6 : PySem.W.codeIn K cd6 "is_lasso_form" = true) (k6 : PySem.W.keepIn K (.ref f6) = true)
    (a7 : PySem.W.nsIn K mainGlobals "sure_lasso" = some (some (.ref f7))) (l7 : K.lookup f7 = some ⟨oc7, od7, .func (PySem.W.fnOf "sure_lasso" "sure_lasso" (defArgs s_sure_lasso) (defBody s_sure_lasso) (defScope s_sure_lasso) .none kV7 dc7 pm7 an7 cd7 ct7), sl7⟩) (c7 : PySem.W.codeIn K cd7 "sure_lasso" = true) (k7 : PySem.W.keepIn K (.ref f7) = true)
    (a8 : PySem.W.nsIn K mainGlobals "sure_many" = some (some (.ref f8))) (l8 : K.lookup f8 = some ⟨oc8, od8, .func (PySem.W.fnOf "sure_many" "sure_many" (defArgs s_sure_many) (defBody s_sure_many) (defScope s_sure_many) .none kV8 dc8 pm8 an8 cd8 ct8), sl8⟩) (c8 : PySem.W.codeIn K cd8 "sure_many" = true) (k8 : PySem.W.keepIn K (.ref f8) = true)
    (a9 : PySem.W.nsIn K mainGlobals "shortest_round" = some (some (.ref f9))) (l9 : K.lookup f9 = some ⟨oc9, od9, .func (PySem.W.fnOf "shortest_round" "shortest_round" (defArgs s_shortest_round) (defBody s_shortest_round) (defScope s_shortest_round) .none kV9 dc9 pm9 an9 cd9 ct9), sl9⟩) (c9 : PySem.W.codeIn K cd9 "shortest_round" = true) (k9 : PySem.W.keepIn K (.ref f9) = true)
    (a10 : PySem.W.nsIn K mainGlobals "short_in" = some (some (.ref f10))) (l10 : K.lookup f10 = some ⟨oc10, od10, .func (PySem.W.fnOf "short_in" "short_in" (defArgs s_short_in) (defBody s_short_in) (defScope s_short_in) .none kV10 dc10 pm10 an10 cd10 ct10), sl10⟩) (c10 : PySem.W.codeIn K cd10 "short_in" = true) (k10 : PySem.W.keepIn K (.ref f10) = true)
    (a11 : PySem.W.nsIn K mainGlobals "lasso_short" = some (some (.ref f11))) (l11 : K.lookup f11 = some ⟨oc11, od11, .func (PySem.W.fnOf "lasso_short" "lasso_short" (defArgs s_lasso_short) (defBody s_lasso_short) (defScope s_lasso_short) .none kV11 dc11 pm11 an11 cd11 ct11), sl11⟩) (c11 : PySem.W.codeIn K cd11 "lasso_short" = true) (k11 : PySem.W.keepIn K (.ref f11) = true)
    (a12 : PySem.W.nsIn K mainGlobals "is_short" = some (some (.ref f12))) (l12 : K.lookup f12 = some ⟨oc12, od12, .func (PySem.W.fnOf "is_short" "is_short" (defArgs s_is_short) (defBody s_is_short) (defScope s_is_short) .none kV12 dc12 pm12 an12 cd12 ct12), sl12⟩) (c12 : PySem.W.codeIn K cd12 "is_short" = true) (k12 : PySem.W.keepIn K (.ref f12) = true)
    (a13 : PySem.W.nsIn K mainGlobals "same_endless" = some (some (.ref f13))) (l13 : K.lookup f13 = some ⟨oc13, od13, .func (PySem.W.fnOf "same_endless" "same_endless" (defArgs s_same_endless) (defBody s_same_endless) (defScope s_same_endless) .none kV13 dc13 pm13 an13 cd13 ct13), sl13⟩) (c13 : PySem.W.codeIn K cd13 "same_endless" = true) (k13 : PySem.W.keepIn K (.ref f13) = true)
    (a14 : PySem.W.nsIn K mainGlobals "entry_at" = some (some (.ref f14))) (l14 : K.lookup f14 = some ⟨oc14, od14, .func (PySem.W.fnOf "entry_at" "entry_at" (defArgs s_entry_at) (defBody s_entry_at) (defScope s_entry_at) .none kV14 dc14 pm14 an14 cd14 ct14), sl14⟩) (c14 : PySem.W.codeIn K cd14 "entry_at" = true) (k14 : PySem.W.keepIn K (.ref f14) = true)
    (a15 : PySem.W.nsIn K mainGlobals "sure_spot" = some (some (.ref f15))) (l15 : K.lookup f15 = some ⟨oc15, od15, .func (PySem.W.fnOf "sure_spot" "sure_spot" (defArgs s_sure_spot) (defBody s_sure_spot) (defScope s_sure_spot) .none kV15 dc15 pm15 an15 cd15 ct15), sl15⟩) (c15 : PySem.W.codeIn K cd15 "sure_spot" = true) (k15 : PySem.W.keepIn K (.ref f15) = true)
    (a16 : PySem.W.nsIn K mainGlobals "letter_at" = some (some (.ref f16))) (l16 : K.lookup f16 = some ⟨oc16, od16, .func (PySem.W.fnOf "letter_at" "letter_at" (defArgs s_letter_at) (defBody s_letter_at) (defScope s_letter_at) .none kV16 dc16 pm16 an16 cd16 ct16), sl16⟩) (c16 : PySem.W.codeIn K cd16 "letter_at" = true) (k16 : PySem.W.keepIn K (.ref f16) = true)
    (a17 : PySem.W.nsIn K mainGlobals "moved_on" = some (some (.ref f17))) (l17 : K.lookup f17 = some ⟨oc17, od17, .func (PySem.W.fnOf "moved_on" "moved_on" (defArgs s_moved_on) (defBody s_moved_on) (defScope s_moved_on) .none kV17 dc17 pm17 an17 cd17 ct17), sl17⟩) (c17 : PySem.W.codeIn K cd17 "moved_on" = true) (k17 : PySem.W.keepIn K (.ref f17) = true)
    (a18 : PySem.W.nsIn K mainGlobals "put_ahead" = some (some (.ref f18))) (l18 : K.lookup f18 = some ⟨oc18, od18, .func (PySem.W.fnOf "put_ahead" "put_ahead" (defArgs s_put_ahead) (defBody s_put_ahead) (defScope s_put_ahead) .none kV18 dc18 pm18 an18 cd18 ct18), sl18⟩) (c18 : PySem.W.codeIn K cd18 "put_ahead" = true) (k18 : PySem.W.keepIn K (.ref f18) = true)
    (a19 : PySem.W.nsIn K mainGlobals "first_apart" = some (some (.ref f19))) (l19 : K.lookup f19 = some ⟨oc19, od19, .func (PySem.W.fnOf "first_apart" "first_apart" (defArgs s_first_apart) (defBody s_first_apart) (defScope s_first_apart) .none kV19 dc19 pm19 an19 cd19 ct19), sl19⟩) (c19 : PySem.W.codeIn K cd19 "first_apart" = true) (k19 : PySem.W.keepIn K (.ref f19) = true)
    (a20 : PySem.W.nsIn K mainGlobals "_law_box" = some (some (.ref f20))) (l20 : K.lookup f20 = some ⟨oc20, od20, .func (PySem.W.fnOf "_law_box" "_law_box" (defArgs s__law_box) (defBody s__law_box) (defScope s__law_box) .none kV20 dc20 pm20 an20 cd20 ct20), sl20⟩) (c20 : PySem.W.codeIn K cd20 "_law_box" = true) (k20 : PySem.W.keepIn K (.ref f20) = true)
    (a21 : PySem.W.nsIn K mainGlobals "_law_take" = some (some (.ref f21))) (l21 : K.lookup f21 = some ⟨oc21, od21, .func (PySem.W.fnOf "_law_take" "_law_take" (defArgs s__law_take) (defBody s__law_take) (defScope s__law_take) .none kV21 dc21 pm21 an21 cd21 ct21), sl21⟩) (c21 : PySem.W.codeIn K cd21 "_law_take" = true) (k21 : PySem.W.keepIn K (.ref f21) = true)
    (a22 : PySem.W.nsIn K mainGlobals "_law_cells" = some (some (.ref f22))) (l22 : K.lookup f22 = some ⟨oc22, od22, .func (PySem.W.fnOf "_law_cells" "_law_cells" (defArgs s__law_cells) (defBody s__law_cells) (defScope s__law_cells) .none kV22 dc22 pm22 an22 cd22 ct22), sl22⟩) (c22 : PySem.W.codeIn K cd22 "_law_cells" = true) (k22 : PySem.W.keepIn K (.ref f22) = true)
    (a23 : PySem.W.nsIn K mainGlobals "_law_same" = some (some (.ref f23))) (l23 : K.lookup f23 = some ⟨oc23, od23, .func (PySem.W.fnOf "_law_same" "_law_same" (defArgs s__law_same) (defBody s__law_same) (defScope s__law_same) .none kV23 dc23 pm23 an23 cd23 ct23), sl23⟩) (c23 : PySem.W.codeIn K cd23 "_law_same" = true) (k23 : PySem.W.keepIn K (.ref f23) = true)
    (a24 : PySem.W.nsIn K mainGlobals "_law_lists" = some (some (.ref f24))) (l24 : K.lookup f24 = some ⟨oc24, od24, .func (PySem.W.fnOf "_law_lists" "_law_lists" (defArgs s__law_lists) (defBody s__law_lists) (defScope s__law_lists) .none kV24 dc24 pm24 an24 cd24 ct24), sl24⟩) (c24 : PySem.W.codeIn K cd24 "_law_lists" = true) (k24 : PySem.W.keepIn K (.ref f24) = true)
    (a25 : PySem.W.nsIn K mainGlobals "_law_of" = some (some (.ref f25))) (l25 : K.lookup f25 = some ⟨oc25, od25, .func (PySem.W.fnOf "_law_of" "_law_of" (defArgs s__law_of) (defBody s__law_of) (defScope s__law_of) .none kV25 dc25 pm25 an25 cd25 ct25), sl25⟩) (c25 : PySem.W.codeIn K cd25 "_law_of" = true) (k25 : PySem.W.keepIn K (.ref f25) = true)
    (a26 : PySem.W.nsIn K mainGlobals "_law_pick" = some (some (.ref f26))) (l26 : K.lookup f26 = some ⟨oc26, od26, .func (PySem.W.fnOf "_law_pick" "_law_pick" (defArgs s__law_pick) (defBody s__law_pick) (defScope s__law_pick) .none kV26 dc26 pm26 an26 cd26 ct26), sl26⟩) (c26 : PySem.W.codeIn K cd26 "_law_pick" = true) (k26 : PySem.W.keepIn K (.ref f26) = true)
    (a27 : PySem.W.nsIn K mainGlobals "_law_texts" = some (some (.ref f27))) (l27 : K.lookup f27 = some ⟨oc27, od27, .func (PySem.W.fnOf "_law_texts" "_law_texts" (defArgs s__law_texts) (defBody s__law_texts) (defScope s__law_texts) .none kV27 dc27 pm27 an27 cd27 ct27), sl27⟩) (c27 : PySem.W.codeIn K cd27 "_law_texts" = true) (k27 : PySem.W.keepIn K (.ref f27) = true)
    (a28 : PySem.W.nsIn K mainGlobals "_law_short" = some (some (.ref f28))) (l28 : K.lookup f28 = some ⟨oc28, od28, .func (PySem.W.fnOf "_law_short" "_law_short" (defArgs s__law_short) (defBody s__law_short) (defScope s__law_short) .none kV28 dc28 pm28 an28 cd28 ct28), sl28⟩) (c28 : PySem.W.codeIn K cd28 "_law_short" = true) (k28 : PySem.W.keepIn K (.ref f28) = true)
    (a29 : PySem.W.nsIn K mainGlobals "_law_row" = some (some (.ref f29))) (l29 : K.lookup f29 = some ⟨oc29, od29, .func (PySem.W.fnOf "_law_row" "_law_row" (defArgs s__law_row) (defBody s__law_row) (defScope s__law_row) .none kV29 dc29 pm29 an29 cd29 ct29), sl29⟩) (c29 : PySem.W.codeIn K cd29 "_law_row" = true) (k29 : PySem.W.keepIn K (.ref f29) = true)
    (a30 : PySem.W.nsIn K mainGlobals "_law_lassos" = some (some (.ref f30))) (l30 : K.lookup f30 = some ⟨oc30, od30, .func (PySem.W.fnOf "_law_lassos" "_law_lassos" (defArgs s__law_lassos) (defBody s__law_lassos) (defScope s__law_lassos) .none kV30 dc30 pm30 an30 cd30 ct30), sl30⟩) (c30 : PySem.W.codeIn K cd30 "_law_lassos" = true) (k30 : PySem.W.keepIn K (.ref f30) = true)
    (a31 : PySem.W.nsIn K mainGlobals "law" = some (some (.ref f31))) (l31 : K.lookup f31 = some ⟨oc31, od31, .func (PySem.W.fnOf "law" "law" (defArgs s_law) (defBody s_law) (defScope s_law) .none kV31 dc31 pm31 an31 cd31 ct31), sl31⟩) (c31 : PySem.W.codeIn K cd31 "law" = true) (k31 : PySem.W.keepIn K (.ref f31) = true)
    (z_abs : PySem.W.nsIn K mainGlobals "abs" = some none)
    (z_all : PySem.W.nsIn K mainGlobals "all" = some none)
    (z_bool : PySem.W.nsIn K mainGlobals "bool" = some none)
    (z_enumerate : PySem.W.nsIn K mainGlobals "enumerate" = some none)
    (z_int : PySem.W.nsIn K mainGlobals "int" = some none)
    (z_isinstance : PySem.W.nsIn K mainGlobals "isinstance" = some none)
    (z_len : PySem.W.nsIn K mainGlobals "len" = some none)
    (z_list : PySem.W.nsIn K mainGlobals "list" = some none)
    (z_max : PySem.W.nsIn K mainGlobals "max" = some none)
    (z_min : PySem.W.nsIn K mainGlobals "min" = some none)
    (z_range : PySem.W.nsIn K mainGlobals "range" = some none)
    (z_str : PySem.W.nsIn K mainGlobals "str" = some none)
    (z_tuple : PySem.W.nsIn K mainGlobals "tuple" = some none)
    (z_zip : PySem.W.nsIn K mainGlobals "zip" = some none)
    (v_MOST_PLACE : PySem.W.nsIn K mainGlobals "MOST_PLACE" = some (some (.int (1000000000000000000000000000000) t_MOST_PLACE)))
    (v_MOST_WIDE : PySem.W.nsIn K mainGlobals "MOST_WIDE" = some (some (.int (3) t_MOST_WIDE)))
    (gE0 : PySem.W.nsIn K mainGlobals "Unfit" = some (some (.ref C0)))
    (kE0 : PySem.W.keepIn K (.ref C0) = true)
    (xE0 : PySem.W.excIn K C0 [.type "ValueError", .type "Exception", .type "BaseException", .type "object"] "ValueError.__new__" = true)
    (bE0 : PySem.W.subIn K (.ref C0) (.type "BaseException") = some true)
    (tE0 : PySem.W.typeIn K (.ref C0) = some (.type "type"))
    (hlaw : ∀ ns, ScriptOk ns → M_law [.scr (ns.map .int)] = .ok (.bl true)) :
    ∃ fd : FuncData, (∀ (s : Shared) (v : Value), BindsTo s fd ⟨[v], []⟩ [("script", v)]) ∧ ∀ base : Heap, K.In base → base.Ns mainGlobals mg → FnOk l.prog w K mg base (L2.CX l.prog w) 23 fa fd ["script"] (spLaw K) := by
  have e := hfa.symm.trans (PySem.W.mg_of X Gn a31)
  cases e
  let G : Glue := ⟨K, fun n => C0, fun n => "place"⟩
  have T : Tx G mg := { z_abs := PySem.W.mg_none_of X Gn z_abs, z_all := PySem.W.mg_none_of X Gn z_all, z_bool := PySem.W.mg_none_of X Gn z_bool, z_enumerate := PySem.W.mg_none_of X Gn z_enumerate, z_int := PySem.W.mg_none_of X Gn z_int, z_isinstance := PySem.W.mg_none_of X Gn z_isinstance, z_len := PySem.W.mg_none_of X Gn z_len, z_list := PySem.W.mg_none_of X Gn z_list, z_max := PySem.W.mg_none_of X Gn z_max, z_min := PySem.W.mg_none_of X Gn z_min, z_range := PySem.W.mg_none_of X Gn z_range, z_str := PySem.W.mg_none_of X Gn z_str, z_tuple := PySem.W.mg_none_of X Gn z_tuple, z_zip := PySem.W.mg_none_of X Gn z_zip, v_MOST_PLACE := ⟨.int (1000000000000000000000000000000), _, PySem.W.mg_of X Gn v_MOST_PLACE, ⟨_, rfl⟩, fun _ _ => .int _⟩, v_MOST_WIDE := ⟨.int (3), _, PySem.W.mg_of X Gn v_MOST_WIDE, ⟨_, rfl⟩, fun _ _ => .int _⟩, e_Unfit := ⟨PySem.W.mg_of X Gn gE0, kE0, xE0, bE0, tE0⟩ }
  have F0 := fun_mk (st := s_is_number) l0 c0 k0
  have b0 := F0.binds (ps := ["thing"]) fun _ _ _ _ _ _ us hl => match us, hl with | [_], _ => rfl
  have F1 := fun_mk (st := s_tuple_of) l1 c1 k1
  have b1 := F1.binds (ps := ["thing"]) fun _ _ _ _ _ _ us hl => match us, hl with | [_], _ => rfl
  have F2 := fun_mk (st := s_is_tuple_of) l2 c2 k2
  have b2 := F2.binds (ps := ["thing", "many"]) fun _ _ _ _ _ _ us hl => match us, hl with | [_, _], _ => rfl
  have F3 := fun_mk (st := s_is_letter) l3 c3 k3
  have b3 := F3.binds (ps := ["wide", "thing"]) fun _ _ _ _ _ _ us hl => match us, hl with | [_, _], _ => rfl
  have F4 := fun_mk (st := s_is_text) l4 c4 k4
  have b4 := F4.binds (ps := ["wide", "thing"]) fun _ _ _ _ _ _ us hl => match us, hl with | [_, _], _ => rfl
  have F5 := fun_mk (st := s_sure_wide_of) l5 c5 k5
  have b5 := F5.binds (ps := ["wide"]) fun _ _ _ _ _ _ us hl => match us, hl with | [_], _ => rfl
  have F6 := fun_mk (st := s_is_lasso_form) l6 c6 k6
  have b6 := F6.binds (ps := ["wide", "thing"]) fun _ _ _ _ _ _ us hl => match us, hl with | [_, _], _ => rfl
  have F7 := fun_mk (st := s_sure_lasso) l7 c7 k7
  have b7 := F7.binds (ps := ["wide", "lasso"]) fun _ _ _ _ _ _ us hl => match us, hl with | [_, _], _ => rfl
  have F8 := fun_mk (st := s_sure_many) l8 c8 k8
  have b8 := F8.binds (ps := ["many", "most"]) fun _ _ _ _ _ _ us hl => match us, hl with | [_, _], _ => rfl
  have F9 := fun_mk (st := s_shortest_round) l9 c9 k9
  have b9 := F9.binds (ps := ["round_so"]) fun _ _ _ _ _ _ us hl => match us, hl with | [_], _ => rfl
  have F10 := fun_mk (st := s_short_in) l10 c10 k10
  have b10 := F10.binds (ps := ["ahead", "round_so"]) fun _ _ _ _ _ _ us hl => match us, hl with | [_, _], _ => rfl
  have F11 := fun_mk (st := s_lasso_short) l11 c11 k11
  have b11 := F11.binds (ps := ["lasso"]) fun _ _ _ _ _ _ us hl => match us, hl with | [_], _ => rfl
  have F12 := fun_mk (st := s_is_short) l12 c12 k12
  have b12 := F12.binds (ps := ["lasso"]) fun _ _ _ _ _ _ us hl => match us, hl with | [_], _ => rfl
  have F13 := fun_mk (st := s_same_endless) l13 c13 k13
  have b13 := F13.binds (ps := ["one", "other"]) fun _ _ _ _ _ _ us hl => match us, hl with | [_, _], _ => rfl
  have F14 := fun_mk (st := s_entry_at) l14 c14 k14
  have b14 := F14.binds (ps := ["ahead", "round_so", "place"]) fun _ _ _ _ _ _ us hl => match us, hl with | [_, _, _], _ => rfl
  have F15 := fun_mk (st := s_sure_spot) l15 c15 k15
  have b15 := F15.binds (ps := ["place"]) fun _ _ _ _ _ _ us hl => match us, hl with | [_], _ => rfl
  have F16 := fun_mk (st := s_letter_at) l16 c16 k16
  have b16 := F16.binds (ps := ["lasso", "place"]) fun _ _ _ _ _ _ us hl => match us, hl with | [_, _], _ => rfl
  have F17 := fun_mk (st := s_moved_on) l17 c17 k17
  have b17 := F17.binds (ps := ["lasso", "many"]) fun _ _ _ _ _ _ us hl => match us, hl with | [_, _], _ => rfl
  have F18 := fun_mk (st := s_put_ahead) l18 c18 k18
  have b18 := F18.binds (ps := ["text", "lasso"]) fun _ _ _ _ _ _ us hl => match us, hl with | [_, _], _ => rfl
  have F19 := fun_mk (st := s_first_apart) l19 c19 k19
  have b19 := F19.binds (ps := ["one", "other"]) fun _ _ _ _ _ _ us hl => match us, hl with | [_, _], _ => rfl
  have F20 := fun_mk (st := s__law_box) l20 c20 k20
  have b20 := F20.binds (ps := ["script", "k"]) fun _ _ _ _ _ _ us hl => match us, hl with | [_, _], _ => rfl
  have F21 := fun_mk (st := s__law_take) l21 c21 k21
  have b21 := F21.binds (ps := ["tin", "below"]) fun _ _ _ _ _ _ us hl => match us, hl with | [_, _], _ => rfl
  have F22 := fun_mk (st := s__law_cells) l22 c22 k22
  have b22 := F22.binds (ps := ["script", "most"]) fun _ _ _ _ _ _ us hl => match us, hl with | [_, _], _ => rfl
  have F23 := fun_mk (st := s__law_same) l23 c23 k23
  have b23 := F23.binds (ps := ["got", "goal"]) fun _ _ _ _ _ _ us hl => match us, hl with | [_, _], _ => rfl
  have F24 := fun_mk (st := s__law_lists) l24 c24 k24
  have b24 := F24.binds (ps := ["matter"]) fun _ _ _ _ _ _ us hl => match us, hl with | [_], _ => rfl
  have F25 := fun_mk (st := s__law_of) l25 c25 k25
  have b25 := F25.binds (ps := ["tin", "goods"]) fun _ _ _ _ _ _ us hl => match us, hl with | [_, _], _ => rfl
  have F26 := fun_mk (st := s__law_pick) l26 c26 k26
  have b26 := F26.binds (ps := ["tin", "goods", "most"]) fun _ _ _ _ _ _ us hl => match us, hl with | [_, _, _], _ => rfl
  have F27 := fun_mk (st := s__law_texts) l27 c27 k27
  have b27 := F27.binds (ps := ["wide", "most"]) fun _ _ _ _ _ _ us hl => match us, hl with | [_, _], _ => rfl
  have F28 := fun_mk (st := s__law_short) l28 c28 k28
  have b28 := F28.binds (ps := ["ahead", "back"]) fun _ _ _ _ _ _ us hl => match us, hl with | [_, _], _ => rfl
  have F29 := fun_mk (st := s__law_row) l29 c29 k29
  have b29 := F29.binds (ps := ["tin", "wide", "many"]) fun _ _ _ _ _ _ us hl => match us, hl with | [_, _, _], _ => rfl
  have F30 := fun_mk (st := s__law_lassos) l30 c30 k30
  have b30 := F30.binds (ps := ["wide", "most"]) fun _ _ _ _ _ _ us hl => match us, hl with | [_, _], _ => rfl
  have F31 := fun_mk (st := s_law) l31 c31 k31
  have b31 := F31.binds (ps := ["script"]) fun _ _ _ _ _ _ us hl => match us, hl with | [_], _ => rfl
  refine ⟨PySem.W.fnOf "law" "law" (defArgs s_law) (defBody s_law) (defScope s_law) .none kV31 dc31 pm31 an31 cd31 ct31, fun s v => .of_eq rfl, fun base _ _ => ?_⟩
  have c_is_number : Cal l.prog w G.K mg base 1 "is_number" ["thing"] (spP G 1 M_is_number) := cal_mk X Gn a0 k0 b0 (fn_is_number T F0 )
  have r_tuple_of : ∀ j, Cal l.prog w G.K mg base (0 + j) "tuple_of" ["thing"] (spP G 1 (M_tuple_of j)) := fun j => by
    induction j with
    | zero => exact cal_mk X Gn a1 k1 b1 (fn_none no_P)
    | succ j ih => exact cal_mk X Gn a1 k1 b1 (fn_tuple_of T F1 ih)
  have c_tuple_of : Cal l.prog w G.K mg base 20 "tuple_of" ["thing"] (spP G 1 (M_tuple_of 20)) := r_tuple_of 20
  have c_is_tuple_of : Cal l.prog w G.K mg base 1 "is_tuple_of" ["thing", "many"] (spP G 2 M_is_tuple_of) := cal_mk X Gn a2 k2 b2 (fn_is_tuple_of T F2 )
  have c_is_letter : Cal l.prog w G.K mg base 2 "is_letter" ["wide", "thing"] (spP G 2 M_is_letter) := cal_mk X Gn a3 k3 b3 (fn_is_letter T F3 (c_is_number.mono (by decide)))
  have c_is_text : Cal l.prog w G.K mg base 3 "is_text" ["wide", "thing"] (spP G 2 M_is_text) := cal_mk X Gn a4 k4 b4 (fn_is_text T F4 (c_is_letter.mono (by decide)))
  have c_sure_wide_of : Cal l.prog w G.K mg base 2 "sure_wide_of" ["wide"] (spP G 1 M_sure_wide_of) := cal_mk X Gn a5 k5 b5 (fn_sure_wide_of T F5 (c_is_number.mono (by decide)))
  have c_is_lasso_form : Cal l.prog w G.K mg base 4 "is_lasso_form" ["wide", "thing"] (spP G 2 M_is_lasso_form) := cal_mk X Gn a6 k6 b6 (fn_is_lasso_form T F6 (c_is_tuple_of.mono (by decide)) (c_is_text.mono (by decide)))
  have c_sure_lasso : Cal l.prog w G.K mg base 21 "sure_lasso" ["wide", "lasso"] (spP G 2 M_sure_lasso) := cal_mk X Gn a7 k7 b7 (fn_sure_lasso T F7 (c_sure_wide_of.mono (by decide)) (c_tuple_of.mono (by decide)) (c_is_lasso_form.mono (by decide)))
  have c_sure_many : Cal l.prog w G.K mg base 2 "sure_many" ["many", "most"] (spP G 2 M_sure_many) := cal_mk X Gn a8 k8 b8 (fn_sure_many T F8 (c_is_number.mono (by decide)))
  have c_shortest_round : Cal l.prog w G.K mg base 1 "shortest_round" ["round_so"] (spP G 1 M_shortest_round) := cal_mk X Gn a9 k9 b9 (fn_shortest_round T F9 )
  have c_short_in : Cal l.prog w G.K mg base 2 "short_in" ["ahead", "round_so"] (spP G 2 M_short_in) := cal_mk X Gn a10 k10 b10 (fn_short_in T F10 (c_shortest_round.mono (by decide)))
  have c_lasso_short : Cal l.prog w G.K mg base 22 "lasso_short" ["lasso"] (spP G 1 M_lasso_short) := cal_mk X Gn a11 k11 b11 (fn_lasso_short T F11 (c_sure_lasso.mono (by decide)) (c_short_in.mono (by decide)))
  have c_is_short : Cal l.prog w G.K mg base 22 "is_short" ["lasso"] (spP G 1 M_is_short) := cal_mk X Gn a12 k12 b12 (fn_is_short T F12 (c_sure_lasso.mono (by decide)) (c_short_in.mono (by decide)))
  have c_same_endless : Cal l.prog w G.K mg base 22 "same_endless" ["one", "other"] (spP G 2 M_same_endless) := cal_mk X Gn a13 k13 b13 (fn_same_endless T F13 (c_sure_lasso.mono (by decide)) (c_short_in.mono (by decide)))
  have c_entry_at : Cal l.prog w G.K mg base 1 "entry_at" ["ahead", "round_so", "place"] (spP G 3 M_entry_at) := cal_mk X Gn a14 k14 b14 (fn_entry_at T F14 )
  have c_sure_spot : Cal l.prog w G.K mg base 3 "sure_spot" ["place"] (spP G 1 M_sure_spot) := cal_mk X Gn a15 k15 b15 (fn_sure_spot T F15 (c_sure_many.mono (by decide)))
  have c_letter_at : Cal l.prog w G.K mg base 22 "letter_at" ["lasso", "place"] (spP G 2 M_letter_at) := cal_mk X Gn a16 k16 b16 (fn_letter_at T F16 (c_sure_lasso.mono (by decide)) (c_sure_spot.mono (by decide)) (c_entry_at.mono (by decide)))
  have c_moved_on : Cal l.prog w G.K mg base 22 "moved_on" ["lasso", "many"] (spP G 2 M_moved_on) := cal_mk X Gn a17 k17 b17 (fn_moved_on T F17 (c_sure_lasso.mono (by decide)) (c_sure_many.mono (by decide)) (c_short_in.mono (by decide)))
  have c_put_ahead : Cal l.prog w G.K mg base 22 "put_ahead" ["text", "lasso"] (spP G 2 M_put_ahead) := cal_mk X Gn a18 k18 b18 (fn_put_ahead T F18 (c_short_in.mono (by decide)) (c_sure_lasso.mono (by decide)) (c_tuple_of.mono (by decide)) (c_is_text.mono (by decide)))
  have c_first_apart : Cal l.prog w G.K mg base 22 "first_apart" ["one", "other"] (spP G 2 M_first_apart) := cal_mk X Gn a19 k19 b19 (fn_first_apart T F19 (c_sure_lasso.mono (by decide)) (c_entry_at.mono (by decide)))
  have c__law_box : Cal l.prog w G.K mg base 1 "_law_box" ["script", "k"] (spF G 2 M__law_box) := cal_mk X Gn a20 k20 b20 (fn__law_box T F20 )
  have c__law_take : Cal l.prog w G.K mg base 1 "_law_take" ["tin", "below"] (spT G 2 M__law_take) := cal_mk X Gn a21 k21 b21 (fn__law_take T F21 )
  have c__law_cells : Cal l.prog w G.K mg base 1 "_law_cells" ["script", "most"] (spP G 2 M__law_cells) := cal_mk X Gn a22 k22 b22 (fn__law_cells T F22 )
  have r__law_same : ∀ j, Cal l.prog w G.K mg base (0 + j) "_law_same" ["got", "goal"] (spP G 2 (M__law_same j)) := fun j => by
    induction j with
    | zero => exact cal_mk X Gn a23 k23 b23 (fn_none no_P)
    | succ j ih => exact cal_mk X Gn a23 k23 b23 (fn__law_same T F23 ih)
  have c__law_same : Cal l.prog w G.K mg base 20 "_law_same" ["got", "goal"] (spP G 2 (M__law_same 20)) := r__law_same 20
  have r__law_lists : ∀ j, Cal l.prog w G.K mg base (0 + j) "_law_lists" ["matter"] (spP G 1 (M__law_lists j)) := fun j => by
    induction j with
    | zero => exact cal_mk X Gn a24 k24 b24 (fn_none no_P)
    | succ j ih => exact cal_mk X Gn a24 k24 b24 (fn__law_lists T F24 ih)
  have c__law_lists : Cal l.prog w G.K mg base 20 "_law_lists" ["matter"] (spP G 1 (M__law_lists 20)) := r__law_lists 20
  have c__law_of : Cal l.prog w G.K mg base 2 "_law_of" ["tin", "goods"] (spT G 2 M__law_of) := cal_mk X Gn a25 k25 b25 (fn__law_of T F25 (c__law_take.mono (by decide)))
  have c__law_pick : Cal l.prog w G.K mg base 2 "_law_pick" ["tin", "goods", "most"] (spT G 3 M__law_pick) := cal_mk X Gn a26 k26 b26 (fn__law_pick T F26 (c__law_take.mono (by decide)))
  have c__law_texts : Cal l.prog w G.K mg base 1 "_law_texts" ["wide", "most"] (spP G 2 M__law_texts) := cal_mk X Gn a27 k27 b27 (fn__law_texts T F27 )
  have c__law_short : Cal l.prog w G.K mg base 1 "_law_short" ["ahead", "back"] (spP G 2 M__law_short) := cal_mk X Gn a28 k28 b28 (fn__law_short T F28 )
  have c__law_row : Cal l.prog w G.K mg base 2 "_law_row" ["tin", "wide", "many"] (spT G 3 M__law_row) := cal_mk X Gn a29 k29 b29 (fn__law_row T F29 (c__law_take.mono (by decide)))
  have c__law_lassos : Cal l.prog w G.K mg base 2 "_law_lassos" ["wide", "most"] (spP G 2 M__law_lassos) := cal_mk X Gn a30 k30 b30 (fn__law_lassos T F30 (c__law_texts.mono (by decide)) (c__law_short.mono (by decide)))
  exact (fn_law (k := 22) T F31 (c__law_box.mono (by decide)) (c__law_lassos.mono (by decide)) (c__law_of.mono (by decide)) (c__law_pick.mono (by decide)) (c__law_row.mono (by decide)) (c__law_take.mono (by decide)) (c__law_same.mono (by decide)) (c__law_cells.mono (by decide)) (c_lasso_short.mono (by decide)) (c_same_endless.mono (by decide)) (c_first_apart.mono (by decide)) (c_is_short.mono (by decide)) (c_moved_on.mono (by decide)) (c__law_lists.mono (by decide)) (c_put_ahead.mono (by decide)) (c_letter_at.mono (by decide))).imp (law_imp (G := G) hlaw)
end W
open PySem PySem.W PyProof.Rows
set_option maxRecDepth 100000 in
set_option maxHeartbeats 0 in
theorem PySem.Challenge.cw_endlessfingers_k28_main_one_short_lasso_holds : PySem.Challenge.rw_endlessfingers_k28_main_one_short_lasso.Holds := by
  w_on; o_law; k_head; (case hw => w_witness2)
  k_fill
  refine F.walk (l := PySem.Challenge.rw_endlessfingers_k28_main_one_short_lasso) (k := 23) ⟨rfl, by decide, by decide⟩ rfl rfl (fun w h Y => PySem.W.kIn_of Y) ?F
  case F =>
    intro w mg fa h KX Gn hmg
    refine' W.all_mk KX Gn hmg ?a0 ?l0 ?c0 ?k0 ?a1 ?l1 ?c1 ?k1 ?a2 ?l2 ?c2 ?k2 ?a3 ?l3 ?c3 ?k3 ?a4 ?l4 ?c4 ?k4 ?a5 ?l5 ?c5 ?k5 ?a6 ?l6 ?c6 ?k6 ?a7 ?l7 ?c7 ?k7 ?a8 ?l8 ?c8 ?k8 ?a9 ?l9 ?c9 ?k9 ?a10 ?l10 ?c10 ?k10 ?a11 ?l11 ?c11 ?k11 ?a12 ?l12 ?c12 ?k12 ?a13 ?l13 ?c13 ?k13 ?a14 ?l14 ?c14 ?k14 ?a15 ?l15 ?c15 ?k15 ?a16 ?l16 ?c16 ?k16 ?a17 ?l17 ?c17 ?k17 ?a18 ?l18 ?c18 ?k18 ?a19 ?l19 ?c19 ?k19 ?a20 ?l20 ?c20 ?k20 ?a21 ?l21 ?c21 ?k21 ?a22 ?l22 ?c22 ?k22 ?a23 ?l23 ?c23 ?k23 ?a24 ?l24 ?c24 ?k24 ?a25 ?l25 ?c25 ?k25 ?a26 ?l26 ?c26 ?k26 ?a27 ?l27 ?c27 ?k27 ?a28 ?l28 ?c28 ?k28 ?a29 ?l29 ?c29 ?k29 ?a30 ?l30 ?c30 ?k30 ?a31 ?l31 ?c31 ?k31 ?z_abs ?z_all ?z_bool ?z_enumerate ?z_int ?z_isinstance ?z_len ?z_list ?z_max ?z_min ?z_range ?z_str ?z_tuple ?z_zip ?v_MOST_PLACE ?v_MOST_WIDE ?gE0 ?kE0 ?xE0 ?bE0 ?tE0 W.law_true
    (case a0 => k_is); (case l0 => k_is); (case c0 => k_is); (case k0 => k_is); (case a1 => k_is); (case l1 => k_is)
    (case c1 => k_is); (case k1 => k_is); (case a2 => k_is); (case l2 => k_is); (case c2 => k_is); (case k2 => k_is)
    (case a3 => k_is); (case l3 => k_is); (case c3 => k_is); (case k3 => k_is); (case a4 => k_is); (case l4 => k_is)
    (case c4 => k_is); (case k4 => k_is); (case a5 => k_is); (case l5 => k_is); (case c5 => k_is); (case k5 => k_is)
    (case a6 => k_is); (case l6 => k_is); (case c6 => k_is); (case k6 => k_is); (case a7 => k_is); (case l7 => k_is)
    (case c7 => k_is); (case k7 => k_is); (case a8 => k_is); (case l8 => k_is); (case c8 => k_is); (case k8 => k_is)
    (case a9 => k_is); (case l9 => k_is); (case c9 => k_is); (case k9 => k_is); (case a10 => k_is); (case l10 => k_is)
    (case c10 => k_is); (case k10 => k_is); (case a11 => k_is); (case l11 => k_is); (case c11 => k_is); (case k11 => k_is)
    (case a12 => k_is); (case l12 => k_is); (case c12 => k_is); (case k12 => k_is); (case a13 => k_is); (case l13 => k_is)
    (case c13 => k_is); (case k13 => k_is); (case a14 => k_is); (case l14 => k_is); (case c14 => k_is); (case k14 => k_is)
    (case a15 => k_is); (case l15 => k_is); (case c15 => k_is); (case k15 => k_is); (case a16 => k_is); (case l16 => k_is)
    (case c16 => k_is); (case k16 => k_is); (case a17 => k_is); (case l17 => k_is); (case c17 => k_is); (case k17 => k_is)
    (case a18 => k_is); (case l18 => k_is); (case c18 => k_is); (case k18 => k_is); (case a19 => k_is); (case l19 => k_is)
    (case c19 => k_is); (case k19 => k_is); (case a20 => k_is); (case l20 => k_is); (case c20 => k_is); (case k20 => k_is)
    (case a21 => k_is); (case l21 => k_is); (case c21 => k_is); (case k21 => k_is); (case a22 => k_is); (case l22 => k_is)
    (case c22 => k_is); (case k22 => k_is); (case a23 => k_is); (case l23 => k_is); (case c23 => k_is); (case k23 => k_is)
    (case a24 => k_is); (case l24 => k_is); (case c24 => k_is); (case k24 => k_is); (case a25 => k_is); (case l25 => k_is)
    (case c25 => k_is); (case k25 => k_is); (case a26 => k_is); (case l26 => k_is); (case c26 => k_is); (case k26 => k_is)
    (case a27 => k_is); (case l27 => k_is); (case c27 => k_is); (case k27 => k_is); (case a28 => k_is); (case l28 => k_is)
    (case c28 => k_is); (case k28 => k_is); (case a29 => k_is); (case l29 => k_is); (case c29 => k_is); (case k29 => k_is)
    (case a30 => k_is); (case l30 => k_is); (case c30 => k_is); (case k30 => k_is); (case a31 => k_is); (case l31 => k_is)
    (case c31 => k_is); (case k31 => k_is); (case z_abs => k_is); (case z_all => k_is); (case z_bool => k_is); (case z_enumerate => k_is)
    (case z_int => k_is); (case z_isinstance => k_is); (case z_len => k_is); (case z_list => k_is); (case z_max => k_is); (case z_min => k_is)
    (case z_range => k_is); (case z_str => k_is); (case z_tuple => k_is); (case z_zip => k_is); (case v_MOST_PLACE => k_is); (case v_MOST_WIDE => k_is)
    (case gE0 => k_is); (case kE0 => k_is); (case xE0 => k_exc); (case bE0 => k_is); (case tE0 => k_is)
