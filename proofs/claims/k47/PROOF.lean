import PyProof.Rows.All
import Wide.All
import OpenK.AllK
import Wide.FinOn
import HandS.ForMost
import HandS.ForExc
import HandS.TryMany
import HandS.ExcInit
import HandS.TupAny
import HandS.TupMul
import HandS.Style
import HandS.IsInst
import HandS.Zip
import HandS.Walk
import HandS.Wide
import HandS.Conv
import HandS.Deep
import KE.DataEq
import KE.KDictKeyed
import HandS.Flow
import HandS.Star
import PyProof.LongRange
import KE.GoesMore
import HandS.NoneIn
import HandS.Strs
import HandS.SetFor
import HandS.EndBits
import KE.DataFind
import PyProof.SeqIndex
import KE.SortData
import KE.LtSeq
import KE.KDictWalk
import KE.KDictSum
import PySem.Challenge.RW_endlessfingers_k47_endless_pieces_by_han
set_option Elab.async false
set_option linter.all false
set_option maxRecDepth 100000
set_option maxHeartbeats 4000000
/-! The D layer: data without heap, slots with owned lists; what an expression, a statement means, as a plain function. -/
namespace F
open PySem PySem.Spec PyProof.Rows L2

/-- data without heap -/
inductive D where
  | non | bl (b : Bool) | int (i : Int) | str (x : Str)
  | tup (xs : List D) | lst (xs : List D) | scr (xs : List D)
  /-- a tuple of which it is known that it has no attributes; an instance of an own class; a dict -/
  | tpn (xs : List D) | obj (c : Nat) (xs : List D) | dct (ks vs : List D)
  /-- what stands at a place, just this (held in a walk) -/
  | fix (u : HO)
/-- an own exception -/
inductive Ex where
  | plain (n : Nat) | field (n : Nat) (d : D)
/-- what comes of a piece of code -/
inductive Re (α : Type) where
  | ok (a : α) | ex (e : Ex) | bad
namespace Re
def bind {α β : Type} (x : Re α) (f : α → Re β) : Re β := match x with
  | .ok a => f a
  | .ex e => .ex e
  | .bad => .bad
end Re
/-- what a name holds: data, or a list, a dict, a new instance that is its own -/
inductive Sv where
  | v (d : D) | m (xs : List D) | d (ks vs : List D) | o (c : Nat) (xs : List D) | od (c : Nat) (xs ks vs : List D)
/-- a value: data, or the list of the name at place i -/
inductive S where
  | v (d : D) | r (i : Nat)
abbrev Sl := List (Option Sv)
/-- what comes of an expression: with the slots behind it -/
inductive R (α : Type) where
  | ok (a : α) (sl : Sl) | ex (e : Ex) (sl : Sl) | bad
def R.bind {α β : Type} (x : R α) (f : α → Sl → R β) : R β := match x with
  | .ok a sl => f a sl
  | .ex e sl => .ex e sl
  | .bad => .bad
abbrev Ev := Sl → R S
abbrev Evs := Sl → R (List S)
/-- what comes of a statement -/
inductive Fl where
  | nx (sl : Sl) | rt (s : S) (sl : Sl) | bk (sl : Sl) | ct (sl : Sl) | ex (e : Ex) (sl : Sl) | bad
abbrev Sm := Sl → Fl

/-- the world's own places -/
structure Glue where
  K : PySem.W.Frag
  exA : Nat → Addr
  exF : Nat → Str
  P : Program
  w : World
  oC : Nat → Addr
  oF : Nat → List Str

/-! ### data in a heap -/
/-- a list that no one writes: known to an object outside, or an object of the module -/
def SqS (K : PySem.W.Frag) (H : Hp) (a : Addr) (xs : List V) : Prop :=
  (∃ o, H a = some (.frz o (.lst xs))) ∨
    ∃ (o : Obj) (its : Array Value) (n : Nat), K.lookup a = some o ∧ o.cls = .type "list" ∧ o.dict = none ∧ o.data = .seq its n ∧ its.size ≤ sizeLine ∧ Vals xs its.toList
theorem SqS.l {K : PySem.W.Frag} {H : Hp} {a : Addr} {xs : List V} (h : SqS K H a xs) : SqL K H a xs := by
  rcases h with ⟨o, h⟩ | h
  · exact .inl (.inr ⟨o, h⟩)
  · exact .inr h
/-- a tuple without attributes -/
def SqN (K : PySem.W.Frag) (H : Hp) (a : Addr) (xs : List V) : Prop :=
  (∃ o, H a = some (.frz o (.tup xs)) ∧ o.cls = .type "tuple" ∧ o.dict = none) ∨
    ∃ (o : Obj) (its : Array Value) (n : Nat), K.lookup a = some o ∧ o.cls = .type "tuple" ∧ o.dict = none ∧ o.data = .seq its n ∧ its.size ≤ sizeLine ∧ Vals xs its.toList
theorem SqN.t {K : PySem.W.Frag} {H : Hp} {a : Addr} {xs : List V} (h : SqN K H a xs) : SqT K H a xs := by
  rcases h with ⟨o, h, _, _⟩ | ⟨o, its, n, h1, h2, h3, h4⟩
  · exact .inl (.inr ⟨o, h⟩)
  · exact .inr ⟨o, its, n, h1, h2, h4⟩
mutual
def D.key : D → Option NestedKey
  | .non => some .none
  | .int i => some (.num i)
  | .str x => some (.text x)
  | .tup xs => match D.keys xs with | some ks => some (.tup ks) | none => none
  | .tpn xs => match D.keys xs with | some ks => some (.tup ks) | none => none
  | _ => none
def D.keys : List D → Option (List NestedKey)
  | [] => some []
  | x :: xs => match D.key x, D.keys xs with | some k, some ks => some (k :: ks) | _, _ => none
end
/-- the dict at a, by its entries -/
def dicO (P : Program) (w : World) (a : Addr) (o : Obj) (es : List (NestedKey × Addr × Value)) : HO := .ext fun h => (∃ arr ep, h.get? a = some o ∧ o.ExactDict ∧ o.data = .dict arr ep ∧ arr.toList = es.map (entryOfKey (nestedKind P w))) ∧
  (es.map (·.1)).Nodup ∧ (a == sysModules) = false ∧ es.length ≤ sizeLine
/-- keys of tuples, values: as they stand in the entries -/
def KeyOf (k : NestedKey) (d : D) : Prop := d.key = some k ∧ k.depth ≤ 8 ∧ ∃ ks, k = .tup ks
mutual
inductive Rv (G : Glue) (N : Addr → Prop) (H : Hp) : D → V → Prop
  | non : Rv G N H .non .non
  | bl (b : Bool) : Rv G N H (.bl b) (.bl b)
  | int (i : Int) : Rv G N H (.int i) (.int i)
  | str (x : Str) : Rv G N H (.str x) (.str x)
  | tup {a : Addr} {vs : List V} {ds : List D} : SqT G.K H a vs → Rvs G N H ds vs → Rv G N H (.tup ds) (.ref a)
  | lst {a : Addr} {vs : List V} {ds : List D} : H a = some (.lst vs) → ¬ N a → Rvs G N H ds vs → Rv G N H (.lst ds) (.ref a)
  | scr {a : Addr} {vs : List V} {ds : List D} : SqS G.K H a vs → Rvs G N H ds vs → Rv G N H (.scr ds) (.ref a)
  | tpn {a : Addr} {vs : List V} {ds : List D} : SqN G.K H a vs → Rvs G N H ds vs → Rv G N H (.tpn ds) (.ref a)
  | obj {a dx : Addr} {fs : List (Str × V)} {c : Nat} {ds : List D} : H a = some (.ins (G.oC c) dx fs) → ¬ N a → fs.map (·.1) = G.oF c → Rvs G N H ds (fs.map (·.2)) → Rv G N H (.obj c ds) (.ref a)
  | dct {a : Addr} {o : Obj} {es : List (NestedKey × Addr × Value)} {kv vv : List V} {ks vs : List D} : H a = some (dicO G.P G.w a o es) → ¬ N a → Paired (fun (e : NestedKey × Addr × Value) d => KeyOf e.1 d) es ks → kv = es.map (fun e => V.ref e.2.1) → Vals vv (es.map (·.2.2)) →
      Rvs G N H ks kv → Rvs G N H vs vv → Rv G N H (.dct ks vs) (.ref a)
  | fix {a : Addr} {u : HO} : H a = some u → ¬ N a → Rv G N H (.fix u) (.ref a)
inductive Rvs (G : Glue) (N : Addr → Prop) (H : Hp) : List D → List V → Prop
  | nil : Rvs G N H [] []
  | cons {d : D} {v : V} {ds : List D} {vs : List V} : Rv G N H d v → Rvs G N H ds vs → Rvs G N H (d :: ds) (v :: vs)
end

/-- what never changes -/
def Fixed : HO → Prop
  | .tup _ => True
  | .frz _ _ => True
  | _ => False
/-- all is kept but the lists at O -/
def Keep (O : Addr → Prop) (H H' : Hp) : Prop := ∀ a o, H a = some o → (O a → Fixed o) → H' a = some o
theorem Keep.refl {O : Addr → Prop} {H : Hp} : Keep O H H := fun _ _ h _ => h
theorem Keep.trans {O : Addr → Prop} {H H1 H2 : Hp} (a : Keep O H H1) (b : Keep O H1 H2) : Keep O H H2 := fun x o h f => b x o (a x o h f) f
theorem Keep.same {O : Addr → Prop} {H H' : Hp} (s : Same H H') : Keep O H H' := fun a o h _ => s a o h
theorem Keep.mono {O O' : Addr → Prop} {H H' : Hp} (k : Keep O H H') (h : ∀ a, O a → O' a) : Keep O' H H' := fun a o e f => k a o e fun z => f (h a z)
theorem Keep.upd {O : Addr → Prop} {H : Hp} {a : Addr} {o u : HO} (h : H a = some o) (n : ¬ Fixed o) (q : O a) : Keep O H (upd H a u) := fun b x e f => by
  by_cases z : b = a
  · subst z; rw [h] at e; cases e; exact absurd (f q) n
  · rw [upd_ne z]; exact e
theorem same_fresh {H : Hp} {p : Addr} (h : H p = none) (o : HO) : Same H (upd H p o) := fun b u q => by rw [upd_ne (ne_of_none q h)]; exact q

theorem SqT.keep {K : PySem.W.Frag} {O : Addr → Prop} {H H' : Hp} {a : Addr} {xs : List V} (k : Keep O H H') (h : SqT K H a xs) : SqT K H' a xs := by
  rcases h with (h | ⟨o, h⟩) | h
  · exact .inl (.inl (k a _ h fun _ => trivial))
  · exact .inl (.inr ⟨o, k a _ h fun _ => trivial⟩)
  · exact .inr h
theorem SqS.keep {K : PySem.W.Frag} {O : Addr → Prop} {H H' : Hp} {a : Addr} {xs : List V} (k : Keep O H H') (h : SqS K H a xs) : SqS K H' a xs := by
  rcases h with ⟨o, h⟩ | h
  · exact .inl ⟨o, k _ _ h fun _ => trivial⟩
  · exact .inr h
theorem Rd.keep {O : Addr → Prop} {H H' : Hp} {a : Addr} {u : HO} (k : Keep O H H') (n : ¬ O a) (h : Rd H a u) : Rd H' a u := by
  rcases h with h | ⟨o, h⟩
  · exact .inl (k a _ h fun z => absurd z n)
  · exact .inr ⟨o, k a _ h fun _ => trivial⟩

theorem SqN.keep {K : PySem.W.Frag} {O : Addr → Prop} {H H' : Hp} {a : Addr} {xs : List V} (k : Keep O H H') (h : SqN K H a xs) : SqN K H' a xs := by
  rcases h with ⟨o, h, h1, h2⟩ | h
  · exact .inl ⟨o, k _ _ h fun _ => trivial, h1, h2⟩
  · exact .inr h
mutual
theorem Rv.keep {G : Glue} {N O : Addr → Prop} {H H' : Hp} (k : Keep O H H') (hO : ∀ a, O a → N a) : ∀ {d : D} {v : V}, Rv G N H d v → Rv G N H' d v
  | .non, _, h => by cases h; exact .non
  | .bl b, _, h => by cases h; exact .bl b
  | .int i, _, h => by cases h; exact .int i
  | .str x, _, h => by cases h; exact .str x
  | .tup ds, _, h => by
    cases h with
    | tup hs ha => exact .tup (SqT.keep k hs) (Rvs.keep k hO ha)
  | .lst ds, _, h => by
    cases h with
    | lst hs n ha => exact .lst (k _ _ hs fun z => absurd (hO _ z) n) n (Rvs.keep k hO ha)
  | .scr ds, _, h => by
    cases h with
    | scr hs ha => exact .scr (SqS.keep k hs) (Rvs.keep k hO ha)
  | .tpn ds, _, h => by
    cases h with
    | tpn hs ha => exact .tpn (SqN.keep k hs) (Rvs.keep k hO ha)
  | .obj c ds, _, h => by
    cases h with
    | obj hs n hf ha => exact .obj (k _ _ hs fun z => absurd (hO _ z) n) n hf (Rvs.keep k hO ha)
  | .dct ks vs, _, h => by
    cases h with
    | dct hs n hk he hv h1 h2 => exact .dct (k _ _ hs fun z => absurd (hO _ z) n) n hk he hv (Rvs.keep k hO h1) (Rvs.keep k hO h2)
  | .fix u, _, h => by
    cases h with
    | fix hs n => exact .fix (k _ _ hs fun z => absurd (hO _ z) n) n
theorem Rvs.keep {G : Glue} {N O : Addr → Prop} {H H' : Hp} (k : Keep O H H') (hO : ∀ a, O a → N a) : ∀ {ds : List D} {vs : List V}, Rvs G N H ds vs → Rvs G N H' ds vs
  | [], _, h => by cases h; exact .nil
  | d :: ds, _, h => by
    cases h with
    | cons h1 h2 => exact .cons (Rv.keep k hO h1) (Rvs.keep k hO h2)
end
/-- another set of places that no data lies at -/
theorem Rv.anti' {G : Glue} {N N' : Addr → Prop} {H : Hp} (hn : ∀ a o, H a = some o → N' a → N a) : ∀ {d : D} {v : V}, Rv G N H d v → Rv G N' H d v := by
  intro d v h
  refine Rv.rec (G := G) (N := N) (H := H) (motive_1 := fun d v _ => Rv G N' H d v) (motive_2 := fun ds vs _ => Rvs G N' H ds vs) .non .bl .int .str ?_ ?_ ?_ ?_ ?_ ?_ ?_ .nil ?_ h
  · intro a vs ds hs _ ih; exact .tup hs ih
  · intro a vs ds hs n _ ih
    exact .lst hs (fun z => n (hn a _ hs z)) ih
  · intro a vs ds hs _ ih; exact .scr hs ih
  · intro a vs ds hs _ ih; exact .tpn hs ih
  · intro a dx fs c ds hs n hf _ ih; exact .obj hs (fun z => n (hn a _ hs z)) hf ih
  · intro a o es kv vv ks vs hs n hk he hv _ _ h1 h2; exact .dct hs (fun z => n (hn a _ hs z)) hk he hv h1 h2
  · intro a u hs n; exact .fix hs fun z => n (hn a _ hs z)
  · intro d v ds vs _ _ h1 h2; exact .cons h1 h2
theorem Rvs.anti' {G : Glue} {N N' : Addr → Prop} {H : Hp} (hn : ∀ a o, H a = some o → N' a → N a) : ∀ {ds : List D} {vs : List V}, Rvs G N H ds vs → Rvs G N' H ds vs
  | [], _, h => by cases h; exact .nil
  | d :: ds, _, h => by
    cases h with
    | cons h1 h2 => exact .cons (Rv.anti' hn h1) (Rvs.anti' hn h2)
theorem Rv.anti {G : Glue} {N N' : Addr → Prop} {H : Hp} {d : D} {v : V} (hn : ∀ a, N' a → N a) (h : Rv G N H d v) : Rv G N' H d v := h.anti' fun a _ _ => hn a
theorem Rvs.anti {G : Glue} {N N' : Addr → Prop} {H : Hp} {d : List D} {v : List V} (hn : ∀ a, N' a → N a) (h : Rvs G N H d v) : Rvs G N' H d v := h.anti' fun a _ _ => hn a
theorem Rvs.length {G : Glue} {N : Addr → Prop} {H : Hp} : ∀ {ds : List D} {vs : List V}, Rvs G N H ds vs → ds.length = vs.length
  | [], _, h => by cases h; rfl
  | d :: ds, _, h => by
    cases h with
    | cons h1 h2 => simp [Rvs.length h2]
theorem Rvs.get {G : Glue} {N : Addr → Prop} {H : Hp} : ∀ {ds : List D} {vs : List V} {i : Nat} {v : V}, Rvs G N H ds vs → vs[i]? = some v → ∃ d, ds[i]? = some d ∧ Rv G N H d v
  | [], _, _, _, h, e => by cases h; simp at e
  | d :: ds, _, 0, v, h, e => by
    cases h with
    | cons h1 h2 => simp at e; subst e; exact ⟨d, rfl, h1⟩
  | d :: ds, _, i + 1, v, h, e => by
    cases h with
    | cons h1 h2 =>
      obtain ⟨x, q, r⟩ := Rvs.get (i := i) h2 (by simpa using e)
      exact ⟨x, by simpa using q, r⟩
theorem Rvs.getD {G : Glue} {N : Addr → Prop} {H : Hp} : ∀ {ds : List D} {vs : List V} {i : Nat} {d : D}, Rvs G N H ds vs → ds[i]? = some d → ∃ v, vs[i]? = some v ∧ Rv G N H d v
  | [], _, _, _, h, e => by simp at e
  | d :: ds, _, 0, v, h, e => by
    cases h with
    | cons h1 h2 => simp at e; subst e; exact ⟨_, rfl, h1⟩
  | d :: ds, _, i + 1, v, h, e => by
    cases h with
    | cons h1 h2 =>
      obtain ⟨x, q, r⟩ := Rvs.getD (i := i) h2 (by simpa using e)
      exact ⟨x, by simpa using q, r⟩
theorem Rvs.append {G : Glue} {N : Addr → Prop} {H : Hp} : ∀ {ds es : List D} {vs ws : List V}, Rvs G N H ds vs → Rvs G N H es ws → Rvs G N H (ds ++ es) (vs ++ ws)
  | [], _, _, _, h, q => by cases h; exact q
  | d :: ds, _, _, _, h, q => by
    cases h with
    | cons h1 h2 => exact .cons h1 (Rvs.append h2 q)
theorem Rvs.take {G : Glue} {N : Addr → Prop} {H : Hp} : ∀ (n : Nat) {ds : List D} {vs : List V}, Rvs G N H ds vs → Rvs G N H (ds.take n) (vs.take n)
  | 0, _, _, _ => .nil
  | n + 1, [], _, h => by cases h; exact .nil
  | n + 1, d :: ds, _, h => by
    cases h with
    | cons h1 h2 => exact .cons h1 (Rvs.take n h2)
theorem Rvs.drop {G : Glue} {N : Addr → Prop} {H : Hp} : ∀ (n : Nat) {ds : List D} {vs : List V}, Rvs G N H ds vs → Rvs G N H (ds.drop n) (vs.drop n)
  | 0, _, _, h => h
  | n + 1, [], _, h => by cases h; exact .nil
  | n + 1, d :: ds, _, h => by
    cases h with
    | cons h1 h2 => exact Rvs.drop n h2
theorem Rvs.reverse {G : Glue} {N : Addr → Prop} {H : Hp} : ∀ {ds : List D} {vs : List V}, Rvs G N H ds vs → Rvs G N H ds.reverse vs.reverse
  | [], _, h => by cases h; exact .nil
  | d :: ds, _, h => by
    cases h with
    | cons h1 h2 => rw [List.reverse_cons, List.reverse_cons]; exact (Rvs.reverse h2).append (.cons h1 .nil)
theorem Rvs.set {G : Glue} {N : Addr → Prop} {H : Hp} {x : D} {v : V} (r : Rv G N H x v) : ∀ (i : Nat) {ds : List D} {vs : List V}, Rvs G N H ds vs → Rvs G N H (ds.set i x) (vs.set i v)
  | _, [], _, h => by cases h; exact .nil
  | 0, d :: ds, _, h => by
    cases h with
    | cons h1 h2 => exact .cons r h2
  | i + 1, d :: ds, _, h => by
    cases h with
    | cons h1 h2 => exact .cons h1 (Rvs.set r i h2)
theorem Rvs.eraseIdx {G : Glue} {N : Addr → Prop} {H : Hp} : ∀ (i : Nat) {ds : List D} {vs : List V}, Rvs G N H ds vs → Rvs G N H (ds.eraseIdx i) (vs.eraseIdx i)
  | _, [], _, h => by cases h; exact .nil
  | 0, d :: ds, _, h => by
    cases h with
    | cons h1 h2 => exact h2
  | i + 1, d :: ds, _, h => by
    cases h with
    | cons h1 h2 => exact .cons h1 (Rvs.eraseIdx i h2)
theorem Rvs.rep {G : Glue} {N : Addr → Prop} {H : Hp} {ds : List D} {vs : List V} (h : Rvs G N H ds vs) : ∀ k : Nat, Rvs G N H (List.replicate k ds).flatten (List.replicate k vs).flatten
  | 0 => .nil
  | k + 1 => by
    rw [List.replicate_succ, List.replicate_succ, List.flatten_cons, List.flatten_cons]
    exact h.append (Rvs.rep h k)
theorem Rvs.ints {G : Glue} {N : Addr → Prop} {H : Hp} : ∀ ns : List Int, Rvs G N H (ns.map D.int) (ns.map V.int)
  | [] => .nil
  | n :: ns => .cons (.int n) (Rvs.ints ns)
theorem Rvs.ints_inv {G : Glue} {N : Addr → Prop} {H : Hp} : ∀ {ns : List Int} {vs : List V}, Rvs G N H (ns.map D.int) vs → vs = ns.map V.int
  | [], _, h => by cases h; rfl
  | n :: ns, _, h => by
    cases h with
    | cons h1 h2 => cases h1; rw [Rvs.ints_inv h2]; rfl

/-- the lists and tuples of a heap are within the line -/
def HSz (H : Hp) : Prop := ∀ a xs, (Rd H a (.lst xs) ∨ Rd H a (.tup xs)) → xs.length ≤ sizeLine
theorem HSz.of {P : Program} {w : World} {H : Hp} {h : Heap} (x : HOk P w H h) : HSz H := fun a xs e => by
  rcases e with e | e
  · exact (e.ok x).1
  · exact (e.ok x).1
/-- the dict at a -/
def Dic (G : Glue) (N : Addr → Prop) (H : Hp) (a : Addr) (ks vs : List D) : Prop := ∃ (o : Obj) (es : List (NestedKey × Addr × Value)) (kv vv : List V), H a = some (dicO G.P G.w a o es) ∧ Paired (fun (e : NestedKey × Addr × Value) d => KeyOf e.1 d) es ks ∧
  kv = es.map (fun e => V.ref e.2.1) ∧ Vals vv (es.map (·.2.2)) ∧ Rvs G N H ks kv ∧ Rvs G N H vs vv
theorem Dic.imp {G : Glue} {N N' : Addr → Prop} {H H' : Hp} {a : Addr} {ks vs : List D} (h : Dic G N H a ks vs) (kp : ∀ o, H a = some o → H' a = some o) (rv : ∀ ds vs, Rvs G N H ds vs → Rvs G N' H' ds vs) : Dic G N' H' a ks vs := by
  obtain ⟨o, es, kv, vv, h1, h2, h3, h4, h5, h6⟩ := h
  exact ⟨o, es, kv, vv, kp _ h1, h2, h3, h4, rv _ _ h5, rv _ _ h6⟩
theorem Dic.rv {G : Glue} {N : Addr → Prop} {H : Hp} {a : Addr} {ks vs : List D} (h : Dic G N H a ks vs) (n : ¬ N a) : Rv G N H (.dct ks vs) (.ref a) := by
  obtain ⟨o, es, kv, vv, h1, h2, h3, h4, h5, h6⟩ := h
  exact .dct h1 n h2 h3 h4 h5 h6
theorem Rv.dic {G : Glue} {N : Addr → Prop} {H : Hp} {ks vs : List D} {v : V} (h : Rv G N H (.dct ks vs) v) : ∃ a, v = .ref a ∧ ¬ N a ∧ Dic G N H a ks vs := by
  cases h with
  | dct h1 n h2 h3 h4 h5 h6 => exact ⟨_, rfl, n, _, _, _, _, h1, h2, h3, h4, h5, h6⟩
end F

set_option Elab.async false
set_option linter.all false
set_option maxRecDepth 100000
set_option maxHeartbeats 4000000
namespace F
open PySem PySem.Spec PyProof.Rows L2

/-- one running of a def: places that are not its own, the heap at its entry, the list handed in to be written, data that is held -/
structure Act where
  N0 : Addr → Prop
  H0 : Hp
  io : Option Addr
  hd : List (D × V)
abbrev St := L2.St
abbrev Own (A : Nat → Option Addr) : Addr → Prop := fun a => ∃ i, A i = some a
abbrev Act.N (T : Act) (A : Nat → Option Addr) : Addr → Prop := fun a => T.N0 a ∨ Own A a

/-- what stands at a place of one's own that is no list: a dict, a new instance with some of its attributes (the last one may be a dict of one's own) -/
def Hd (G : Glue) (N : Addr → Prop) (A : Nat → Option Addr) (H : Hp) (i : Nat) (a : Addr) : Sv → Prop
  | .d ks vs => Dic G N H a ks vs
  | .o c xs => ∃ (dx : Addr) (fs : List (Str × V)), H a = some (.ins (G.oC c) dx fs) ∧ fs.map (·.1) = (G.oF c).take xs.length ∧ xs.length ≤ (G.oF c).length ∧ Rvs G N H xs (fs.map (·.2))
  | .od c xs ks vs => ∃ (dx : Addr) (fs : List (Str × V)) (f : Str) (b : Addr), H a = some (.ins (G.oC c) dx (fs ++ [(f, .ref b)])) ∧ fs.map (·.1) = (G.oF c).take xs.length ∧ (G.oF c)[xs.length]? = some f ∧ Rvs G N H xs (fs.map (·.2)) ∧
      A (i + 1000) = some b ∧ Dic G N H b ks vs
  | _ => False
theorem Hd.imp' {G : Glue} {N N' : Addr → Prop} {A A' : Nat → Option Addr} {H H' : Hp} {i : Nat} {a : Addr} {x : Sv} (h : Hd G N A H i a x) (kp : ∀ b o, (b = a ∨ (A (i + 1000) = some b ∧ ∃ o es, H b = some (dicO G.P G.w b o es))) → H b = some o → H' b = some o)
    (hA : ∀ b, A (i + 1000) = some b → (∃ o es, H b = some (dicO G.P G.w b o es)) → A' (i + 1000) = some b) (rv : ∀ ds vs, Rvs G N H ds vs → Rvs G N' H' ds vs) : Hd G N' A' H' i a x := by
  cases x with
  | d ks vs => exact Dic.imp h (fun o e => kp _ o (.inl rfl) e) rv
  | o c xs => obtain ⟨dx, fs, h1, h2, h3, h4⟩ := h; exact ⟨dx, fs, kp _ _ (.inl rfl) h1, h2, h3, rv _ _ h4⟩
  | od c xs ks vs =>
    obtain ⟨dx, fs, f, b, h1, h2, h3, h4, h5, h6⟩ := h
    exact ⟨dx, fs, f, b, kp _ _ (.inl rfl) h1, h2, h3, rv _ _ h4, hA _ h5 (let ⟨o, es, _, _, q, _⟩ := h6; ⟨o, es, q⟩), h6.imp (fun o e => kp _ o (.inr ⟨h5, let ⟨o, es, _, _, q, _⟩ := h6; ⟨o, es, q⟩⟩) e) rv⟩
  | v d => exact h
  | m xs => exact h
theorem Hd.imp {G : Glue} {N N' : Addr → Prop} {A A' : Nat → Option Addr} {H H' : Hp} {i : Nat} {a : Addr} {x : Sv} (h : Hd G N A H i a x) (kp : ∀ b o, (b = a ∨ (A (i + 1000) = some b ∧ ∃ o es, H b = some (dicO G.P G.w b o es))) → H b = some o → H' b = some o)
    (hA : ∀ b, A (i + 1000) = some b → A' (i + 1000) = some b) (rv : ∀ ds vs, Rvs G N H ds vs → Rvs G N' H' ds vs) : Hd G N' A' H' i a x := h.imp' kp (fun b q _ => hA b q) rv
def Sv.mx : Sv → Bool
  | .d _ _ => true
  | .o _ _ => true
  | .od _ _ _ _ => true
  | _ => false
/-- the slots, by the names' values and the heap -/
structure Sr (G : Glue) (T : Act) (A : Nat → Option Addr) (sl : Sl) (σ : St) (H : Hp) : Prop where
  val : ∀ (i : Nat) (d : D), sl[i]? = some (some (Sv.v d)) → ∃ v, σ[i]? = some (some v) ∧ Rv G (T.N A) H d v
  mu : ∀ (i : Nat) (xs : List D), sl[i]? = some (some (Sv.m xs)) → ∃ a vs, A i = some a ∧ σ[i]? = some (some (.ref a)) ∧ H a = some (.lst vs) ∧ Rvs G (T.N A) H xs vs
  len : sl.length = σ.length
  inj : ∀ (i j : Nat) (a : Addr), A i = some a → A j = some a → i = j
  own : ∀ (i : Nat) (a : Addr), A i = some a → (T.H0 a = none ∧ ¬ T.N0 a ∧ T.io ≠ some a) ∨ (T.io = some a ∧ i = 0 ∧ T.N0 a)
  alive : ∀ (i : Nat) (a : Addr), A i = some a → ∃ o, H a = some o ∧ ¬ Fixed o
  kept : ∀ b o, T.H0 b = some o → T.io ≠ some b → H b = some o
  trk : ∀ b, T.N0 b → ∃ o, H b = some o
  iot : ∀ a, T.io = some a → A 0 = some a
  held : ∀ p ∈ T.hd, Rv G (T.N A) H p.1 p.2
  sz : HSz H
  mx : ∀ (i : Nat) (x : Sv), sl[i]? = some (some x) → x.mx = true → ∃ a, A i = some a ∧ σ[i]? = some (some (.ref a)) ∧ Hd G (T.N A) A H i a x

section
variable {G : Glue} {T : Act} {A : Nat → Option Addr} {sl : Sl} {σ : St} {H H' : Hp}
theorem Sr.fresh (r : Sr G T A sl σ H) {p : Addr} (h : H p = none) : ¬ T.N A p := by
  rintro (z | ⟨i, z⟩)
  · obtain ⟨o, e⟩ := r.trk p z; rw [e] at h; cases h
  · obtain ⟨o, e, _⟩ := r.alive i p z; rw [e] at h; cases h
theorem Sr.fresh0 (r : Sr G T A sl σ H) {p : Addr} (h : H p = none) : T.H0 p = none := by
  cases e : T.H0 p with
  | none => rfl
  | some o =>
    by_cases z : T.io = some p
    · obtain ⟨o, e, _⟩ := r.alive 0 p (r.iot p z); rw [e] at h; cases h
    · rw [r.kept p o e z] at h; cases h
/-- the heap has grown -/
theorem Sr.grown (r : Sr G T A sl σ H) (s : Same H H') (z : HSz H') : Sr G T A sl σ H' := by
  have k : Keep (Own A) H H' := .same s
  have hO : ∀ a, Own A a → T.N A a := fun a h => .inr h
  refine ⟨fun i d e => ?_, fun i xs e => ?_, r.len, r.inj, r.own, fun i a e => ?_, fun b o e n => s b o (r.kept b o e n), fun b e => ?_, r.iot, fun p hp => Rv.keep k hO (r.held p hp), z, fun i x e h => ?_⟩
  · obtain ⟨v, e1, e2⟩ := r.val i d e; exact ⟨v, e1, Rv.keep k hO e2⟩
  · obtain ⟨a, vs, e1, e2, e3, e4⟩ := r.mu i xs e; exact ⟨a, vs, e1, e2, s _ _ e3, Rvs.keep k hO e4⟩
  · obtain ⟨o, q, n⟩ := r.alive i a e; exact ⟨o, s _ _ q, n⟩
  · obtain ⟨o, q⟩ := r.trk b e; exact ⟨o, s _ _ q⟩
  · obtain ⟨a, e1, e2, e3⟩ := r.mx i x e h
    exact ⟨a, e1, e2, e3.imp (fun b o _ q => s _ _ q) (fun _ q => q) fun _ _ q => Rvs.keep k hO q⟩
/-- the list of the name at place i is written, the heap may have grown -/
theorem Sr.turn (r : Sr G T A sl σ H) {i : Nat} {a : Addr} {xs : List D} {vs : List V} (hi : ∃ ys, sl[i]? = some (some (Sv.m ys))) (ha : A i = some a) (kb : ∀ b o, b ≠ a → H b = some o → H' b = some o) (hl : H' a = some (.lst vs))
    (hv : Rvs G (T.N A) H' xs vs) (z : HSz H') : Sr G T A (sl.set i (some (Sv.m xs))) σ H' ∧ Keep (Own A) H H' := by
  obtain ⟨us, hu, nf⟩ := r.alive i a ha
  have k : Keep (Own A) H H' := fun b o e f => by
    by_cases hb : b = a
    · subst hb; rw [hu] at e; cases e; exact (nf (f ⟨i, ha⟩)).elim
    · exact kb b o hb e
  have hO : ∀ a, Own A a → T.N A a := fun a h => .inr h
  refine ⟨⟨fun j d e => ?_, fun j xs' e => ?_, by simpa using r.len, r.inj, r.own, fun j b e => ?_, fun b o e n => ?_, fun b e => ?_, r.iot, fun p hp => Rv.keep k hO (r.held p hp), z, fun j x e h => ?_⟩, k⟩
  · by_cases hj : i = j
    · subst hj
      rw [List.getElem?_set] at e
      simp only [if_true] at e
      split at e <;> cases e
    · rw [List.getElem?_set_ne hj] at e
      obtain ⟨v, e1, e2⟩ := r.val j d e; exact ⟨v, e1, Rv.keep k hO e2⟩
  · by_cases hj : i = j
    · subst hj
      rw [List.getElem?_set] at e
      simp only [if_true] at e
      split at e <;> cases e
      obtain ⟨ys, hys⟩ := hi
      obtain ⟨a', vs', e1, e2, _, _⟩ := r.mu i ys hys
      rw [ha] at e1; cases e1
      exact ⟨a, vs, ha, e2, hl, hv⟩
    · rw [List.getElem?_set_ne hj] at e
      obtain ⟨b, vs', e1, e2, e3, e4⟩ := r.mu j xs' e
      have ne : b ≠ a := fun z => hj (r.inj i j a ha (z ▸ e1))
      exact ⟨b, vs', e1, e2, kb _ _ ne e3, Rvs.keep k hO e4⟩
  · by_cases hb : b = a
    · subst hb; exact ⟨_, hl, id⟩
    · obtain ⟨ys, q, n⟩ := r.alive j b e; exact ⟨ys, kb _ _ hb q, n⟩
  · have ne : b ≠ a := fun z => by
      subst z
      rcases r.own i b ha with ⟨q, _⟩ | ⟨q, _⟩
      · rw [q] at e; cases e
      · exact n q
    exact kb _ _ ne (r.kept b o e n)
  · by_cases hb : b = a
    · subst hb; exact ⟨_, hl⟩
    · obtain ⟨o, q⟩ := r.trk b e; exact ⟨o, kb _ _ hb q⟩
  · by_cases hj : i = j
    · subst hj
      rw [List.getElem?_set] at e
      simp only [if_true] at e
      split at e <;> cases e
      cases h
    · rw [List.getElem?_set_ne hj] at e
      obtain ⟨b, e1, e2, e3⟩ := r.mx j x e h
      have ne : b ≠ a := fun z => hj (r.inj i j a ha (z ▸ e1))
      obtain ⟨ys, hys⟩ := hi
      refine ⟨b, e1, e2, e3.imp (fun c o q w => kb _ _ (fun z => ?_) w) (fun _ q => q) fun _ _ q => Rvs.keep k hO q⟩
      rcases q with q | ⟨q, o0, es, q2⟩
      · exact ne (q ▸ z)
      · obtain ⟨a', vs', u1, _, u2, _⟩ := r.mu i ys hys
        rw [ha] at u1; cases u1
        rw [z, u2] at q2
        cases q2
/-- the list of the name at place i is written -/
theorem Sr.write (r : Sr G T A sl σ H) {i : Nat} {a : Addr} {xs : List D} {vs : List V} (hi : ∃ ys, sl[i]? = some (some (Sv.m ys))) (ha : A i = some a) (hv : Rvs G (T.N A) H xs vs) (z : HSz (upd H a (.lst vs))) :
    Sr G T A (sl.set i (some (Sv.m xs))) σ (upd H a (.lst vs)) ∧ Keep (Own A) H (upd H a (.lst vs)) := by
  obtain ⟨us, hu, nf⟩ := r.alive i a ha
  exact r.turn hi ha (fun b o ne e => by rw [upd_ne ne]; exact e) upd_same (Rvs.keep (Keep.upd hu nf ⟨i, ha⟩) (fun a h => .inr h) hv) z
/-- a name is bound to data -/
theorem Sr.set (r : Sr G T A sl σ H) (i : Nat) {d : D} {v : V} (hv : Rv G (T.N A) H d v) : Sr G T A (sl.set i (some (Sv.v d))) (σ.set i (some v)) H := by
  refine ⟨fun j d' e => ?_, fun j xs e => ?_, by simpa using r.len, r.inj, r.own, r.alive, r.kept, r.trk, r.iot, r.held, r.sz, fun j x e h => ?_⟩
  · by_cases hj : i = j
    · subst hj
      rw [List.getElem?_set] at e
      simp only [if_true] at e
      split at e
      · rename_i hl
        cases e
        exact ⟨v, by rw [List.getElem?_set]; simp only [if_true]; rw [if_pos (by rw [← r.len]; exact hl)], hv⟩
      · cases e
    · rw [List.getElem?_set_ne hj] at e
      obtain ⟨v', e1, e2⟩ := r.val j d' e; exact ⟨v', by rw [List.getElem?_set_ne hj]; exact e1, e2⟩
  · by_cases hj : i = j
    · subst hj
      rw [List.getElem?_set] at e
      simp only [if_true] at e
      split at e <;> cases e
    · rw [List.getElem?_set_ne hj] at e
      obtain ⟨a, vs, e1, e2, e3, e4⟩ := r.mu j xs e
      exact ⟨a, vs, e1, by rw [List.getElem?_set_ne hj]; exact e2, e3, e4⟩
  · by_cases hj : i = j
    · subst hj
      rw [List.getElem?_set] at e
      simp only [if_true] at e
      split at e <;> cases e
      cases h
    · rw [List.getElem?_set_ne hj] at e
      obtain ⟨a, e1, e2, e3⟩ := r.mx j x e h
      exact ⟨a, e1, by rw [List.getElem?_set_ne hj]; exact e2, e3⟩
/-- what stands at a name's own place -/
def Own1 (G : Glue) (N : Addr → Prop) (A : Nat → Option Addr) (H : Hp) (i : Nat) (a : Addr) : Sv → Prop
  | .m xs => ∃ vs, H a = some (.lst vs) ∧ Rvs G N H xs vs
  | .v _ => False
  | x => Hd G N A H i a x
/-- a name is bound to a thing of its own, just made at p -/
theorem Sr.setO (r : Sr G T A sl σ H) {i : Nat} {p : Addr} {x : Sv} {u : HO} (hi : i < 1000) (hio : T.io = none ∨ i ≠ 0) (hp : H p = none) (nf : ¬ Fixed u) (z : HSz (upd H p u))
    (hv : Own1 G (T.N fun j => if j = i then some p else A j) (fun j => if j = i then some p else A j) (upd H p u) i p x) :
    Sr G T (fun j => if j = i then some p else A j) (sl.set i (some x)) (σ.set i (some (.ref p))) (upd H p u) := by
  have s : Same H (upd H p u) := same_fresh hp _
  have np : ∀ b o, H b = some o → b ≠ p := fun b o e => ne_of_none e hp
  have hN : ∀ b o, H b = some o → T.N (fun j => if j = i then some p else A j) b → T.N A b := fun b o e h => by
    rcases h with h | ⟨j, h⟩
    · exact .inl h
    · dsimp only at h
      split at h
      · cases h; exact absurd rfl (np _ o e)
      · exact .inr ⟨j, h⟩
  have lift : ∀ {d : D} {v : V}, Rv G (T.N A) H d v → Rv G (T.N fun j => if j = i then some p else A j) (upd H p u) d v := fun h =>
    Rv.keep (O := fun _ => False) (.same s) (fun _ z => z.elim) (Rv.anti' hN h)
  have lifts : ∀ {d : List D} {v : List V}, Rvs G (T.N A) H d v → Rvs G (T.N fun j => if j = i then some p else A j) (upd H p u) d v := fun h =>
    Rvs.keep (O := fun _ => False) (.same s) (fun _ z => z.elim) (Rvs.anti' hN h)
  have at_i : ∀ {y : Sv}, (sl.set i (some x))[i]? = some (some y) → y = x ∧ (σ.set i (some (.ref p)))[i]? = some (some (.ref p)) := fun {y} e => by
    rw [List.getElem?_set] at e
    simp only [if_true] at e
    split at e
    · rename_i hl
      cases e
      exact ⟨rfl, by rw [List.getElem?_set]; simp only [if_true]; rw [if_pos (by rw [← r.len]; exact hl)]⟩
    · cases e
  refine ⟨fun j d' e => ?_, fun j xs' e => ?_, by simpa using r.len, fun j l a e1 e2 => ?_, fun j a e => ?_, fun j a e => ?_, fun b o e n => s _ _ (r.kept b o e n), fun b e => ?_, fun a e => ?_, fun q hq => lift (r.held q hq), z, fun j y e h => ?_⟩
  · by_cases hj : i = j
    · subst hj
      obtain ⟨e1, _⟩ := at_i e
      subst e1
      exact hv.elim
    · rw [List.getElem?_set_ne hj] at e
      obtain ⟨v', e1, e2⟩ := r.val j d' e; exact ⟨v', by rw [List.getElem?_set_ne hj]; exact e1, lift e2⟩
  · by_cases hj : i = j
    · subst hj
      obtain ⟨e1, e2⟩ := at_i e
      subst e1
      obtain ⟨vs, h1, h2⟩ := hv
      exact ⟨p, vs, if_pos rfl, e2, h1, h2⟩
    · rw [List.getElem?_set_ne hj] at e
      obtain ⟨a, vs', e1, e2, e3, e4⟩ := r.mu j xs' e
      exact ⟨a, vs', by rw [if_neg (Ne.symm hj)]; exact e1, by rw [List.getElem?_set_ne hj]; exact e2, s _ _ e3, lifts e4⟩
  · have low : ∀ {m : Nat} {b : Addr}, A m = some b → b ≠ p := fun {m b} e => by
      obtain ⟨ys, q, _⟩ := r.alive m b e; exact np b _ q
    by_cases h1 : j = i
    · by_cases h2 : l = i
      · rw [h1, h2]
      · rw [if_pos h1] at e1; rw [if_neg h2] at e2; cases e1; exact absurd rfl (low e2)
    · by_cases h2 : l = i
      · rw [if_neg h1] at e1; rw [if_pos h2] at e2; cases e2; exact absurd rfl (low e1)
      · rw [if_neg h1] at e1; rw [if_neg h2] at e2; exact r.inj j l a e1 e2
  · by_cases h1 : j = i
    · rw [if_pos h1] at e; cases e
      refine .inl ⟨r.fresh0 hp, fun q => r.fresh hp (.inl q), fun q => ?_⟩
      exact r.fresh hp (.inr ⟨0, r.iot p q⟩)
    · rw [if_neg h1] at e; exact r.own j a e
  · by_cases h1 : j = i
    · rw [if_pos h1] at e; cases e; exact ⟨_, upd_same, nf⟩
    · rw [if_neg h1] at e; obtain ⟨ys, q, n⟩ := r.alive j a e; exact ⟨ys, s _ _ q, n⟩
  · obtain ⟨o, q⟩ := r.trk b e; exact ⟨o, s _ _ q⟩
  · have h0 : (0 : Nat) ≠ i := fun h => by
      rcases hio with h1 | h1
      · rw [h1] at e; cases e
      · exact h1 h.symm
    rw [if_neg h0]; exact r.iot a e
  · by_cases hj : i = j
    · subst hj
      obtain ⟨e1, e2⟩ := at_i e
      subst e1
      refine ⟨p, if_pos rfl, e2, ?_⟩
      cases y with
      | v d => cases h
      | m xs => cases h
      | d ks vs => exact hv
      | o c xs => exact hv
      | od c xs ks vs => exact hv
    · rw [List.getElem?_set_ne hj] at e
      obtain ⟨a, e1, e2, e3⟩ := r.mx j y e h
      exact ⟨a, by rw [if_neg (Ne.symm hj)]; exact e1, by rw [List.getElem?_set_ne hj]; exact e2, e3.imp (fun b o _ q => s _ _ q) (fun b q => by rw [if_neg (by omega)]; exact q) fun _ _ q => lifts q⟩
/-- a name is bound to a list of its own, just made at p -/
theorem Sr.setM (r : Sr G T A sl σ H) {i : Nat} {p : Addr} {xs : List D} {vs : List V} (hi : i < 1000) (hio : T.io = none ∨ i ≠ 0) (hp : H p = none) (hv : Rvs G (T.N A) H xs vs) (z : HSz (upd H p (.lst vs))) :
    Sr G T (fun j => if j = i then some p else A j) (sl.set i (some (Sv.m xs))) (σ.set i (some (.ref p))) (upd H p (.lst vs)) := by
  refine r.setO hi hio hp id z ⟨vs, upd_same, ?_⟩
  refine Rvs.keep (O := fun _ => False) (.same (same_fresh hp _)) (fun _ z => z.elim) (Rvs.anti' (fun b o e h => ?_) hv)
  rcases h with h | ⟨j, h⟩
  · exact .inl h
  · dsimp only at h
    split at h
    · cases h; exact absurd rfl (ne_of_none e hp)
    · exact .inr ⟨j, h⟩
/-- data is held on to -/
theorem Sr.hold (r : Sr G T A sl σ H) {d : D} {v : V} (hv : Rv G (T.N A) H d v) : Sr G { T with hd := (d, v) :: T.hd } A sl σ H :=
  ⟨r.val, r.mu, r.len, r.inj, r.own, r.alive, r.kept, r.trk, r.iot, fun p hp => by
    rcases List.mem_cons.mp hp with rfl | hp
    · exact hv
    · exact r.held p hp, r.sz, r.mx⟩
theorem Sr.unhold {T' : Act} (h0 : T'.N0 = T.N0) (h1 : T'.H0 = T.H0) (h2 : T'.io = T.io) (h3 : ∀ p ∈ T.hd, p ∈ T'.hd) (r : Sr G T' A sl σ H) : Sr G T A sl σ H := by
  obtain ⟨N0, H0, io, hd⟩ := T
  obtain ⟨N0', H0', io', hd'⟩ := T'
  cases h0; cases h1; cases h2
  exact ⟨r.val, r.mu, r.len, r.inj, r.own, r.alive, r.kept, r.trk, r.iot, fun p hp => r.held p (h3 p hp), r.sz, r.mx⟩
end

/-! ### what is wanted behind an expression, a statement -/
def Rs (G : Glue) (T : Act) (A : Nat → Option Addr) (H : Hp) : S → V → Prop
  | .v d, x => Rv G (T.N A) H d x
  | .r i, x => ∃ a, A i = some a ∧ x = .ref a
theorem Rs.keep {G : Glue} {T : Act} {A : Nat → Option Addr} {H H' : Hp} (k : Keep (Own A) H H') : ∀ {s : S} {v : V}, Rs G T A H s v → Rs G T A H' s v
  | .v d, _, h => Rv.keep k (fun a z => .inr z) h
  | .r i, _, h => h
inductive RsL (G : Glue) (T : Act) (A : Nat → Option Addr) (H : Hp) : List S → List V → Prop
  | nil : RsL G T A H [] []
  | cons {s : S} {v : V} {ss : List S} {vs : List V} : Rs G T A H s v → RsL G T A H ss vs → RsL G T A H (s :: ss) (v :: vs)
/-- an exception, by its class and its dict -/
def ExR (G : Glue) (N : Addr → Prop) (H : Hp) : Ex → Value → Option Addr → Prop
  | .plain n, c, od => c = .ref (G.exA n) ∧ od = none
  | .field n d, c, od => c = .ref (G.exA n) ∧ ∃ p v, od = some p ∧ H p = some (.xd [(G.exF n, v)]) ∧ Rv G N H d v

def PostG {α β : Type} (rel : Hp → α → β → Prop) (G : Glue) (W : WX) (T : Act) (A : Nat → Option Addr) (σ : St) (H : Hp) (r : R α) (Q : β → Hp → Prop) : Prop := match r with
  | .ok s sl' => ∀ v H', Sr G T A sl' σ H' → Keep (Own A) H H' → rel H' s v → Q v H'
  | .ex e sl' => ∀ c od H', ExR G T.N0 H' e c od → Sr G T A sl' σ H' → W c od σ H'
  | .bad => False
abbrev Post (G : Glue) (W : WX) (T : Act) (A : Nat → Option Addr) (σ : St) (H : Hp) (r : R S) (Q : VK) : Prop := PostG (Rs G T A) G W T A σ H r Q
abbrev PostL (G : Glue) (W : WX) (T : Act) (A : Nat → Option Addr) (σ : St) (H : Hp) (r : R (List S)) (Q : List V → Hp → Prop) : Prop := PostG (RsL G T A) G W T A σ H r Q
abbrev PostB (G : Glue) (W : WX) (T : Act) (A : Nat → Option Addr) (σ : St) (H : Hp) (r : R Bool) (Q : Bool → Hp → Prop) : Prop := PostG (fun _ b k => b = k) G W T A σ H r Q
/-- a truth -/
def asB : S → Sl → R Bool
  | .v (.bl b), sl => .ok b sl
  | _, _ => .bad
def dB (d : Ev) : Sl → R Bool := fun sl => (d sl).bind asB
theorem PostG.keep {α β : Type} {rel : Hp → α → β → Prop} {G : Glue} {W : WX} {T : Act} {A : Nat → Option Addr} {σ : St} {H H1 : Hp} {r : R α} {Q : β → Hp → Prop} (k : Keep (Own A) H H1) (h : PostG rel G W T A σ H r Q) : PostG rel G W T A σ H1 r Q := by
  cases r with
  | ok s sl' => exact fun v H' a b c => h v H' a (k.trans b) c
  | ex e sl' => exact h
  | bad => exact h
/-- one thing after another -/
theorem PostG.bind {α β γ δ : Type} {rel : Hp → α → β → Prop} {rel' : Hp → γ → δ → Prop} {G : Glue} {W : WX} {T : Act} {A : Nat → Option Addr} {σ : St} {H : Hp} {r : R α} {k : α → Sl → R γ} {Q : δ → Hp → Prop} {Q' : β → Hp → Prop}
    (h : PostG rel' G W T A σ H (r.bind k) Q) (f : ∀ s sl' v H', r = .ok s sl' → Sr G T A sl' σ H' → Keep (Own A) H H' → rel H' s v → PostG rel' G W T A σ H' (k s sl') Q → Q' v H') : PostG rel G W T A σ H r Q' := by
  cases r with
  | ok s sl' => exact fun v H' a b c => f s sl' v H' rfl a b c (PostG.keep b h)
  | ex e sl' => exact h
  | bad => exact h

section
variable (G : Glue) (W : WX)
def tEv (T : Act) (d : Ev) : TE := fun σ H Q => HSz H → ∃ A sl, Sr G T A sl σ H ∧ Post G W T A σ H (d sl) Q
def tEvs (T : Act) (d : Evs) : TA := fun σ H Q => HSz H → ∃ A sl, Sr G T A sl σ H ∧ PostL G W T A σ H (d sl) Q
def tEvB (T : Act) (d : Ev) : TT := fun σ H Q => HSz H → ∃ A sl, Sr G T A sl σ H ∧ PostB G W T A σ H (dB d sl) Q
def SPost (T : Act) (D : Ends) : Fl → Prop
  | .nx sl => ∀ A σ H, Sr G T A sl σ H → D.nx σ H
  | .rt s sl => ∀ A σ H v, Sr G T A sl σ H → Rs G T A H s v → D.rt v H
  | .bk sl => ∀ A σ H, Sr G T A sl σ H → D.bk σ H
  | .ct sl => ∀ A σ H, Sr G T A sl σ H → D.ct σ H
  | .ex e sl => ∀ A σ H c od, ExR G T.N0 H e c od → Sr G T A sl σ H → W c od σ H
  | .bad => False
def tSm (T : Act) (m : Sm) : TS := fun D σ H => HSz H → ∃ A sl, Sr G T A sl σ H ∧ SPost G W T D (m sl)
/-- the judgements: whatever the running is -/
def FE (X : Cx) (e : Expr) (d : Ev) : Prop := ∀ T, PE X e (tEv G W T d)
def FA (X : Cx) (es : List Expr) (d : Evs) : Prop := ∀ T, PA X es (tEvs G W T d)
def FB (X : Cx) (e : Expr) (d : Ev) : Prop := ∀ T, PT X e (tEvB G W T d)
def FW (X : Cx) (e : Expr) (d : Ev) : Prop := ∀ T, PW X e (tEvB G W T d)
def FS (X : Cx) (st : Stmt) (m : Sm) : Prop := ∀ T, PS X st (tSm G W T m)
def FSs (X : Cx) (st : List Stmt) (m : Sm) : Prop := ∀ T, PSs X st (tSm G W T m)
end

/-! ### sizes come with every state -/
section
variable {X : Cx} {e : Expr}
theorem Inv.hsz {pins : List (Addr × Obj)} {σ : St} {H : Hp} {s : Shared} (I : Inv X pins σ H s) : HSz H := HSz.of I.hok
theorem PE.plus {t t' : TE} (h : PE X e t) (f : ∀ σ H Q, HSz H → t' σ H Q → t σ H fun v H' => HSz H' → Q v H') : PE X e t' :=
  ⟨fun pins s σ H Q I q => thn (h.run pins s σ H _ I (f σ H Q (Inv.hsz I) q)) fun u s' ⟨v, H', I', r, q⟩ => ⟨v, H', I', r, q (Inv.hsz I')⟩⟩
theorem PT.plus {t t' : TT} (h : PT X e t) (f : ∀ σ H Q, HSz H → t' σ H Q → t σ H fun v H' => HSz H' → Q v H') : PT X e t' :=
  ⟨fun pins s σ H Q I q => thn (h.run pins s σ H _ I (f σ H Q (Inv.hsz I) q)) fun u s' ⟨H', I', q⟩ => ⟨H', I', q (Inv.hsz I')⟩⟩
theorem PW.plus {t t' : TT} (h : PW X e t) (f : ∀ σ H Q, HSz H → t' σ H Q → t σ H fun v H' => HSz H' → Q v H') : PW X e t' :=
  ⟨fun whole pins s σ H Q I q => thn (h.run whole pins s σ H _ I (f σ H Q (Inv.hsz I) q)) fun u s' ⟨H', I', q⟩ => ⟨H', I', q (Inv.hsz I')⟩⟩
theorem PA.plus {es : List Expr} {t t' : TA} (h : PA X es t) (f : ∀ σ H Q, HSz H → t' σ H Q → t σ H fun v H' => HSz H' → Q v H') : PA X es t' :=
  ⟨fun pos pins s σ H Q I q => thn (h.run pos pins s σ H _ I (f σ H Q (Inv.hsz I) q)) fun u s' ⟨v, H', I', r, q⟩ => ⟨v, H', I', r, q (Inv.hsz I')⟩⟩
def plusE (D : Ends) : Ends := { nx := fun σ H => HSz H → D.nx σ H, rt := fun v H => HSz H → D.rt v H, bk := fun σ H => HSz H → D.bk σ H, ct := fun σ H => HSz H → D.ct σ H }
theorem SP.plus {pins : List (Addr × Obj)} {D : Ends} {f : Flow} {s' : Shared} (h : SP X pins (plusE D) f s') : SP X pins D f s' := by
  cases f with
  | next => obtain ⟨σ', H', I, q⟩ := h; exact ⟨σ', H', I, q (Inv.hsz I)⟩
  | brk => obtain ⟨σ', H', I, q⟩ := h; exact ⟨σ', H', I, q (Inv.hsz I)⟩
  | cont => obtain ⟨σ', H', I, q⟩ := h; exact ⟨σ', H', I, q (Inv.hsz I)⟩
  | ret u => obtain ⟨v, σ', H', I, r, q⟩ := h; exact ⟨v, σ', H', I, r, q (Inv.hsz I)⟩
theorem PS.plus {st : Stmt} {t t' : TS} (h : PS X st t) (f : ∀ D σ H, HSz H → t' D σ H → t (plusE D) σ H) : PS X st t' :=
  ⟨fun pins s σ H D I q => thn (h.run pins s σ H _ I (f D σ H (Inv.hsz I) q)) fun u s' q => SP.plus q⟩
theorem PSs.plus {st : List Stmt} {t t' : TS} (h : PSs X st t) (f : ∀ D σ H, HSz H → t' D σ H → t (plusE D) σ H) : PSs X st t' :=
  ⟨fun pins s σ H D I q => thn (h.run pins s σ H _ I (f D σ H (Inv.hsz I) q)) fun u s' q => SP.plus q⟩
theorem PS.imp {st : Stmt} {t t' : TS} (h : PS X st t) (f : ∀ D σ H, t' D σ H → t D σ H) : PS X st t' := ⟨fun pins s σ H D I q => h.run pins s σ H D I (f D σ H q)⟩
theorem PSs.imp {st : List Stmt} {t t' : TS} (h : PSs X st t) (f : ∀ D σ H, t' D σ H → t D σ H) : PSs X st t' := ⟨fun pins s σ H D I q => h.run pins s σ H D I (f D σ H q)⟩
theorem PE.imp {t t' : TE} (h : PE X e t) (f : ∀ σ H Q, t' σ H Q → t σ H Q) : PE X e t' := ⟨fun pins s σ H Q I q => h.run pins s σ H Q I (f σ H Q q)⟩
theorem PA.imp {es : List Expr} {t t' : TA} (h : PA X es t) (f : ∀ σ H Q, t' σ H Q → t σ H Q) : PA X es t' := ⟨fun pos pins s σ H Q I q => h.run pos pins s σ H Q I (f σ H Q q)⟩
theorem PT.imp {t t' : TT} (h : PT X e t) (f : ∀ σ H Q, t' σ H Q → t σ H Q) : PT X e t' := ⟨fun pins s σ H Q I q => h.run pins s σ H Q I (f σ H Q q)⟩
theorem PW.imp {t t' : TT} (h : PW X e t) (f : ∀ σ H Q, t' σ H Q → t σ H Q) : PW X e t' := ⟨fun whole pins s σ H Q I q => h.run whole pins s σ H Q I (f σ H Q q)⟩
end
end F

set_option Elab.async false
set_option linter.all false
set_option maxRecDepth 100000
set_option maxHeartbeats 4000000
/-! dicts and new instances of one's own: written -/
namespace F
open PySem PySem.Spec PyProof.Rows L2
section
variable {G : Glue} {T : Act} {A : Nat → Option Addr} {sl : Sl} {σ : St} {H H' : Hp}
theorem Sr.writeO (r : Sr G T A sl σ H) {i n : Nat} {c : Addr} {x y : Sv} {u : HO} (hl : sl.length ≤ 1000) (hs : sl[i]? = some (some y)) (hy : y.mx = true) (hx : x.mx = true) (hn : n = i ∨ n = i + 1000) (hc : A n = some c)  (nf : ¬ Fixed u) (z : HSz (upd H c u)) (hv : ∀ a, A i = some a → Hd G (T.N A) A H i a y → Hd G (T.N A) A (upd H c u) i a x) : Sr G T A (sl.set i (some x)) σ (upd H c u) ∧ Keep (Own A) H (upd H c u) := by
  obtain ⟨us, hu, nf0⟩ := r.alive n c hc
  have k : Keep (Own A) H (upd H c u) := Keep.upd hu nf0 ⟨n, hc⟩
  have hO : ∀ a, Own A a → T.N A a := fun a h => .inr h
  have hil : i < sl.length := (List.getElem?_eq_some_iff.mp hs).1
  have kb : ∀ b o, b ≠ c → H b = some o → upd H c u b = some o := fun b o ne e => by rw [upd_ne ne]; exact e
  have other : ∀ {j : Nat} {b : Addr} {s : Option Sv}, i ≠ j → sl[j]? = some s → A j = some b → b ≠ c := fun {j b s} hj hs e q => by
    have hjl : j < sl.length := (List.getElem?_eq_some_iff.mp hs).1
    have := r.inj n j c hc (q ▸ e)
    omega
  obtain ⟨a0, ha0, _, hd0⟩ := r.mx i y hs hy
  refine ⟨⟨fun j d e => ?_, fun j xs e => ?_, by simpa using r.len, r.inj, r.own, fun j b e => ?_, fun b o e n' => ?_, fun b e => ?_, r.iot, fun p hp => Rv.keep k hO (r.held p hp), z, fun j w e h => ?_⟩, k⟩
  · by_cases hj : i = j
    · subst hj
      rw [List.getElem?_set_self hil] at e
      cases e; cases hx
    · rw [List.getElem?_set_ne hj] at e
      obtain ⟨v, e1, e2⟩ := r.val j d e; exact ⟨v, e1, Rv.keep k hO e2⟩
  · by_cases hj : i = j
    · subst hj
      rw [List.getElem?_set_self hil] at e
      cases e; cases hx
    · rw [List.getElem?_set_ne hj] at e
      obtain ⟨b, vs', e1, e2, e3, e4⟩ := r.mu j xs e
      exact ⟨b, vs', e1, e2, kb _ _ (other hj e e1) e3, Rvs.keep k hO e4⟩
  · by_cases hb : b = c
    · subst hb; exact ⟨_, upd_same, nf⟩
    · obtain ⟨ys, q, m⟩ := r.alive j b e; exact ⟨ys, kb _ _ hb q, m⟩
  · have ne : b ≠ c := fun q => by
      subst q
      rcases r.own n b hc with ⟨q, _⟩ | ⟨q, _⟩
      · rw [q] at e; cases e
      · exact n' q
    exact kb _ _ ne (r.kept b o e n')
  · by_cases hb : b = c
    · subst hb; exact ⟨_, upd_same⟩
    · obtain ⟨o, q⟩ := r.trk b e; exact ⟨o, kb _ _ hb q⟩
  · by_cases hj : i = j
    · subst hj
      rw [List.getElem?_set_self hil] at e
      cases e
      obtain ⟨a, e1, e2, e3⟩ := r.mx i y hs hy
      exact ⟨a, e1, e2, hv a e1 e3⟩
    · rw [List.getElem?_set_ne hj] at e
      obtain ⟨b, e1, e2, e3⟩ := r.mx j w e h
      refine ⟨b, e1, e2, e3.imp (fun b' o q w' => kb _ _ (fun q2 => ?_) w') (fun _ q => q) fun _ _ q => Rvs.keep k hO q⟩
      rcases q with q | ⟨q, _⟩
      · exact other hj e e1 (q ▸ q2)
      · have := r.inj n (j + 1000) c hc (q2 ▸ q)
        omega
end
end F

set_option Elab.async false
set_option linter.all false
set_option maxRecDepth 100000
set_option maxHeartbeats 4000000
namespace F
open PySem PySem.Spec PyProof.Rows L2

/-- what a value tells: data, or the list of a name -/
def getS (sl : Sl) : S → Option D
  | .v d => some d
  | .r i => match sl[i]? with
    | some (some (.m xs)) => some (.lst xs)
    | some (some (.d ks vs)) => some (.dct ks vs)
    | _ => if 1000 ≤ i then match sl[i - 1000]? with
      | some (some (.od _ _ ks vs)) => some (.dct ks vs)
      | _ => none
      else none
/-- data, or a list of a name -/
def Rl (G : Glue) (N : Addr → Prop) (H : Hp) (d : D) (x : V) : Prop := Rv G N H d x ∨ (∃ (xs : List D) (a : Addr) (vs : List V), d = .lst xs ∧ x = .ref a ∧ H a = some (.lst vs) ∧ Rvs G N H xs vs) ∨
  ∃ (ks vs : List D) (a : Addr), d = .dct ks vs ∧ x = .ref a ∧ Dic G N H a ks vs
theorem Rl.of {G : Glue} {T : Act} {A : Nat → Option Addr} {sl : Sl} {σ : St} {H : Hp} (r : Sr G T A sl σ H) : ∀ {s : S} {x : V} {d : D}, Rs G T A H s x → getS sl s = some d → Rl G (T.N A) H d x
  | .v d', x, d, h, e => by cases e; exact .inl h
  | .r i, x, d, ⟨a, ha, hx⟩, e => by
    simp only [getS] at e
    split at e
    · rename_i xs he
      cases e
      obtain ⟨b, vs, e1, e2, e3, e4⟩ := r.mu i xs he
      rw [ha] at e1; cases e1
      exact .inr (.inl ⟨xs, a, vs, rfl, hx, e3, e4⟩)
    · rename_i ks vs he
      cases e
      obtain ⟨b, e1, e2, e3⟩ := r.mx i _ he rfl
      rw [ha] at e1; cases e1
      exact .inr (.inr ⟨ks, vs, a, rfl, hx, e3⟩)
    · split at e
      · rename_i hi
        split at e
        · rename_i ks vs he
          cases e
          obtain ⟨b, _, _, dx, fs, f, q, _, _, _, _, g1, g2⟩ := r.mx (i - 1000) _ he rfl
          rw [show i - 1000 + 1000 = i by omega, ha] at g1
          cases g1
          exact .inr (.inr ⟨ks, vs, a, rfl, hx, g2⟩)
        · cases e
      · cases e
theorem Rl.lst {G : Glue} {N : Addr → Prop} {H : Hp} {xs : List D} {x : V} (h : Rl G N H (.lst xs) x) : ∃ a vs, x = .ref a ∧ H a = some (.lst vs) ∧ Rvs G N H xs vs := by
  rcases h with h | ⟨ys, a, vs, e, e1, e2, e3⟩ | ⟨_, _, _, e, _⟩
  · cases h with
    | lst h1 _ h2 => exact ⟨_, _, rfl, h1, h2⟩
  · cases e; exact ⟨a, vs, e1, e2, e3⟩
  · cases e
theorem Rl.tup {G : Glue} {N : Addr → Prop} {H : Hp} {xs : List D} {x : V} (h : Rl G N H (.tup xs) x) : ∃ a vs, x = .ref a ∧ SqT G.K H a vs ∧ Rvs G N H xs vs := by
  rcases h with h | ⟨ys, a, vs, e, _⟩ | ⟨_, _, _, e, _⟩
  · cases h with
    | tup h1 h2 => exact ⟨_, _, rfl, h1, h2⟩
  · cases e
  · cases e
theorem Rl.scr {G : Glue} {N : Addr → Prop} {H : Hp} {xs : List D} {x : V} (h : Rl G N H (.scr xs) x) : ∃ a vs, x = .ref a ∧ SqS G.K H a vs ∧ Rvs G N H xs vs := by
  rcases h with h | ⟨ys, a, vs, e, _⟩ | ⟨_, _, _, e, _⟩
  · cases h with
    | scr h1 h2 => exact ⟨_, _, rfl, h1, h2⟩
  · cases e
  · cases e
theorem Rl.tpn {G : Glue} {N : Addr → Prop} {H : Hp} {xs : List D} {x : V} (h : Rl G N H (.tpn xs) x) : ∃ a vs, x = .ref a ∧ SqN G.K H a vs ∧ Rvs G N H xs vs := by
  rcases h with h | ⟨ys, a, vs, e, _⟩ | ⟨_, _, _, e, _⟩
  · cases h with
    | tpn h1 h2 => exact ⟨_, _, rfl, h1, h2⟩
  · cases e
  · cases e
theorem Rl.obj {G : Glue} {N : Addr → Prop} {H : Hp} {c : Nat} {xs : List D} {x : V} (h : Rl G N H (.obj c xs) x) : ∃ a dx fs, x = .ref a ∧ H a = some (.ins (G.oC c) dx fs) ∧ fs.map (·.1) = G.oF c ∧ Rvs G N H xs (fs.map (·.2)) := by
  rcases h with h | ⟨ys, a, vs, e, _⟩ | ⟨_, _, _, e, _⟩
  · cases h with
    | obj h1 _ h2 h3 => exact ⟨_, _, _, rfl, h1, h2, h3⟩
  · cases e
  · cases e
theorem Rl.dct {G : Glue} {N : Addr → Prop} {H : Hp} {ks vs : List D} {x : V} (h : Rl G N H (.dct ks vs) x) : ∃ a, x = .ref a ∧ Dic G N H a ks vs := by
  rcases h with h | ⟨ys, a, vs, e, _⟩ | ⟨ks', vs', a, e, e1, e2⟩
  · obtain ⟨a, e1, _, e2⟩ := h.dic; exact ⟨a, e1, e2⟩
  · cases e
  · cases e; exact ⟨a, e1, e2⟩
theorem Rl.int {G : Glue} {N : Addr → Prop} {H : Hp} {i : Int} {x : V} (h : Rl G N H (.int i) x) : x = .int i := by
  rcases h with h | ⟨_, _, _, e, _⟩ | ⟨_, _, _, e, _⟩
  · cases h; rfl
  · cases e
  · cases e
theorem Rl.bl {G : Glue} {N : Addr → Prop} {H : Hp} {i : Bool} {x : V} (h : Rl G N H (.bl i) x) : x = .bl i := by
  rcases h with h | ⟨_, _, _, e, _⟩ | ⟨_, _, _, e, _⟩
  · cases h; rfl
  · cases e
  · cases e
theorem Rl.str {G : Glue} {N : Addr → Prop} {H : Hp} {i : Str} {x : V} (h : Rl G N H (.str i) x) : x = .str i := by
  rcases h with h | ⟨_, _, _, e, _⟩ | ⟨_, _, _, e, _⟩
  · cases h; rfl
  · cases e
  · cases e
theorem Rl.non {G : Glue} {N : Addr → Prop} {H : Hp} {x : V} (h : Rl G N H .non x) : x = .non := by
  rcases h with h | ⟨_, _, _, e, _⟩ | ⟨_, _, _, e, _⟩
  · cases h; rfl
  · cases e
  · cases e

/-! ### names and constants -/
def dVar (i : Nat) : Ev := fun sl => match sl[i]? with
  | some (some (.v d)) => .ok (.v d) sl
  | some (some (.m _)) => .ok (.r i) sl
  | some (some (.d _ _)) => .ok (.r i) sl
  | some (some (.o _ _)) => .ok (.r i) sl
  | some (some (.od _ _ _ _)) => .ok (.r i) sl
  | _ => .bad
def dC (d : D) : Ev := fun sl => .ok (.v d) sl
section
variable {G : Glue} {W : WX} {X : Cx} {e : Expr} {t : TE}
/-- a rule whose end is at once -/
theorem FE.mk {d : Ev} (h : PE X e t) (f : ∀ T A sl σ H Q, HSz H → Sr G T A sl σ H → Post G W T A σ H (d sl) Q → t σ H fun v H' => HSz H' → Q v H') : FE G W X e d :=
  fun T => PE.plus h fun σ H Q z q => let ⟨A, sl, r, p⟩ := q z; f T A sl σ H Q z r p
theorem fe_var {i : Nat} {x : Str} {pos : Pos} (hN : X.N[i]? = some x := by rfl) (hv : Vis X.env.scope x := by first | exact Or.inl rfl | exact Or.inr (Or.inl rfl) | exact Or.inr (Or.inr rfl)) (hd : (x == ("__debug__" : Str)) = false := by decide)
    (hcd : (x == ("__classdict__" : Str)) = false := by decide) : FE G W X (.Name x pos) (dVar i) :=
  FE.mk (pe_var hN hv hd hcd) fun T A sl σ H Q z r p => by
    unfold dVar at p
    split at p
    · rename_i d he
      obtain ⟨v, e1, e2⟩ := r.val i d he
      exact ⟨v, e1, fun z' => p v H r .refl e2⟩
    · rename_i xs he
      obtain ⟨a, vs, e1, e2, e3, e4⟩ := r.mu i xs he
      exact ⟨_, e2, fun z' => p _ H r .refl ⟨a, e1, rfl⟩⟩
    · rename_i he
      obtain ⟨a, e1, e2, _⟩ := r.mx i _ he rfl
      exact ⟨_, e2, fun z' => p _ H r .refl ⟨a, e1, rfl⟩⟩
    · rename_i he
      obtain ⟨a, e1, e2, _⟩ := r.mx i _ he rfl
      exact ⟨_, e2, fun z' => p _ H r .refl ⟨a, e1, rfl⟩⟩
    · rename_i he
      obtain ⟨a, e1, e2, _⟩ := r.mx i _ he rfl
      exact ⟨_, e2, fun z' => p _ H r .refl ⟨a, e1, rfl⟩⟩
    · exact p.elim
theorem fe_c {d : D} {v : V} (h : PE X e (tC v)) (hv : ∀ N H, Rv G N H d v) : FE G W X e (dC d) :=
  FE.mk h fun T A sl σ H Q z r p => fun _ => p v H r .refl (hv _ _)
theorem fe_int {i : Int} {j} {pos : Pos} : FE G W X (.Constant (.int i) j pos) (dC (.int i)) := fe_c pe_int fun _ _ => .int i
theorem fe_bl {b : Bool} {j} {pos : Pos} : FE G W X (.Constant (.bool b) j pos) (dC (.bl b)) := fe_c pe_bl fun _ _ => .bl b
theorem fe_non {j} {pos : Pos} : FE G W X (.Constant .none j pos) (dC .non) := fe_c pe_non fun _ _ => .non
theorem fe_str {x : Str} {j} {pos : Pos} : FE G W X (.Constant (.str x) j pos) (dC (.str x)) := fe_c pe_str fun _ _ => .str x
/-- a module's constant -/
theorem fe_glob {x : Str} {d : D} {v : V} {u : Value} {pos : Pos} (hm : X.mg x = some u) (r : RelV v u) (hv : ∀ N H, Rv G N H d v) (hg : Gl X x := by rfl) (hd : (x == ("__debug__" : Str)) = false := by decide) : FE G W X (.Name x pos) (dC d) :=
  fe_c (pe_glob hg hm r hd) hv
end

/-! ### operators -/
def two (f : D → D → Re D) (sl : Sl) (x y : S) : R S := match getS sl x, getS sl y with
  | some d, some e => match f d e with
    | .ok z => .ok (.v z) sl
    | _ => .bad
  | _, _ => .bad
def dBin (f : D → D → Re D) (a b : Ev) : Ev := fun sl => (a sl).bind fun x sl1 => (b sl1).bind fun y sl2 => two f sl2 x y
/-- an operation on data -/
def Op2 (G : Glue) (X : Cx) (op : Value → Value → Sem Value) (f : D → D → Re D) : Prop := ∃ r : R2, OpR X op r ∧
  ∀ (N : Addr → Prop) (H : Hp) (x y : V) (d e z : D) (Q : VK), HSz H → (∀ p, H p = none → ¬ N p) → Rl G N H d x → Rl G N H e y → f d e = .ok z →
    (∀ v H', Same H H' → Rv G N H' z v → Q v H') → r x y H Q
/-- what is wanted behind a test's value -/
def wB (Q : Bool → Hp → Prop) : VK := fun v H => ∃ k, v = .bl k ∧ (HSz H → Q k H)
def wE (Q : VK) : VK := fun v H => HSz H → Q v H
/-- .. among slots -/
def Two (G : Glue) (r : R2) (f : D → D → Re D) : Prop := ∀ (T : Act) (A : Nat → Option Addr) (sl : Sl) (σ : St) (H : Hp) (x y : S) (u v : V) (Q : VK) (P : R S → Prop), Sr G T A sl σ H → Rs G T A H x u → Rs G T A H y v → P (two f sl x y) → ¬ P .bad →
  (∀ z w H', P (.ok (.v z) sl) → Same H H' → Rv G (T.N A) H' z w → Q w H') → r u v H Q
section
variable {G : Glue} {W : WX} {X : Cx} {a b c : Expr} {da db dc : Ev} {pos : Pos} {f g : D → D → Re D} {T : Act} {A : Nat → Option Addr} {sl : Sl} {σ : St} {H : Hp}
/-- the end of a step that makes d of a heap that has grown -/
theorem end_E {Q : VK} {z : D} {v : V} {H' : Hp} (s : Sr G T A sl σ H) (p : Post G W T A σ H (.ok (.v z) sl) Q) (sm : Same H H') (rv : Rv G (T.N A) H' z v) : wE Q v H' := fun hz => p v H' (s.grown sm hz) (.same sm) rv
theorem end_B {Q : Bool → Hp → Prop} {z : D} {v : V} {H' : Hp} (s : Sr G T A sl σ H) (p : PostB G W T A σ H (asB (.v z) sl) Q) (sm : Same H H') (rv : Rv G (T.N A) H' z v) : wB Q v H' := by
  match z, rv, p with
  | .bl b, rv, p => cases rv; exact ⟨b, rfl, fun hz => p b H' (s.grown sm hz) (.same sm) rfl⟩
theorem two_ok {op : Value → Value → Sem Value} (ho : Op2 G X op f) : ∃ r : R2, OpR X op r ∧ Two G r f := by
  obtain ⟨r, hr, q⟩ := ho
  refine ⟨r, hr, fun T A sl σ H x y u v Q P s hx hy p nb k => ?_⟩
  unfold two at p
  split at p
  · rename_i d e h1 h2
    split at p
    · rename_i z h3
      exact q _ H u v d e z Q s.sz (fun q h => s.fresh h) (Rl.of s hx h1) (Rl.of s hy h2) h3 fun w H' sm rv => k z w H' p sm rv
    · exact absurd p nb
  · exact absurd p nb
theorem bin_E {r : R2} {Q : VK} (q : Two G r f) (h : tEv G W T (dBin f da db) σ H Q) : tOp r (tEv G W T da) (tEv G W T db) σ H (wE Q) := fun hz => by
  obtain ⟨A, sl, s, p⟩ := h hz
  refine ⟨A, sl, s, PostG.bind p fun x sl1 u H1 _ s1 k1 r1 p1 _ => ⟨A, sl1, s1, PostG.bind p1 fun y sl2 v H2 _ s2 k2 r2 p2 => ?_⟩⟩
  exact q T A sl2 σ H2 x y u v _ (fun r => Post G W T A σ H2 r Q) s2 (Rs.keep k2 r1) r2 p2 id fun z w H' p sm rv => end_E s2 p sm rv
theorem fe_op {op : Operator} (ho : Op2 G X (binaryOp op) f) (ha : FE G W X a da) (hb : FE G W X b db) : FE G W X (.BinOp a op b pos) (dBin f da db) := fun T => by
  obtain ⟨r, hr, q⟩ := two_ok ho
  exact PE.plus (pe_op hr (ha T) (hb T)) fun σ H Q z p => bin_E q p
theorem fe_cmp {op : CmpOp} (ho : Op2 G X (compareOp op) f) (ha : FE G W X a da) (hb : FE G W X b db) (hm : behindInMarks op b = false := by first | exact nomark _ | rfl) : FE G W X (.Compare a [op] [b] pos) (dBin f da db) := fun T => by
  obtain ⟨r, hr, q⟩ := two_ok ho
  exact PE.plus (pe_cmpR hr (ha T) (hb T) hm) fun σ H Q z p => bin_E q p
theorem bind_bind {α β γ : Type} (x : R α) (f : α → Sl → R β) (g : β → Sl → R γ) : (x.bind f).bind g = x.bind fun a sl => (f a sl).bind g := by
  cases x <;> rfl
theorem fb_cmp {op : CmpOp} (ho : Op2 G X (compareOp op) f) (ha : FE G W X a da) (hb : FE G W X b db) (hm : behindInMarks op b = false := by first | exact nomark _ | rfl) : FB G W X (.Compare a [op] [b] pos) (dBin f da db) := fun T => by
  obtain ⟨r, hr, q⟩ := two_ok ho
  refine PT.plus (pt_cmpR hr (ha T) (hb T) hm) fun σ H Q z h hz => ?_
  obtain ⟨A, sl, s, p⟩ := h hz
  simp only [dB, dBin, bind_bind] at p
  refine ⟨A, sl, s, PostG.bind p fun x sl1 u H1 _ s1 k1 r1 p1 _ => ⟨A, sl1, s1, PostG.bind p1 fun y sl2 v H2 _ s2 k2 r2 p2 => ?_⟩⟩
  exact q T A sl2 σ H2 x y u v _ (fun r => PostB G W T A σ H2 (r.bind asB) Q) s2 (Rs.keep k2 r1) r2 p2 id fun z w H' p sm rv => end_B s2 p sm rv
/-- an expression whose value is a truth, as a test -/
theorem fb_val (h : FE G W X a da) (he : ∀ whole, isTrue a X.env whole = (do let v ← whole; standAt a.pos; holding [v] (truthy v)) := by intro _; rfl) : FB G W X a da := fun T =>
  PT.plus (pt_val (h T) he) fun σ H Q z h hz => let ⟨A, sl, s, p⟩ := h hz; ⟨A, sl, s, PostG.bind p fun x sl1 v H1 _ s1 k1 r1 p1 => by
    match x, r1, p1 with
    | .v (.bl b), r1, p1 => cases r1; exact ⟨b, rfl, fun _ => p1 b H1 s1 .refl rfl⟩⟩

/-! ### chains -/
def dChain (f g : D → D → Re D) (a b c : Ev) : Ev := fun sl => (a sl).bind fun x sl1 => (b sl1).bind fun y sl2 => ((two f sl2 x y).bind asB).bind fun k sl3 => if k = true then (c sl3).bind fun z sl4 => two g sl4 y z else .ok (.v (.bl false)) sl3
theorem fe_chain {op op' : CmpOp} (ho : Op2 G X (compareOp op) f) (ho' : Op2 G X (compareOp op') g) (ha : FE G W X a da) (hb : FE G W X b db) (hc : FE G W X c dc) (hm : lastMarks [op, op'] [b, c] = false := by with_unfolding_all rfl) :
    FE G W X (.Compare a [op, op'] [b, c] pos) (dChain f g da db dc) := fun T => by
  obtain ⟨r, hr, q⟩ := two_ok ho
  obtain ⟨r', hr', q'⟩ := two_ok ho'
  refine PE.plus (pe_chain hr hr' (ha T) (hb T) (hc T) hm) fun σ H Q z h hz => ?_
  obtain ⟨A, sl, s, p⟩ := h hz
  refine ⟨A, sl, s, PostG.bind p fun x sl1 u H1 _ s1 k1 r1 p1 _ => ⟨A, sl1, s1, PostG.bind p1 fun y sl2 v H2 _ s2 k2 r2 p2 => ?_⟩⟩
  refine q T A sl2 σ H2 x y u v _ (fun r => Post G W T A σ H2 ((r.bind asB).bind fun k sl3 => if k = true then (dc sl3).bind fun z sl4 => two g sl4 y z else .ok (.v (.bl false)) sl3) Q) s2 (Rs.keep k2 r1) r2 p2 id fun z w H3 p3 sm rv => ?_
  match z, rv, p3 with
  | .bl false, rv, p3 => cases rv; exact ⟨false, rfl, fun hz => p3 (.bl false) H3 (s2.grown sm hz) (.same sm) (.bl false)⟩
  | .bl true, rv, p3 =>
    cases rv
    refine ⟨true, rfl, fun hz => ⟨A, sl2, s2.grown sm hz, PostG.bind (PostG.keep (.same sm) p3) fun z sl4 w H4 _ s4 k4 r4 p4 => ?_⟩⟩
    exact q' T A sl4 σ H4 y z v w _ (fun r => Post G W T A σ H4 r Q) s4 (Rs.keep k4 (Rs.keep (.same sm) r2)) r4 p4 id fun z w H' p sm rv => end_E s4 p sm rv
theorem fb_chain {op op' : CmpOp} (ho : Op2 G X (compareOp op) f) (ho' : Op2 G X (compareOp op') g) (ha : FE G W X a da) (hb : FE G W X b db) (hc : FE G W X c dc) (hm : lastMarks [op, op'] [b, c] = false := by with_unfolding_all rfl) :
    FB G W X (.Compare a [op, op'] [b, c] pos) (dChain f g da db dc) := fun T => by
  obtain ⟨r, hr, q⟩ := two_ok ho
  obtain ⟨r', hr', q'⟩ := two_ok ho'
  refine PT.plus (pt_chain hr hr' (ha T) (hb T) (hc T) hm) fun σ H Q z h hz => ?_
  obtain ⟨A, sl, s, p⟩ := h hz
  simp only [dB, dChain, bind_bind] at p
  refine ⟨A, sl, s, PostG.bind p fun x sl1 u H1 _ s1 k1 r1 p1 _ => ⟨A, sl1, s1, PostG.bind p1 fun y sl2 v H2 _ s2 k2 r2 p2 => ?_⟩⟩
  refine q T A sl2 σ H2 x y u v _ (fun r => PostB G W T A σ H2 (r.bind fun a sl => (asB a sl).bind fun a sl => (if a = true then (dc sl).bind fun z sl4 => two g sl4 y z else .ok (.v (.bl false)) sl).bind asB) Q) s2 (Rs.keep k2 r1) r2 p2 id fun z w H3 p3 sm rv => ?_
  match z, rv, p3 with
  | .bl false, rv, p3 => cases rv; exact ⟨false, rfl, ⟨false, rfl, fun hz => p3 false H3 (s2.grown sm hz) (.same sm) rfl⟩⟩
  | .bl true, rv, p3 =>
    cases rv
    refine ⟨true, rfl, fun hz => ⟨A, sl2, s2.grown sm hz, ?_⟩⟩
    have p3' : PostB G W T A σ H3 ((dc sl2).bind fun z sl4 => (two g sl4 y z).bind asB) Q := by
      rw [← bind_bind]; exact PostG.keep (.same sm) p3
    refine PostG.bind p3' fun z sl4 w H4 _ s4 k4 r4 p4 => ?_
    exact q' T A sl4 σ H4 y z v w _ (fun r => PostB G W T A σ H4 (r.bind asB) Q) s4 (Rs.keep k4 (Rs.keep (.same sm) r2)) r4 p4 id fun z w H' p sm rv => end_B s4 p sm rv

/-! ### and, or, not -/
/-- a truth, by value -/
def dAnd (a b : Ev) : Ev := fun sl => ((a sl).bind asB).bind fun k sl1 => if k = true then b sl1 else .ok (.v (.bl false)) sl1
def dOr (a b : Ev) : Ev := fun sl => ((a sl).bind asB).bind fun k sl1 => if k = true then .ok (.v (.bl true)) sl1 else b sl1
def dNot (a : Ev) : Ev := fun sl => ((a sl).bind asB).bind fun k sl1 => .ok (.v (.bl (!k))) sl1
def dIf (c a b : Ev) : Ev := fun sl => ((c sl).bind asB).bind fun k sl1 => if k = true then a sl1 else b sl1
variable {rest : List Expr} {op : BoolOp}
theorem fe_one (h : FE G W X a da) : FE G W X (.BoolOp op [a] pos) da := fun T => pe_one (h T)
theorem FE.bl {t : TE} (h : PE X a t) (q : ∀ T σ H Q, tEv G W T da σ H Q → t σ H (wE Q)) : FE G W X a da := fun T => PE.plus h fun σ H Q _ p => q T σ H Q p
theorem asB_bind {α β : Type} {rel : Hp → α → β → Prop} {Q : β → Hp → Prop} {k : Bool → Sl → R α} {Q' : VK} (h : PostG rel G W T A σ H (((da sl).bind asB).bind k) Q)
    (q : ∀ b sl1 H1, Sr G T A sl1 σ H1 → Keep (Own A) H H1 → PostG rel G W T A σ H1 (k b sl1) Q → Q' (.bl b) H1) : Post G W T A σ H (da sl) Q' := by
  rw [bind_bind] at h
  refine PostG.bind h fun x sl1 v H1 _ s1 k1 r1 p1 => ?_
  match x, r1, p1 with
  | .v (.bl b), r1, p1 => cases r1; exact q b sl1 H1 s1 k1 p1
theorem fe_and (ha : FE G W X a da) (hb : FE G W X (.BoolOp .And (b :: rest) pos) db) : FE G W X (.BoolOp .And (a :: b :: rest) pos) (dAnd da db) := fun T =>
  PE.plus (pe_and (ha T) (hb T)) fun σ H Q z h hz => by
    obtain ⟨A, sl, s, p⟩ := h hz
    refine ⟨A, sl, s, asB_bind p fun k sl1 H1 s1 k1 p1 => ⟨k, rfl, ?_⟩⟩
    cases k with
    | false => exact fun _ => p1 _ H1 s1 .refl (.bl false)
    | true => exact fun _ => ⟨A, sl1, s1, PostG.bind (k := fun x sl => .ok x sl) (by cases h : db sl1 <;> rw [if_pos rfl, h] at p1 <;> exact p1) fun x sl2 v H2 _ s2 k2 r2 p2 _ => p2 v H2 s2 .refl r2⟩
theorem fe_or (ha : FE G W X a da) (hb : FE G W X (.BoolOp .Or (b :: rest) pos) db) : FE G W X (.BoolOp .Or (a :: b :: rest) pos) (dOr da db) := fun T =>
  PE.plus (pe_or (ha T) (hb T)) fun σ H Q z h hz => by
    obtain ⟨A, sl, s, p⟩ := h hz
    refine ⟨A, sl, s, asB_bind p fun k sl1 H1 s1 k1 p1 => ⟨k, rfl, ?_⟩⟩
    cases k with
    | true => exact fun _ => p1 _ H1 s1 .refl (.bl true)
    | false => exact fun _ => ⟨A, sl1, s1, PostG.bind (k := fun x sl => .ok x sl) (by cases h : db sl1 <;> rw [if_neg (by simp), h] at p1 <;> exact p1) fun x sl2 v H2 _ s2 k2 r2 p2 _ => p2 v H2 s2 .refl r2⟩
theorem fe_not (ha : FE G W X a da) : FE G W X (.UnaryOp .Not a pos) (dNot da) := fun T =>
  PE.plus (pe_not (ha T)) fun σ H Q z h hz => by
    obtain ⟨A, sl, s, p⟩ := h hz
    exact ⟨A, sl, s, asB_bind p fun k sl1 H1 s1 k1 p1 => ⟨k, rfl, fun _ => p1 _ H1 s1 .refl (.bl _)⟩⟩
/-- from a test to a test -/
theorem tB_bind {α : Type} {Q : Bool → Hp → Prop} {k : Bool → Sl → R Bool} {Q' : Bool → Hp → Prop} (h : PostB G W T A σ H (((da sl).bind asB).bind k) Q)
    (q : ∀ b sl1 H1, Sr G T A sl1 σ H1 → Keep (Own A) H H1 → PostB G W T A σ H1 (k b sl1) Q → Q' b H1) : PostB G W T A σ H (dB da sl) Q' :=
  PostG.bind h fun x sl1 v H1 _ s1 k1 r1 p1 => by cases r1; exact q x sl1 H1 s1 k1 p1
theorem post_id {α β : Type} {rel : Hp → α → β → Prop} {Q : β → Hp → Prop} {r : R α} (p : PostG rel G W T A σ H r Q) : PostG rel G W T A σ H r fun v H' => HSz H' → Q v H' := by
  cases r with
  | ok s sl' => exact fun v H' a b c _ => p v H' a b c
  | ex e sl' => exact p
  | bad => exact p
theorem fw_one_and (ha : FB G W X a da) : FW G W X (.BoolOp .And [a] pos) da := fun T => pw_and1 (ha T)
theorem fw_one_or (ha : FB G W X a da) : FW G W X (.BoolOp .Or [a] pos) da := fun T => pw_or1 (ha T)
theorem fw_and (ha : FB G W X a da) (hb : FW G W X (.BoolOp .And (b :: rest) pos) db) : FW G W X (.BoolOp .And (a :: b :: rest) pos) (dAnd da db) := fun T =>
  PW.plus (pw_and (ha T) (hb T)) fun σ H Q z h hz => by
    obtain ⟨A, sl, s, p⟩ := h hz
    simp only [dB, dAnd, bind_bind] at p
    rw [← bind_bind] at p
    refine ⟨A, sl, s, tB_bind (α := Unit) p fun k sl1 H1 s1 k1 p1 => ?_⟩
    cases k with
    | false => exact fun _ => p1 false H1 s1 .refl rfl
    | true => exact fun _ => ⟨A, sl1, s1, post_id p1⟩
theorem fw_or (ha : FB G W X a da) (hb : FW G W X (.BoolOp .Or (b :: rest) pos) db) : FW G W X (.BoolOp .Or (a :: b :: rest) pos) (dOr da db) := fun T =>
  PW.plus (pw_or (ha T) (hb T)) fun σ H Q z h hz => by
    obtain ⟨A, sl, s, p⟩ := h hz
    simp only [dB, dOr, bind_bind] at p
    rw [← bind_bind] at p
    refine ⟨A, sl, s, tB_bind (α := Unit) p fun k sl1 H1 s1 k1 p1 => ?_⟩
    cases k with
    | true => exact fun _ => p1 true H1 s1 .refl rfl
    | false => exact fun _ => ⟨A, sl1, s1, post_id p1⟩
theorem fb_w (h : FW G W X a da) : FB G W X a da := fun T => (h T).pt
theorem fb_not (ha : FB G W X a da) : FB G W X (.UnaryOp .Not a pos) (dNot da) := fun T =>
  PT.plus (pt_not (ha T)) fun σ H Q z h hz => by
    obtain ⟨A, sl, s, p⟩ := h hz
    simp only [dB, dNot, bind_bind] at p
    rw [← bind_bind] at p
    exact ⟨A, sl, s, tB_bind (α := Unit) p fun k sl1 H1 s1 k1 p1 _ => p1 (!k) H1 s1 .refl rfl⟩
theorem fe_if (hc : FB G W X c dc) (ha : FE G W X a da) (hb : FE G W X b db) : FE G W X (.IfExp c a b pos) (dIf dc da db) := fun T =>
  PE.plus (pe_ifExp (hc T) (ha T) (hb T)) fun σ H Q z h hz => by
    obtain ⟨A, sl, s, p⟩ := h hz
    refine ⟨A, sl, s, PostG.bind p fun k sl1 v H1 _ s1 k1 r1 p1 => ?_⟩
    cases r1
    cases k with
    | true => exact fun _ => ⟨A, sl1, s1, post_id p1⟩
    | false => exact fun _ => ⟨A, sl1, s1, post_id p1⟩
end
end F

set_option Elab.async false
set_option linter.all false
set_option maxRecDepth 100000
set_option maxHeartbeats 4000000
namespace F
open PySem PySem.Spec PyProof.Rows L2

/-! ### data as the library's data -/
mutual
def toPy : D → PyData
  | .non => .none
  | .bl b => .bool b
  | .int i => .int i
  | .str x => .str x
  | .tup xs => .tuple (toPys xs)
  | .lst xs => .list (toPys xs)
  | .scr xs => .list (toPys xs)
  | .tpn xs => .tuple (toPys xs)
  | .obj _ _ => .none
  | .dct _ _ => .none
  | .fix _ => .none
def toPys : List D → List PyData
  | [] => []
  | x :: xs => toPy x :: toPys xs
end
/-! == of data -/
mutual
def D.eqv : D → D → Bool
  | .non, .non => true
  | .bl a, .bl b => a == b
  | .bl a, .int j => (if a then 1 else 0) == j
  | .int i, .bl b => i == (if b then 1 else 0)
  | .int i, .int j => i == j
  | .str x, .str y => x == y
  | .tup xs, .tup ys => D.eqvs xs ys
  | .lst xs, .lst ys => D.eqvs xs ys
  | .lst xs, .scr ys => D.eqvs xs ys
  | .scr xs, .lst ys => D.eqvs xs ys
  | .scr xs, .scr ys => D.eqvs xs ys
  | .tup xs, .tpn ys => D.eqvs xs ys
  | .tpn xs, .tup ys => D.eqvs xs ys
  | .tpn xs, .tpn ys => D.eqvs xs ys
  | .non, .obj _ _ => true
  | .non, .dct _ _ => true
  | .obj _ _, .non => true
  | .obj _ _, .obj _ _ => true
  | .obj _ _, .dct _ _ => true
  | .dct _ _, .non => true
  | .dct _ _, .obj _ _ => true
  | .dct _ _, .dct _ _ => true
  | .non, .fix _ => true
  | .obj _ _, .fix _ => true
  | .dct _ _, .fix _ => true
  | .fix _, .fix _ => true
  | .fix _, .non => true
  | .fix _, .obj _ _ => true
  | .fix _, .dct _ _ => true
  | _, _ => false
def D.eqvs : List D → List D → Bool
  | [], [] => true
  | x :: xs, y :: ys => D.eqv x y && D.eqvs xs ys
  | _, _ => false
end
mutual
def D.depth : D → Nat
  | .tup xs => D.depths xs + 1
  | .lst xs => D.depths xs + 1
  | .scr xs => D.depths xs + 1
  | .tpn xs => D.depths xs + 1
  | _ => 0
def D.depths : List D → Nat
  | [] => 0
  | x :: xs => max (D.depth x) (D.depths xs)
end
mutual
theorem eqv_py : ∀ d e : D, PyData.eqv (toPy d) (toPy e) = D.eqv d e
  | .non, e => by cases e <;> simp [toPy, PyData.eqv, D.eqv]
  | .bl a, e => by cases e <;> simp [toPy, PyData.eqv, D.eqv]
  | .int i, e => by cases e <;> simp [toPy, PyData.eqv, D.eqv]
  | .str x, e => by cases e <;> simp [toPy, PyData.eqv, D.eqv]
  | .tup xs, e => by cases e <;> simp [toPy, PyData.eqv, D.eqv, eqvs_py xs]
  | .lst xs, e => by cases e <;> simp [toPy, PyData.eqv, D.eqv, eqvs_py xs]
  | .scr xs, e => by cases e <;> simp [toPy, PyData.eqv, D.eqv, eqvs_py xs]
  | .tpn xs, e => by cases e <;> simp [toPy, PyData.eqv, D.eqv, eqvs_py xs]
  | .obj _ _, e => by cases e <;> simp [toPy, PyData.eqv, D.eqv]
  | .dct _ _, e => by cases e <;> simp [toPy, PyData.eqv, D.eqv]
  | .fix _, e => by cases e <;> simp [toPy, PyData.eqv, D.eqv]
theorem eqvs_py : ∀ xs ys : List D, PyData.eqvAll (toPys xs) (toPys ys) = D.eqvs xs ys
  | [], [] => by simp [toPys, PyData.eqvAll, D.eqvs]
  | [], _ :: _ => by simp [toPys, PyData.eqvAll, D.eqvs]
  | _ :: _, [] => by simp [toPys, PyData.eqvAll, D.eqvs]
  | x :: xs, y :: ys => by simp [toPys, PyData.eqvAll, D.eqvs, eqv_py x y, eqvs_py xs ys]
end
mutual
theorem depth_py : ∀ d : D, (toPy d).depth = d.depth
  | .non => by simp [toPy, PyData.depth, D.depth]
  | .bl _ => by simp [toPy, PyData.depth, D.depth]
  | .int _ => by simp [toPy, PyData.depth, D.depth]
  | .str _ => by simp [toPy, PyData.depth, D.depth]
  | .tup xs => by simp [toPy, PyData.depth, D.depth, depths_py xs]
  | .lst xs => by simp [toPy, PyData.depth, D.depth, depths_py xs]
  | .scr xs => by simp [toPy, PyData.depth, D.depth, depths_py xs]
  | .tpn xs => by simp [toPy, PyData.depth, D.depth, depths_py xs]
  | .obj _ _ => by simp [toPy, PyData.depth, D.depth]
  | .dct _ _ => by simp [toPy, PyData.depth, D.depth]
  | .fix _ => by simp [toPy, PyData.depth, D.depth]
theorem depths_py : ∀ xs : List D, PyData.depthAll (toPys xs) = D.depths xs
  | [] => by simp [toPys, PyData.depthAll, D.depths]
  | x :: xs => by simp [toPys, PyData.depthAll, D.depths, depth_py x, depths_py xs]
end
mutual
theorem plain_py : ∀ d : D, (toPy d).plain = true
  | .non => by simp [toPy, PyData.plain]
  | .bl _ => by simp [toPy, PyData.plain]
  | .int _ => by simp [toPy, PyData.plain]
  | .str _ => by simp [toPy, PyData.plain]
  | .tup xs => by simp [toPy, PyData.plain, plains_py xs]
  | .lst xs => by simp [toPy, PyData.plain, plains_py xs]
  | .scr xs => by simp [toPy, PyData.plain, plains_py xs]
  | .tpn xs => by simp [toPy, PyData.plain, plains_py xs]
  | .obj _ _ => by simp [toPy, PyData.plain]
  | .dct _ _ => by simp [toPy, PyData.plain]
  | .fix _ => by simp [toPy, PyData.plain]
theorem plains_py : ∀ xs : List D, PyData.plainAll (toPys xs) = true
  | [] => by simp [toPys, PyData.plainAll]
  | x :: xs => by simp [toPys, PyData.plainAll, plain_py x, plains_py xs]
end
mutual
/-- no instance, no dict within -/
def D.pur : D → Bool
  | .tup xs => D.purs xs
  | .lst xs => D.purs xs
  | .scr xs => D.purs xs
  | .tpn xs => D.purs xs
  | .obj _ _ => false
  | .dct _ _ => false
  | .fix _ => false
  | _ => true
def D.purs : List D → Bool
  | [] => true
  | x :: xs => D.pur x && D.purs xs
end
section
variable {G : Glue} {N : Addr → Prop} {H : Hp}
mutual
theorem Rv.dp : ∀ {d : D} {v : V}, d.pur = true → Rv G N H d v → Dp G.K H v (toPy d)
  | .non, _, _, h => by cases h; exact .non
  | .bl b, _, _, h => by cases h; exact .bl b
  | .int i, _, _, h => by cases h; exact .int i
  | .str x, _, _, h => by cases h; exact .str x
  | .tup ds, _, p, h => by
    cases h with
    | tup hs ha => exact .tup hs (Rvs.dp (by simpa [D.pur] using p) ha)
  | .lst ds, _, p, h => by
    cases h with
    | lst hs n ha => exact .lst (SqL.of hs) (Rvs.dp (by simpa [D.pur] using p) ha)
  | .scr ds, _, p, h => by
    cases h with
    | scr hs ha => exact .lst hs.l (Rvs.dp (by simpa [D.pur] using p) ha)
  | .tpn ds, _, p, h => by
    cases h with
    | tpn hs ha => exact .tup hs.t (Rvs.dp (by simpa [D.pur] using p) ha)
  | .obj _ _, _, p, h => by simp [D.pur] at p
  | .dct _ _, _, p, h => by simp [D.pur] at p
theorem Rvs.dp : ∀ {ds : List D} {vs : List V}, D.purs ds = true → Rvs G N H ds vs → DpAll G.K H vs (toPys ds)
  | [], _, _, h => by cases h; exact .nil
  | d :: ds, _, p, h => by
    simp only [D.purs, Bool.and_eq_true] at p
    cases h with
    | cons h1 h2 => exact .cons (Rv.dp p.1 h1) (Rvs.dp p.2 h2)
end
theorem Rl.dp {d : D} {v : V} (p : d.pur = true) (h : Rl G N H d v) : Dp G.K H v (toPy d) := by
  rcases h with h | ⟨xs, a, vs, rfl, rfl, e, h⟩ | ⟨ks, vs, a, rfl, rfl, h⟩
  · exact h.dp p
  · exact .lst (SqL.of e) (h.dp (by simpa [D.pur] using p))
  · simp [D.pur] at p
end

/-! ### arithmetic -/
def fits (n : Nat) : Bool := decide (n ≤ sizeLine)
theorem fits_le {n : Nat} (h : fits n = true) : n ≤ sizeLine := of_decide_eq_true h
def dAdd : D → D → Re D
  | .int i, .int j => .ok (.int (i + j))
  | .tup a, .tup b => if fits (a.length + b.length) then .ok (.tup (a ++ b)) else .bad
  | .lst a, .lst b => if fits (a.length + b.length) then .ok (.lst (a ++ b)) else .bad
  | _, _ => .bad
def dSub : D → D → Re D
  | .int i, .int j => .ok (.int (i - j))
  | _, _ => .bad
def mulOk (i j : Int) : Bool := decide (i.natAbs < 18446744073709551616) || decide (j.natAbs < 18446744073709551616)
def dMul : D → D → Re D
  | .int i, .int j => if mulOk i j then .ok (.int (i * j)) else .bad
  | .lst a, .int k => if decide (-(2 ^ 63) ≤ k) && decide (k < 2 ^ 63) && fits (a.length * k.toNat) then .ok (.lst (List.replicate k.toNat a).flatten) else .bad
  | _, _ => .bad
def divOk (j : Int) : Bool := decide (0 < j) && decide (j.natAbs.log2 < 9000)
def dDiv : D → D → Re D
  | .int i, .int j => if divOk j then .ok (.int (i / j)) else .bad
  | _, _ => .bad
def dMod : D → D → Re D
  | .int i, .int j => if decide (0 < j) then .ok (.int (i % j)) else .bad
  | _, _ => .bad
def dPow : D → D → Re D
  | .int i, .int j => if decide (0 ≤ j) && decide (j ≤ 1000000) && decide (i.natAbs < 2 ^ 64) then .ok (.int (i ^ j.toNat)) else .bad
  | _, _ => .bad
section
variable {G : Glue} {X : Cx}
theorem tupK {N : Addr → Prop} {H : Hp} (hK : X.K = G.K) {xs : List D} {x : V} (h : Rl G N H (.tup xs) x) : ∃ a vs, x = .ref a ∧ SqT X.K H a vs ∧ Rvs G N H xs vs := by
  rw [hK]; exact h.tup
theorem o_add (hK : X.K = G.K := by rfl) : Op2 G X (binaryOp .Add) dAdd := by
  refine ⟨_, op_add.or (op_catA.or op_cat), fun N H x y d e z Q hz hn rx ry h k => ?_⟩
  unfold dAdd at h
  split at h
  · cases h
    exact .inl ⟨_, _, rx.int, ry.int, k _ H (Same.refl H) (.int _)⟩
  · rename_i a b
    split at h
    · rename_i hf
      cases h
      obtain ⟨p, vs, e1, s1, r1⟩ := tupK hK rx
      obtain ⟨q, ws, e2, s2, r2⟩ := tupK hK ry
      refine .inr (.inl ⟨p, q, vs, ws, e1, e2, s1, s2, by rw [← r1.length, ← r2.length]; exact fits_le hf, fun hv => ?_, fun hv hw => ?_, fun hv hw p' hp' => ?_⟩)
      · refine k _ H (Same.refl H) ?_
        cases r1 with
        | nil => exact .tup (hK ▸ s2) r2
        | cons => cases hv
      · refine k _ H (Same.refl H) ?_
        cases r2 with
        | nil => rw [List.append_nil]; exact .tup (hK ▸ s1) r1
        | cons => cases hw
      · refine k _ _ (same_fresh hp' _) (.tup (SqT.of upd_same) ?_)
        exact Rvs.keep (O := fun _ => False) (.same (same_fresh hp' _)) (fun _ z => z.elim) (r1.append r2)
    · cases h
  · rename_i a b
    split at h
    · rename_i hf
      cases h
      obtain ⟨p, vs, e1, s1, r1⟩ := rx.lst
      obtain ⟨q, ws, e2, s2, r2⟩ := ry.lst
      refine .inr (.inr ⟨p, q, vs, ws, e1, e2, s1, s2, by rw [← r1.length, ← r2.length]; exact fits_le hf, fun p' hp' => ?_⟩)
      refine k _ _ (same_fresh hp' _) (.lst upd_same (hn p' hp') ?_)
      exact Rvs.keep (O := fun _ => False) (.same (same_fresh hp' _)) (fun _ z => z.elim) (r1.append r2)
    · cases h
  · cases h
theorem o_sub : Op2 G X (binaryOp .Sub) dSub := by
  refine ⟨_, op_sub, fun N H x y d e z Q hz hn rx ry h k => ?_⟩
  unfold dSub at h
  split at h
  · cases h; exact ⟨_, _, rx.int, ry.int, k _ H (Same.refl H) (.int _)⟩
  · cases h
theorem mulOk_ok {i j : Int} (h : mulOk i j = true) : PySem.IntMulOk i j := by
  unfold mulOk at h
  rcases Bool.or_eq_true_iff.mp h with h | h
  · have := of_decide_eq_true h
    exact .of_left (PySem.intBits_le_64 (by omega) (by omega))
  · have := of_decide_eq_true h
    exact .of_right (PySem.intBits_le_64 (by omega) (by omega))
theorem op_mulS : OpR X (binaryOp .Mult) (rI (fun i j => mulOk i j = true) fun i j => .int (i * j)) := opI fun _ _ _ _ _ _ _ hc q => mul_int q (mulOk_ok hc)
theorem o_mul : Op2 G X (binaryOp .Mult) dMul := by
  refine ⟨_, op_mulS.or op_rep, fun N H x y d e z Q hz hn rx ry h k => ?_⟩
  unfold dMul at h
  split at h
  · split at h
    · rename_i hf
      cases h; exact .inl ⟨_, _, rx.int, ry.int, hf, k _ H (Same.refl H) (.int _)⟩
    · cases h
  · split at h
    · rename_i hf
      cases h
      obtain ⟨p, vs, e1, s1, r1⟩ := rx.lst
      simp only [Bool.and_eq_true, decide_eq_true_eq] at hf
      refine .inr ⟨p, _, vs, e1, ry.int, s1, hf.1.1, hf.1.2, by rw [← r1.length]; exact fits_le hf.2, fun p' hp' => ?_⟩
      refine k _ _ (same_fresh hp' _) (.lst upd_same (hn p' hp') ?_)
      exact Rvs.keep (O := fun _ => False) (.same (same_fresh hp' _)) (fun _ z => z.elim) (r1.rep _)
    · cases h
  · cases h
theorem o_div : Op2 G X (binaryOp .FloorDiv) dDiv := by
  refine ⟨_, op_fdivW, fun N H x y d e z Q hz hn rx ry h k => ?_⟩
  unfold dDiv at h
  split at h
  · split at h
    · rename_i hf
      simp only [divOk, Bool.and_eq_true, decide_eq_true_eq] at hf
      cases h; exact ⟨_, _, rx.int, ry.int, hf, k _ H (Same.refl H) (.int _)⟩
    · cases h
  · cases h
theorem o_mod : Op2 G X (binaryOp .Mod) dMod := by
  refine ⟨_, op_mod, fun N H x y d e z Q hz hn rx ry h k => ?_⟩
  unfold dMod at h
  split at h
  · split at h
    · rename_i hf
      cases h; exact ⟨_, _, rx.int, ry.int, of_decide_eq_true hf, k _ H (Same.refl H) (.int _)⟩
    · cases h
  · cases h
theorem o_pow : Op2 G X (binaryOp .Pow) dPow := by
  refine ⟨_, op_pow, fun N H x y d e z Q hz hn rx ry h k => ?_⟩
  unfold dPow at h
  split at h
  · split at h
    · rename_i hf
      simp only [Bool.and_eq_true, decide_eq_true_eq] at hf
      cases h; exact ⟨_, _, rx.int, ry.int, ⟨hf.1.1, hf.1.2, hf.2⟩, k _ H (Same.refl H) (.int _)⟩
    · cases h
  · cases h
end

/-! ### comparisons -/
def dCmp (f : Int → Int → Bool) : D → D → Re D
  | .int i, .int j => .ok (.bl (f i j))
  | _, _ => .bad
abbrev dLt := dCmp fun i j => decide (i < j)
abbrev dLe := dCmp fun i j => decide (i ≤ j)
abbrev dGt := dCmp fun i j => decide (j < i)
abbrev dGe := dCmp fun i j => decide (j ≤ i)
/-- how deep == may go -/
def shallow (d e : D) : Bool := decide (min d.depth e.depth ≤ 120) && (d.pur && e.pur)
def dEq : D → D → Re D := fun d e => if shallow d e then .ok (.bl (D.eqv d e)) else .bad
def dNe : D → D → Re D := fun d e => if shallow d e then .ok (.bl (!D.eqv d e)) else .bad
def items : D → Option (List D)
  | .tup xs => some xs
  | .lst xs => some xs
  | .tpn xs => some xs
  | _ => none
/-- what can be a key: a tuple of numbers, texts, tuples -/
def keyOk (d : D) : Bool := match d.key with
  | some (.tup ks) => decide ((NestedKey.tup ks).depth ≤ 8)
  | _ => false
theorem keyOk_spec {d : D} (h : keyOk d = true) : ∃ k, KeyOf k d := by
  unfold keyOk at h
  split at h
  · rename_i ks e; exact ⟨_, e, of_decide_eq_true h, ks, rfl⟩
  · cases h
def isIn (d : D) (xs : List D) : Bool := xs.any fun y => D.eqv y d
def dIn (neg : Bool) : D → D → Re D := fun d e => match items e with
  | some xs => if decide (min (D.depths xs) d.depth ≤ 120) && (D.purs xs && d.pur) then .ok (.bl (if neg then !isIn d xs else isIn d xs)) else .bad
  | none => match e with
    | .dct ks vs => if keyOk d then .ok (.bl (if neg then !isIn d ks else isIn d ks)) else .bad
    | _ => .bad
def dIs (neg : Bool) : D → D → Re D
  | d, .non => .ok (.bl (match d with | .non => !neg | _ => neg))
  | .bl a, .bl b => .ok (.bl (if neg then !decide (a = b) else decide (a = b)))
  | _, _ => .bad
section
variable {G : Glue} {X : Cx}
theorem o_cmp {op : CmpOp} {f : Int → Int → Bool} (h : OpR X (compareOp op) (rI0 fun i j => .bl (f i j))) : Op2 G X (compareOp op) (dCmp f) := by
  refine ⟨_, h, fun N H x y d e z Q hz hn rx ry h k => ?_⟩
  unfold dCmp at h
  split at h
  · cases h; exact ⟨_, _, rx.int, ry.int, k _ H (Same.refl H) (.bl _)⟩
  · cases h
theorem o_lt : Op2 G X (compareOp .Lt) dLt := o_cmp op_lt
theorem o_le : Op2 G X (compareOp .LtE) dLe := o_cmp op_le
theorem o_gt : Op2 G X (compareOp .Gt) dGt := o_cmp op_gt
theorem o_ge : Op2 G X (compareOp .GtE) dGe := o_cmp op_ge
def rEqP (K : PySem.W.Frag) (neg : Bool) : R2 := fun x y H Q => ∃ d e : D, Dp K H x (toPy d) ∧ Dp K H y (toPy e) ∧ min d.depth e.depth ≤ 120 ∧ Q (.bl (if neg then !D.eqv d e else D.eqv d e)) H
theorem op_eqP (hu : X.A.units + 130 < cLine) : OpR X (compareOp .Eq) (rEqP X.K false) := by
  intro pins s σ H x y v u Q I rx ry h
  obtain ⟨d, e, hd, he, hm, q⟩ := h
  obtain ⟨as, r1⟩ := Dp.reads I _ x v hd rx
  obtain ⟨bs, r2⟩ := Dp.reads I _ y u he ry
  exact SeqAt.eq_plain r1 r2 (plain_py d) (plain_py e) (by rw [depth_py, depth_py]; omega) ⟨.bl _, H, I, by rw [eqv_py]; rfl, q⟩
theorem op_neP (hu : X.A.units + 130 < cLine) : OpR X (compareOp .NotEq) (rEqP X.K true) := by
  intro pins s σ H x y v u Q I rx ry h
  obtain ⟨d, e, hd, he, hm, q⟩ := h
  obtain ⟨as, r1⟩ := Dp.reads I _ x v hd rx
  obtain ⟨bs, r2⟩ := Dp.reads I _ y u he ry
  exact SeqAt.ne_plain r1 r2 (plain_py d) (plain_py e) (by rw [depth_py, depth_py]; omega) ⟨.bl _, H, I, by rw [eqv_py]; rfl, q⟩
theorem dpK {N : Addr → Prop} {H : Hp} (hK : X.K = G.K) {d : D} {x : V} (p : d.pur = true) (h : Rl G N H d x) : Dp X.K H x (toPy d) := by rw [hK]; exact h.dp p
theorem shallow_ok {d e : D} (h : shallow d e = true) : min d.depth e.depth ≤ 120 ∧ d.pur = true ∧ e.pur = true := by
  unfold shallow at h
  simp only [Bool.and_eq_true, decide_eq_true_eq] at h
  exact h
theorem o_eq (hu : X.A.units + 130 < cLine) (hK : X.K = G.K := by rfl) : Op2 G X (compareOp .Eq) dEq := by
  refine ⟨_, op_eqP hu, fun N H x y d e z Q hz hn rx ry h k => ?_⟩
  unfold dEq at h
  split at h
  · rename_i hf
    obtain ⟨g1, g2, g3⟩ := shallow_ok hf
    cases h; exact ⟨d, e, dpK hK g2 rx, dpK hK g3 ry, g1, k _ H (Same.refl H) (.bl _)⟩
  · cases h
theorem o_ne (hu : X.A.units + 130 < cLine) (hK : X.K = G.K := by rfl) : Op2 G X (compareOp .NotEq) dNe := by
  refine ⟨_, op_neP hu, fun N H x y d e z Q hz hn rx ry h k => ?_⟩
  unfold dNe at h
  split at h
  · rename_i hf
    obtain ⟨g1, g2, g3⟩ := shallow_ok hf
    cases h; exact ⟨d, e, dpK hK g2 rx, dpK hK g3 ry, g1, k _ H (Same.refl H) (.bl _)⟩
  · cases h
def rInP (K : PySem.W.Frag) (neg : Bool) : R2 := fun x y H Q => ∃ (d : D) (xs : List D), Dp K H x (toPy d) ∧ (Dp K H y (.list (toPys xs)) ∨ Dp K H y (.tuple (toPys xs))) ∧ min (D.depths xs) d.depth ≤ 120 ∧ Q (.bl (if neg then !isIn d xs else isIn d xs)) H
theorem any_py (d : D) : ∀ xs : List D, ((toPys xs).any fun y => PyData.eqv y (toPy d)) = isIn d xs
  | [] => rfl
  | x :: xs => by
    simp only [toPys, List.any_cons, isIn, eqv_py]
    rw [any_py d xs]; rfl
theorem op_inP (hu : X.A.units + 130 < cLine) : OpR X (compareOp .In) (rInP X.K false) := by
  intro pins s σ H x y v u Q I rx ry h
  obtain ⟨d, xs, hd, he, hm, q⟩ := h
  obtain ⟨as, r1⟩ := Dp.reads I _ x v hd rx
  rcases he with he | he
  · obtain ⟨bs, r2⟩ := Dp.reads I _ y u he ry
    exact SeqAt.in_list_data r2 r1 (plains_py xs) (plain_py d) (by rw [depths_py, depth_py]; omega) ⟨.bl _, H, I, by rw [any_py]; rfl, q⟩
  · obtain ⟨bs, r2⟩ := Dp.reads I _ y u he ry
    exact SeqAt.in_tuple_data r2 r1 (plains_py xs) (plain_py d) (by rw [depths_py, depth_py]; omega) ⟨.bl _, H, I, by rw [any_py]; rfl, q⟩
theorem op_notInP (hu : X.A.units + 130 < cLine) : OpR X (compareOp .NotIn) (rInP X.K true) := by
  intro pins s σ H x y v u Q I rx ry h
  obtain ⟨d, xs, hd, he, hm, q⟩ := h
  obtain ⟨as, r1⟩ := Dp.reads I _ x v hd rx
  rcases he with he | he
  · obtain ⟨bs, r2⟩ := Dp.reads I _ y u he ry
    exact SeqAt.notIn_list_data r2 r1 (plains_py xs) (plain_py d) (by rw [depths_py, depth_py]; omega) ⟨.bl _, H, I, by rw [any_py]; rfl, q⟩
  · obtain ⟨bs, r2⟩ := Dp.reads I _ y u he ry
    exact SeqAt.notIn_tuple_data r2 r1 (plains_py xs) (plain_py d) (by rw [depths_py, depth_py]; omega) ⟨.bl _, H, I, by rw [any_py]; rfl, q⟩
/-! ### keys of dicts -/
mutual
theorem key_eq : ∀ (a b : D) (ka kb : NestedKey), a.key = some ka → b.key = some kb → (ka = kb ↔ D.eqv a b = true)
  | .non, b, ka, kb, ha, hb => by
    cases b <;> simp only [D.key] at ha hb <;> (try split at hb) <;> cases ha <;> cases hb <;> simp [D.eqv]
  | .bl _, b, ka, kb, ha, hb => by simp [D.key] at ha
  | .int i, b, ka, kb, ha, hb => by
    cases b <;> simp only [D.key] at ha hb <;> (try split at hb) <;> cases ha <;> cases hb <;> simp [D.eqv]
  | .str i, b, ka, kb, ha, hb => by
    cases b <;> simp only [D.key] at ha hb <;> (try split at hb) <;> cases ha <;> cases hb <;> simp [D.eqv]
  | .tup xs, b, ka, kb, ha, hb => by
    simp only [D.key] at ha
    split at ha
    · rename_i ks e1
      cases ha
      cases b <;> simp only [D.key] at hb <;> (try split at hb) <;> cases hb <;> simp only [D.eqv]
      all_goals first
        | (rename_i e2; rw [← keys_eq xs _ _ _ e1 e2]; exact ⟨fun z => by cases z; rfl, fun z => by rw [z]⟩)
        | simp
    · cases ha
  | .tpn xs, b, ka, kb, ha, hb => by
    simp only [D.key] at ha
    split at ha
    · rename_i ks e1
      cases ha
      cases b <;> simp only [D.key] at hb <;> (try split at hb) <;> cases hb <;> simp only [D.eqv]
      all_goals first
        | (rename_i e2; rw [← keys_eq xs _ _ _ e1 e2]; exact ⟨fun z => by cases z; rfl, fun z => by rw [z]⟩)
        | simp
    · cases ha
  | .lst _, b, ka, kb, ha, hb => by simp [D.key] at ha
  | .scr _, b, ka, kb, ha, hb => by simp [D.key] at ha
  | .obj _ _, b, ka, kb, ha, hb => by simp [D.key] at ha
  | .dct _ _, b, ka, kb, ha, hb => by simp [D.key] at ha
theorem keys_eq : ∀ (a b : List D) (ka kb : List NestedKey), D.keys a = some ka → D.keys b = some kb → (ka = kb ↔ D.eqvs a b = true)
  | [], b, ka, kb, ha, hb => by
    cases b with
    | nil => simp only [D.keys] at ha hb; cases ha; cases hb; simp [D.eqvs]
    | cons y ys =>
      simp only [D.keys] at ha hb
      cases ha
      split at hb <;> cases hb
      simp [D.eqvs]
  | x :: xs, b, ka, kb, ha, hb => by
    simp only [D.keys] at ha
    split at ha
    · rename_i k ks e1 e2
      cases ha
      cases b with
      | nil => simp only [D.keys] at hb; cases hb; simp [D.eqvs]
      | cons y ys =>
        simp only [D.keys] at hb
        split at hb
        · rename_i k' ks' e3 e4
          cases hb
          simp only [D.eqvs, Bool.and_eq_true, ← key_eq x y _ _ e1 e3, ← keys_eq xs ys _ _ e2 e4, List.cons.injEq]
        · cases hb
    · cases ha
end
section
variable {pins : List (Addr × Obj)} {σ : St} {H : Hp} {s : Shared}
mutual
theorem Rv.key {N : Addr → Prop} (hK : X.K = G.K) (I : Inv X pins σ H s) : ∀ {d : D} {v : V} {u : Value} {k : NestedKey}, Rv G N H d v → RelV v u → d.key = some k → NestedIs s.heap k u
  | .non, _, _, _, h, r, e => by cases h; cases e; cases r; exact .none
  | .bl _, _, _, _, h, r, e => by simp [D.key] at e
  | .int i, _, _, _, h, r, e => by cases h; cases e; obtain ⟨t, rfl⟩ := r; exact .int _ _
  | .str i, _, _, _, h, r, e => by cases h; cases e; obtain ⟨t, rfl⟩ := r; exact .text _ _
  | .tup xs, _, _, _, h, r, e => by
    simp only [D.key] at e
    split at e
    · rename_i ks e1
      cases e
      cases h with
      | tup h1 h2 =>
        cases r
        obtain ⟨its, rv, ⟨o, ho, hc, n, hd⟩, _⟩ := I.tuple (hK ▸ h1)
        exact .tup ho hc hd (Rvs.keyl hK I h2 rv e1)
    · cases e
  | .tpn xs, _, _, _, h, r, e => by
    simp only [D.key] at e
    split at e
    · rename_i ks e1
      cases e
      cases h with
      | tpn h1 h2 =>
        cases r
        obtain ⟨its, rv, ⟨o, ho, hc, n, hd⟩, _⟩ := I.tuple (hK ▸ h1.t)
        exact .tup ho hc hd (Rvs.keyl hK I h2 rv e1)
    · cases e
  | .lst _, _, _, _, h, r, e => by simp [D.key] at e
  | .scr _, _, _, _, h, r, e => by simp [D.key] at e
  | .obj _ _, _, _, _, h, r, e => by simp [D.key] at e
  | .dct _ _, _, _, _, h, r, e => by simp [D.key] at e
theorem Rvs.keyl {N : Addr → Prop} (hK : X.K = G.K) (I : Inv X pins σ H s) : ∀ {ds : List D} {vs : List V} {us : List Value} {ks : List NestedKey}, Rvs G N H ds vs → Vals vs us → D.keys ds = some ks → NestedAll s.heap ks us
  | [], _, _, _, h, r, e => by cases h; cases r; cases e; exact .nil
  | d :: ds, _, _, _, h, r, e => by
    simp only [D.keys] at e
    split at e
    · rename_i k ks e1 e2
      cases e
      cases h with
      | cons h1 h2 =>
        cases r with
        | cons r1 r2 => exact .cons (Rv.key hK I h1 r1 e1) (Rvs.keyl hK I h2 r2 e2)
    · cases e
end
/-- the dict, as the library has it -/
theorem dic_keyed {N : Addr → Prop} (hK : X.K = G.K) (hP : X.prog = G.P) (hw : X.w = G.w) (I : Inv X pins σ H s) {a : Addr} {ks : List D} {o : Obj} {es : List (NestedKey × Addr × Value)} (h1 : H a = some (dicO G.P G.w a o es)) (h2 : Paired (fun (e : NestedKey × Addr × Value) d => KeyOf e.1 d) es ks)
    (h5 : Rvs G N H ks (es.map fun e => V.ref e.2.1)) : s.heap.DictOfH (nestedKind X.prog X.w) a es ∧ (a == sysModules) = false ∧ es.length ≤ sizeLine := by
  have ok := I.hok a _ h1
  obtain ⟨⟨⟨arr, ep, e1, e2, e3, e4⟩, e5, e6, e7⟩, _, _⟩ := ok
  refine ⟨⟨o, arr, ep, e1, e2, e3, by rw [hP, hw]; exact e4, fun x hx => ?_, e5⟩, e6, e7⟩
  have gen : ∀ (es : List (NestedKey × Addr × Value)) (ks : List D) (kv : List V), Paired (fun (e : NestedKey × Addr × Value) d => KeyOf e.1 d) es ks → kv = es.map (fun e => V.ref e.2.1) → Rvs G N H ks kv → ∀ x ∈ es, NestedIs s.heap x.1 (.ref x.2.1) ∧ x.1.depth ≤ 8 := by
    intro es
    induction es with
    | nil => intro ks kv _ _ _ x hx; cases hx
    | cons e es ih =>
      intro ks kv p e' r x hx
      cases p with
      | cons p1 p2 =>
        subst e'
        rw [List.map_cons] at r
        cases r with
        | cons r1 r2 =>
          rcases List.mem_cons.mp hx with rfl | hx
          · exact ⟨Rv.key hK I r1 rfl p1.1, p1.2.1⟩
          · exact ih _ _ p2 rfl r2 x hx
  exact gen es ks _ h2 rfl h5 x hx
theorem Dic.keyed {N : Addr → Prop} (hK : X.K = G.K) (hP : X.prog = G.P) (hw : X.w = G.w) (I : Inv X pins σ H s) {a : Addr} {ks vs : List D} (h : Dic G N H a ks vs) : ∃ es : List (NestedKey × Addr × Value), s.heap.DictOfH (nestedKind X.prog X.w) a es ∧ (a == sysModules) = false ∧ es.length ≤ sizeLine ∧
    Paired (fun (e : NestedKey × Addr × Value) d => KeyOf e.1 d) es ks ∧ (∃ o, H a = some (dicO G.P G.w a o es)) ∧ ∃ kv vv, kv = es.map (fun e => V.ref e.2.1) ∧ Vals vv (es.map (·.2.2)) ∧ Rvs G N H ks kv ∧ Rvs G N H vs vv := by
  obtain ⟨o, es, kv, vv, h1, h2, h3, h4, h5, h6⟩ := h
  obtain ⟨g1, g2, g3⟩ := dic_keyed hK hP hw I h1 h2 (h3 ▸ h5)
  exact ⟨es, g1, g2, g3, h2, ⟨o, h1⟩, kv, vv, h3, h4, h5, h6⟩
/-- which key it is, by == of data -/
theorem at_isIn {k : NestedKey} {d : D} (hk : KeyOf k d) : ∀ {es : List (NestedKey × Addr × Value)} {ks : List D}, Paired (fun (e : NestedKey × Addr × Value) d => KeyOf e.1 d) es ks → (atKey es k).isSome = isIn d ks
  | [], _, h => by cases h; rfl
  | e :: es, _, h => by
    cases h with
    | cons h1 h2 =>
      rename_i y ys
      have ih := at_isIn hk h2
      have q := key_eq y d e.1 k h1.1 hk.1
      simp only [isIn, List.any_cons]
      unfold atKey at ih ⊢
      by_cases c : e.1 = k
      · rw [List.find?_cons_of_pos (by simpa using c), q.mp c]; rfl
      · rw [List.find?_cons_of_neg (by simpa using c)]
        have : D.eqv y d = false := by
          cases z : D.eqv y d with
          | false => rfl
          | true => exact absurd (q.mpr z) c
        rw [this, Bool.false_or]
        exact ih
end
def rInK (G : Glue) (neg : Bool) : R2 := fun x y H Q => ∃ (N : Addr → Prop) (k : NestedKey) (d : D) (ks vs : List D) (a b : Addr), x = .ref b ∧ y = .ref a ∧ KeyOf k d ∧ Rv G N H d (.ref b) ∧ Dic G N H a ks vs ∧ Q (.bl (if neg then !isIn d ks else isIn d ks)) H
theorem op_inK (hu : X.A.units + 130 < cLine) (hK : X.K = G.K) (hP : X.prog = G.P) (hw : X.w = G.w) : OpR X (compareOp .In) (rInK G false) := by
  intro pins s σ H x y v u Q I rx ry h
  obtain ⟨N, k, d, ks, vs, a, b, rfl, rfl, hk, rd, hd, q⟩ := h
  cases rx; cases ry
  obtain ⟨es, h1, h2, _, h3, _⟩ := hd.keyed hK hP hw I
  refine in_keyed (knd := nestedKind X.prog X.w) (show X.A.units + 1 + 8 < cLine by omega) ⟨Rv.key hK I rd rfl hk.1, hk.2.1⟩ h2 ⟨es, h1, rfl⟩ ?_
  rw [valueAt_pairsH, Option.isSome_map, at_isIn hk h3]
  exact ⟨.bl _, H, I.tok _, rfl, q⟩
theorem op_notInK (hu : X.A.units + 130 < cLine) (hK : X.K = G.K) (hP : X.prog = G.P) (hw : X.w = G.w) : OpR X (compareOp .NotIn) (rInK G true) := by
  intro pins s σ H x y v u Q I rx ry h
  obtain ⟨N, k, d, ks, vs, a, b, rfl, rfl, hk, rd, hd, q⟩ := h
  cases rx; cases ry
  obtain ⟨es, h1, h2, _, h3, _⟩ := hd.keyed hK hP hw I
  refine notIn_keyed (knd := nestedKind X.prog X.w) (show X.A.units + 1 + 8 < cLine by omega) ⟨Rv.key hK I rd rfl hk.1, hk.2.1⟩ h2 ⟨es, h1, rfl⟩ ?_
  rw [valueAt_pairsH, Option.isSome_map, at_isIn hk h3]
  exact ⟨.bl _, H, I.tok _, rfl, q⟩
/-- a key is told by its address, and is no list of a name -/
theorem Rl.keyRef {N : Addr → Prop} {H : Hp} {d : D} {v : V} {k : NestedKey} (h : Rl G N H d v) (hk : KeyOf k d) : ∃ b, v = .ref b ∧ Rv G N H d (.ref b) := by
  obtain ⟨h1, _, ks, rfl⟩ := hk
  rcases h with h | ⟨xs, a, vs, rfl, _⟩ | ⟨ks, vs, a, rfl, _⟩
  · cases d <;> simp only [D.key] at h1 <;> (try split at h1) <;> cases h1
    · cases h with
      | tup g1 g2 => exact ⟨_, rfl, .tup g1 g2⟩
    · cases h with
      | tpn g1 g2 => exact ⟨_, rfl, .tpn g1 g2⟩
  · simp [D.key] at h1
  · simp [D.key] at h1
theorem o_in_aux {op : CmpOp} {neg : Bool} (ho : OpR X (compareOp op) (rInP X.K neg)) (ho2 : OpR X (compareOp op) (rInK G neg)) (hK : X.K = G.K) : Op2 G X (compareOp op) (dIn neg) := by
  refine ⟨_, ho.or ho2, fun N H x y d e z Q hz hn rx ry h k => ?_⟩
  unfold dIn at h
  split at h
  · rename_i xs hx
    split at h
    · rename_i hf
      cases h
      simp only [Bool.and_eq_true, decide_eq_true_eq] at hf
      refine .inl ⟨d, xs, dpK hK hf.2.2 rx, ?_, hf.1, k _ H (Same.refl H) (.bl _)⟩
      cases e with
      | tup ys => cases hx; have := dpK hK (by simpa [D.pur] using hf.2.1) ry; simp only [toPy] at this; exact .inr this
      | lst ys => cases hx; have := dpK hK (by simpa [D.pur] using hf.2.1) ry; simp only [toPy] at this; exact .inl this
      | tpn ys => cases hx; have := dpK hK (by simpa [D.pur] using hf.2.1) ry; simp only [toPy] at this; exact .inr this
      | _ => cases hx
    · cases h
  · split at h
    · rename_i ks vs _
      split at h
      · rename_i hf
        cases h
        obtain ⟨kk, hk⟩ := keyOk_spec hf
        obtain ⟨b, rfl, rd⟩ := rx.keyRef hk
        obtain ⟨a, rfl, hd⟩ := ry.dct
        exact .inr ⟨N, kk, d, ks, vs, a, b, rfl, rfl, hk, rd, hd, k _ H (Same.refl H) (.bl _)⟩
      · cases h
    · cases h
theorem o_in (hu : X.A.units + 130 < cLine) (hP : X.prog = G.P) (hw : X.w = G.w) (hK : X.K = G.K := by rfl) : Op2 G X (compareOp .In) (dIn false) := o_in_aux (op_inP hu) (op_inK hu hK hP hw) hK
theorem o_notIn (hu : X.A.units + 130 < cLine) (hP : X.prog = G.P) (hw : X.w = G.w) (hK : X.K = G.K := by rfl) : Op2 G X (compareOp .NotIn) (dIn true) := o_in_aux (op_notInP hu) (op_notInK hu hK hP hw) hK
theorem o_is : Op2 G X (compareOp .Is) (dIs false) := by
  refine ⟨_, op_isN.or op_isBl, fun N H x y d e z Q hz hn rx ry h k => ?_⟩
  unfold dIs at h
  split at h
  · cases h
    refine .inl ⟨ry.non, k _ H (Same.refl H) ?_⟩
    cases d with
    | non => cases rx.non; exact .bl _
    | bl b => cases rx.bl; exact .bl _
    | int b => cases rx.int; exact .bl _
    | str b => cases rx.str; exact .bl _
    | tup b => obtain ⟨a, vs, e, _⟩ := rx.tup; cases e; exact .bl _
    | lst b => obtain ⟨a, vs, e, _⟩ := rx.lst; cases e; exact .bl _
    | scr b => obtain ⟨a, vs, e, _⟩ := rx.scr; cases e; exact .bl _
    | tpn b => obtain ⟨a, vs, e, _⟩ := rx.tpn; cases e; exact .bl _
    | obj c b => obtain ⟨a, dx, fs, e, _⟩ := rx.obj; cases e; exact .bl _
    | dct c b => obtain ⟨a, e, _⟩ := rx.dct; cases e; exact .bl _
    | fix u =>
      rcases rx with h | ⟨_, _, _, e, _⟩ | ⟨_, _, _, e, _⟩
      · cases h; exact .bl _
      · cases e
      · cases e
  · cases h; exact .inr ⟨_, _, rx.bl, ry.bl, k _ H (Same.refl H) (.bl _)⟩
  · cases h
theorem o_isNot : Op2 G X (compareOp .IsNot) (dIs true) := by
  refine ⟨_, op_notN.or op_notBl, fun N H x y d e z Q hz hn rx ry h k => ?_⟩
  unfold dIs at h
  split at h
  · cases h
    refine .inl ⟨ry.non, k _ H (Same.refl H) ?_⟩
    cases d with
    | non => cases rx.non; exact .bl _
    | bl b => cases rx.bl; exact .bl _
    | int b => cases rx.int; exact .bl _
    | str b => cases rx.str; exact .bl _
    | tup b => obtain ⟨a, vs, e, _⟩ := rx.tup; cases e; exact .bl _
    | lst b => obtain ⟨a, vs, e, _⟩ := rx.lst; cases e; exact .bl _
    | scr b => obtain ⟨a, vs, e, _⟩ := rx.scr; cases e; exact .bl _
    | tpn b => obtain ⟨a, vs, e, _⟩ := rx.tpn; cases e; exact .bl _
    | obj c b => obtain ⟨a, dx, fs, e, _⟩ := rx.obj; cases e; exact .bl _
    | dct c b => obtain ⟨a, e, _⟩ := rx.dct; cases e; exact .bl _
    | fix u =>
      rcases rx with h | ⟨_, _, _, e, _⟩ | ⟨_, _, _, e, _⟩
      · cases h; exact .bl _
      · cases e
      · cases e
  · cases h; exact .inr ⟨_, _, rx.bl, ry.bl, k _ H (Same.refl H) (.bl _)⟩
  · cases h
end
end F

set_option Elab.async false
set_option linter.all false
set_option maxRecDepth 100000
set_option maxHeartbeats 4000000
namespace F
open PySem PySem.Spec PyProof.Rows L2

/-! ### argument lists, displays -/
def getAll (sl : Sl) : List S → Option (List D)
  | [] => some []
  | s :: ss => match getS sl s, getAll sl ss with
    | some d, some ds => some (d :: ds)
    | _, _ => none
inductive RlL (G : Glue) (N : Addr → Prop) (H : Hp) : List D → List V → Prop
  | nil : RlL G N H [] []
  | cons {d : D} {v : V} {ds : List D} {vs : List V} : Rl G N H d v → RlL G N H ds vs → RlL G N H (d :: ds) (v :: vs)
theorem RsL.keep {G : Glue} {T : Act} {A : Nat → Option Addr} {H H' : Hp} (k : Keep (Own A) H H') : ∀ {s : List S} {v : List V}, RsL G T A H s v → RsL G T A H' s v
  | _, _, .nil => .nil
  | _, _, .cons h1 h2 => .cons (Rs.keep k h1) (RsL.keep k h2)
theorem RlL.of {G : Glue} {T : Act} {A : Nat → Option Addr} {sl : Sl} {σ : St} {H : Hp} (r : Sr G T A sl σ H) : ∀ {s : List S} {x : List V} {d : List D}, RsL G T A H s x → getAll sl s = some d → RlL G (T.N A) H d x
  | [], _, _, .nil, e => by cases e; exact .nil
  | s :: ss, _, d, .cons h1 h2, e => by
    simp only [getAll] at e
    split at e
    · rename_i d1 ds e1 e2
      cases e
      exact .cons (Rl.of r h1 e1) (RlL.of r h2 e2)
    · cases e
/-- only data -/
def asVs : List S → Option (List D)
  | [] => some []
  | .v d :: ss => match asVs ss with
    | some ds => some (d :: ds)
    | none => none
  | .r _ :: _ => none
theorem asVs_rv {G : Glue} {T : Act} {A : Nat → Option Addr} {H : Hp} : ∀ {s : List S} {x : List V} {d : List D}, RsL G T A H s x → asVs s = some d → Rvs G (T.N A) H d x
  | [], _, _, .nil, e => by cases e; exact .nil
  | .v d :: ss, _, _, .cons h1 h2, e => by
    simp only [asVs] at e
    split at e
    · rename_i ds e2
      cases e
      exact .cons h1 (asVs_rv h2 e2)
    · cases e
  | .r _ :: _, _, _, .cons h1 h2, e => by cases e
def dNil : Evs := fun sl => .ok [] sl
def dCons (a : Ev) (r : Evs) : Evs := fun sl => (a sl).bind fun x sl1 => (r sl1).bind fun xs sl2 => .ok (x :: xs) sl2
/-- *e: a tuple or a list of data -/
def spread (sl : Sl) (x : S) : Option (List D) := match getS sl x with
  | some (.tup ds) => some ds
  | some (.lst ds) => some ds
  | some (.tpn ds) => some ds
  | _ => none
def dStar (a : Ev) (r : Evs) : Evs := fun sl => (a sl).bind fun x sl1 => match spread sl1 x with
  | some ds => (r sl1).bind fun xs sl2 => .ok (ds.map .v ++ xs) sl2
  | none => .bad
/-- a tuple of data -/
def dTup (r : Evs) : Ev := fun sl => (r sl).bind fun xs sl1 => match asVs xs with
  | some ds => if fits ds.length then .ok (.v (.tup ds)) sl1 else .bad
  | none => .bad
/-- a list of data: what is in it -/
abbrev Lv := Sl → R (List D)
def dItems (r : Evs) : Lv := fun sl => (r sl).bind fun xs sl1 => match asVs xs with
  | some ds => if fits ds.length then .ok ds sl1 else .bad
  | none => .bad
/-- a new list, as data -/
def dL (l : Lv) : Ev := fun sl => (l sl).bind fun ds sl1 => .ok (.v (.lst ds)) sl1
section
variable {G : Glue} {W : WX} {X : Cx} {a b c e : Expr} {es : List Expr} {da db dc : Ev} {ds : Evs} {pos : Pos} {T : Act} {A : Nat → Option Addr} {sl : Sl} {σ : St} {H : Hp}
theorem fa_nil : FA G W X [] dNil := fun T => PA.plus pa_nil fun σ H Q z h => by
  obtain ⟨A, sl, s, p⟩ := h z
  exact fun z => p [] H s .refl .nil
theorem fa_cons (ha : FE G W X a da) (hr : FA G W X es ds) (hs : starEach (a :: es) X.env = (false, eval a X.env) :: starEach es X.env := by rfl) : FA G W X (a :: es) (dCons da ds) := fun T =>
  PA.plus (pa_cons (ha T) (hr T) hs) fun σ H Q z h hz => by
    obtain ⟨A, sl, s, p⟩ := h hz
    refine ⟨A, sl, s, PostG.bind p fun x sl1 v H1 _ s1 k1 r1 p1 _ => ⟨A, sl1, s1, PostG.bind p1 fun xs sl2 vs H2 _ s2 k2 r2 p2 _ => ?_⟩⟩
    exact p2 (v :: vs) H2 s2 .refl (.cons (Rs.keep k2 r1) r2)
theorem Rvs.rs {G : Glue} {T : Act} {A : Nat → Option Addr} {H : Hp} : ∀ {ds : List D} {vs : List V}, Rvs G (T.N A) H ds vs → RsL G T A H (ds.map .v) vs
  | [], _, h => by cases h; exact .nil
  | d :: ds, _, h => by
    cases h with
    | cons h1 h2 => exact .cons h1 (Rvs.rs h2)
theorem RsL.append {G : Glue} {T : Act} {A : Nat → Option Addr} {H : Hp} : ∀ {s t : List S} {v w : List V}, RsL G T A H s v → RsL G T A H t w → RsL G T A H (s ++ t) (v ++ w)
  | _, _, _, _, .nil, h => h
  | _, _, _, _, .cons h1 h2, h => .cons h1 (RsL.append h2 h)
theorem fa_star {p : Pos} (ha : FE G W X a da) (hr : FA G W X es ds) (hK : X.K = G.K := by rfl) (hs : starEach (.Starred a p :: es) X.env = (true, eval a X.env) :: starEach es X.env := by rfl) : FA G W X (.Starred a p :: es) (dStar da ds) := fun T =>
  PA.plus (StX.pa_star (ha T) (hr T) hs) fun σ H Q z h hz => by
    obtain ⟨A, sl, s, p⟩ := h hz
    refine ⟨A, sl, s, PostG.bind p fun x sl1 v H1 _ s1 k1 r1 p1 => ?_⟩
    unfold spread at p1
    have key : ∀ (ys : List D) (a : Addr) (vs : List V), v = .ref a → (SqT X.K H1 a vs ∨ SqL X.K H1 a vs) → Rvs G (T.N A) H1 ys vs → PostL G W T A σ H1 ((ds sl1).bind fun xs sl2 => .ok (ys.map .v ++ xs) sl2) Q →
        ∃ p xs, v = V.ref p ∧ (SqT X.K H1 p xs ∨ SqL X.K H1 p xs) ∧ tEvs G W T ds σ H1 fun ys H2 => HSz H2 → Q (xs ++ ys) H2 := fun ys a vs e sq rv p1 =>
      ⟨a, vs, e, sq, fun _ => ⟨A, sl1, s1, PostG.bind p1 fun xs sl2 ws H2 _ s2 k2 r2 p2 _ => p2 (vs ++ ws) H2 s2 .refl ((Rvs.rs (Rvs.keep k2 (fun _ z => .inr z) rv)).append r2)⟩⟩
    match h : getS sl1 x, p1 with
    | some (.tup ys), p1 =>
      obtain ⟨a, vs, e1, e2, e3⟩ := tupK hK (Rl.of s1 r1 h)
      exact key ys a vs e1 (.inl e2) (e3) p1
    | some (.lst ys), p1 =>
      obtain ⟨a, vs, e1, e2, e3⟩ := (Rl.of s1 r1 h).lst
      exact key ys a vs e1 (.inr (SqL.of e2)) e3 p1
    | some (.tpn ys), p1 =>
      obtain ⟨a, vs, e1, e2, e3⟩ := (Rl.of s1 r1 h).tpn
      exact key ys a vs e1 (.inl (hK ▸ e2.t)) e3 p1
theorem fe_tup {k : Nat} (h : FA G W X es ds) : FE G W X (.Tuple es k pos) (dTup ds) := fun T => PE.plus (pe_tup (h T)) fun σ H Q z h hz => by
  obtain ⟨A, sl, s, p⟩ := h hz
  refine ⟨A, sl, s, PostG.bind p fun xs sl1 vs H1 _ s1 k1 r1 p1 => ?_⟩
  split at p1
  · rename_i ds' e
    split at p1
    · rename_i hf
      have rv := asVs_rv r1 e
      refine ⟨by rw [← rv.length]; exact fits_le hf, fun p hp hz' => ?_⟩
      have sm := same_fresh hp (.tup vs)
      exact p1 _ _ (s1.grown sm hz') (.same sm) (.tup (SqT.of upd_same) (Rvs.keep (.same sm) (fun _ z => .inr z) rv))
    · exact p1.elim
  · exact p1.elim
/-- a new list: its maker's reading -/
def tNew (G : Glue) (W : WX) (T : Act) (l : Lv) : TE := fun σ H Q => HSz H → ∃ A sl, Sr G T A sl σ H ∧ PostG (fun H' (ds : List D) (vs : List V) => Rvs G (T.N A) H' ds vs) G W T A σ H (l sl) fun vs H1 => ∀ p, H1 p = none → Q (.ref p) (upd H1 p (.lst vs))
/-- an expression that makes a new list -/
def FL (G : Glue) (W : WX) (X : Cx) (e : Expr) (l : Lv) : Prop := ∀ T, PE X e (tNew G W T l)
theorem fe_new {l : Lv} (h : FL G W X e l) : FE G W X e (dL l) := fun T => PE.plus (h T) fun σ H Q z h hz => by
  obtain ⟨A, sl, s, p⟩ := h hz
  refine ⟨A, sl, s, PostG.bind p fun ds sl1 vs H1 _ s1 k1 r1 p1 p hp hz' => ?_⟩
  have sm := same_fresh hp (.lst vs)
  exact p1 _ _ (s1.grown sm hz') (.same sm) (.lst upd_same (s1.fresh hp) (Rvs.keep (.same sm) (fun _ z => .inr z) r1))
theorem fl_lst (h : FA G W X es ds) : FL G W X (.List es pos) (dItems ds) := fun T => PE.imp (pe_lst (h T)) fun σ H Q h hz => by
  obtain ⟨A, sl, s, p⟩ := h hz
  refine ⟨A, sl, s, PostG.bind p fun xs sl1 vs H1 _ s1 k1 r1 p1 => ?_⟩
  split at p1
  · rename_i ds' e
    split at p1
    · rename_i hf
      have rv := asVs_rv r1 e
      exact ⟨by rw [← rv.length]; exact fits_le hf, p1 vs H1 s1 .refl rv⟩
    · exact p1.elim
  · exact p1.elim

/-! ### one operand -/
def dUn (f : D → Re D) (a : Ev) : Ev := fun sl => (a sl).bind fun x sl1 => match getS sl1 x with
  | some d => match f d with
    | .ok z => .ok (.v z) sl1
    | _ => .bad
  | none => .bad
def dNeg : D → Re D
  | .int i => .ok (.int (-i))
  | _ => .bad
theorem fe_neg (ha : FE G W X a da) : FE G W X (.UnaryOp .USub a pos) (dUn dNeg da) := fun T => PE.plus (pe_un un_neg (ha T)) fun σ H Q z h hz => by
  obtain ⟨A, sl, s, p⟩ := h hz
  refine ⟨A, sl, s, PostG.bind p fun x sl1 v H1 _ s1 k1 r1 p1 => ?_⟩
  match h : getS sl1 x, p1 with
  | some (.int i), p1 =>
    cases (Rl.of s1 r1 h).int
    exact ⟨i, rfl, fun _ => p1 _ H1 s1 .refl (.int _)⟩
  | some .non, p1 => exact p1.elim
  | some (.bl _), p1 => exact p1.elim
  | some (.str _), p1 => exact p1.elim
  | some (.tup _), p1 => exact p1.elim
  | some (.lst _), p1 => exact p1.elim
  | some (.scr _), p1 => exact p1.elim

/-! ### places and slices -/
/-- what a dict has at a key -/
def dget : List D → List D → D → Option D
  | k :: ks, v :: vs, d => if D.eqv k d = true then some v else dget ks vs d
  | _, _, _ => none
theorem at_get {N : Addr → Prop} {k : NestedKey} {d z : D} (hk : KeyOf k d) : ∀ {es : List (NestedKey × Addr × Value)} {ks vs : List D} {vv : List V}, Paired (fun (e : NestedKey × Addr × Value) d => KeyOf e.1 d) es ks → Vals vv (es.map (·.2.2)) → Rvs G N H vs vv → dget ks vs d = some z →
    ∃ p w, atKey es k = some p ∧ RelV w p.2 ∧ Rv G N H z w
  | [], _, _, _, h, _, _, e => by cases h; simp [dget] at e
  | x :: es, _, vs, vv, h, hv, rv, e => by
    cases h with
    | cons h1 h2 =>
      rename_i y ys
      rw [List.map_cons] at hv
      cases hv with
      | cons v1 v2 =>
        cases rv with
        | cons r1 r2 =>
          have q := key_eq y d x.1 k h1.1 hk.1
          simp only [dget] at e
          unfold atKey
          by_cases c : x.1 = k
          · rw [if_pos (q.mp c)] at e
            cases e
            rw [List.find?_cons_of_pos (by simpa using c)]
            exact ⟨_, _, rfl, v1, r1⟩
          · rw [if_neg (fun z => c (q.mpr z))] at e
            rw [List.find?_cons_of_neg (by simpa using c)]
            exact at_get hk h2 v2 r2 e
def rIxK (G : Glue) : R2 := fun x y H Q => ∃ (N : Addr → Prop) (k : NestedKey) (d z : D) (ks vs : List D) (a b : Addr), x = .ref a ∧ y = .ref b ∧ KeyOf k d ∧ Rv G N H d (.ref b) ∧ Dic G N H a ks vs ∧ dget ks vs d = some z ∧ ∀ w, Rv G N H z w → Q w H
theorem ix_dic (hu : X.A.units + 130 < cLine) (hK : X.K = G.K) (hP : X.prog = G.P) (hw : X.w = G.w) : IxR X (rIxK G) := by
  intro value slice pins s σ H x y v u Q I rx ry h hs
  obtain ⟨N, k, d, z, ks, vs, a, b, rfl, rfl, hk, rd, hd, hg, q⟩ := h
  cases rx; cases ry
  obtain ⟨es, h1, h2, _, h3, _, kv, vv, h4, h5, h6, h7⟩ := hd.keyed hK hP hw I
  obtain ⟨p, w, e1, e2, e3⟩ := at_get hk h3 h5 h7 hg
  have km : s.heap.DictKeyed (nestedKind X.prog X.w) a (pairsH es) := ⟨es, h1, rfl⟩
  exact tail_any km.typeIs PySem.F.slot_dict_getitem.lookup (getItem_keyed (knd := nestedKind X.prog X.w) (v := p.2) (show X.A.units + 1 + 8 < cLine by omega) ⟨Rv.key hK I rd rfl hk.1, hk.2.1⟩ km (by rw [valueAt_pairsH, e1]; rfl) ⟨w, H, I.tok _, e2, q w e3⟩) hs
def dIx : D → D → Re D
  | .tup xs, .int i => match atI xs i with | some d => .ok d | none => .bad
  | .lst xs, .int i => match atI xs i with | some d => .ok d | none => .bad
  | .scr xs, .int i => match atI xs i with | some d => .ok d | none => .bad
  | .tpn xs, .int i => match atI xs i with | some d => .ok d | none => .bad
  | .dct ks vs, d => if keyOk d then match dget ks vs d with | some z => .ok z | none => .bad else .bad
  | _, _ => .bad
theorem atI_rv {N : Addr → Prop} {xs : List D} {vs : List V} {i : Int} {d : D} (h : Rvs G N H xs vs) (e : atI xs i = some d) : ∃ v, atI vs i = some v ∧ Rv G N H d v := by
  unfold atI at e ⊢
  rw [← h.length]
  cases q : ixN xs.length i with
  | none => rw [q] at e; cases e
  | some j =>
    rw [q] at e
    exact h.getD e
theorem fe_ix (hu : X.A.units + 130 < cLine) (hP : X.prog = G.P) (hw : X.w = G.w) (ha : FE G W X a da) (hb : FE G W X b db) (hK : X.K = G.K := by rfl) (hs : PlainIx b := by exact fun _ _ => rfl) : FE G W X (.Subscript a b pos) (dBin dIx da db) := fun T =>
  PE.plus (pe_ix (ix_seq.or (ix_dic hu hK hP hw)) (ha T) (hb T) hs) fun σ H Q z h => by
    refine bin_E (f := dIx) (fun T A sl σ H x y u v Q P s hx hy p nb k => ?_) h
    unfold two at p
    match h1 : getS sl x, h2 : getS sl y, p with
    | some d, some e, p =>
      have rx := Rl.of s hx h1
      have ry := Rl.of s hy h2
      dsimp only at p
      split at p
      · rename_i z hz
        unfold dIx at hz
        split at hz
        · rename_i xs i
          obtain ⟨a, vs, e1, e2, e3⟩ := tupK hK rx
          split at hz
          · rename_i d hd
            cases hz
            obtain ⟨v', e4, e5⟩ := atI_rv e3 hd
            exact .inl (.inr (.inl ⟨a, vs, i, v', e1, ry.int, e2, e4, k _ _ H p (Same.refl H) e5⟩))
          · cases hz
        · rename_i xs i
          obtain ⟨a, vs, e1, e2, e3⟩ := rx.lst
          split at hz
          · rename_i d hd
            cases hz
            obtain ⟨v', e4, e5⟩ := atI_rv e3 hd
            exact .inl (.inl ⟨a, vs, i, v', e1, ry.int, SqL.of e2, e4, k _ _ H p (Same.refl H) e5⟩)
          · cases hz
        · rename_i xs i
          obtain ⟨a, vs, e1, e2, e3⟩ := rx.scr
          split at hz
          · rename_i d hd
            cases hz
            obtain ⟨v', e4, e5⟩ := atI_rv e3 hd
            exact .inl (.inl ⟨a, vs, i, v', e1, ry.int, hK ▸ e2.l, e4, k _ _ H p (Same.refl H) e5⟩)
          · cases hz
        · rename_i xs i
          obtain ⟨a, vs, e1, e2, e3⟩ := rx.tpn
          split at hz
          · rename_i d hd
            cases hz
            obtain ⟨v', e4, e5⟩ := atI_rv e3 hd
            exact .inl (.inr (.inl ⟨a, vs, i, v', e1, ry.int, hK ▸ e2.t, e4, k _ _ H p (Same.refl H) e5⟩))
          · cases hz
        · rename_i ks vs
          split at hz
          · rename_i hf
            split at hz
            · rename_i z' hd
              cases hz
              obtain ⟨kk, hk⟩ := keyOk_spec hf
              obtain ⟨b, rfl, rd⟩ := ry.keyRef hk
              obtain ⟨a, rfl, hdic⟩ := rx.dct
              exact .inr ⟨_, kk, _, _, ks, vs, a, b, rfl, rfl, hk, rd, hdic, hd, fun w rw' => k _ w H p (Same.refl H) rw'⟩
            · cases hz
          · cases hz
        · cases hz
      · exact absurd p nb
    | some d, none, p => exact absurd p nb
    | none, _, p => exact absurd p nb
/-- a part of a slice -/
abbrev Ov := Sl → R (Option Int)
def dNoPart : Ov := fun sl => .ok none sl
def dPart (a : Ev) : Ov := fun sl => (a sl).bind fun x sl1 => match getS sl1 x with
  | some (.int i) => .ok (some i) sl1
  | _ => .bad
def tPartD (G : Glue) (W : WX) (T : Act) (d : Ov) : TO := fun σ H Q => HSz H → ∃ A sl, Sr G T A sl σ H ∧ PostG (fun _ (a b : Option Int) => a = b) G W T A σ H (d sl) Q
def FO (G : Glue) (W : WX) (X : Cx) (e : Option Expr) (d : Ov) : Prop := ∀ T, PO X e (tPartD G W T d)
theorem PO.plus {e : Option Expr} {t t' : TO} (h : PO X e t) (f : ∀ σ H Q, HSz H → t' σ H Q → t σ H fun v H' => HSz H' → Q v H') : PO X e t' :=
  ⟨fun pins s σ H Q I q => thn (h.run pins s σ H _ I (f σ H Q (Inv.hsz I) q)) fun u s' ⟨o, H', I', r, q⟩ => ⟨o, H', I', r, q (Inv.hsz I')⟩⟩
theorem fo_none : FO G W X none dNoPart := fun T => PO.plus po_none fun σ H Q z h => by
  obtain ⟨A, sl, s, p⟩ := h z
  exact fun _ => p none H s .refl rfl
theorem fo_some (ha : FE G W X a da) : FO G W X (some a) (dPart da) := fun T => PO.plus (po_some (ha T)) fun σ H Q z h hz => by
  obtain ⟨A, sl, s, p⟩ := h hz
  refine ⟨A, sl, s, PostG.bind p fun x sl1 v H1 _ s1 k1 r1 p1 => ?_⟩
  split at p1
  · rename_i i h
    cases (Rl.of s1 r1 h).int
    exact ⟨i, rfl, fun _ => p1 (some i) H1 s1 .refl rfl⟩
  · exact p1.elim
/-- xs[lo:hi] -/
def cut {α : Type} (xs : List α) (lo hi : Option Int) : List α := (xs.drop (HT.sIx xs.length 0 lo)).take (HT.sIx xs.length xs.length hi - HT.sIx xs.length 0 lo)
def dSlT (a : Ev) (lo hi : Ov) : Ev := fun sl => (a sl).bind fun x sl1 => (lo sl1).bind fun l sl2 => (hi sl2).bind fun u sl3 => match getS sl3 x with
  | some (.tup xs) => .ok (.v (.tup (cut xs l u))) sl3
  | _ => .bad
def dSlL (a : Ev) (lo hi : Ov) : Lv := fun sl => (a sl).bind fun x sl1 => (lo sl1).bind fun l sl2 => (hi sl2).bind fun u sl3 => match getS sl3 x with
  | some (.lst xs) => .ok (cut xs l u) sl3
  | some (.scr xs) => .ok (cut xs l u) sl3
  | _ => .bad
/-- of a list or a tuple, as it comes -/
def dSl (a : Ev) (lo hi : Ov) : Ev := fun sl => (a sl).bind fun x sl1 => (lo sl1).bind fun l sl2 => (hi sl2).bind fun u sl3 => match getS sl3 x with
  | some (.tup xs) => .ok (.v (.tup (cut xs l u))) sl3
  | some (.lst xs) => .ok (.v (.lst (cut xs l u))) sl3
  | some (.scr xs) => .ok (.v (.lst (cut xs l u))) sl3
  | some (.tpn xs) => .ok (.v (.tup (cut xs l u))) sl3
  | _ => .bad
theorem Rvs.cut {N : Addr → Prop} {xs : List D} {vs : List V} (h : Rvs G N H xs vs) (lo hi : Option Int) : Rvs G N H (cut xs lo hi) (cutV vs lo hi) := by
  unfold F.cut cutV
  rw [← h.length]
  exact (h.drop _).take _
theorem cut_whole {α : Type} {xs : List α} {lo hi : Option Int} (h : HT.sIx xs.length 0 lo = 0 ∧ HT.sIx xs.length xs.length hi = xs.length) : cut xs lo hi = xs := by
  unfold cut; rw [h.1, h.2]; simp
variable {lo hi : Option Expr} {dlo dhi : Ov} {p2 : Pos}
theorem fe_sl (ha : FE G W X a da) (hl : FO G W X lo dlo) (hh : FO G W X hi dhi) (hK : X.K = G.K := by rfl) : FE G W X (.Subscript a (.Slice lo hi none p2) pos) (dSl da dlo dhi) := fun T =>
  PE.plus (pe_slice (sl_tupA.or sl_list) (ha T) (hl T) (hh T)) fun σ H Q z h hz => by
    obtain ⟨A, sl, s, p⟩ := h hz
    refine ⟨A, sl, s, PostG.bind p fun x sl1 v H1 _ s1 k1 r1 p1 _ => ⟨A, sl1, s1, PostG.bind p1 fun l sl2 l' H2 _ s2 k2 r2 p2 _ => ⟨A, sl2, s2, PostG.bind p2 fun u sl3 u' H3 _ s3 k3 r3 p3 => ?_⟩⟩⟩
    cases r2; cases r3
    have rx := Rs.keep k3 (Rs.keep k2 r1)
    split at p3
    · rename_i xs h
      obtain ⟨a, vs, e1, e2, e3⟩ := tupK hK (Rl.of s3 rx h)
      refine .inl ⟨a, vs, e1, e2, fun hw hz' => ?_, fun hw q hq hz' => ?_⟩
      · refine p3 _ _ (s3.grown (Same.refl _) hz') .refl ?_
        rw [cut_whole (by rw [e3.length]; exact hw)]
        exact .tup (hK ▸ e2) e3
      · have sm := same_fresh hq (.tup (cutV vs l u))
        exact p3 _ _ (s3.grown sm hz') (.same sm) (.tup (SqT.of upd_same) (Rvs.keep (.same sm) (fun _ z => .inr z) (e3.cut l u)))
    · rename_i xs h
      obtain ⟨a, vs, e1, e2, e3⟩ := (Rl.of s3 rx h).lst
      refine .inr ⟨a, vs, e1, SqL.of e2, fun q hq hz' => ?_⟩
      have sm := same_fresh hq (.lst (cutV vs l u))
      exact p3 _ _ (s3.grown sm hz') (.same sm) (.lst upd_same (s3.fresh hq) (Rvs.keep (.same sm) (fun _ z => .inr z) (e3.cut l u)))
    · rename_i xs h
      obtain ⟨a, vs, e1, e2, e3⟩ := (Rl.of s3 rx h).scr
      refine .inr ⟨a, vs, e1, hK ▸ e2.l, fun q hq hz' => ?_⟩
      have sm := same_fresh hq (.lst (cutV vs l u))
      exact p3 _ _ (s3.grown sm hz') (.same sm) (.lst upd_same (s3.fresh hq) (Rvs.keep (.same sm) (fun _ z => .inr z) (e3.cut l u)))
    · rename_i xs h
      obtain ⟨a, vs, e1, e2, e3⟩ := (Rl.of s3 rx h).tpn
      refine .inl ⟨a, vs, e1, hK ▸ e2.t, fun hw hz' => ?_, fun hw q hq hz' => ?_⟩
      · refine p3 _ _ (s3.grown (Same.refl _) hz') .refl ?_
        rw [cut_whole (by rw [e3.length]; exact hw)]
        exact .tup e2.t e3
      · have sm := same_fresh hq (.tup (cutV vs l u))
        exact p3 _ _ (s3.grown sm hz') (.same sm) (.tup (SqT.of upd_same) (Rvs.keep (.same sm) (fun _ z => .inr z) (e3.cut l u)))
    · exact p3.elim
end
end F

set_option Elab.async false
set_option linter.all false
set_option maxRecDepth 100000
set_option maxHeartbeats 4000000
namespace F
open PySem PySem.Spec PyProof.Rows L2

/-! ### calls of built-ins -/
def dCB (f : List D → Re D) (r : Evs) : Ev := fun sl => (r sl).bind fun xs sl1 => match getAll sl1 xs with
  | some ds => match f ds with
    | .ok z => .ok (.v z) sl1
    | _ => .bad
  | none => .bad
/-- .. that make a new list -/
def dCL (f : List D → Re (List D)) (r : Evs) : Lv := fun sl => (r sl).bind fun xs sl1 => match getAll sl1 xs with
  | some ds => match f ds with
    | .ok z => .ok z sl1
    | _ => .bad
  | none => .bad
def CallD (G : Glue) (X : Cx) (v : Value) (f : List D → Re D) : Prop := ∃ r, CallR X v r ∧
  ∀ (N : Addr → Prop) (H : Hp) (xs : List V) (ds : List D) (z : D) (Q : VK), HSz H → (∀ p, H p = none → ¬ N p) → RlL G N H ds xs → f ds = .ok z → (∀ v H', Same H H' → Rv G N H' z v → Q v H') → r xs H Q
def CallL (G : Glue) (X : Cx) (v : Value) (f : List D → Re (List D)) : Prop := ∃ r, CallR X v r ∧
  ∀ (N : Addr → Prop) (H : Hp) (xs : List V) (ds : List D) (z : List D) (Q : VK), HSz H → (∀ p, H p = none → ¬ N p) → RlL G N H ds xs → f ds = .ok z →
    (∀ vs H', Same H H' → Rvs G N H' z vs → ∀ p, H' p = none → Q (.ref p) (upd H' p (.lst vs))) → r xs H Q
section
variable {G : Glue} {W : WX} {X : Cx} {a b c e : Expr} {es : List Expr} {da db dc : Ev} {ds : Evs} {pos p : Pos} {T : Act} {A : Nat → Option Addr} {sl : Sl} {σ : St} {H : Hp}
theorem cb_E {f : List D → Re D} {r : List V → Hp → VK → Prop} {Q : VK}
    (q : ∀ (N : Addr → Prop) (H : Hp) (xs : List V) (ds : List D) (z : D) (Q : VK), HSz H → (∀ p, H p = none → ¬ N p) → RlL G N H ds xs → f ds = .ok z → (∀ v H', Same H H' → Rv G N H' z v → Q v H') → r xs H Q)
    (h : tEv G W T (dCB f ds) σ H Q) : tCB r (tEvs G W T ds) σ H (wE Q) := fun hz => by
  obtain ⟨A, sl, s, p⟩ := h hz
  refine ⟨A, sl, s, PostG.bind p fun xs sl1 vs H1 _ s1 k1 r1 p1 => ?_⟩
  split at p1
  · rename_i ds' e
    split at p1
    · rename_i z hf
      exact q _ H1 vs ds' z _ s1.sz (fun p h => s1.fresh h) (RlL.of s1 r1 e) hf fun v H' sm rv => end_E s1 p1 sm rv
    · exact p1.elim
  · exact p1.elim
theorem cl_N {f : List D → Re (List D)} {r : List V → Hp → VK → Prop} {Q : VK}
    (q : ∀ (N : Addr → Prop) (H : Hp) (xs : List V) (ds : List D) (z : List D) (Q : VK), HSz H → (∀ p, H p = none → ¬ N p) → RlL G N H ds xs → f ds = .ok z →
      (∀ vs H', Same H H' → Rvs G N H' z vs → ∀ p, H' p = none → Q (.ref p) (upd H' p (.lst vs))) → r xs H Q)
    (h : tNew G W T (dCL f ds) σ H Q) (hg : ∀ vs H' p, H' p = none → HSz (upd H' p (.lst vs)) → HSz H') : tCB r (tEvs G W T ds) σ H (wE Q) := fun hz => by
  obtain ⟨A, sl, s, p⟩ := h hz
  refine ⟨A, sl, s, PostG.bind p fun xs sl1 vs H1 _ s1 k1 r1 p1 => ?_⟩
  split at p1
  · rename_i ds' e
    split at p1
    · rename_i z hf
      refine q _ H1 vs ds' z _ s1.sz (fun p h => s1.fresh h) (RlL.of s1 r1 e) hf fun ws H' sm rv p hp hz' => ?_
      have hz2 : HSz H' := hg _ _ _ hp hz'
      exact p1 ws H' (s1.grown sm hz2) (.same sm) rv p hp
    · exact p1.elim
  · exact p1.elim
theorem hsz_down (vs : List V) (H' : Hp) (p : Addr) (hp : H' p = none) (h : HSz (upd H' p (.lst vs))) : HSz H' := fun a xs e => by
  have ne : a ≠ p := fun z => by subst z; rcases e with (e | ⟨o, e⟩) | (e | ⟨o, e⟩) <;> rw [hp] at e <;> cases e
  refine h a xs ?_
  unfold Rd
  rw [upd_ne ne]
  exact e
theorem fe_callB {x : Str} {id : String} {f : List D → Re D} (hc : CallD G X (.builtin id) f) (hv : bootBuiltins x = some (.builtin id)) (hm : X.mg x = none) (ha : FA G W X (e :: es) ds) (hg : Gl X x := by rfl) (hn : x ≠ "__name__" := by decide) (hdb : (x == ("__debug__" : Str)) = false := by decide)
    (he : starEach (e :: es) X.env = (false, eval e X.env) :: starEach es X.env := by rfl) (hpl : (backTo pos (starEach es X.env)).any (·.1) = false := by rfl) : FE G W X (.Call (.Name x p) (e :: es) [] pos) (dCB f ds) := fun T => by
  obtain ⟨r, hr, q⟩ := hc
  exact PE.plus (pe_callB hr hg hm hv (ha T) hn hdb he hpl) fun σ H Q z h => cb_E q h
theorem fe_callTy {x : Str} {id : String} {f : List D → Re D} (hc : CallD G X (.type id) f) (hv : bootBuiltins x = some (.type id)) (hm : X.mg x = none) (ha : FA G W X (e :: es) ds) (hg : Gl X x := by rfl) (hn : x ≠ "__name__" := by decide) (hdb : (x == ("__debug__" : Str)) = false := by decide)
    (he : starEach (e :: es) X.env = (false, eval e X.env) :: starEach es X.env := by rfl) (hpl : (backTo pos (starEach es X.env)).any (·.1) = false := by rfl) : FE G W X (.Call (.Name x p) (e :: es) [] pos) (dCB f ds) := fun T => by
  obtain ⟨r, hr, q⟩ := hc
  exact PE.plus (pe_callTy hr hg hm hv (ha T) hn hdb he hpl) fun σ H Q z h => cb_E q h
theorem fl_callB {x : Str} {id : String} {f : List D → Re (List D)} (hc : CallL G X (.builtin id) f) (hv : bootBuiltins x = some (.builtin id)) (hm : X.mg x = none) (ha : FA G W X (e :: es) ds) (hg : Gl X x := by rfl) (hn : x ≠ "__name__" := by decide) (hdb : (x == ("__debug__" : Str)) = false := by decide)
    (he : starEach (e :: es) X.env = (false, eval e X.env) :: starEach es X.env := by rfl) (hpl : (backTo pos (starEach es X.env)).any (·.1) = false := by rfl) : FL G W X (.Call (.Name x p) (e :: es) [] pos) (dCL f ds) := fun T => by
  obtain ⟨r, hr, q⟩ := hc
  exact PE.plus (pe_callB hr hg hm hv (ha T) hn hdb he hpl) fun σ H Q z h => cl_N q h hsz_down
theorem fl_callTy {x : Str} {id : String} {f : List D → Re (List D)} (hc : CallL G X (.type id) f) (hv : bootBuiltins x = some (.type id)) (hm : X.mg x = none) (ha : FA G W X (e :: es) ds) (hg : Gl X x := by rfl) (hn : x ≠ "__name__" := by decide) (hdb : (x == ("__debug__" : Str)) = false := by decide)
    (he : starEach (e :: es) X.env = (false, eval e X.env) :: starEach es X.env := by rfl) (hpl : (backTo pos (starEach es X.env)).any (·.1) = false := by rfl) : FL G W X (.Call (.Name x p) (e :: es) [] pos) (dCL f ds) := fun T => by
  obtain ⟨r, hr, q⟩ := hc
  exact PE.plus (pe_callTy hr hg hm hv (ha T) hn hdb he hpl) fun σ H Q z h => cl_N q h hsz_down

/-! ### which -/
def seqOf : D → Option (List D)
  | .tup xs => some xs
  | .lst xs => some xs
  | .scr xs => some xs
  | .tpn xs => some xs
  | _ => none
def bLen : List D → Re D
  | [.dct ks _] => .ok (.int ks.length)
  | [d] => match seqOf d with | some xs => .ok (.int xs.length) | none => .bad
  | _ => .bad
def bInt : List D → Re D
  | [.int i] => .ok (.int i)
  | [.bl k] => .ok (.int (if k = true then 1 else 0))
  | _ => .bad
def bAbs : List D → Re D
  | [.int i] => .ok (.int (if i < 0 then -i else i))
  | _ => .bad
def bMax2 : List D → Re D
  | [.int i, .int j] => .ok (.int (if j > i then j else i))
  | _ => .bad
def bMin2 : List D → Re D
  | [.int i, .int j] => .ok (.int (if j < i then j else i))
  | _ => .bad
/-- the truths of a list -/
def blsOf : List D → Option (List Bool)
  | [] => some []
  | .bl b :: r => match blsOf r with | some bs => some (b :: bs) | none => none
  | _ :: _ => none
def intsOf : List D → Option (List Int)
  | [] => some []
  | .int b :: r => match intsOf r with | some bs => some (b :: bs) | none => none
  | _ :: _ => none
def bAny : List D → Re D
  | [.lst xs] => match blsOf xs with | some bs => .ok (.bl (bs.any id)) | none => .bad
  | [.tup xs] => match blsOf xs with | some bs => .ok (.bl (bs.any id)) | none => .bad
  | [.tpn xs] => match blsOf xs with | some bs => .ok (.bl (bs.any id)) | none => .bad
  | _ => .bad
def bAll : List D → Re D
  | [.lst xs] => match blsOf xs with | some bs => .ok (.bl (bs.all id)) | none => .bad
  | [.tup xs] => match blsOf xs with | some bs => .ok (.bl (bs.all id)) | none => .bad
  | [.tpn xs] => match blsOf xs with | some bs => .ok (.bl (bs.all id)) | none => .bad
  | _ => .bad
def bSum : List D → Re D
  | [.lst xs] => match intsOf xs with | some bs => .ok (.int bs.sum) | none => .bad
  | _ => .bad
def bTuple : List D → Re D
  | [.tup xs] => .ok (.tup xs)
  | [.tpn xs] => .ok (.tpn xs)
  | [.lst xs] => .ok (.tup xs)
  | [.scr xs] => .ok (.tup xs)
  | _ => .bad
def bList : List D → Re (List D)
  | [d] => match seqOf d with | some xs => .ok xs | none => .bad
  | _ => .bad
theorem bls_rv {N : Addr → Prop} {H : Hp} : ∀ {xs : List D} {vs : List V} {bs : List Bool}, Rvs G N H xs vs → blsOf xs = some bs → vs = bs.map V.bl
  | [], _, _, h, e => by cases h; cases e; rfl
  | x :: xs, _, bs, h, e => by
    cases h with
    | cons h1 h2 =>
      cases x with
      | bl b =>
        simp only [blsOf] at e
        split at e
        · rename_i cs e2
          cases e; cases h1
          rw [bls_rv h2 e2]; rfl
        · cases e
      | _ => cases e
theorem ints_rv {N : Addr → Prop} {H : Hp} : ∀ {xs : List D} {vs : List V} {bs : List Int}, Rvs G N H xs vs → intsOf xs = some bs → vs = bs.map V.int
  | [], _, _, h, e => by cases h; cases e; rfl
  | x :: xs, _, bs, h, e => by
    cases h with
    | cons h1 h2 =>
      cases x with
      | int b =>
        simp only [intsOf] at e
        split at e
        · rename_i cs e2
          cases e; cases h1
          rw [ints_rv h2 e2]; rfl
        · cases e
      | _ => cases e
theorem RlL.one {N : Addr → Prop} {H : Hp} {d : D} {vs : List V} (h : RlL G N H [d] vs) : ∃ v, vs = [v] ∧ Rl G N H d v := by
  cases h with
  | cons h1 h2 => cases h2; exact ⟨_, rfl, h1⟩
theorem RlL.two {N : Addr → Prop} {H : Hp} {d e : D} {vs : List V} (h : RlL G N H [d, e] vs) : ∃ v w, vs = [v, w] ∧ Rl G N H d v ∧ Rl G N H e w := by
  cases h with
  | cons h1 h2 => cases h2 with
    | cons h2 h3 => cases h3; exact ⟨_, _, rfl, h1, h2⟩
/-- what is to be read as a list or a tuple -/
theorem seq_rv {N : Addr → Prop} {H : Hp} (hK : X.K = G.K) {d : D} {v : V} {xs : List D} (h : Rl G N H d v) (e : seqOf d = some xs) : ∃ a vs, v = .ref a ∧ (SqL X.K H a vs ∨ SqT X.K H a vs) ∧ Rvs G N H xs vs := by
  cases d with
  | tup ys => cases e; obtain ⟨a, vs, e1, e2, e3⟩ := tupK hK h; exact ⟨a, vs, e1, .inr e2, e3⟩
  | lst ys => cases e; obtain ⟨a, vs, e1, e2, e3⟩ := h.lst; exact ⟨a, vs, e1, .inl (SqL.of e2), e3⟩
  | scr ys => cases e; obtain ⟨a, vs, e1, e2, e3⟩ := h.scr; exact ⟨a, vs, e1, .inl (hK ▸ e2.l), e3⟩
  | tpn ys => cases e; obtain ⟨a, vs, e1, e2, e3⟩ := h.tpn; exact ⟨a, vs, e1, .inr (hK ▸ e2.t), e3⟩
  | _ => cases e
/-- len(d) -/
def rLenD (G : Glue) : List V → Hp → VK → Prop := fun xs H Q => ∃ (a : Addr) (o : Obj) (es : List (NestedKey × Addr × Value)), xs = [.ref a] ∧ H a = some (dicO G.P G.w a o es) ∧ Q (.int es.length) H
theorem call_lenN : CallR X (.builtin "len") (rLenD G) := by
  intro pins s σ H xs us Q I r h
  obtain ⟨a, o, es, rfl, e, q⟩ := h
  obtain ⟨⟨⟨arr, ep, e1, e2, e3, e4⟩, _, e6, e7⟩, _, _⟩ := I.hok a _ e
  have hs : arr.size = es.length := by rw [← Array.length_toList, e4, List.length_map]
  rw [Vals.ref1 r]
  have hr : s.heap.DictRaw a arr ep := ⟨o, e1, e2, e3⟩
  refine PyProof.Rows.call_len_slot (n := es.length) hr.typeIs PySem.F.slot_dict_len (fun Q' hq => call_len_raw e6 hr (by rw [hs]; exact hq)) (by omega) (by rw [sizeLine_eq] at e7; omega) ?_
  exact ⟨.int es.length, H, I.tok _, ⟨_, rfl⟩, q⟩
theorem c_len (hK : X.K = G.K := by rfl) : CallD G X (.builtin "len") bLen := by
  refine ⟨_, call_len_seq.or (call_lenN (G := G)), fun N H xs ds z Q hz hn r h k => ?_⟩
  unfold bLen at h
  split at h
  · rename_i ks vs
    obtain ⟨v, rfl, q⟩ := r.one
    cases h
    obtain ⟨a, rfl, hd⟩ := q.dct
    obtain ⟨o, es, kv, vv, h1, h2, h3, _⟩ := hd
    exact .inr ⟨a, o, es, rfl, h1, by rw [← Paired.length h2] at k; exact k _ H (Same.refl H) (.int _)⟩
  · obtain ⟨v, rfl, q⟩ := r.one
    split at h
    · rename_i ys e
      cases h
      obtain ⟨a, vs, rfl, sq, rv⟩ := seq_rv hK q e
      exact .inl ⟨a, vs, rfl, sq, by rw [← rv.length]; exact k _ H (Same.refl H) (.int _)⟩
    · cases h
  · cases h
theorem c_int : CallD G X (.type "int") bInt := by
  refine ⟨_, call_int1, fun N H xs ds z Q hz hn r h k => ?_⟩
  unfold bInt at h
  split at h
  · obtain ⟨v, rfl, q⟩ := r.one
    cases h; cases q.int
    exact .inl ⟨_, rfl, k _ H (Same.refl H) (.int _)⟩
  · obtain ⟨v, rfl, q⟩ := r.one
    cases h; cases q.bl
    exact .inr ⟨_, rfl, k _ H (Same.refl H) (.int _)⟩
  · cases h
theorem c_abs : CallD G X (.builtin "abs") bAbs := by
  refine ⟨_, call_abs, fun N H xs ds z Q hz hn r h k => ?_⟩
  unfold bAbs at h
  split at h
  · obtain ⟨v, rfl, q⟩ := r.one
    cases h; cases q.int
    exact ⟨_, rfl, k _ H (Same.refl H) (.int _)⟩
  · cases h
theorem c_max2 (hc : X.calm = true := by rfl) : CallD G X (.builtin "max") bMax2 := by
  refine ⟨_, call_max2 hc, fun N H xs ds z Q hz hn r h k => ?_⟩
  unfold bMax2 at h
  split at h
  · obtain ⟨v, w, rfl, r1, r2⟩ := r.two
    cases h; cases r1.int; cases r2.int
    exact ⟨_, _, rfl, k _ H (Same.refl H) (.int _)⟩
  · cases h
theorem c_min2 (hc : X.calm = true := by rfl) : CallD G X (.builtin "min") bMin2 := by
  refine ⟨_, call_min2 hc, fun N H xs ds z Q hz hn r h k => ?_⟩
  unfold bMin2 at h
  split at h
  · obtain ⟨v, w, rfl, r1, r2⟩ := r.two
    cases h; cases r1.int; cases r2.int
    exact ⟨_, _, rfl, k _ H (Same.refl H) (.int _)⟩
  · cases h
theorem iterT {prg : Program} {wo : World} {B : Around} {E : Value → Shared → Prop} {u : Shared} {t : Addr} {ys : Array Value} {Q : Value → Shared → Prop} (hl : u.heap.IsTuple t ys)
    (h : ∀ u2 : Shared, u2 = { u with heap := u.heap.push { cls := .type "tuple_iterator", data := .fields #[.ref t, .int 0 0] } } → (u2.heap.IsTupleIter u.heap.objs.size t 0 ∧ u2.heap.IsTuple t ys) → t ≠ u.heap.objs.size → Q (.ref u.heap.objs.size) u2) : wpAny (model prg wo) B (pyIter (.ref t)) Q E u := by
  have lt : t < u.heap.objs.size := by obtain ⟨_, e, _⟩ := hl; exact Heap.lt_size e
  exact wpAny_pyIter_tuple hl (h _ rfl ⟨⟨_, Heap.get?_push_size _ rfl, rfl, rfl⟩, hl.push _⟩ (Nat.ne_of_lt lt))
def rAnyA (K : PySem.W.Frag) : List V → Hp → VK → Prop := fun vs H Q => ∃ (a : Addr) (bs : List Bool), vs = [V.ref a] ∧ (SqL K H a (bs.map V.bl) ∨ SqT K H a (bs.map V.bl)) ∧ Q (.bl (bs.any id)) H
theorem cr_anyA (hc : X.calm = true) : CallR X (.builtin "any") (rAnyA X.K) := by
  intro pins s σ H vs us Q I r h
  obtain ⟨a, bs, rfl, hs | hs, q⟩ := h
  · exact cr_any hc pins s σ H _ us Q I r ⟨a, bs, rfl, hs, q⟩
  · obtain ⟨its, rv, p, _⟩ := I.tuple hs
    rw [Vals.ref1 r]
    have hb := rv.bls
    obtain ⟨o, h1, h2, k, h3⟩ := p
    refine call_any_walk (iterT ⟨o, h1, h2, k, h3⟩ fun u2 e2 st hne => ?_)
    subst e2
    refine ⟨_, _, _, _, _, _, _, rfl, Walks.tuple (A := X.A.in1) (I.ok.hd hc) _ a hne its.toArray, st, truth_bools hb, fun h' tk hk => ⟨.bl _, H, I.kept fun b o eo => hk b o (fun hm => ?_) (Heap.get?_push_of_some _ eo), ?_, q⟩⟩
    · have e1 := List.mem_singleton.mp hm
      exact absurd (e1 ▸ Heap.lt_size eo) (Nat.lt_irrefl _)
    · show Value.bool _ = Value.bool _
      rw [← L2.any_range, hb, List.size_toArray, List.length_map]
theorem c_any (hc : X.calm = true := by rfl) (hK : X.K = G.K := by rfl) : CallD G X (.builtin "any") bAny := by
  refine ⟨_, cr_anyA hc, fun N H xs ds z Q hz hn r h k => ?_⟩
  unfold bAny at h
  split at h
  · obtain ⟨v, rfl, q⟩ := r.one
    split at h
    · rename_i bs e
      cases h
      obtain ⟨a, vs, rfl, sq, rv⟩ := q.lst
      exact ⟨a, bs, rfl, by rw [← bls_rv rv e]; exact .inl (SqL.of sq), k _ H (Same.refl H) (.bl _)⟩
    · cases h
  · obtain ⟨v, rfl, q⟩ := r.one
    split at h
    · rename_i bs e
      cases h
      obtain ⟨a, vs, rfl, sq, rv⟩ := q.tup
      exact ⟨a, bs, rfl, by rw [← bls_rv rv e]; exact .inr (hK ▸ sq), k _ H (Same.refl H) (.bl _)⟩
    · cases h
  · obtain ⟨v, rfl, q⟩ := r.one
    split at h
    · rename_i bs e
      cases h
      obtain ⟨a, vs, rfl, sq, rv⟩ := q.tpn
      exact ⟨a, bs, rfl, by rw [← bls_rv rv e]; exact .inr (hK ▸ sq.t), k _ H (Same.refl H) (.bl _)⟩
    · cases h
  · cases h
def rAllA (K : PySem.W.Frag) : List V → Hp → VK → Prop := fun vs H Q => ∃ (a : Addr) (bs : List Bool), vs = [V.ref a] ∧ (SqL K H a (bs.map V.bl) ∨ SqT K H a (bs.map V.bl)) ∧ Q (.bl (bs.all id)) H
theorem cr_allA (hc : X.calm = true) : CallR X (.builtin "all") (rAllA X.K) := by
  intro pins s σ H vs us Q I r h
  obtain ⟨a, bs, rfl, hs | hs, q⟩ := h
  · exact cr_all hc pins s σ H _ us Q I r ⟨a, bs, rfl, hs, q⟩
  · obtain ⟨its, rv, p, _⟩ := I.tuple hs
    rw [Vals.ref1 r]
    have hb := rv.bls
    obtain ⟨o, h1, h2, k, h3⟩ := p
    refine call_all_walk (iterT ⟨o, h1, h2, k, h3⟩ fun u2 e2 st hne => ?_)
    subst e2
    refine ⟨_, _, _, _, _, _, _, rfl, Walks.tuple (A := X.A.in1) (I.ok.hd hc) _ a hne its.toArray, st, truth_bools hb, fun h' tk hk => ⟨.bl _, H, I.kept fun b o eo => hk b o (fun hm => ?_) (Heap.get?_push_of_some _ eo), ?_, q⟩⟩
    · have e1 := List.mem_singleton.mp hm
      exact absurd (e1 ▸ Heap.lt_size eo) (Nat.lt_irrefl _)
    · show Value.bool _ = Value.bool _
      rw [← L2.all_range, hb, List.size_toArray, List.length_map]
theorem c_all (hc : X.calm = true := by rfl) (hK : X.K = G.K := by rfl) : CallD G X (.builtin "all") bAll := by
  refine ⟨_, cr_allA hc, fun N H xs ds z Q hz hn r h k => ?_⟩
  unfold bAll at h
  split at h
  · obtain ⟨v, rfl, q⟩ := r.one
    split at h
    · rename_i bs e
      cases h
      obtain ⟨a, vs, rfl, sq, rv⟩ := q.lst
      exact ⟨a, bs, rfl, by rw [← bls_rv rv e]; exact .inl (SqL.of sq), k _ H (Same.refl H) (.bl _)⟩
    · cases h
  · obtain ⟨v, rfl, q⟩ := r.one
    split at h
    · rename_i bs e
      cases h
      obtain ⟨a, vs, rfl, sq, rv⟩ := q.tup
      exact ⟨a, bs, rfl, by rw [← bls_rv rv e]; exact .inr (hK ▸ sq), k _ H (Same.refl H) (.bl _)⟩
    · cases h
  · obtain ⟨v, rfl, q⟩ := r.one
    split at h
    · rename_i bs e
      cases h
      obtain ⟨a, vs, rfl, sq, rv⟩ := q.tpn
      exact ⟨a, bs, rfl, by rw [← bls_rv rv e]; exact .inr (hK ▸ sq.t), k _ H (Same.refl H) (.bl _)⟩
    · cases h
  · cases h
theorem c_sum (hc : X.calm = true := by rfl) : CallD G X (.builtin "sum") bSum := by
  refine ⟨_, cr_sum hc, fun N H xs ds z Q hz hn r h k => ?_⟩
  unfold bSum at h
  split at h
  · obtain ⟨v, rfl, q⟩ := r.one
    split at h
    · rename_i bs e
      cases h
      obtain ⟨a, vs, rfl, sq, rv⟩ := q.lst
      exact ⟨a, bs, rfl, by rw [← ints_rv rv e]; exact SqL.of sq, k _ H (Same.refl H) (.int _)⟩
    · cases h
  · cases h
theorem c_tuple (hK : X.K = G.K := by rfl) : CallD G X (.type "tuple") bTuple := by
  refine ⟨_, call_tuple_of, fun N H xs ds z Q hz hn r h k => ?_⟩
  have mk : ∀ (a : Addr) (vs : List V) (ys : List D), SqL X.K H a vs → Rvs G N H ys vs → (∀ v H', Same H H' → Rv G N H' (.tup ys) v → Q v H') → ∀ l, H l = none → Q (.ref l) (upd H l (.tup vs)) := fun a vs ys sq rv k l hl => by
    have sm := same_fresh hl (.tup vs)
    exact k _ _ sm (.tup (SqT.of upd_same) (Rvs.keep (O := fun _ => False) (.same sm) (fun _ z => z.elim) rv))
  unfold bTuple at h
  split at h
  · obtain ⟨v, rfl, q⟩ := r.one
    cases h
    obtain ⟨a, vs, rfl, sq, rv⟩ := tupK hK q
    exact ⟨a, vs, rfl, .inr ⟨sq, k _ H (Same.refl H) (.tup (hK ▸ sq) rv)⟩⟩
  · obtain ⟨v, rfl, q⟩ := r.one
    cases h
    obtain ⟨a, vs, rfl, sq, rv⟩ := q.tpn
    exact ⟨a, vs, rfl, .inr ⟨hK ▸ sq.t, k _ H (Same.refl H) (.tpn sq rv)⟩⟩
  · obtain ⟨v, rfl, q⟩ := r.one
    cases h
    obtain ⟨a, vs, rfl, sq, rv⟩ := q.lst
    exact ⟨a, vs, rfl, .inl ⟨SqL.of sq, mk a vs _ (SqL.of sq) rv k⟩⟩
  · obtain ⟨v, rfl, q⟩ := r.one
    cases h
    obtain ⟨a, vs, rfl, sq, rv⟩ := q.scr
    exact ⟨a, vs, rfl, .inl ⟨hK ▸ sq.l, mk a vs _ (hK ▸ sq.l) rv k⟩⟩
  · cases h
theorem c_list (hK : X.K = G.K := by rfl) : CallL G X (.type "list") bList := by
  refine ⟨_, call_list_of, fun N H xs ds z Q hz hn r h k => ?_⟩
  unfold bList at h
  split at h
  · obtain ⟨v, rfl, q⟩ := r.one
    split at h
    · rename_i ys e
      cases h
      obtain ⟨a, vs, rfl, sq, rv⟩ := seq_rv hK q e
      exact ⟨a, vs, rfl, sq, fun l hl => k vs H (Same.refl H) rv l hl⟩
    · cases h
  · cases h

/-! ### isinstance -/
def tyName : D → String
  | .non => "NoneType"
  | .bl _ => "bool"
  | .int _ => "int"
  | .str _ => "str"
  | .tup _ => "tuple"
  | .lst _ => "list"
  | .scr _ => "list"
  | .tpn _ => "tuple"
  | .obj _ _ => "object"
  | .dct _ _ => "dict"
  | .fix _ => "object"
def isData : D → Bool
  | .obj _ _ => false
  | .dct _ _ => false
  | .fix _ => false
  | _ => true
def isTy (d : D) (n : String) : Bool := tyName d == n || (n == "int" && tyName d == "bool")
def dIsi (ns : List String) (a : Ev) : Ev := fun sl => (a sl).bind fun x sl1 => match getS sl1 x with
  | some d => if isData d = true then .ok (.v (.bl (ns.any (isTy d)))) sl1 else .bad
  | none => .bad
theorem tyx {N : Addr → Prop} {H : Hp} (hK : X.K = G.K) {d : D} {v : V} (hd : isData d = true) (h : Rl G N H d v) : TyX X.K H v (.type (tyName d)) := by
  cases d with
  | non => cases h.non; exact .base .non
  | bl b => cases h.bl; exact .base (.bl b)
  | int b => cases h.int; exact .base (.int b)
  | str b => cases h.str; exact .base (.str b)
  | tup b =>
    obtain ⟨a, vs, rfl, sq, _⟩ := tupK hK h
    rcases sq with (sq | ⟨o, sq⟩) | ⟨o, its, n, e1, e2, _⟩
    · exact .base (.tup sq)
    · exact .fTuple sq
    · exact .kTuple e1 e2
  | lst b => obtain ⟨a, vs, rfl, sq, _⟩ := h.lst; exact .base (.lst sq)
  | scr b =>
    obtain ⟨a, vs, rfl, sq, _⟩ := h.scr
    rcases sq with ⟨o, sq⟩ | ⟨o, its, n, e1, e2, _⟩
    · exact .base (.frz sq)
    · exact .kList (hK ▸ e1) e2
  | tpn b =>
    obtain ⟨a, vs, rfl, sq, _⟩ := h.tpn
    rcases sq with ⟨o, sq, _⟩ | ⟨o, its, n, e1, e2, _⟩
    · exact .fTuple sq
    · exact .kTuple (hK ▸ e1) e2
  | obj c b => cases hd
  | fix _ => cases hd
  | dct c b => cases hd
/-- the built-in classes that are asked for -/
def Asked (n : String) : Prop := ∀ d : D, isData d = true → kitB (tyName d) n = some (isTy d n)
theorem kb {a b : String} (h : ∀ a, a ∈ ["NoneType", "bool", "int", "str", "tuple", "list"] → kitB a b = some (a == b || (b == "int" && a == "bool"))) : Asked b := fun d hd => by
  have : tyName d ∈ ["NoneType", "bool", "int", "str", "tuple", "list"] := by cases d <;> first | cases hd; done | simp [tyName]
  exact h _ this
theorem asked_int : Asked "int" := kb (a := "") (by decide +kernel)
theorem asked_bool : Asked "bool" := kb (a := "") (by decide +kernel)
theorem asked_str : Asked "str" := kb (a := "") (by decide +kernel)
theorem asked_tuple : Asked "tuple" := kb (a := "") (by decide +kernel)
theorem asked_list : Asked "list" := kb (a := "") (by decide +kernel)
theorem fe_isi1 {n : Str} {T1 : String} {p q : Pos} (h1 : Asked T1) (hb : bootBuiltins n = some (.type T1)) (hm : X.mg "isinstance" = none) (hmn : X.mg n = none) (ha : FE G W X a da) (hK : X.K = G.K := by rfl) (hg : Gl X "isinstance" := by rfl) (hgn : Gl X n := by rfl)
    (hn : n ≠ "__name__" := by decide) (hdb : (n == ("__debug__" : Str)) = false := by decide) (he : starEach (a :: [.Name n q]) X.env = (false, eval a X.env) :: starEach [.Name n q] X.env := by rfl) (hpl : (backTo pos (starEach [.Name n q] X.env)).any (·.1) = false := by rfl) :
    FE G W X (.Call (.Name "isinstance" p) [a, .Name n q] [] pos) (dIsi [T1] da) := fun T =>
  PE.plus (pe_callB call_isi hg hm boot_isinstance (pa_cons (ha T) (pa_cons (pe_bltn (v := .ty T1) hgn hmn hb rfl hn hdb) pa_nil (by rfl)) he) (by decide) (by decide) he hpl) fun σ H Q z h hz => by
    obtain ⟨A, sl, s, p⟩ := h hz
    refine ⟨A, sl, s, PostG.bind p fun x sl1 v H1 _ s1 k1 r1 p1 => ?_⟩
    split at p1
    · rename_i d e
      split at p1
      · rename_i hd
        refine ⟨v, .ty T1, .type (tyName d), .type T1, isTy d T1, rfl, .ty T1, tyx hK hd (Rl.of s1 r1 e), kit_ty (h1 d hd), fun _ => p1 _ H1 s1 .refl ?_⟩
        simp only [List.any_cons, List.any_nil, Bool.or_false]; exact .bl _
      · exact p1.elim
    · exact p1.elim
theorem fe_isi2 {n m : Str} {T1 T2 : String} {p q q2 q3 : Pos} {kt : Nat} (h1 : Asked T1) (h2 : Asked T2) (hb : bootBuiltins n = some (.type T1)) (hb2 : bootBuiltins m = some (.type T2)) (hm : X.mg "isinstance" = none) (hmn : X.mg n = none) (hmm : X.mg m = none) (ha : FE G W X a da)
    (hK : X.K = G.K := by rfl) (hg : Gl X "isinstance" := by rfl) (hgn : Gl X n := by rfl) (hgm : Gl X m := by rfl)
    (hn : n ≠ "__name__" := by decide) (hdb : (n == ("__debug__" : Str)) = false := by decide) (hn2 : m ≠ "__name__" := by decide) (hdb2 : (m == ("__debug__" : Str)) = false := by decide)
    (he : starEach (a :: [.Tuple [.Name n q, .Name m q2] kt q3]) X.env = (false, eval a X.env) :: starEach [.Tuple [.Name n q, .Name m q2] kt q3] X.env := by rfl) (hpl : (backTo pos (starEach [.Tuple [.Name n q, .Name m q2] kt q3] X.env)).any (·.1) = false := by rfl) :
    FE G W X (.Call (.Name "isinstance" p) [a, .Tuple [.Name n q, .Name m q2] kt q3] [] pos) (dIsi [T1, T2] da) := fun T =>
  PE.plus (pe_callB call_isiT hg hm boot_isinstance (pa_cons (ha T) (pa_cons (pe_tup (pa_cons (pe_bltn (v := .ty T1) hgn hmn hb rfl hn hdb) (pa_cons (pe_bltn (v := .ty T2) hgm hmm hb2 rfl hn2 hdb2) pa_nil (by rfl)) (by rfl))) pa_nil (by rfl)) he) (by decide) (by decide) he hpl) fun σ H Q z h hz => by
    obtain ⟨A, sl, s, p⟩ := h hz
    refine ⟨A, sl, s, PostG.bind p fun x sl1 v H1 _ s1 k1 r1 p1 => ?_⟩
    split at p1
    · rename_i d e
      have hd : isData d = true := by
        cases q : isData d with
        | true => rfl
        | false => rw [q] at p1; exact p1.elim
      rw [if_pos hd] at p1
      refine ⟨by show 2 ≤ sizeLine; rw [sizeLine_eq]; decide, fun tp htp => ?_⟩
      have sm := same_fresh htp (.tup [.ty T1, .ty T2])
      have rl : Rl G (T.N A) (upd H1 tp (.tup [.ty T1, .ty T2])) d v := by
        rcases Rl.of s1 r1 e with h | ⟨xs, a, vs, e1, e2, e3, e4⟩ | ⟨ks, vs, a, e1, e2, e3⟩
        · exact .inl (Rv.keep (.same sm) (fun _ z => .inr z) h)
        · exact .inr (.inl ⟨xs, a, vs, e1, e2, sm _ _ e3, Rvs.keep (.same sm) (fun _ z => .inr z) e4⟩)
        · exact .inr (.inr ⟨ks, vs, a, e1, e2, e3.imp (fun o q => sm _ _ q) fun _ _ q => Rvs.keep (.same sm) (fun _ z => .inr z) q⟩)
      refine ⟨v, tp, [.ty T1, .ty T2], .type (tyName d), [.type T1, .type T2], isTy d T1 || isTy d T2, rfl, upd_same, .cons (.ty T1) (.cons (.ty T2) .nil), tyx hK hd rl, ?_, fun hz' => p1 _ _ (s1.grown sm hz') (.same sm) ?_⟩
      · refine kitAny_cons (kit_ty (h1 d hd)) (fun hb => ?_) fun hb => by rw [hb]; rfl
        rw [hb]
        refine kitAny_cons (kit_ty (h2 d hd)) (fun hb => ?_) fun hb => by rw [hb]; rfl
        rw [hb]; exact kitAny_nil
      · simp only [List.any_cons, List.any_nil, Bool.or_false]; exact .bl _
    · exact p1.elim
end
end F

set_option Elab.async false
set_option linter.all false
set_option maxRecDepth 100000
set_option maxHeartbeats 4000000
namespace F
open PySem PySem.Spec PyProof.Rows L2

/-! ### statements -/
def mNil : Sm := fun sl => .nx sl
def Fl.seq (f : Fl) (m : Sm) : Fl := match f with
  | .nx sl => m sl
  | f => f
def mSeq (a b : Sm) : Sm := fun sl => (a sl).seq b
/-- from an expression to a statement -/
def R.to {α : Type} (x : R α) (k : α → Sl → Fl) : Fl := match x with
  | .ok a sl => k a sl
  | .ex e sl => .ex e sl
  | .bad => .bad
def mSet (i : Nat) (d : Ev) : Sm := fun sl => (d sl).to fun x sl1 => match x with
  | .v d => .nx (sl1.set i (some (.v d)))
  | .r _ => .bad
/-- a name is bound to a new list, its own -/
def mNew (i : Nat) (l : Lv) : Sm := fun sl => (l sl).to fun ds sl1 => .nx (sl1.set i (some (.m ds)))
def mDrop (d : Ev) : Sm := fun sl => (d sl).to fun _ sl1 => .nx sl1
def mRet (d : Ev) : Sm := fun sl => (d sl).to fun x sl1 => .rt x sl1
def mRetN : Sm := fun sl => .rt (.v .non) sl
def mIf (c : Ev) (a b : Sm) : Sm := fun sl => (dB c sl).to fun k sl1 => if k = true then a sl1 else b sl1
def mBrk : Sm := fun sl => .bk sl
def mCont : Sm := fun sl => .ct sl
def mRaise (n : Nat) : Sm := fun sl => .ex (.plain n) sl

section
variable {G : Glue} {W : WX} {X : Cx} {a b c e : Expr} {es : List Expr} {da db dc : Ev} {ds : Evs} {pos p : Pos} {T : Act} {A : Nat → Option Addr} {sl : Sl} {σ : St} {H : Hp} {st : Stmt} {sts : List Stmt} {m m1 m2 : Sm} {l : Lv}
theorem SPost.plus {D : Ends} {f : Fl} (h : SPost G W T D f) : SPost G W T (plusE D) f := by
  cases f with
  | nx sl => exact fun A σ H s z => h A σ H s
  | rt x sl => exact fun A σ H v s r z => h A σ H v s r
  | bk sl => exact fun A σ H s z => h A σ H s
  | ct sl => exact fun A σ H s z => h A σ H s
  | ex e sl => exact h
  | bad => exact h
theorem FS.mk {t : TS} (h : PS X st t) (q : ∀ T A sl D σ H, Sr G T A sl σ H → SPost G W T D (m sl) → t (plusE D) σ H) : FS G W X st m := fun T =>
  PS.plus h fun D σ H z h => let ⟨A, sl, s, p⟩ := h z; q T A sl D σ H s p
/-- an expression, then what is done with it -/
theorem to_post {α β : Type} {rel : Hp → α → β → Prop} {r : R α} {k : α → Sl → Fl} {D : Ends} {Q : β → Hp → Prop} (h : SPost G W T D (r.to k))
    (q : ∀ x sl1 v H1, r = .ok x sl1 → Sr G T A sl1 σ H1 → Keep (Own A) H H1 → rel H1 x v → SPost G W T D (k x sl1) → Q v H1) : PostG rel G W T A σ H r Q := by
  cases r with
  | ok x sl1 => exact fun v H1 s k r => q x sl1 v H1 rfl s k r h
  | ex e sl1 => exact fun c od H' x s => h A σ H' c od x s
  | bad => exact h
theorem fss_nil : FSs G W X [] mNil := fun T => PSs.plus pss_nil fun D σ H z h => by
  obtain ⟨A, sl, s, p⟩ := h z
  exact fun _ => p A σ H s
theorem seq_post {D : Ends} {f : Fl} (h : SPost G W T D (f.seq m)) : SPost G W T { D with nx := tSm G W T m D } f := by
  cases f with
  | nx sl => exact fun A σ H s z => ⟨A, sl, s, h⟩
  | rt x sl => exact h
  | bk sl => exact h
  | ct sl => exact h
  | ex e sl => exact h
  | bad => exact h
theorem fss_cons (h1 : FS G W X st m1) (h2 : FSs G W X sts m2) : FSs G W X (st :: sts) (mSeq m1 m2) := fun T =>
  PSs.imp (pss_cons (h1 T) (h2 T)) fun D σ H h z => by
    obtain ⟨A, sl, s, p⟩ := h z
    exact ⟨A, sl, s, seq_post p⟩
theorem fss_one (h1 : FS G W X st m1) : FSs G W X [st] m1 := fun T => pss_one (h1 T)
theorem fs_pass : FS G W X (.Pass pos) mNil := FS.mk ps_pass fun T A sl D σ H s p z => p A σ H s
theorem fs_break : FS G W X (.Break pos) mBrk := FS.mk ps_break fun T A sl D σ H s p z => p A σ H s
theorem fs_continue : FS G W X (.Continue pos) mCont := FS.mk ps_continue fun T A sl D σ H s p z => p A σ H s
theorem fs_expr (h : FE G W X a da) (hs : swapsWith a none pos.line X.env = pure false := by rfl) : FS G W X (.Expr a pos) (mDrop da) := fun T =>
  PS.plus (ps_expr (h T) hs) fun D σ H z h hz => by
    obtain ⟨A, sl, s, p⟩ := h hz
    exact ⟨A, sl, s, to_post p fun x sl1 v H1 _ s1 k1 r1 p1 z => p1 A σ H1 s1⟩
theorem fs_ret (h : FE G W X a da) : FS G W X (.Return (some a) pos) (mRet da) := fun T =>
  PS.plus (ps_ret (h T)) fun D σ H z h hz => by
    obtain ⟨A, sl, s, p⟩ := h hz
    exact ⟨A, sl, s, to_post p fun x sl1 v H1 _ s1 k1 r1 p1 z => p1 A σ H1 v s1 r1⟩
theorem fs_retN : FS G W X (.Return none pos) mRetN := FS.mk ps_retN fun T A sl D σ H s p z => p A σ H .non s .non
theorem fs_if {ss ts : List Stmt} (hc : FB G W X c dc) (h1 : FSs G W X ss m1) (h2 : FSs G W X ts m2) : FS G W X (.If c ss ts pos) (mIf dc m1 m2) := fun T =>
  PS.imp (ps_if (hc T) (h1 T) (h2 T)) fun D σ H h hz => by
    obtain ⟨A, sl, s, p⟩ := h hz
    refine ⟨A, sl, s, to_post p fun k sl1 v H1 _ s1 k1 r1 p1 => ?_⟩
    cases r1
    cases k with
    | true => exact fun _ => ⟨A, sl1, s1, p1⟩
    | false => exact fun _ => ⟨A, sl1, s1, p1⟩
theorem fs_set {i : Nat} {x : Str} {pos' : Pos} (hN : X.N.Nodup) (h : FE G W X a da) (hi : X.N[i]? = some x := by rfl) (hx : Loc X.env.scope x := by first | exact Or.inl rfl | exact Or.inr rfl) (hs : swapsWith a (some (.Name x pos')) pos.line X.env = pure false := by rfl)
    (hf : X.fn x = true ∨ X.env.scope.names.lookup x = some .local := by first | exact .inl rfl | exact .inr rfl | assumption) : FS G W X (.Assign [.Name x pos'] a pos) (mSet i da) := fun T =>
  PS.plus (ps_set hN hi hx (h T) hs hf) fun D σ H z h hz => by
    obtain ⟨A, sl, s, p⟩ := h hz
    refine ⟨A, sl, s, to_post p fun x sl1 v H1 _ s1 k1 r1 p1 => ?_⟩
    match x, r1, p1 with
    | .v d, r1, p1 => exact fun _ => p1 A _ H1 (s1.set i r1)
/-- a name of its own list: not the one handed in -/
def NoIo (i : Nat) (T : Act) : Prop := T.io = none ∨ i ≠ 0
theorem fs_new {i : Nat} {x : Str} {pos' : Pos} (hN : X.N.Nodup) (h : FL G W X a l) (hi : X.N[i + 1]? = some x := by rfl) (hx : Loc X.env.scope x := by first | exact Or.inl rfl | exact Or.inr rfl) (hs : swapsWith a (some (.Name x pos')) pos.line X.env = pure false := by rfl)
    (hf : X.fn x = true ∨ X.env.scope.names.lookup x = some .local := by first | exact .inl rfl | exact .inr rfl | assumption) (h1000 : i + 1 < 1000 := by decide) : FS G W X (.Assign [.Name x pos'] a pos) (mNew (i + 1) l) := fun T =>
  PS.plus (ps_set hN hi hx (h T) hs hf) fun D σ H z h hz => by
    obtain ⟨A, sl, s, p⟩ := h hz
    refine ⟨A, sl, s, to_post p fun x sl1 vs H1 _ s1 k1 r1 p1 q hq hz' => ?_⟩
    exact p1 _ _ _ (s1.setM h1000 (.inr (Nat.succ_ne_zero i)) hq r1 hz')
theorem fs_raise {x : Str} {n : Nat} {bmB : List Value} {B newId initId : String} {q : Pos} {xp : Expr} (tk : Takes X W) (hc : X.calm = true := by rfl) (hm : PMk X (.Call (.Name x p) [] [] q) (fun _ H Q => Q (.ref (G.exA n)) none H)) :
    FS G W X (.Raise (some (.Call (.Name x p) [] [] q)) none pos) (mRaise n) :=
  FS.mk (ps_raise hc tk hm) fun T A sl D σ H s pq => pq A σ H _ _ ⟨rfl, rfl⟩ s
end

/-! ### calls of defs -/
/-- a promise: data in, data out, nothing written -/
def spP (G : Glue) (n : Nat) (f : List D → Re D) : Sp := fun vs H Q E => ∃ (N : Addr → Prop) (ds : List D), (∀ p, N p → ∃ o, H p = some o) ∧ Rvs G N H ds vs ∧ ds.length = n ∧
  match f ds with
  | .ok d => ∀ v H', Same H H' → Rv G N H' d v → Q v H'
  | .ex e => ∀ c od H', Same H H' → HSz H' → ExR G N H' e c od → E c od H'
  | .bad => False
/-- .. where the first argument is a list that is written: what it holds, the further arguments; what comes, and what it holds then -/
def spT (G : Glue) (n : Nat) (f : List D → List D → Re (D × List D)) : Sp := fun vs H Q E => ∃ (N : Addr → Prop) (a : Addr) (bv : List V) (bs ds : List D) (rest : List V), vs = .ref a :: rest ∧ N a ∧ (∀ p, N p → ∃ o, H p = some o) ∧ H a = some (.lst bv) ∧ Rvs G N H bs bv ∧
  Rvs G N H ds rest ∧ ds.length + 1 = n ∧
  match f bs ds with
  | .ok (d, bs') => ∀ v H' bv', (∀ b o, b ≠ a → H b = some o → H' b = some o) → H' a = some (.lst bv') → Rvs G N H' bs' bv' → Rv G N H' d v → Q v H'
  | _ => False
theorem spP.len {G : Glue} {n : Nat} {f : List D → Re D} {vs : List V} {H : Hp} {Q : VK} {E : XK} (h : spP G n f vs H Q E) : vs.length = n := by
  obtain ⟨N, ds, _, r, e, _⟩ := h
  rw [← r.length]; exact e
theorem spT.len {G : Glue} {n : Nat} {f : List D → List D → Re (D × List D)} {vs : List V} {H : Hp} {Q : VK} {E : XK} (h : spT G n f vs H Q E) : vs.length = n := by
  obtain ⟨N, a, bv, bs, ds, rest, rfl, _, _, _, _, r, e, _⟩ := h
  rw [List.length_cons, ← r.length]; exact e

/-- that many arguments -/
def ari (n : Nat) (f : List D → Re D) (ds : List D) : Re D := if ds.length = n then f ds else .bad
def dCall (n : Nat) (f : List D → Re D) (r : Evs) : Ev := fun sl => (r sl).bind fun xs sl1 => match asVs xs with
  | some ds => match ari n f ds with
    | .ok z => .ok (.v z) sl1
    | .ex e => .ex e sl1
    | .bad => .bad
  | none => .bad
/-- the first argument is the list of a name, and is written -/
def dCallT (n : Nat) (f : List D → List D → Re (D × List D)) (r : Evs) : Ev := fun sl => (r sl).bind fun xs sl1 => match xs with
  | .r i :: ss => match sl1[i]?, asVs ss with
    | some (some (.m bs)), some ds => if ds.length + 1 = n then match f bs ds with
      | .ok (z, bs') => .ok (.v z) (sl1.set i (some (.m bs')))
      | _ => .bad
      else .bad
    | _, _ => .bad
  | _ => .bad
/-- no list lies within -/
def noLst : D → Bool
  | .tup xs => go xs
  | .scr xs => go xs
  | .tpn xs => go xs
  | .lst _ => false
  | .obj _ _ => false
  | .dct _ _ => false
  | .fix _ => false
  | _ => true
where go : List D → Bool
  | [] => true
  | x :: xs => noLst x && go xs
def noR (i : Nat) : List S → Bool
  | [] => true
  | .v _ :: ss => noR i ss
  | .r j :: ss => (j != i) && noR i ss
/-- lists of names are lent -/
def dCallB (n : Nat) (f : List D → Re D) (r : Evs) : Ev := fun sl => (r sl).bind fun xs sl1 => match getAll sl1 xs with
  | some ds => match ari n f ds with
    | .ok z => if noLst z then .ok (.v z) sl1 else .bad
    | _ => .bad
  | none => .bad
/-- a def of the module, with its promise -/
structure Cal (P : Program) (w : World) (K : PySem.W.Frag) (mg : Str → Option Value) (base : Heap) (k : Nat) (x : Str) (ps : List Str) (sp : Sp) : Prop where
  ex : ∃ (f : Addr) (fd : FuncData), mg x = some (.ref f) ∧ PySem.W.keepIn K (.ref f) = true ∧ Binds K fd ps [] ∧ FnOk P w K mg base (L2.CX P w) k f fd ps sp
theorem Cal.mono {P : Program} {w : World} {K : PySem.W.Frag} {mg : Str → Option Value} {base : Heap} {j k : Nat} {x : Str} {ps : List Str} {sp : Sp} (c : Cal P w K mg base j x ps sp) (h : j ≤ k) : Cal P w K mg base k x ps sp := by
  obtain ⟨f, fd, h1, h2, h3, h4⟩ := c.ex
  exact ⟨f, fd, h1, h2, h3, h4.mono h⟩
theorem Cal.imp {P : Program} {w : World} {K : PySem.W.Frag} {mg : Str → Option Value} {base : Heap} {k : Nat} {x : Str} {ps : List Str} {sp sp' : Sp} (c : Cal P w K mg base k x ps sp) (h : ∀ vs H Q E, sp' vs H Q E → sp vs H Q E) : Cal P w K mg base k x ps sp' := by
  obtain ⟨f, fd, h1, h2, h3, h4⟩ := c.ex
  exact ⟨f, fd, h1, h2, h3, h4.imp h⟩
mutual
theorem Rv.noLst {G : Glue} {N N' : Addr → Prop} {H : Hp} : ∀ {d : D} {v : V}, noLst d = true → Rv G N H d v → Rv G N' H d v
  | .non, _, _, h => by cases h; exact .non
  | .bl b, _, _, h => by cases h; exact .bl b
  | .int i, _, _, h => by cases h; exact .int i
  | .str x, _, _, h => by cases h; exact .str x
  | .tup ds, _, e, h => by
    cases h with
    | tup hs ha => exact .tup hs (Rvs.noLst (by simpa [F.noLst] using e) ha)
  | .lst ds, _, e, h => by simp [F.noLst] at e
  | .scr ds, _, e, h => by
    cases h with
    | scr hs ha => exact .scr hs (Rvs.noLst (by simpa [F.noLst] using e) ha)
  | .tpn ds, _, e, h => by
    cases h with
    | tpn hs ha => exact .tpn hs (Rvs.noLst (by simpa [F.noLst] using e) ha)
  | .obj _ ds, _, e, h => by simp [F.noLst] at e
  | .dct _ ds, _, e, h => by simp [F.noLst] at e
  | .fix _, _, e, h => by simp [F.noLst] at e
theorem Rvs.noLst {G : Glue} {N N' : Addr → Prop} {H : Hp} : ∀ {ds : List D} {vs : List V}, noLst.go ds = true → Rvs G N H ds vs → Rvs G N' H ds vs
  | [], _, _, h => by cases h; exact .nil
  | d :: ds, _, e, h => by
    simp only [F.noLst.go, Bool.and_eq_true] at e
    cases h with
    | cons h1 h2 => exact .cons (Rv.noLst e.1 h1) (Rvs.noLst e.2 h2)
end

theorem RlL.rv {G : Glue} {N : Addr → Prop} {H : Hp} : ∀ {ds : List D} {vs : List V}, RlL G N H ds vs → Rvs G (fun _ => False) H ds vs
  | [], _, h => by cases h; exact .nil
  | d :: ds, _, h => by
    cases h with
    | cons h1 h2 =>
      refine .cons ?_ (RlL.rv h2)
      rcases h1 with h1 | ⟨xs, a, vs, rfl, rfl, e, h1⟩ | ⟨ks, vs, a, rfl, rfl, h1⟩
      · exact h1.anti fun _ z => z.elim
      · exact .lst e id (h1.anti fun _ z => z.elim)
      · exact (h1.imp (fun _ q => q) fun _ _ q => q.anti fun _ z => z.elim).rv id
section
variable {G : Glue} {W : WX} {X : Cx} {e : Expr} {es : List Expr} {ds : Evs} {pos p : Pos} {T : Act} {A : Nat → Option Addr} {sl : Sl} {σ : St} {H : Hp}
theorem Sr.tracked (s : Sr G T A sl σ H) : ∀ p, T.N A p → ∃ o, H p = some o := fun p z => by
  rcases z with z | ⟨i, z⟩
  · exact s.trk p z
  · obtain ⟨xs, q, _⟩ := s.alive i p z; exact ⟨_, q⟩
theorem ExR.anti {N N' : Addr → Prop} {x : Ex} {c : Value} {od : Option Addr} (hn : ∀ a, N' a → N a) (h : ExR G N H x c od) : ExR G N' H x c od := by
  cases x with
  | plain n => exact h
  | field n d =>
    obtain ⟨h1, p, v, h2, h3, h4⟩ := h
    exact ⟨h1, p, v, h2, h3, h4.anti hn⟩
variable {P : Program} {w : World} {k : Nat} {x : Str} {ps : List Str} {n : Nat}
theorem HSz.down {H H' : Hp} (sm : Same H H') (h : HSz H') : HSz H := fun a xs e => h a xs (by
  rcases e with (e | ⟨o, e⟩) | (e | ⟨o, e⟩)
  · exact .inl (.inl (sm _ _ e))
  · exact .inl (.inr ⟨o, sm _ _ e⟩)
  · exact .inr (.inl (sm _ _ e))
  · exact .inr (.inr ⟨o, sm _ _ e⟩))
theorem ari_ok {f : List D → Re D} {ds : List D} {r : Re D} (h : ari n f ds = r) (hb : r ≠ .bad) : ds.length = n ∧ f ds = r := by
  unfold ari at h
  split at h
  · exact ⟨by assumption, h⟩
  · exact absurd h.symm hb
theorem fe_call {f : List D → Re D} (c : Cal X.prog X.w X.K X.mg X.base k x ps (spP G n f)) (tk : Takes X W) (hr : Room k X.A) (ha : FA G W X (e :: es) ds) (hg : Gl X x := by rfl) (hdb : (x == ("__debug__" : Str)) = false := by decide)
    (he : starEach (e :: es) X.env = (false, eval e X.env) :: starEach es X.env := by rfl) (hpl : (backTo pos (starEach es X.env)).any (·.1) = false := by rfl) : FE G W X (.Call (.Name x p) (e :: es) [] pos) (dCall n f ds) := fun T => by
  obtain ⟨fa, fd, h1, h2, h3, h4⟩ := c.ex
  refine PE.plus (pe_callS h4 hr hg h1 h2 h3 (fun σ => passAt tk σ) (ha T) hdb he hpl) fun σ H Q z h hz => ?_
  obtain ⟨A, sl, s, p⟩ := h hz
  refine ⟨A, sl, s, PostG.bind p fun xs sl1 vs H1 _ s1 k1 r1 p1 => ?_⟩
  split at p1
  · rename_i ds' e'
    have rv := asVs_rv r1 e'
    cases hf : ari n f ds' with
    | ok d =>
      rw [hf] at p1
      obtain ⟨hn, hf⟩ := ari_ok hf (by simp)
      exact ⟨T.N A, ds', s1.tracked, rv, hn, by rw [hf]; exact fun v H' sm rv' hz' => p1 v H' (s1.grown sm hz') (.same sm) rv'⟩
    | ex e =>
      rw [hf] at p1
      obtain ⟨hn, hf⟩ := ari_ok hf (by simp)
      exact ⟨T.N A, ds', s1.tracked, rv, hn, by rw [hf]; exact fun c od H' sm hz' x => p1 c od H' (x.anti fun a h => .inl h) (s1.grown sm hz')⟩
    | bad => rw [hf] at p1; exact p1.elim
  · exact p1.elim
theorem fe_callLend {f : List D → Re D} (c : Cal X.prog X.w X.K X.mg X.base k x ps (spP G n f)) (tk : Takes X W) (hr : Room k X.A) (ha : FA G W X (e :: es) ds) (hg : Gl X x := by rfl) (hdb : (x == ("__debug__" : Str)) = false := by decide)
    (he : starEach (e :: es) X.env = (false, eval e X.env) :: starEach es X.env := by rfl) (hpl : (backTo pos (starEach es X.env)).any (·.1) = false := by rfl) : FE G W X (.Call (.Name x p) (e :: es) [] pos) (dCallB n f ds) := fun T => by
  obtain ⟨fa, fd, h1, h2, h3, h4⟩ := c.ex
  refine PE.plus (pe_callS h4 hr hg h1 h2 h3 (fun σ => passAt tk σ) (ha T) hdb he hpl) fun σ H Q z h hz => ?_
  obtain ⟨A, sl, s, p⟩ := h hz
  refine ⟨A, sl, s, PostG.bind p fun xs sl1 vs H1 _ s1 k1 r1 p1 => ?_⟩
  split at p1
  · rename_i ds' e'
    have rv := (RlL.of s1 r1 e').rv
    cases hf : ari n f ds' with
    | ok d =>
      rw [hf] at p1
      obtain ⟨hn, hf⟩ := ari_ok hf (by simp)
      refine ⟨fun _ => False, ds', fun _ z => z.elim, rv, hn, ?_⟩
      rw [hf]
      dsimp only at p1
      split at p1
      · rename_i hl
        exact fun v H' sm rv' hz' => p1 v H' (s1.grown sm hz') (.same sm) (Rv.noLst hl rv')
      · exact p1.elim
    | ex e => rw [hf] at p1; exact p1.elim
    | bad => rw [hf] at p1; exact p1.elim
  · exact p1.elim
theorem fe_callT {f : List D → List D → Re (D × List D)} (c : Cal X.prog X.w X.K X.mg X.base k x ps (spT G n f)) (tk : Takes X W) (hr : Room k X.A) (ha : FA G W X (e :: es) ds) (hg : Gl X x := by rfl) (hdb : (x == ("__debug__" : Str)) = false := by decide)
    (he : starEach (e :: es) X.env = (false, eval e X.env) :: starEach es X.env := by rfl) (hpl : (backTo pos (starEach es X.env)).any (·.1) = false := by rfl) : FE G W X (.Call (.Name x p) (e :: es) [] pos) (dCallT n f ds) := fun T => by
  obtain ⟨fa, fd, h1, h2, h3, h4⟩ := c.ex
  refine PE.plus (pe_callS h4 hr hg h1 h2 h3 (fun σ => passAt tk σ) (ha T) hdb he hpl) fun σ H Q z h hz => ?_
  obtain ⟨A, sl, s, p⟩ := h hz
  refine ⟨A, sl, s, PostG.bind p fun xs sl1 vs H1 _ s1 k1 r1 p1 => ?_⟩
  match xs, r1, p1 with
  | .r i :: ss, r1, p1 =>
    dsimp only at p1
    split at p1
    · rename_i bs ds' e1 e2
      split at p1
      · rename_i hn
        cases r1 with
        | cons q1 q2 =>
          obtain ⟨a, hai, rfl⟩ := q1
          obtain ⟨a', bv, ha', _, hb, rb⟩ := s1.mu i bs e1
          rw [hai] at ha'; cases ha'
          refine ⟨T.N A, a, bv, bs, ds', _, rfl, .inr ⟨i, hai⟩, s1.tracked, hb, rb, asVs_rv q2 e2, hn, ?_⟩
          cases hf : f bs ds' with
          | ok q =>
            obtain ⟨d, bs'⟩ := q
            rw [hf] at p1
            intro v H' bv' kb hb' rb' rv hz'
            obtain ⟨s2, k2⟩ := s1.turn ⟨bs, e1⟩ hai kb hb' rb' hz'
            exact p1 v H' s2 k2 rv
          | ex e => rw [hf] at p1; exact p1.elim
          | bad => rw [hf] at p1; exact p1.elim
      · exact p1.elim
    · exact p1.elim
  | .v _ :: _, r1, p1 => exact p1.elim
  | [], r1, p1 => exact p1.elim
/-- .. and further lists of names are lent -/
def dCallTL (n : Nat) (f : List D → List D → Re (D × List D)) (r : Evs) : Ev := fun sl => (r sl).bind fun xs sl1 => match xs with
  | .r i :: ss => if noR i ss then match sl1[i]?, getAll sl1 ss with
    | some (some (.m bs)), some ds => if ds.length + 1 = n then match f bs ds with
      | .ok (z, bs') => if noLst z && noLst.go bs' then .ok (.v z) (sl1.set i (some (.m bs'))) else .bad
      | _ => .bad
      else .bad
    | _, _ => .bad
    else .bad
  | _ => .bad
theorem lendT (s : Sr G T A sl σ H) {i : Nat} {a : Addr} (hai : A i = some a) : ∀ {ss : List S} {xs : List V} {ds : List D}, RsL G T A H ss xs → getAll sl ss = some ds → noR i ss = true → Rvs G (fun q => q = a) H ds xs
  | [], _, _, .nil, e, _ => by cases e; exact .nil
  | u :: ss, _, d, .cons h1 h2, e, hn => by
    simp only [getAll] at e
    split at e
    · rename_i d1 ds e1 e2
      cases e
      have hn2 : noR i ss = true := by
        cases u with
        | v _ => exact hn
        | r j => simp only [noR, Bool.and_eq_true] at hn; exact hn.2
      refine .cons ?_ (lendT s hai h2 e2 hn2)
      have an : ∀ p, (fun q => q = a) p → T.N A p := fun p z => by cases z; exact .inr ⟨i, hai⟩
      cases u with
      | v d => cases e1; exact Rv.anti an h1
      | r j =>
        have hj : j ≠ i := by simp only [noR, Bool.and_eq_true, bne_iff_ne] at hn; exact hn.1
        obtain ⟨b, hb, rfl⟩ := h1
        have nb : ¬ b = a := fun z => hj (s.inj j i a (z ▸ hb) hai)
        simp only [getS] at e1
        split at e1
        · rename_i xs he
          cases e1
          obtain ⟨b', vs, e1, e2, e3, e4⟩ := s.mu j xs he
          rw [hb] at e1; cases e1
          exact .lst e3 nb (e4.anti an)
        · rename_i ks vs he
          cases e1
          obtain ⟨b', e1, e2, e3⟩ := s.mx j _ he rfl
          rw [hb] at e1; cases e1
          have e3 : Dic G (T.N A) H b ks vs := e3
          exact (e3.imp (fun _ q => q) fun _ _ q => q.anti an).rv nb
        · split at e1
          · rename_i hj
            split at e1
            · rename_i ks vs he
              cases e1
              obtain ⟨b', _, _, dx, fs, f, q, _, _, _, _, g1, g2⟩ := s.mx (j - 1000) _ he rfl
              rw [show j - 1000 + 1000 = j by omega, hb] at g1
              cases g1
              exact (g2.imp (fun _ q => q) fun _ _ q => q.anti an).rv nb
            · cases e1
          · cases e1
    · cases e
theorem fe_callTL {f : List D → List D → Re (D × List D)} (c : Cal X.prog X.w X.K X.mg X.base k x ps (spT G n f)) (tk : Takes X W) (hr : Room k X.A) (ha : FA G W X (e :: es) ds) (hg : Gl X x := by rfl) (hdb : (x == ("__debug__" : Str)) = false := by decide)
    (he : starEach (e :: es) X.env = (false, eval e X.env) :: starEach es X.env := by rfl) (hpl : (backTo pos (starEach es X.env)).any (·.1) = false := by rfl) : FE G W X (.Call (.Name x p) (e :: es) [] pos) (dCallTL n f ds) := fun T => by
  obtain ⟨fa, fd, h1, h2, h3, h4⟩ := c.ex
  refine PE.plus (pe_callS h4 hr hg h1 h2 h3 (fun σ => passAt tk σ) (ha T) hdb he hpl) fun σ H Q z h hz => ?_
  obtain ⟨A, sl, s, p⟩ := h hz
  refine ⟨A, sl, s, PostG.bind p fun xs sl1 vs H1 _ s1 k1 r1 p1 => ?_⟩
  match xs, r1, p1 with
  | .r i :: ss, r1, p1 =>
    dsimp only at p1
    split at p1
    · rename_i hno
      split at p1
      · rename_i bs ds' e1 e2
        split at p1
        · rename_i hn
          cases r1 with
          | cons q1 q2 =>
            obtain ⟨a, hai, rfl⟩ := q1
            obtain ⟨a', bv, ha', _, hb, rb⟩ := s1.mu i bs e1
            rw [hai] at ha'; cases ha'
            refine ⟨fun q => q = a, a, bv, bs, ds', _, rfl, rfl, fun p z => by cases z; exact ⟨_, hb⟩, hb, rb.anti (fun p z => by cases z; exact .inr ⟨i, hai⟩), lendT s1 hai q2 e2 hno, hn, ?_⟩
            cases hf : f bs ds' with
            | ok q =>
              obtain ⟨d, bs'⟩ := q
              rw [hf] at p1
              dsimp only at p1
              split at p1
              · rename_i hl
                rw [Bool.and_eq_true] at hl
                intro v H' bv' kb hb' rb' rv hz'
                obtain ⟨s2, k2⟩ := s1.turn ⟨bs, e1⟩ hai kb hb' (Rvs.noLst hl.2 rb') hz'
                exact p1 v H' s2 k2 (Rv.noLst hl.1 rv)
              · exact p1.elim
            | ex e => rw [hf] at p1; exact p1.elim
            | bad => rw [hf] at p1; exact p1.elim
        · exact p1.elim
      · exact p1.elim
    · exact p1.elim
  | .v _ :: _, r1, p1 => exact p1.elim
  | [], r1, p1 => exact p1.elim
end

/-! ### a def, by its body -/
def initS (n : Nat) (ds : List D) : Sl := ds.map (fun d => some (Sv.v d)) ++ List.replicate (n - ds.length) none
/-- what a def hands back: data, or a list of its own -/
def retV (sl : Sl) : S → Option D
  | .v d => some d
  | .r i => match sl[i]? with
    | some (some (.m xs)) => some (.lst xs)
    | some (some (.d ks vs)) => some (.dct ks vs)
    | _ => none
def runP (n : Nat) (m : Sm) (ds : List D) : Re D := match m (initS n ds) with
  | .nx _ => .ok .non
  | .rt s sl => match retV sl s with
    | some d => .ok d
    | none => .bad
  | .ex e _ => .ex e
  | _ => .bad
def initT (n : Nat) (bs ds : List D) : Sl := some (.m bs) :: (ds.map (fun d => some (Sv.v d)) ++ List.replicate (n - (ds.length + 1)) none)
def retT (sl : Sl) : S → Option D
  | .v d => some d
  | .r 0 => none
  | .r (i + 1) => match sl[i + 1]? with
    | some (some (.m xs)) => some (.lst xs)
    | _ => none
def runT (n : Nat) (m : Sm) (bs ds : List D) : Re (D × List D) := match m (initT n bs ds) with
  | .nx sl => match sl[0]? with
    | some (some (Sv.m bs')) => .ok (.non, bs')
    | _ => .bad
  | .rt s sl => match sl[0]?, retT sl s with
    | some (some (Sv.m bs')), some d => .ok (d, bs')
    | _, _ => .bad
  | _ => .bad
section
variable {G : Glue} {P : Program} {w : World} {mg : Str → Option Value} {base : Heap} {m : Sm}
abbrev wOf (E : XK) : WX := fun c d _ H => E c d H
theorem init_get {n : Nat} {ds : List D} {i : Nat} {s : Option Sv} (h : (initS n ds)[i]? = some s) : (∃ d, ds[i]? = some d ∧ s = some (.v d)) ∨ s = none := by
  unfold initS at h
  rw [List.getElem?_append] at h
  split at h
  · rw [List.getElem?_map] at h
    cases e : ds[i]? with
    | none => rw [e] at h; cases h
    | some d => rw [e] at h; cases h; exact .inl ⟨d, rfl, rfl⟩
  · rw [List.getElem?_replicate] at h
    split at h <;> cases h
    exact .inr rfl
theorem start_get {N : List Str} {vs : List V} {i : Nat} {v : V} (h : vs[i]? = some v) : (start N vs)[i]? = some (some v) := by
  unfold L2.start
  obtain ⟨hl, _⟩ := List.getElem?_eq_some_iff.mp h
  rw [List.getElem?_append_left (by simpa using hl), List.getElem?_map, h]; rfl
theorem sr_start {N : List Str} {N0 : Addr → Prop} {ds : List D} {vs : List V} {H : Hp} (tr : ∀ p, N0 p → ∃ o, H p = some o) (r : Rvs G N0 H ds vs) (z : HSz H) : Sr G ⟨N0, H, none, []⟩ (fun _ => none) (initS N.length ds) (start N vs) H := by
  have hN : ∀ b, Act.N ⟨N0, H, none, []⟩ (fun _ => none) b → N0 b := fun b h => by
    rcases h with h | ⟨i, h⟩
    · exact h
    · cases h
  refine ⟨fun i d e => ?_, fun i xs e => ?_, ?_, (fun _ _ _ e => by cases e), (fun _ _ e => by cases e), (fun _ _ e => by cases e), fun _ _ e _ => e, tr, (fun _ e => by cases e), (fun _ h => by cases h), z, fun i x e h => ?_⟩
  · rcases init_get e with ⟨d', e1, e2⟩ | e1
    · cases e2
      obtain ⟨v, e3, e4⟩ := r.getD e1
      exact ⟨v, start_get e3, e4.anti hN⟩
    · cases e1
  · rcases init_get e with ⟨d', e1, e2⟩ | e1
    · cases e2
    · cases e1
  · unfold initS L2.start
    simp [r.length]
  · rcases init_get e with ⟨d', e1, e2⟩ | e1
    · cases e2; cases h
    · cases e1
theorem ret_rv {T : Act} {A : Nat → Option Addr} {sl : Sl} {σ : St} {H : Hp} {s : S} {v : V} {d : D} (hio : T.io = none) (r : Sr G T A sl σ H) (rs : Rs G T A H s v) (e : retV sl s = some d) : Rv G T.N0 H d v := by
  have hN : ∀ b, T.N0 b → T.N A b := fun b h => .inl h
  match s, rs, e with
  | .v d', rs, e => cases e; exact rs.anti hN
  | .r i, rs, e =>
    simp only [retV] at e
    split at e
    · rename_i xs he
      cases e
      obtain ⟨a, ha, rfl⟩ := rs
      obtain ⟨b, vs, e1, e2, e3, e4⟩ := r.mu i xs he
      rw [ha] at e1; cases e1
      refine .lst e3 (fun q => ?_) (e4.anti hN)
      rcases r.own i a ha with ⟨_, h, _⟩ | ⟨h, _⟩
      · exact h q
      · rw [hio] at h; cases h
    · rename_i ks vs he
      cases e
      obtain ⟨a, ha, rfl⟩ := rs
      obtain ⟨b, e1, e2, e3⟩ := r.mx i _ he rfl
      rw [ha] at e1; cases e1
      have e3 : Dic G (T.N A) H a ks vs := e3
      refine (e3.imp (fun _ q => q) fun _ _ q => q.anti hN).rv fun q => ?_
      rcases r.own i a ha with ⟨_, h, _⟩ | ⟨h, _⟩
      · exact h q
      · rw [hio] at h; cases h
    · cases e
theorem fn_pure {x qual : Str} {st : Stmt} {f : Addr} {fd : FuncData} {N ps : List Str} {k n : Nat} (F : Fun G.K x qual st f fd) (S : FnScope N ps (defScope st)) (hn : ps.length = n)
    (hbody : ∀ (cdv : Value) (A : Around) (outer : List Env) (s : Shared) (H : Hp) (E : XK), Room k (A.deeper (envOfC qual (defScope st) s.heap.objs.size f cdv)) →
      Takes (cxOf (L2.CX P w) P w G.K mg base N qual (defScope st) f cdv A outer s H E) (wOf E) →
      FSs G (wOf E) (cxOf (L2.CX P w) P w G.K mg base N qual (defScope st) f cdv A outer s H E) (defBody st) m) : FnOk P w G.K mg base (L2.CX P w) (k + 1) f fd ps (spP G n (runP N.length m)) := by
  refine F.okX S (fun vs H Q E h => by rw [h.len, hn]) fun cdv A outer s H vs Q E hr h => ?_
  obtain ⟨N0, ds, tr, r, hl, h⟩ := h
  refine ⟨_, hbody cdv A outer s H E hr (takes_of rfl rfl rfl rfl) ⟨N0, H, none, []⟩, fun hz => ⟨_, _, sr_start tr r hz, ?_⟩⟩
  unfold runP at h
  cases hm : m (initS N.length ds) with
  | nx sl =>
    rw [hm] at h
    exact fun A' σ' H' s' => h _ H' (fun b o e => s'.kept b o e (by simp)) .non
  | rt x sl =>
    rw [hm] at h
    intro A' σ' H' v s' rs
    dsimp only at h
    split at h
    · rename_i d hd
      split at hd
      · rename_i d' hd'
        cases hd
        exact h v H' (fun b o e => s'.kept b o e (by simp)) (ret_rv rfl s' rs hd')
      · cases hd
    · rename_i hd; split at hd <;> cases hd
    · exact h.elim
  | ex e sl =>
    rw [hm] at h
    exact fun A' σ' H' c od x s' => h c od H' (fun b o e => s'.kept b o e (by simp)) s'.sz x
  | bk sl => rw [hm] at h; exact h.elim
  | ct sl => rw [hm] at h; exact h.elim
  | bad => rw [hm] at h; exact h.elim
end
end F

set_option Elab.async false
set_option linter.all false
set_option maxRecDepth 100000
set_option maxHeartbeats 4000000
namespace F
open PySem PySem.Spec PyProof.Rows L2

/-! ### a def whose first argument is written -/
section
variable {G : Glue} {P : Program} {w : World} {mg : Str → Option Value} {base : Heap} {m : Sm}
theorem initT_get {n : Nat} {bs ds : List D} {i : Nat} {s : Option Sv} (h : (initT n bs ds)[i]? = some s) : (i = 0 ∧ s = some (.m bs)) ∨ (∃ j d, i = j + 1 ∧ ds[j]? = some d ∧ s = some (.v d)) ∨ s = none := by
  unfold initT at h
  cases i with
  | zero => simp at h; exact .inl ⟨rfl, h.symm⟩
  | succ j =>
    rw [List.getElem?_cons_succ, List.getElem?_append] at h
    split at h
    · rw [List.getElem?_map] at h
      cases e : ds[j]? with
      | none => rw [e] at h; cases h
      | some d => rw [e] at h; cases h; exact .inr (.inl ⟨j, d, rfl, e, rfl⟩)
    · rw [List.getElem?_replicate] at h
      split at h <;> cases h
      exact .inr (.inr rfl)
theorem sr_startT {N : List Str} {N0 : Addr → Prop} {a : Addr} {bs ds : List D} {bv rest : List V} {H : Hp} (na : N0 a) (tr : ∀ p, N0 p → ∃ o, H p = some o) (hb : H a = some (.lst bv)) (rb : Rvs G N0 H bs bv) (r : Rvs G N0 H ds rest) (z : HSz H) :
    Sr G ⟨N0, H, some a, []⟩ (fun j => if j = 0 then some a else none) (initT N.length bs ds) (L2.start N (.ref a :: rest)) H := by
  have hN : ∀ b, Act.N ⟨N0, H, some a, []⟩ (fun j => if j = 0 then some a else none) b → N0 b := fun b h => by
    rcases h with h | ⟨i, h⟩
    · exact h
    · dsimp only at h
      split at h <;> cases h
      exact na
  have hA : ∀ {i : Nat} {b : Addr}, (if i = 0 then some a else none) = some b → i = 0 ∧ b = a := fun {i b} h => by
    split at h <;> cases h
    exact ⟨by assumption, rfl⟩
  refine ⟨fun i d e => ?_, fun i xs e => ?_, ?_, (fun i j b e1 e2 => by rw [(hA e1).1, (hA e2).1]), (fun i b e => ?_), (fun i b e => ?_), fun _ _ e _ => e, tr, (fun b e => ?_), (fun _ h => by cases h), z, fun i x e h => ?_⟩
  · rcases initT_get e with ⟨_, e1⟩ | ⟨j, d', rfl, e1, e2⟩ | e1
    · cases e1
    · cases e2
      obtain ⟨v, e3, e4⟩ := r.getD e1
      exact ⟨v, start_get (by simpa using e3), e4.anti hN⟩
    · cases e1
  · rcases initT_get e with ⟨rfl, e1⟩ | ⟨j, d', rfl, e1, e2⟩ | e1
    · cases e1
      exact ⟨a, bv, if_pos rfl, start_get (by simp), hb, rb.anti hN⟩
    · cases e2
    · cases e1
  · unfold initT L2.start
    simp [r.length]
  · obtain ⟨rfl, rfl⟩ := hA e
    exact .inr ⟨rfl, rfl, na⟩
  · obtain ⟨rfl, rfl⟩ := hA e
    exact ⟨_, hb, id⟩
  · cases e; exact if_pos rfl
  · rcases initT_get e with ⟨rfl, e1⟩ | ⟨j, d', rfl, e1, e2⟩ | e1
    · cases e1; cases h
    · cases e2; cases h
    · cases e1
theorem ret_rvT {T : Act} {A : Nat → Option Addr} {sl : Sl} {σ : St} {H : Hp} {s : S} {v : V} {d : D} (r : Sr G T A sl σ H) (rs : Rs G T A H s v) (e : retT sl s = some d) : Rv G T.N0 H d v := by
  have hN : ∀ b, T.N0 b → T.N A b := fun b h => .inl h
  match s, rs, e with
  | .v d', rs, e => cases e; exact rs.anti hN
  | .r 0, rs, e => cases e
  | .r (i + 1), rs, e =>
    simp only [retT] at e
    split at e
    · rename_i xs he
      cases e
      obtain ⟨a, ha, rfl⟩ := rs
      obtain ⟨b, vs, e1, e2, e3, e4⟩ := r.mu _ xs he
      rw [ha] at e1; cases e1
      refine .lst e3 (fun q => ?_) (e4.anti hN)
      rcases r.own _ a ha with ⟨_, h, _⟩ | ⟨_, h, _⟩
      · exact h q
      · cases h
    · cases e
theorem fn_T {x qual : Str} {st : Stmt} {f : Addr} {fd : FuncData} {N ps : List Str} {k n : Nat} (F : Fun G.K x qual st f fd) (S : FnScope N ps (defScope st)) (hn : ps.length = n)
    (hbody : ∀ (cdv : Value) (A : Around) (outer : List Env) (s : Shared) (H : Hp) (E : XK), Room k (A.deeper (envOfC qual (defScope st) s.heap.objs.size f cdv)) →
      Takes (cxOf (L2.CX P w) P w G.K mg base N qual (defScope st) f cdv A outer s H E) (wOf E) →
      FSs G (wOf E) (cxOf (L2.CX P w) P w G.K mg base N qual (defScope st) f cdv A outer s H E) (defBody st) m) : FnOk P w G.K mg base (L2.CX P w) (k + 1) f fd ps (spT G n (runT N.length m)) := by
  refine F.okX S (fun vs H Q E h => by rw [h.len, hn]) fun cdv A outer s H vs Q E hr h => ?_
  obtain ⟨N0, a, bv, bs, ds, rest, rfl, na, tr, hb, rb, r, hl, h⟩ := h
  refine ⟨_, hbody cdv A outer s H E hr (takes_of rfl rfl rfl rfl) ⟨N0, H, some a, []⟩, fun hz => ⟨_, _, sr_startT na tr hb rb r hz, ?_⟩⟩
  have fin : ∀ {A' : Nat → Option Addr} {sl : Sl} {σ' : St} {H' : Hp} {bs' : List D}, Sr G ⟨N0, H, some a, []⟩ A' sl σ' H' → sl[0]? = some (some (Sv.m bs')) → (∀ b o, b ≠ a → H b = some o → H' b = some o) ∧ ∃ bv', H' a = some (.lst bv') ∧ Rvs G N0 H' bs' bv' := fun {A' sl σ' H' bs'} s' e => by
    refine ⟨fun b o ne e => s'.kept b o e fun q => ne (by cases q; rfl), ?_⟩
    obtain ⟨c, vs, e1, e2, e3, e4⟩ := s'.mu 0 bs' e
    have e5 := s'.iot a rfl
    rw [e1] at e5; cases e5
    exact ⟨vs, e3, e4.anti fun _ z => .inl z⟩
  unfold runT at h
  cases hm : m (initT N.length bs ds) with
  | nx sl =>
    rw [hm] at h
    dsimp only at h
    intro A' σ' H' s'
    split at h
    · rename_i d bs' hd
      split at hd
      · rename_i bs'' he
        cases hd
        obtain ⟨kb, bv', hb', rb'⟩ := fin s' he
        exact h _ H' bv' kb hb' rb' .non
      · cases hd
    · exact h.elim
  | rt x sl =>
    rw [hm] at h
    dsimp only at h
    intro A' σ' H' v s' rs
    split at h
    · rename_i d bs' hd
      split at hd
      · rename_i bs'' d' he he2
        cases hd
        obtain ⟨kb, bv', hb', rb'⟩ := fin s' he
        exact h _ H' bv' kb hb' rb' (ret_rvT s' rs he2)
      · cases hd
    · exact h.elim
  | ex e sl => rw [hm] at h; exact h.elim
  | bk sl => rw [hm] at h; exact h.elim
  | ct sl => rw [hm] at h; exact h.elim
  | bad => rw [hm] at h; exact h.elim
end

/-! ### lists that are written -/
def isM (sl : Sl) (i : Nat) : Bool := match sl[i]? with
  | some (some (Sv.m _)) => true
  | _ => false
def mutEnd (i : Nat) (f : List D → List D → Re (D × List D)) (o : Option (List D)) (sl1 : Sl) : R S := match sl1[i]?, o with
  | some (some (.m ys)), some ds => match f ys ds with
    | .ok (z, ys') => .ok (.v z) (sl1.set i (some (.m ys')))
    | _ => .bad
  | _, _ => .bad
/-- the list of a name is asked and written: what comes, what it is then -/
def dMut (i : Nat) (f : List D → List D → Re (D × List D)) (r : Evs) : Ev := fun sl => if isM sl i then (r sl).bind fun xs sl1 => mutEnd i f (asVs xs) sl1 else .bad
/-- .. where the argument may be a list of a name too -/
def dMutL (i : Nat) (f : List D → List D → Re (D × List D)) (r : Evs) : Ev := fun sl => if isM sl i then (r sl).bind fun xs sl1 => mutEnd i f (getAll sl1 xs) sl1 else .bad
def mAppend : List D → List D → Re (D × List D)
  | ys, [d] => if ys.length < sizeLine then .ok (.non, ys ++ [d]) else .bad
  | _, _ => .bad
def mExtend : List D → List D → Re (D × List D)
  | ys, [.lst zs] => if fits (ys.length + zs.length) then .ok (.non, ys ++ zs) else .bad
  | _, _ => .bad
def mPop : List D → List D → Re (D × List D)
  | ys, [] => match ys[ys.length - 1]? with
    | some d => .ok (d, ys.dropLast)
    | none => .bad
  | _, _ => .bad
def mPopAt : List D → List D → Re (D × List D)
  | ys, [.int i] => match seqIndex? i ys.length with
    | some k => if decide (-(2 ^ 63) ≤ i) && decide (i < 2 ^ 63) then match ys[k]? with
      | some d => .ok (d, ys.eraseIdx k)
      | none => .bad
      else .bad
    | none => .bad
  | _, _ => .bad
section
variable {G : Glue} {W : WX} {X : Cx} {a b c e : Expr} {es : List Expr} {da db : Ev} {ds : Evs} {pos p : Pos} {T : Act} {A : Nat → Option Addr} {sl : Sl} {σ : St} {H : Hp}
theorem Rvs.dropLast {N : Addr → Prop} : ∀ {ds : List D} {vs : List V}, Rvs G N H ds vs → Rvs G N H ds.dropLast vs.dropLast := fun {ds vs} h => by
  rw [List.dropLast_eq_take, List.dropLast_eq_take, ← h.length]; exact h.take _
theorem isM_get {i : Nat} (h : isM sl i = true) : ∃ ys, sl[i]? = some (some (Sv.m ys)) := by
  unfold isM at h
  split at h
  · exact ⟨_, by assumption⟩
  · cases h
/-- the method of a list, by its values; rel: what the arguments are -/
def MutR (rel : Glue → (Addr → Prop) → Hp → List D → List V → Prop) (G : Glue) (X : Cx) (id : String) (f : List D → List D → Re (D × List D)) : Prop := ∃ r, MtR X id r ∧
  ∀ (N : Addr → Prop) (H : Hp) (a : Addr) (ys : List D) (vs : List V) (xs : List V) (ds : List D) (z : D) (ys' : List D) (Q : VK), HSz H → H a = some (.lst vs) → Rvs G N H ys vs → rel G N H ds xs → f ys ds = .ok (z, ys') →
    (∀ v vs', Rv G N H z v → Rvs G N H ys' vs' → Q v (upd H a (.lst vs'))) → r (.ref a) xs H Q
theorem mut_append : MutR Rvs G X "list.append" mAppend := ⟨_, mt_append, fun N H a ys vs xs ds z ys' Q hz hl rv r h k => by
  unfold mAppend at h
  split at h
  · rename_i d
    split at h
    · rename_i hf
      cases h
      cases r with
      | cons r1 r2 =>
        cases r2
        exact ⟨a, vs, _, rfl, rfl, hl, by rw [← rv.length]; exact hf, k _ _ .non (rv.append (.cons r1 .nil))⟩
    · cases h
  · cases h⟩
theorem mut_extend : MutR RlL G X "list.extend" mExtend := ⟨_, mt_extend, fun N H a ys vs xs ds z ys' Q hz hl rv r h k => by
  unfold mExtend at h
  split at h
  · rename_i zs
    split at h
    · rename_i hf
      cases h
      obtain ⟨v, rfl, q⟩ := r.one
      obtain ⟨b, ws, rfl, sq, rw'⟩ := q.lst
      exact ⟨a, b, vs, ws, rfl, rfl, hl, sq, by rw [← rv.length, ← rw'.length]; exact fits_le hf, k _ _ .non (rv.append rw')⟩
    · cases h
  · cases h⟩
theorem mut_pop : MutR Rvs G X "list.pop" mPop := ⟨_, mt_pop, fun N H a ys vs xs ds z ys' Q hz hl rv r h k => by
  unfold mPop at h
  split at h
  · split at h
    · rename_i d hd
      cases h
      cases r
      obtain ⟨v, e1, e2⟩ := rv.getD hd
      exact ⟨a, vs, v, rfl, rfl, hl, by rw [← rv.length]; exact e1, k _ _ e2 rv.dropLast⟩
    · cases h
  · cases h⟩
theorem mut_popAt : MutR Rvs G X "list.pop" mPopAt := ⟨_, mt_popAt, fun N H a ys vs xs ds z ys' Q hz hl rv r h k => by
  unfold mPopAt at h
  split at h
  · rename_i i
    split at h
    · rename_i j hj
      split at h
      · rename_i hf
        simp only [Bool.and_eq_true, decide_eq_true_eq] at hf
        split at h
        · rename_i d hd
          cases h
          cases r with
          | cons r1 r2 =>
            cases r1; cases r2
            obtain ⟨v, e1, e2⟩ := rv.getD hd
            exact ⟨a, vs, i, j, v, rfl, rfl, hl, hf.1, hf.2, by rw [← rv.length]; exact hj, e1, k _ _ e2 (rv.eraseIdx j)⟩
        · cases h
      · cases h
    · cases h
  · cases h⟩
theorem mutEnd_ok {rel : Glue → (Addr → Prop) → Hp → List D → List V → Prop} {id : String} {f : List D → List D → Re (D × List D)} {r : V → List V → Hp → VK → Prop} {i : Nat} {o : Option (List D)} {av : Addr} {xs : List V} {Q : VK}
    (q : ∀ (N : Addr → Prop) (H : Hp) (a : Addr) (ys : List D) (vs : List V) (xs : List V) (ds : List D) (z : D) (ys' : List D) (Q : VK), HSz H → H a = some (.lst vs) → Rvs G N H ys vs → rel G N H ds xs → f ys ds = .ok (z, ys') →
      (∀ v vs', Rv G N H z v → Rvs G N H ys' vs' → Q v (upd H a (.lst vs'))) → r (.ref a) xs H Q)
    (s : Sr G T A sl σ H) (ha : A i = some av) (hr : ∀ ds, o = some ds → rel G (T.N A) H ds xs) (p : Post G W T A σ H (mutEnd i f o sl) Q) : r (.ref av) xs H (wE Q) := by
  unfold mutEnd at p
  split at p
  · rename_i ys ds e1 
    split at p
    · rename_i z ys' hf
      obtain ⟨b, vs, h1, h2, h3, h4⟩ := s.mu i ys e1
      rw [ha] at h1; cases h1
      refine q _ H av ys vs xs ds z ys' _ s.sz h3 h4 (hr ds rfl) hf fun v vs' rv rvs hz => ?_
      obtain ⟨s2, k2⟩ := s.write ⟨ys, e1⟩ ha rvs hz
      exact p v _ s2 k2 (Rv.keep k2 (fun _ z => .inr z) rv)
    · exact p.elim
  · exact p.elim
variable {x name : Str} {i : Nat} {apos p2 : Pos} {id : String} {f : List D → List D → Re (D × List D)}
/-- x.m(e, ..), x a name's own list -/
theorem fe_mutV (hm : MutR Rvs G X id f) (slot : Slot "list" name id) (hty : typeOf (.builtin id) = pure (.type "method_descriptor")) (ha : FA G W X (e :: es) ds) (hN : X.N[i]? = some x := by rfl)
    (hv : Vis X.env.scope x := by first | exact Or.inl rfl | exact Or.inr (Or.inl rfl) | exact Or.inr (Or.inr rfl)) (hd : (x == ("__debug__" : Str)) = false := by decide) (hcd : (x == ("__classdict__" : Str)) = false := by decide)
    (hbase : attributeBase (.Name x p2) name X.env (eval (.Name x p2) X.env) = eval (.Name x p2) X.env := by rfl)
    (hfew : ((backTo pos (starEach (e :: es) X.env)).all (fun x => !x.1) && (backToKw pos (keywordEach [] X.env)).all (fun x => x.1.isSome)
      && decide ((e :: es).length + ([] : List Keyword).length + (if ([] : List Keyword).isEmpty then 0 else 1) < 30)) = true := by rfl)
    (hline : (apos.endLine == pos.line) = true := by rfl) (hs : starEach (e :: es) X.env = (false, eval e X.env) :: starEach es X.env := by rfl) (hplain : (backTo pos (starEach es X.env)).any (·.1) = false := by rfl) :
    FE G W X (.Call (.Attribute (.Name x p2) name apos) (e :: es) [] pos) (dMut i f ds) := fun T => by
  obtain ⟨r, hr, q⟩ := hm
  refine PE.plus (pe_bm PySem.F.plainAttrs_list slot hty hr (pe_var hN hv hd hcd) (ha T) hbase hfew hline hs hplain) fun σ H Q z h => ?_
  obtain ⟨A, sl, s, p⟩ := h z
  unfold dMut at p
  split at p
  · rename_i hi
    obtain ⟨ys, hy⟩ := isM_get hi
    obtain ⟨a, vs, h1, h2, h3, h4⟩ := s.mu i ys hy
    refine ⟨_, h2, .inl ⟨rfl, vs, SqL.of h3⟩, fun hz => ⟨A, sl, s, PostG.bind p fun xs sl1 ws H1 _ s1 k1 r1 p1 => ?_⟩⟩
    exact mutEnd_ok (id := id) q s1 h1 (fun ds e => asVs_rv r1 e) p1
  · exact p.elim
theorem fe_mutL (hm : MutR RlL G X id f) (slot : Slot "list" name id) (hty : typeOf (.builtin id) = pure (.type "method_descriptor")) (ha : FA G W X (e :: es) ds) (hN : X.N[i]? = some x := by rfl)
    (hv : Vis X.env.scope x := by first | exact Or.inl rfl | exact Or.inr (Or.inl rfl) | exact Or.inr (Or.inr rfl)) (hd : (x == ("__debug__" : Str)) = false := by decide) (hcd : (x == ("__classdict__" : Str)) = false := by decide)
    (hbase : attributeBase (.Name x p2) name X.env (eval (.Name x p2) X.env) = eval (.Name x p2) X.env := by rfl)
    (hfew : ((backTo pos (starEach (e :: es) X.env)).all (fun x => !x.1) && (backToKw pos (keywordEach [] X.env)).all (fun x => x.1.isSome)
      && decide ((e :: es).length + ([] : List Keyword).length + (if ([] : List Keyword).isEmpty then 0 else 1) < 30)) = true := by rfl)
    (hline : (apos.endLine == pos.line) = true := by rfl) (hs : starEach (e :: es) X.env = (false, eval e X.env) :: starEach es X.env := by rfl) (hplain : (backTo pos (starEach es X.env)).any (·.1) = false := by rfl) :
    FE G W X (.Call (.Attribute (.Name x p2) name apos) (e :: es) [] pos) (dMutL i f ds) := fun T => by
  obtain ⟨r, hr, q⟩ := hm
  refine PE.plus (pe_bm PySem.F.plainAttrs_list slot hty hr (pe_var hN hv hd hcd) (ha T) hbase hfew hline hs hplain) fun σ H Q z h => ?_
  obtain ⟨A, sl, s, p⟩ := h z
  unfold dMutL at p
  split at p
  · rename_i hi
    obtain ⟨ys, hy⟩ := isM_get hi
    obtain ⟨a, vs, h1, h2, h3, h4⟩ := s.mu i ys hy
    refine ⟨_, h2, .inl ⟨rfl, vs, SqL.of h3⟩, fun hz => ⟨A, sl, s, PostG.bind p fun xs sl1 ws H1 _ s1 k1 r1 p1 => ?_⟩⟩
    exact mutEnd_ok (id := id) q s1 h1 (fun ds e => RlL.of s1 r1 e) p1
  · exact p.elim
theorem fe_mut0 (hm : MutR Rvs G X id f) (slot : Slot "list" name id) (hty : typeOf (.builtin id) = pure (.type "method_descriptor")) (hN : X.N[i]? = some x := by rfl)
    (hv : Vis X.env.scope x := by first | exact Or.inl rfl | exact Or.inr (Or.inl rfl) | exact Or.inr (Or.inr rfl)) (hd : (x == ("__debug__" : Str)) = false := by decide) (hcd : (x == ("__classdict__" : Str)) = false := by decide)
    (hbase : attributeBase (.Name x p2) name X.env (eval (.Name x p2) X.env) = eval (.Name x p2) X.env := by rfl) (hline : (apos.endLine == pos.line) = true := by rfl) :
    FE G W X (.Call (.Attribute (.Name x p2) name apos) [] [] pos) (dMut i f dNil) := fun T => by
  obtain ⟨r, hr, q⟩ := hm
  refine PE.plus (pe_bm0 PySem.F.plainAttrs_list slot hty hr (pe_var hN hv hd hcd) hbase hline) fun σ H Q z h => ?_
  obtain ⟨A, sl, s, p⟩ := h z
  unfold dMut at p
  split at p
  · rename_i hi
    obtain ⟨ys, hy⟩ := isM_get hi
    obtain ⟨a, vs, h1, h2, h3, h4⟩ := s.mu i ys hy
    exact ⟨_, h2, .inl ⟨rfl, vs, SqL.of h3⟩, mutEnd_ok (id := id) q s h1 (fun ds e => by cases e; exact .nil) p⟩
  · exact p.elim
theorem fe_append (ha : FA G W X (e :: es) ds) (hN : X.N[i]? = some x := by rfl)
    (hv : Vis X.env.scope x := by first | exact Or.inl rfl | exact Or.inr (Or.inl rfl) | exact Or.inr (Or.inr rfl)) (hd : (x == ("__debug__" : Str)) = false := by decide) (hcd : (x == ("__classdict__" : Str)) = false := by decide)
    (hbase : attributeBase (.Name x p2) "append" X.env (eval (.Name x p2) X.env) = eval (.Name x p2) X.env := by rfl)
    (hfew : ((backTo pos (starEach (e :: es) X.env)).all (fun x => !x.1) && (backToKw pos (keywordEach [] X.env)).all (fun x => x.1.isSome)
      && decide ((e :: es).length + ([] : List Keyword).length + (if ([] : List Keyword).isEmpty then 0 else 1) < 30)) = true := by rfl)
    (hline : (apos.endLine == pos.line) = true := by rfl) (hs : starEach (e :: es) X.env = (false, eval e X.env) :: starEach es X.env := by rfl) (hplain : (backTo pos (starEach es X.env)).any (·.1) = false := by rfl) :
    FE G W X (.Call (.Attribute (.Name x p2) "append" apos) (e :: es) [] pos) (dMut i mAppend ds) :=
  fe_mutV mut_append PySem.F.slot_list_append PySem.F.type_list_append ha hN hv hd hcd hbase hfew hline hs hplain
theorem fe_extend (ha : FA G W X (e :: es) ds) (hN : X.N[i]? = some x := by rfl)
    (hv : Vis X.env.scope x := by first | exact Or.inl rfl | exact Or.inr (Or.inl rfl) | exact Or.inr (Or.inr rfl)) (hd : (x == ("__debug__" : Str)) = false := by decide) (hcd : (x == ("__classdict__" : Str)) = false := by decide)
    (hbase : attributeBase (.Name x p2) "extend" X.env (eval (.Name x p2) X.env) = eval (.Name x p2) X.env := by rfl)
    (hfew : ((backTo pos (starEach (e :: es) X.env)).all (fun x => !x.1) && (backToKw pos (keywordEach [] X.env)).all (fun x => x.1.isSome)
      && decide ((e :: es).length + ([] : List Keyword).length + (if ([] : List Keyword).isEmpty then 0 else 1) < 30)) = true := by rfl)
    (hline : (apos.endLine == pos.line) = true := by rfl) (hs : starEach (e :: es) X.env = (false, eval e X.env) :: starEach es X.env := by rfl) (hplain : (backTo pos (starEach es X.env)).any (·.1) = false := by rfl) :
    FE G W X (.Call (.Attribute (.Name x p2) "extend" apos) (e :: es) [] pos) (dMutL i mExtend ds) :=
  fe_mutL mut_extend PySem.F.slot_list_extend PySem.F.type_list_extend ha hN hv hd hcd hbase hfew hline hs hplain
theorem fe_pop (hN : X.N[i]? = some x := by rfl)
    (hv : Vis X.env.scope x := by first | exact Or.inl rfl | exact Or.inr (Or.inl rfl) | exact Or.inr (Or.inr rfl)) (hd : (x == ("__debug__" : Str)) = false := by decide) (hcd : (x == ("__classdict__" : Str)) = false := by decide)
    (hbase : attributeBase (.Name x p2) "pop" X.env (eval (.Name x p2) X.env) = eval (.Name x p2) X.env := by rfl) (hline : (apos.endLine == pos.line) = true := by rfl) :
    FE G W X (.Call (.Attribute (.Name x p2) "pop" apos) [] [] pos) (dMut i mPop dNil) :=
  fe_mut0 mut_pop PySem.F.slot_list_pop PySem.F.type_list_pop hN hv hd hcd hbase hline
theorem fe_popAt (ha : FA G W X (e :: es) ds) (hN : X.N[i]? = some x := by rfl)
    (hv : Vis X.env.scope x := by first | exact Or.inl rfl | exact Or.inr (Or.inl rfl) | exact Or.inr (Or.inr rfl)) (hd : (x == ("__debug__" : Str)) = false := by decide) (hcd : (x == ("__classdict__" : Str)) = false := by decide)
    (hbase : attributeBase (.Name x p2) "pop" X.env (eval (.Name x p2) X.env) = eval (.Name x p2) X.env := by rfl)
    (hfew : ((backTo pos (starEach (e :: es) X.env)).all (fun x => !x.1) && (backToKw pos (keywordEach [] X.env)).all (fun x => x.1.isSome)
      && decide ((e :: es).length + ([] : List Keyword).length + (if ([] : List Keyword).isEmpty then 0 else 1) < 30)) = true := by rfl)
    (hline : (apos.endLine == pos.line) = true := by rfl) (hs : starEach (e :: es) X.env = (false, eval e X.env) :: starEach es X.env := by rfl) (hplain : (backTo pos (starEach es X.env)).any (·.1) = false := by rfl) :
    FE G W X (.Call (.Attribute (.Name x p2) "pop" apos) (e :: es) [] pos) (dMut i mPopAt ds) :=
  fe_mutV mut_popAt PySem.F.slot_list_pop PySem.F.type_list_pop ha hN hv hd hcd hbase hfew hline hs hplain
/-- x[i] = e, x a name's own list -/
def mSetIx (i : Nat) (dv di : Ev) : Sm := fun sl => (dv sl).to fun x sl1 => if isM sl1 i then (di sl1).to fun y sl2 => match x, sl2[i]?, getS sl2 y with
  | .v d, some (some (.m ys)), some (.int k) => match ixN ys.length k with
    | some j => .nx (sl2.set i (some (.m (ys.set j d))))
    | none => .bad
  | _, _, _ => .bad
  else .bad
theorem fs_setIx {spos : Pos} (hv' : FE G W X a da) (hi : FE G W X b db) (hN : X.N[i]? = some x := by rfl)
    (hv : Vis X.env.scope x := by first | exact Or.inl rfl | exact Or.inr (Or.inl rfl) | exact Or.inr (Or.inr rfl)) (hd : (x == ("__debug__" : Str)) = false := by decide) (hcd : (x == ("__classdict__" : Str)) = false := by decide)
    (ha : ∀ v, assign (.Subscript (.Name x p2) b p) X.env v = (do
      let ov ← holding [v] (eval (.Name x p2) X.env)
      let iv ← holding [v, ov] (eval b X.env)
      standAt p
      holding [v, ov, iv] (setItem ov iv v)
      release [v, ov, iv] []) := by intro _; rfl)
    (hs : swapsWithSole [.Subscript (.Name x p2) b p] a spos.line X.env = pure false := by rfl) (hw : swappedStores [.Subscript (.Name x p2) b p] a X.env = pure none := by rfl)
    (h1 : (assignEach [.Subscript (.Name x p2) b p] X.env).map (·.2) = [assign (.Subscript (.Name x p2) b p) X.env] := by rfl) :
    FS G W X (.Assign [.Subscript (.Name x p2) b p] a spos) (mSetIx i da db) := fun T =>
  PS.plus (ps_asg (hv' T) (pg_sub (pe_var hN hv hd hcd) (hi T) set_list ha) hs hw h1) fun D σ H z h hz => by
    obtain ⟨A, sl, s, p⟩ := h hz
    refine ⟨A, sl, s, to_post p fun x sl1 v H1 _ s1 k1 r1 p1 => ?_⟩
    split at p1
    · rename_i him
      obtain ⟨ys0, hy0⟩ := isM_get him
      obtain ⟨a0, vs0, h1, h2, h3, h4⟩ := s1.mu i ys0 hy0
      refine ⟨_, h2, fun hz => ⟨A, sl1, s1, to_post p1 fun y sl2 u H2 _ s2 k2 r2 p2 => ?_⟩⟩
      split at p2
      · rename_i d ys k e1 e2 _
        split at p2
        · rename_i j hj
          obtain ⟨b', vs, g1, g2, g3, g4⟩ := s2.mu i ys e1
          rw [h1] at g1; cases g1
          cases (Rl.of s2 r2 e2).int
          refine ⟨a0, vs, k, j, rfl, rfl, g3, by rw [← g4.length]; exact hj, fun hz' => ?_⟩
          obtain ⟨s3, k3⟩ := s2.write ⟨ys, e1⟩ h1 (Rvs.set (Rs.keep k2 r1) j g4) hz'
          exact p2 A σ _ s3
        · exact p2.elim
      · exact p2.elim
    · exact p1.elim
end
end F

set_option Elab.async false
set_option linter.all false
set_option maxRecDepth 100000
set_option maxHeartbeats 4000000
/-! ranges of ints of any size -/
namespace L2
open PySem PySem.Spec PyProof.Rows
theorem turn_long {P : Program} {w : World} {K : PySem.W.Frag} {tg : Expr} (it : Addr) (lo : Int) (n : Nat) : Turn P w K tg (Itr lo n) [it] it (fun i h => IsLongIter h it (lo + (i : Nat) * 1) ((n : Int) - (i : Nat)) 1) where
  mem := by simp
  obj := fun i h st b hb => by
    have e : b = it := by simpa using hb
    subst e
    exact ⟨_, st, fun v z => by
      have z' : Data.fields _ = Data.cell v := z
      cases z'⟩
  keep := fun i h h' st k => k it (by simp) _ st
  item := by
    intro X hP hw hK hc i pins s σ H E I hf st hg
    subst hP hw hK
    obtain ⟨f0, f1, f2, f3, f4, f5⟩ := hf it (by simp)
    have W := Walks.longrange (prog := X.prog) (w := X.w) (I.ok.hd hc) it lo 1 n
    refine W.item i s _ _ hg st fun v h' tk hv st' kk => ?_
    obtain ⟨t, rfl⟩ := hv
    have I1 : Inv X pins σ H { s with heap := h', toks := tk } := I.turned (fun b o hb e => kk b o (by simpa using hb) e) f0 f1 f3 f4 f5
    refine ⟨_, rfl, go_of (s := { s with heap := h', toks := tk }) (n := "longrange_iterator") st' rfl rfl (by decide) ⟨.int (lo + i), H, I1, ⟨t, ?_⟩, ⟨rfl, rfl⟩, st', fun b hb => (hf b hb).1⟩⟩
    rw [Int.mul_one]
  done := by
    intro X hP hw hK hc i pins s σ H E I hf st hg
    subst hP hw hK
    obtain ⟨f0, f1, f2, f3, f4, f5⟩ := hf it (by simp)
    exact wpAny_pyNext_long_end (I.ok.hd hc) st (by have : n ≤ i := hg; omega) fun h' eb => ⟨rfl, I.turned (t' := s.toks) (fun b o hb e => eb b o hb e) f0 f1 f3 f4 f5⟩
  self := fun _ _ _ _ _ st h => wpAny_pyIter_longiter st h
section
variable {X : Cx} {tg : Expr}
theorem range_any {pins : List (Addr × Obj)} {σ : St} {H : Hp} {s : Shared} {R : It → Hp → Prop} {E : Value → Shared → Prop} {lo hi : Int} {t u v : Tok} {tk : Nat} (I : Inv X pins σ H s)
    (q : R (Itr lo (hi - lo).toNat) H) : wpAny (model X.prog X.w) X.A (pyIter (.ref s.heap.objs.size)) (PIE X pins σ tg R) E { s with heap := s.heap.push { cls := .type "range", data := .fields #[.int lo t, .int hi u, .int 1 v] }, toks := tk } := by
  have I1 : Inv X pins σ H { s with heap := s.heap.push { cls := .type "range", data := .fields #[.int lo t, .int hi u, .int 1 v] }, toks := tk } := I.kept fun b o e => Heap.get?_push_of_some _ e
  have e1 : lo + ((0 : Nat) : Int) * 1 = lo := by simp
  have e2 : (((hi - lo).toNat : Nat) : Int) - ((0 : Nat) : Int) = Builtin.Range.rangeSize lo hi 1 := by rw [rangeSize_one]; split <;> omega
  have fp : ∀ b ∈ [(s.heap.push { cls := .type "range", data := .fields #[.int lo t, .int hi u, .int 1 v] }).objs.size], FpOk X pins H b := fun b hb => by
    have e : b = (s.heap.push { cls := .type "range", data := .fields #[.int lo t, .int hi u, .int 1 v] }).objs.size := by simpa using hb
    subst e
    exact I1.fpOk (Nat.le_refl _) (I1.hok.fresh (Nat.le_refl _))
  by_cases hsm : Builtin.Range.small lo hi 1 = true
  · refine wpAny_pyIter_range (IsRange.new ..) hsm ?_
    refine ⟨(s.heap.push { cls := .type "range", data := .fields #[.int lo t, .int hi u, .int 1 v] }).objs.size, [(s.heap.push { cls := .type "range", data := .fields #[.int lo t, .int hi u, .int 1 v] }).objs.size], _, _, H, rfl,
      I1.kept (t' := tk) fun b o e => Heap.get?_push_of_some _ e, turn_range _ lo (hi - lo).toNat, ?_, fp, q⟩
    show IsRangeIter _ _ (lo + ((0 : Nat) : Int) * 1) ((((hi - lo).toNat : Nat) : Int) - ((0 : Nat) : Int)) 1
    rw [e1, e2]
    exact Heap.get?_push_size _ rfl
  · refine wpAny_pyIter_longrange (IsRange.new ..) (by simpa using hsm) ?_
    refine ⟨(s.heap.push { cls := .type "range", data := .fields #[.int lo t, .int hi u, .int 1 v] }).objs.size, [(s.heap.push { cls := .type "range", data := .fields #[.int lo t, .int hi u, .int 1 v] }).objs.size], _, _, H, rfl,
      I1.kept (t' := tk) fun b o e => Heap.get?_push_of_some _ e, turn_long _ lo (hi - lo).toNat, ?_, fp, q⟩
    show IsLongIter _ _ (lo + ((0 : Nat) : Int) * 1) ((((hi - lo).toNat : Nat) : Int) - ((0 : Nat) : Int)) 1
    rw [e1, e2]
    exact Heap.get?_push_size _ rfl
def iRngA1 (ta : TA) : TI := fun σ H R => ta σ H fun vs H1 => ∃ j : Int, vs = [.int j] ∧ R (Itr 0 j.toNat) H1
def iRngA2 (ta : TA) : TI := fun σ H R => ta σ H fun vs H1 => ∃ i j : Int, vs = [.int i, .int j] ∧ R (Itr i (j - i).toNat) H1
theorem pi_rangeA1 {a : Expr} {ta : TA} {p pos : Pos} (hg : Gl X "range") (hm : X.mg "range" = none) (ha : PA X [a] ta) (hs : starEach [a] X.env = [(false, eval a X.env)] := by rfl) : PI X tg (.Call (.Name "range" p) [a] [] pos) (iRngA1 ta) := by
  refine ⟨fun pins s σ H R I h => ?_⟩
  refine Call_ (ld_blt I hg hm boot_range (PyProof.Rows.callWith_type1 (thn (ha.run pos pins s σ H _ I h) fun us s1 ⟨vs, H1, I1, r1, q1⟩ => ?_) hs rfl))
  obtain ⟨j, e, q⟩ := q1
  subst e
  cases r1 with
  | cons r rr =>
    cases rr
    obtain ⟨t, rfl⟩ := r
    exact call_range_1 (range_any I1 (by simpa using q))
theorem pi_rangeA2 {a b : Expr} {ta : TA} {p pos : Pos} (hg : Gl X "range") (hm : X.mg "range" = none) (ha : PA X [a, b] ta) (hs : starEach [a, b] X.env = [(false, eval a X.env), (false, eval b X.env)] := by rfl) (hs2 : starEach [b] X.env = [(false, eval b X.env)] := by rfl) :
    PI X tg (.Call (.Name "range" p) [a, b] [] pos) (iRngA2 ta) := by
  refine ⟨fun pins s σ H R I h => ?_⟩
  refine Call_ (ld_blt I hg hm boot_range (PyProof.Rows.callWith_type1 (thn (ha.run pos pins s σ H _ I h) fun us s1 ⟨vs, H1, I1, r1, q1⟩ => ?_) (by rw [hs, hs2]) (by rw [hs2]; rfl)))
  obtain ⟨i, j, e, q⟩ := q1
  subst e
  cases r1 with
  | cons r rr =>
    cases rr with
    | cons r' rr =>
      cases rr
      obtain ⟨t, rfl⟩ := r
      obtain ⟨t', rfl⟩ := r'
      exact call_range_2 (range_any I1 q)
end
end L2

set_option Elab.async false
set_option linter.all false
set_option maxRecDepth 100000
set_option maxHeartbeats 4000000
/-! enumerate(t), t a tuple -/
namespace F
open PySem PySem.Spec PyProof.Rows L2
theorem new_enumT (t : Addr) (ys : Array Value) (k : Nat) (dd : Option Addr) (ss : Array (Option Value)) :
    Meets (Builtin.«enumerate.__new__» ⟨[.type "enumerate", .ref t], []⟩) (fun _ R u => u.heap.get? t = some { cls := .type "tuple", dict := dd, data := .seq ys k, slots := ss } ∧
      R (.ok (.ret (.ref (u.heap.push { cls := .type "tuple_iterator", data := .fields #[.ref t, .int 0 0] }).objs.size)))
        { u with heap := (u.heap.push { cls := .type "tuple_iterator", data := .fields #[.ref t, .int 0 0] }).push { cls := .type "enumerate", data := .fields #[.none, .bool false, .ref u.heap.objs.size, rawInt 0, .none, .none] } }) :=
  .of_wp fun prg wo B R u q => by
    obtain ⟨hp, g, d, tk, os⟩ := u; obtain ⟨ht, q⟩ := q
    have sub := sub_enumerate
    have hT : Heap.IsTuple (Shared.heap ⟨hp, g, d, tk, os⟩) t ys := ⟨_, ht, rfl, k, rfl⟩
    wp_walk using AutoSeq1.wpAny_loadPart' ht
    refine wpAny_stack_any fun st => wpAny_pure ?_
    split
    · rename_i c _ _ _ _ _
      cases (c == Value.type "enumerate")
      · wp_walk using AutoSeq1.wpAny_loadPart' ht, wpAny_pyIter_tuple hT
        exact ⟨_, rfl, q⟩
      · wp_walk using AutoSeq1.wpAny_loadPart' ht, wpAny_pyIter_tuple hT
        exact ⟨_, rfl, q⟩
    · wp_walk using AutoSeq1.wpAny_loadPart' ht, wpAny_pyIter_tuple hT
      exact ⟨_, rfl, q⟩
theorem call_enumT {prg : Program} {wo : World} {B : Around} {E : Value → Shared → Prop} {u : Shared} {t : Addr} {ys : Array Value} {Q : Value → Shared → Prop} (hT : u.heap.IsTuple t ys)
    (q : ∀ h', IsEnum h' (u.heap.objs.size + 1) u.heap.objs.size 0 .none → h'.IsTupleIter u.heap.objs.size t 0 →
      (∀ b o, u.heap.get? b = some o → h'.get? b = some o) → Q (.ref (u.heap.objs.size + 1)) { u with heap := h' }) :
    wpAny (model prg wo) B (call (.type "enumerate") [.ref t]) Q E u := by
  obtain ⟨⟨c, dd, dt, ss⟩, ht, hc, k, hd⟩ := hT
  have hc' : c = .type "tuple" := hc
  have hd' : dt = .seq ys k := hd
  subst hc' hd'
  refine callType_new PySem.F.called_enumerate (by decide) (PySem.F.typeCall_enumerate_1 _) (PySem.F.newCall_enumerate_1 _) (fun b => PySem.F.args_object_init_2 b _) PySem.F.entry_enumerate_new (new_enumT t ys k dd ss) ⟨ht, ?_⟩
  have z1 : (u.heap.push { cls := .type "tuple_iterator", data := .fields #[.ref t, .int 0 0] }).objs.size = u.heap.objs.size + 1 := Heap.size_push ..
  show _ ∧ _
  rw [z1]
  have e1 : IsEnum ((u.heap.push { cls := .type "tuple_iterator", data := .fields #[.ref t, .int 0 0] }).push { cls := .type "enumerate", data := .fields #[.none, .bool false, .ref u.heap.objs.size, rawInt 0, .none, .none] }) (u.heap.objs.size + 1) u.heap.objs.size 0 .none := by
    have g := Heap.get?_push_size (u.heap.push { cls := .type "tuple_iterator", data := .fields #[.ref t, .int 0 0] }) (o := { cls := .type "enumerate", data := .fields #[.none, .bool false, .ref u.heap.objs.size, rawInt 0, .none, .none] }) rfl
    rw [z1] at g; exact g
  exact ⟨⟨_, e1, rfl⟩, q _ e1 ⟨_, Heap.get?_push_of_some _ (Heap.get?_push_size _ rfl), rfl, rfl⟩ fun b o x => Heap.get?_push_of_some _ (Heap.get?_push_of_some _ x)⟩
theorem end_enumT {prg : Program} {wo : World} {B : Around} {E : Value → Shared → Prop} {u : Shared} {e it t : Addr} {i : Nat} {ys : Array Value} {old : Value} {Q : Option Value → Shared → Prop} (hh : B.handled = none)
    (he : IsEnum u.heap e it i old) (hit : u.heap.IsTupleIter it t i) (ht : u.heap.IsTuple t ys) (hy : ys[i]? = none) (q : ∀ h', Heap.ExtBut it u.heap h' → Q none { u with heap := h' }) : wpAny (model prg wo) B (pyNext (.ref e)) Q E u := by
  have ty : u.TypeIs (.ref e) "enumerate" := ⟨_, he, rfl⟩
  unfold pyNext
  refine wpAny_bind (wpAny_attempt (wpAny_callSpecial?_slot (name := Str.ofString "__next__") ty PySem.F.slot_enumerate_next (wpAny_call_entry PySem.F.slot_enumerate_next ty PySem.F.entry_enumerate_next ?_ (PySem.F.args_enumerate_next_1 _))))
  show wpAny _ _ (field (.ref e) 2 >>= _) _ _ _
  refine wpAny_bind (wpAny_field he rfl (x := .ref it) rfl ?_)
  refine wpAny_bind (wpAny_nextOf_tuple_end hh hit ht hy fun h' x he' hx' => ?_)
  obtain ⟨o, ho, hc⟩ := hx'
  exact wpAny_bind (wpAny_isInstance (T := "StopIteration") (b := true) ⟨o, ho, hc⟩ isSubtype_stop (wpAny_pure (q _ he')))
/-- the tuple at a, each item in a new pair -/
def ItT (K : PySem.W.Frag) (a : Addr) : It :=
  ⟨fun i H => ∃ (xs : List V) (x : V), SqT K H a xs ∧ xs[i]? = some x, fun i H v H' => ∃ T x, v = .ref T ∧ H T = none ∧ H' = upd H T (.tup [.int (i : Nat), x]) ∧ ∀ xs, SqT K H a xs → xs[i]? = some x, fun i H => ∃ xs : List V, SqT K H a xs ∧ xs.length ≤ i⟩
theorem turn_enumT {P : Program} {w : World} {K : PySem.W.Frag} {elts : List Expr} {kk : Nat} {tpos : Pos} (a e it : Addr) :
    Turn P w K (.Tuple elts kk tpos) (ItT K a) [e, it] e (fun i h => (∃ old, IsEnum h e it ((i : Nat) : Int) old) ∧ h.IsTupleIter it a i ∧ e ≠ it ∧ a ≠ it ∧ e ≠ a) where
  mem := List.mem_cons_self
  obj := fun i h st b hb => by
    obtain ⟨⟨old, he⟩, ⟨o, ho, hc, hd⟩, _⟩ := st
    have hb' : b = e ∨ b = it := by simpa using hb
    rcases hb' with rfl | rfl
    · exact ⟨_, he, fun v q => nomatch q⟩
    · exact ⟨o, ho, fun v q => by rw [hd] at q; cases q⟩
  keep := fun i h h' st k => ⟨st.1.imp fun old he => k e List.mem_cons_self _ he, st.2.1.at fun o q => k it (by simp) o q, st.2.2⟩
  item := by
    intro X hP hw hK hc i pins s σ H E I hf st hg
    cases hP; cases hw; cases hK
    obtain ⟨⟨old, he⟩, hit, n1, n2, n3⟩ := st
    obtain ⟨xs, x, hq, hx⟩ := hg
    obtain ⟨its, rv, p, hz⟩ := I.tuple hq
    obtain ⟨u, hu, ru⟩ := rv.get hx
    have hel : e < s.heap.objs.size := Heap.lt_size he
    have hil : it < s.heap.objs.size := by obtain ⟨_, q, _⟩ := hit; exact Heap.lt_size q
    have D := Draws.tuple (prog := X.prog) (w := X.w) (A := X.A.in1) (I.ok.hd hc) it a n2 its.toArray
    have hi : i < its.toArray.size := by
      have : its[i]? = some u := hu
      have := List.getElem?_eq_some_iff.mp this
      simpa using this.1
    have tt : s.heap.IsTuple a its.toArray := by obtain ⟨o, h1, h2, k, h3⟩ := p; exact ⟨o, h1, h2, k, h3⟩
    refine wpAny_pyNext_enum_itemD D he ⟨hit, tt⟩ hi n1 (by simp [n1, n3]) fun v h' tk hv ho st' hT hsz hk => ?_
    have hv' : v = u := by
      have h1 : its.toArray[i]? = some u := by simpa using hu
      rw [h1] at hv; exact (Option.some.inj hv).symm
    subst hv'
    refine ⟨_, rfl, wpAny_letOwnedTupleGo_enum (s := { s with heap := h', toks := tk + 1 }) ho fun h2 he' sb => ?_⟩
    have hT2 : h2.get? s.heap.objs.size = some { cls := .type "tuple", data := .seq #[.int i tk, v] } := (sb.2 _ (Nat.ne_of_gt hel)).trans hT
    have new : ObjOk X.prog X.w (upd H s.heap.objs.size (.tup [.int (i : Nat), x])) h2 s.heap.objs.size (.tup [.int (i : Nat), x]) :=
      ⟨by show 2 ≤ sizeLine; decide, [.int i tk, v], .cons ⟨_, rfl⟩ (.cons ru .nil), ⟨_, hT2, rfl, _, rfl⟩⟩
    have J : Inv X pins σ (upd H s.heap.objs.size (.tup [.int (i : Nat), x])) { s with heap := h2, toks := tk + 1 } :=
      I.turnedNew (ch := [e, it]) (fun b ob hb q => (sb.2 b (fun z => hb (by simp [z]))).trans (hk b ob (fun z => hb (by simp [z])) (fun z => hb (by simp [z])) q)) hf (Nat.le_refl _) new
    refine ⟨.ref s.heap.objs.size, _, J, rfl, ⟨_, x, rfl, I.hok.fresh (Nat.le_refl _), rfl, fun ys hy => by rw [I.tuple_inj hy hq]; exact hx⟩, ⟨⟨v, ?_⟩, st'.1.at fun o q => (sb.2 it (Ne.symm n1)).trans q, n1, n2, n3⟩, fun b hb => ?_⟩
    · rw [show ((i + 1 : Nat) : Int) = (i : Int) + 1 from by omega]; exact he'
    · have hlt : b < s.heap.objs.size := by
        have hb' : b = e ∨ b = it := by simpa using hb
        rcases hb' with rfl | rfl
        · exact hel
        · exact hil
      rw [upd_ne (Nat.ne_of_lt hlt)]
      exact (hf b hb).1
  done := by
    intro X hP hw hK hc i pins s σ H E I hf st hg
    cases hP; cases hw; cases hK
    obtain ⟨⟨old, he⟩, hit, n1, n2, n3⟩ := st
    obtain ⟨xs, hq, hx⟩ := hg
    obtain ⟨its, rv, p, hz⟩ := I.tuple hq
    obtain ⟨f0, f1, f2, f3, f4, f5⟩ := hf it (by simp)
    have tt : s.heap.IsTuple a its.toArray := by obtain ⟨o, h1, h2, k, h3⟩ := p; exact ⟨o, h1, h2, k, h3⟩
    have hl := rv.length
    exact end_enumT (I.ok.hd hc) he hit tt (by simp; omega) fun h' eb => ⟨rfl, I.turned (t' := s.toks) (fun b o hb q => eb b o hb q) f0 f1 f3 f4 f5⟩
  self := fun A i s Q E st h => st.1.elim fun _ he => wpAny_pyIter_enum he h
def iEnumA (K : PySem.W.Frag) (ta : TA) : TI := fun σ H R => ta σ H fun vs H1 => ∃ a xs, vs = [.ref a] ∧ ((SqL K H1 a xs ∧ R (Ite K a) H1) ∨ (SqT K H1 a xs ∧ R (ItT K a) H1))
theorem pi_enumA {X : Cx} {e : Expr} {ta : TA} {p pos tpos : Pos} {elts : List Expr} {kk : Nat} (hg : Gl X "enumerate") (hm : X.mg "enumerate" = none) (ha : PA X [e] ta) (hs : starEach [e] X.env = [(false, eval e X.env)] := by rfl) :
    PI X (.Tuple elts kk tpos) (.Call (.Name "enumerate" p) [e] [] pos) (iEnumA X.K ta) := ⟨fun pins s σ H R I h => by
  refine Call_ (ld_blt I hg hm boot_enumerate (PyProof.Rows.callWith_type1 (thn (ha.run pos pins s σ H _ I h) fun us s1 ⟨vs, H1, J, r1, q1⟩ => ?_) hs rfl))
  obtain ⟨a, xs, rfl, q1⟩ := q1
  obtain ⟨v, rfl, rx⟩ := vals1 r1
  cases rx
  have fp : ∀ b, b ∈ [s1.heap.objs.size + 1, s1.heap.objs.size] → FpOk X pins H1 b := fun b hb => by
    have le : s1.heap.objs.size ≤ b := by
      rcases List.mem_cons.mp hb with z | z
      · omega
      · have := List.mem_singleton.mp z; omega
    exact J.fpOk le (J.hok.fresh le)
  rcases q1 with ⟨hq, q⟩ | ⟨hq, q⟩
  · obtain ⟨its, rv, p', hz⟩ := J.list hq
    exact call_enumerate_list p'.isList fun h' he hit hsz hk => wpAny_pyIter_enum he
      ⟨s1.heap.objs.size + 1, [s1.heap.objs.size + 1, s1.heap.objs.size], _, _, H1, rfl, J.kept (t' := s1.toks) hk, turn_enum a (s1.heap.objs.size + 1) s1.heap.objs.size, ⟨⟨.none, he⟩, hit, Nat.succ_ne_self _⟩, fp, q⟩
  · obtain ⟨its, rv, p', hz⟩ := J.tuple hq
    obtain ⟨o, h1, h2, k, h3⟩ := p'
    have la : a < s1.heap.objs.size := Heap.lt_size h1
    exact call_enumT ⟨o, h1, h2, k, h3⟩ fun h' he hit hk => wpAny_pyIter_enum he
      ⟨s1.heap.objs.size + 1, [s1.heap.objs.size + 1, s1.heap.objs.size], _, _, H1, rfl, J.kept (t' := s1.toks) hk, turn_enumT a (s1.heap.objs.size + 1) s1.heap.objs.size, ⟨⟨.none, he⟩, hit, Nat.succ_ne_self _, Nat.ne_of_lt la, Nat.ne_of_gt (Nat.lt_succ_of_lt la)⟩, fp, q⟩⟩
theorem walk_enumT {K : PySem.W.Frag} {a : Addr} {xs : List V} : Walk (ItT K a) xs.length (fun H => SqT K H a xs) (YPair (fun i => some (.int (i : Nat))) (fun i => xs[i]?)) :=
  ⟨fun i _ hi q => ⟨xs, xs[i], q, List.getElem?_eq_getElem hi⟩, fun _ q => ⟨xs, q, Nat.le_refl _⟩, fun i H v H' _ q ⟨T, x, h1, h2, h3, h4⟩ => ⟨T, .int (i : Nat), x, h1, h2, h3, rfl, h4 xs q⟩⟩
end F

set_option Elab.async false
set_option linter.all false
set_option maxRecDepth 100000
set_option maxHeartbeats 4000000
namespace F
open PySem PySem.Spec PyProof.Rows L2

/-! ### targets -/
inductive Tg where
  | nm (i : Nat) | tp (ts : List Tg) | ul (ts : List Tg)
mutual
def bindT : Tg → D → Sl → Option Sl
  | .nm i, d, sl => some (sl.set i (some (.v d)))
  | .tp ts, .tup ds, sl => bindTs ts ds sl
  | .ul ts, .lst ds, sl => bindTs ts ds sl
  | _, _, _ => none
def bindTs : List Tg → List D → Sl → Option Sl
  | [], [], sl => some sl
  | t :: ts, d :: ds, sl => match bindT t d sl with
    | some sl' => bindTs ts ds sl'
    | none => none
  | _, _, _ => none
end
mutual
def Tg.slots : Tg → List Nat
  | .nm i => [i]
  | .tp ts => Tg.slotss ts
  | .ul ts => Tg.slotss ts
def Tg.slotss : List Tg → List Nat
  | [] => []
  | t :: ts => Tg.slots t ++ Tg.slotss ts
end
/-- all but the slots ns are as they were -/
def Alike (ns : List Nat) (σ σ' : St) : Prop := σ'.length = σ.length ∧ ∀ j, j ∉ ns → σ'[j]? = σ[j]?
theorem Alike.refl (ns : List Nat) (σ : St) : Alike ns σ σ := ⟨rfl, fun _ _ => rfl⟩
def tTg (G : Glue) (T : Act) (t : Tg) : TG := fun v σ H Q => HSz H → ∃ A sl d sl', Sr G T A sl σ H ∧ Rv G (T.N A) H d v ∧ bindT t d sl = some sl' ∧ ∀ σ', Alike t.slots σ σ' → Sr G T A sl' σ' H → Q σ' H
def tTgs (G : Glue) (T : Act) (ts : List Tg) : TGs := fun vs σ H Q => HSz H → ∃ A sl ds sl', Sr G T A sl σ H ∧ Rvs G (T.N A) H ds vs ∧ bindTs ts ds sl = some sl' ∧ ∀ σ', Alike (Tg.slotss ts) σ σ' → Sr G T A sl' σ' H → Q σ' H
def FG (G : Glue) (X : Cx) (e : Expr) (t : Tg) : Prop := ∀ T, PG X e (tTg G T t)
def FGs (G : Glue) (X : Cx) (es : List Expr) (ts : List Tg) : Prop := ∀ T, PGs X es (tTgs G T ts)
section
variable {G : Glue} {W : WX} {X : Cx} {e : Expr} {es : List Expr} {pos : Pos}
theorem PG.plus {t t' : TG} (h : PG X e t) (f : ∀ v σ H Q, HSz H → t' v σ H Q → t v σ H Q) : PG X e t' := ⟨fun pins s σ H v u Q I r q => h.run pins s σ H v u Q I r (f v σ H Q (Inv.hsz I) q)⟩
theorem PGs.plus {t t' : TGs} (h : PGs X es t) (f : ∀ v σ H Q, HSz H → t' v σ H Q → t v σ H Q) : PGs X es t' := ⟨fun pins s σ H v u Q I r q => h.run pins s σ H v u Q I r (f v σ H Q (Inv.hsz I) q)⟩
theorem fg_name {i : Nat} {x : Str} (hN : X.N.Nodup) (hi : X.N[i]? = some x := by rfl) (hx : Loc X.env.scope x := by first | exact Or.inl rfl | exact Or.inr rfl) (hf : X.fn x = true ∨ X.env.scope.names.lookup x = some .local := by first | exact .inl rfl | exact .inr rfl | assumption) :
    FG G X (.Name x pos) (.nm i) := fun T => PG.plus (pg_name hN hi hx hf) fun v σ H Q z h => by
  obtain ⟨A, sl, d, sl', s, r, e, k⟩ := h z
  cases e
  refine k _ ⟨by simp, fun j hj => ?_⟩ (s.set i r)
  rw [List.getElem?_set_ne (by simp [Tg.slots] at hj; omega)]
theorem fgs_nil : FGs G X [] [] := fun T => PGs.plus pgs_nil fun v σ H Q z h => by
  obtain ⟨A, sl, d, sl', s, r, e, k⟩ := h z
  cases d with
  | nil => cases e; cases r; exact ⟨rfl, k σ (.refl _ _) s⟩
  | cons => cases e
theorem fgs_cons {t : Tg} {ts : List Tg} (h1 : FG G X e t) (h2 : FGs G X es ts) (hs : (assignEach (e :: es) X.env).map (·.2) = assign e X.env :: (assignEach es X.env).map (·.2) := by rfl) : FGs G X (e :: es) (t :: ts) := fun T =>
  PGs.plus (pgs_cons (h1 T) (h2 T) hs) fun v σ H Q z h => by
    obtain ⟨A, sl, ds, sl', s, r, e, k⟩ := h z
    cases ds with
    | nil => cases e
    | cons d ds =>
      cases r with
      | cons r1 r2 =>
        simp only [bindTs] at e
        split at e
        · rename_i sl1 e1
          exact ⟨_, _, rfl, fun _ => ⟨A, sl, d, sl1, s, r1, e1, fun σ' al s' _ => ⟨A, sl1, ds, sl', s', r2, e, fun σ2 al2 s2 => k σ2 ⟨al2.1.trans al.1, fun j hj => by simp only [Tg.slotss, List.mem_append, not_or] at hj; rw [al2.2 j hj.2, al.2 j hj.1]⟩ s2⟩⟩⟩
        · cases e
theorem fg_tup {k : Nat} {ts : List Tg} {n : Nat} (h : FGs G X es ts) (hl : ts.length = n) (hK : X.K = G.K := by rfl) (hc : X.calm = true := by rfl)
    (hn : (assignEach es X.env).length = n := by rfl) (hst : (assignEach es X.env).findIdx? (·.1) = none := by rfl) : FG G X (.Tuple es k pos) (.tp ts) := fun T =>
  PG.plus (pg_tup hc (h T) hn hst) fun v σ H Q z h => by
    obtain ⟨A, sl, d, sl', s, r, e, q⟩ := h z
    match d, r, e with
    | .tup ds, r, e =>
      obtain ⟨a, vs, rfl, sq, rv⟩ := tupK hK (Or.inl r)
      have len : ∀ (ts : List Tg) (ds : List D) (sl sl' : Sl), bindTs ts ds sl = some sl' → ds.length = ts.length := by
        intro ts
        induction ts with
        | nil => intro ds sl sl' e; cases ds with
          | nil => rfl
          | cons => cases e
        | cons t ts ih => intro ds sl sl' e; cases ds with
          | nil => cases e
          | cons d ds =>
            simp only [bindTs] at e
            split at e
            · simp [ih _ _ _ e]
            · cases e
      exact ⟨a, vs, rfl, sq, by rw [← rv.length, len ts ds sl sl' e]; exact hl, fun _ => ⟨A, sl, ds, sl', s, rv, e, fun σ' al s' => q σ' (by simpa only [Tg.slots] using al) s'⟩⟩
theorem fg_unl {k : Nat} {ts : List Tg} {n : Nat} (h : FGs G X es ts) (hl : ts.length = n) (hK : X.K = G.K := by rfl) (hc : X.calm = true := by rfl)
    (hn : (assignEach es X.env).length = n := by rfl) (hst : (assignEach es X.env).findIdx? (·.1) = none := by rfl) : FG G X (.Tuple es k pos) (.ul ts) := fun T =>
  PG.plus (pg_unl hc (h T) hn hst) fun v σ H Q z h => by
    obtain ⟨A, sl, d, sl', s, r, e, q⟩ := h z
    match d, r, e with
    | .lst ds, r, e =>
      obtain ⟨a, vs, rfl, sq, rv⟩ := Rl.lst (Or.inl r)
      have len : ∀ (ts : List Tg) (ds : List D) (sl sl' : Sl), bindTs ts ds sl = some sl' → ds.length = ts.length := by
        intro ts
        induction ts with
        | nil => intro ds sl sl' e; cases ds with
          | nil => rfl
          | cons => cases e
        | cons t ts ih => intro ds sl sl' e; cases ds with
          | nil => cases e
          | cons d ds =>
            simp only [bindTs] at e
            split at e
            · simp [ih _ _ _ e]
            · cases e
      exact ⟨a, vs, rfl, SqL.of sq, by rw [← rv.length, len ts ds sl sl' e]; exact hl, fun _ => ⟨A, sl, ds, sl', s, rv, e, fun σ' al s' => q σ' (by simpa only [Tg.slots] using al) s'⟩⟩
def mAsg (t : Tg) (d : Ev) : Sm := fun sl => (d sl).to fun x sl1 => match x with
  | .v d => match bindT t d sl1 with
    | some sl2 => .nx sl2
    | none => .bad
  | .r _ => .bad
theorem fs_asg {tg a : Expr} {t : Tg} {da : Ev} (he : FE G W X a da) (hg : FG G X tg t) (hs : swapsWithSole [tg] a pos.line X.env = pure false := by rfl) (hw : swappedStores [tg] a X.env = pure none := by rfl)
    (h1 : (assignEach [tg] X.env).map (·.2) = [assign tg X.env] := by rfl) : FS G W X (.Assign [tg] a pos) (mAsg t da) := fun T =>
  PS.plus (ps_asg (he T) (hg T) hs hw h1) fun D σ H z h hz => by
    obtain ⟨A, sl, s, p⟩ := h hz
    refine ⟨A, sl, s, to_post p fun x sl1 v H1 _ s1 k1 r1 p1 => ?_⟩
    match x, r1, p1 with
    | .v d, r1, p1 =>
      dsimp only at p1
      split at p1
      · rename_i sl2 e
        exact fun _ => ⟨A, sl1, d, sl2, s1, r1, e, fun σ' _ s' _ => p1 A σ' H1 s'⟩
      · exact p1.elim
end

/-! ### what is walked -/
/-- J gives ds, one after another, while hv is held -/
def WkD (G : Glue) (hv : List (D × V)) (J : It) (ds : List D) : Prop :=
  ∃ Gd : Hp → Prop, (∀ N H, (∀ p ∈ hv, Rv G N H p.1 p.2) → Gd H) ∧
    Walk J ds.length Gd fun i H x H' => Same H H' ∧ ∀ N : Addr → Prop, (∀ p, H p = none → ¬ N p) → (∀ p ∈ hv, Rv G N H p.1 p.2) → ∃ d, ds[i]? = some d ∧ Rv G N H' d x
def tIt (G : Glue) (W : WX) (T : Act) (it : Lv) : TI := fun σ H R => HSz H → ∃ A sl, Sr G T A sl σ H ∧ PostG (fun H' (ds : List D) (q : It × List (D × V)) => WkD G q.2 q.1 ds ∧ (∀ p ∈ q.2, Rv G (T.N A) H' p.1 p.2) ∧ ds.length ≤ sizeLine) G W T A σ H (it sl) fun q H' => R q.1 H'
def FI (G : Glue) (W : WX) (X : Cx) (tg iter : Expr) (it : Lv) : Prop := ∀ T, PI X tg iter (tIt G W T it)
/-- the items of a list, a tuple -/
def iSeq (a : Ev) : Lv := fun sl => (a sl).bind fun x sl1 => match x with
  | .v (.lst ds) => .ok ds sl1
  | .v (.tup ds) => .ok ds sl1
  | .v (.tpn ds) => .ok ds sl1
  | _ => .bad
def iLst (a : Ev) : Lv := fun sl => (a sl).bind fun x sl1 => match x with
  | .v (.lst ds) => .ok ds sl1
  | _ => .bad
def iTp (a : Ev) : Lv := fun sl => (a sl).bind fun x sl1 => match x with
  | .v (.tup ds) => .ok ds sl1
  | _ => .bad
def rgD (a b : Int) : List D := (List.range (b - a).toNat).map fun i => .int (a + (i : Nat))
def rgOk (a b : Int) : Bool := fits (b - a).toNat
def iRange1 (a : Ev) : Lv := fun sl => (a sl).bind fun x sl1 => match getS sl1 x with
  | some (.int n) => if rgOk 0 n then .ok (rgD 0 n) sl1 else .bad
  | _ => .bad
def iRange2 (a b : Ev) : Lv := fun sl => (a sl).bind fun x sl1 => (b sl1).bind fun y sl2 => match getS sl2 x, getS sl2 y with
  | some (.int i), some (.int j) => if rgOk i j then .ok (rgD i j) sl2 else .bad
  | _, _ => .bad
def zipD (xs ys : List D) : List D := List.zipWith (fun x y => .tup [x, y]) xs ys
def iZip (a b : Ev) : Lv := fun sl => (a sl).bind fun x sl1 => (b sl1).bind fun y sl2 => match x, y with
  | .v (.lst xs), .v (.lst ys) => .ok (zipD xs ys) sl2
  | .v (.tup xs), .v (.tup ys) => .ok (zipD xs ys) sl2
  | .v (.tpn xs), .v (.tup ys) => .ok (zipD xs ys) sl2
  | .v (.tup xs), .v (.tpn ys) => .ok (zipD xs ys) sl2
  | .v (.tpn xs), .v (.tpn ys) => .ok (zipD xs ys) sl2
  | _, _ => .bad
def enumFrom (n : Nat) : List D → List D
  | [] => []
  | x :: xs => .tup [.int n, x] :: enumFrom (n + 1) xs
def iEnumL (a : Ev) : Lv := fun sl => (a sl).bind fun x sl1 => match x with
  | .v (.lst xs) => .ok (enumFrom 0 xs) sl1
  | .v (.tup xs) => .ok (enumFrom 0 xs) sl1
  | .v (.tpn xs) => .ok (enumFrom 0 xs) sl1
  | _ => .bad
theorem enum_get (xs : List D) : ∀ (n i : Nat), (enumFrom n xs)[i]? = xs[i]?.map fun x => .tup [.int ((n + i : Nat) : Int), x] := by
  induction xs with
  | nil => intro n i; simp [enumFrom]
  | cons x xs ih =>
    intro n i
    cases i with
    | zero => simp [enumFrom]
    | succ i => simp only [enumFrom, List.getElem?_cons_succ]; rw [ih]; congr 3; funext y; congr 4; omega
theorem enum_len (xs : List D) : ∀ n, (enumFrom n xs).length = xs.length := by
  induction xs with
  | nil => intro n; rfl
  | cons x xs ih => intro n; simp [enumFrom, ih]
theorem zip_get (xs ys : List D) (i : Nat) : (zipD xs ys)[i]? = match xs[i]?, ys[i]? with | some x, some y => some (.tup [x, y]) | _, _ => none := by
  unfold zipD
  rw [List.getElem?_zipWith]
  cases xs[i]? <;> cases ys[i]? <;> rfl
theorem zip_len (xs ys : List D) : (zipD xs ys).length = min xs.length ys.length := by simp [zipD]
section
variable {G : Glue} {K : PySem.W.Frag}
theorem lst_inv {N : Addr → Prop} {H : Hp} {ds : List D} {a : Addr} (h : Rv G N H (.lst ds) (.ref a)) : ∃ vs, H a = some (.lst vs) ∧ Rvs G N H ds vs := by
  cases h with
  | lst h1 _ h2 => exact ⟨_, h1, h2⟩
theorem tup_inv {N : Addr → Prop} {H : Hp} {ds : List D} {a : Addr} (h : Rv G N H (.tup ds) (.ref a)) : ∃ vs, SqT G.K H a vs ∧ Rvs G N H ds vs := by
  cases h with
  | tup h1 h2 => exact ⟨_, h1, h2⟩
theorem sql_eq {H : Hp} {a : Addr} {xs ys : List V} (h1 : H a = some (.lst xs)) (h2 : H a = some (.lst ys)) : xs = ys := by rw [h1] at h2; cases h2; rfl
theorem wk_list {ds : List D} {a : Addr} : WkD G [(.lst ds, .ref a)] (Itl K a) ds := by
  refine ⟨fun H => ∃ N, Rv G N H (.lst ds) (.ref a), fun N H h => ⟨N, h _ List.mem_cons_self⟩, fun i H hi ⟨N, r⟩ => ?_, fun H ⟨N, r⟩ => ?_, fun i H x H' hi ⟨N, r⟩ y => ?_⟩
  · obtain ⟨vs, e, rv⟩ := lst_inv r
    exact ⟨vs, vs[i]'(by rw [← rv.length]; exact hi), SqL.of e, List.getElem?_eq_getElem _⟩
  · obtain ⟨vs, e, rv⟩ := lst_inv r
    exact ⟨vs, SqL.of e, by rw [← rv.length]; exact Nat.le_refl _⟩
  · obtain ⟨rfl, hx⟩ := y
    refine ⟨Same.refl _, fun N' _ hh => ?_⟩
    obtain ⟨vs, e, rv⟩ := lst_inv (hh _ List.mem_cons_self)
    exact rv.get (hx vs (SqL.of e))
theorem wk_tup {ds : List D} {a : Addr} (hK : K = G.K) : WkD G [(.tup ds, .ref a)] (Itt K a) ds := by
  subst hK
  refine ⟨fun H => ∃ N, Rv G N H (.tup ds) (.ref a), fun N H h => ⟨N, h _ List.mem_cons_self⟩, fun i H hi ⟨N, r⟩ => ?_, fun H ⟨N, r⟩ => ?_, fun i H x H' hi ⟨N, r⟩ y => ?_⟩
  · obtain ⟨vs, e, rv⟩ := tup_inv r
    exact ⟨vs, vs[i]'(by rw [← rv.length]; exact hi), e, List.getElem?_eq_getElem _⟩
  · obtain ⟨vs, e, rv⟩ := tup_inv r
    exact ⟨vs, e, by rw [← rv.length]; exact Nat.le_refl _⟩
  · obtain ⟨rfl, hx⟩ := y
    refine ⟨Same.refl _, fun N' _ hh => ?_⟩
    obtain ⟨vs, e, rv⟩ := tup_inv (hh _ List.mem_cons_self)
    exact rv.get (hx vs e)
theorem rg_get (a b : Int) (i : Nat) (h : i < (b - a).toNat) : (rgD a b)[i]? = some (.int (a + (i : Nat))) := by
  unfold rgD
  rw [List.getElem?_map, List.getElem?_range h]; rfl
theorem rg_len (a b : Int) : (rgD a b).length = (b - a).toNat := by simp [rgD]
theorem wk_range {a b : Int} : WkD G [] (Itr a (b - a).toNat) (rgD a b) := by
  refine ⟨fun _ => True, fun _ _ _ => trivial, fun i H hi _ => by rw [rg_len] at hi; exact hi, fun H _ => by rw [rg_len]; exact Nat.le_refl _, fun i H x H' hi _ y => ?_⟩
  obtain ⟨rfl, rfl⟩ := y
  rw [rg_len] at hi
  exact ⟨Same.refl _, fun N _ _ => ⟨_, rg_get a b i hi, .int _⟩⟩
theorem rv_pair {N : Addr → Prop} {H : Hp} {T : Addr} {d e : D} {x y : V} (hT : H T = none) (r1 : Rv G N H d x) (r2 : Rv G N H e y) : Rv G N (upd H T (.tup [x, y])) (.tup [d, e]) (.ref T) := by
  have k : Keep (fun _ => False) H (upd H T (.tup [x, y])) := .same (same_fresh hT _)
  exact .tup (SqT.of upd_same) (.cons (r1.keep k fun _ z => z.elim) (.cons (r2.keep k fun _ z => z.elim) .nil))
theorem wk_zipL {ds es : List D} {a b : Addr} : WkD G [(.lst ds, .ref a), (.lst es, .ref b)] (Itz K a b) (zipD ds es) := by
  have m1 : ∀ p q : D × V, p ∈ [p, q] := fun p q => List.mem_cons_self
  have m2 : ∀ p q : D × V, q ∈ [p, q] := fun p q => by simp
  have wz := fun (xs ys : List V) => walk_zip (K := K) (a := a) (b := b) (xs := xs) (ys := ys) rfl
  refine ⟨fun H => ∃ N, Rv G N H (.lst ds) (.ref a) ∧ Rv G N H (.lst es) (.ref b), fun N H h => ⟨N, h _ (m1 _ _), h _ (m2 _ _)⟩, fun i H hi ⟨N, r1, r2⟩ => ?_, fun H ⟨N, r1, r2⟩ => ?_, fun i H x H' hi ⟨N, r1, r2⟩ y => ?_⟩
  · obtain ⟨vs, e1, rv1⟩ := lst_inv r1
    obtain ⟨ws, e2, rv2⟩ := lst_inv r2
    rw [zip_len] at hi
    exact (wz vs ws).goes i H (by rw [← rv1.length, ← rv2.length]; exact hi) ⟨SqL.of e1, SqL.of e2⟩
  · obtain ⟨vs, e1, rv1⟩ := lst_inv r1
    obtain ⟨ws, e2, rv2⟩ := lst_inv r2
    have := (wz vs ws).stops H ⟨SqL.of e1, SqL.of e2⟩
    rw [← rv1.length, ← rv2.length] at this
    rw [zip_len]; exact this
  · obtain ⟨vs, e1, rv1⟩ := lst_inv r1
    obtain ⟨ws, e2, rv2⟩ := lst_inv r2
    rw [zip_len] at hi
    obtain ⟨T, x', y', rfl, hT, rfl, h1, h2⟩ := (wz vs ws).yields i H x H' (by rw [← rv1.length, ← rv2.length]; exact hi) ⟨SqL.of e1, SqL.of e2⟩ y
    refine ⟨same_fresh hT _, fun N' _ hh => ?_⟩
    obtain ⟨vs', e1', rv1'⟩ := lst_inv (hh _ (m1 _ _))
    obtain ⟨ws', e2', rv2'⟩ := lst_inv (hh _ (m2 _ _))
    cases sql_eq e1 e1'; cases sql_eq e2 e2'
    obtain ⟨d, g1, g2⟩ := rv1'.get h1
    obtain ⟨e, g3, g4⟩ := rv2'.get h2
    exact ⟨.tup [d, e], by rw [zip_get, g1, g3], rv_pair hT g2 g4⟩
theorem wk_zipT {ds es : List D} {a b : Addr} (hK : K = G.K) : WkD G [(.tup ds, .ref a), (.tup es, .ref b)] (RZ.ItzT K a b) (zipD ds es) := by
  subst hK
  have m1 : ∀ p q : D × V, p ∈ [p, q] := fun p q => List.mem_cons_self
  have m2 : ∀ p q : D × V, q ∈ [p, q] := fun p q => by simp
  refine ⟨fun H => ∃ N, Rv G N H (.tup ds) (.ref a) ∧ Rv G N H (.tup es) (.ref b), fun N H h => ⟨N, h _ (m1 _ _), h _ (m2 _ _)⟩, fun i H hi ⟨N, r1, r2⟩ => ?_, fun H ⟨N, r1, r2⟩ => ?_, fun i H x H' hi ⟨N, r1, r2⟩ y => ?_⟩
  · obtain ⟨vs, e1, rv1⟩ := tup_inv r1
    obtain ⟨ws, e2, rv2⟩ := tup_inv r2
    rw [zip_len] at hi
    have l1 := rv1.length; have l2 := rv2.length
    exact ⟨vs, ws, vs[i]'(by omega), ws[i]'(by omega), e1, e2, List.getElem?_eq_getElem _, List.getElem?_eq_getElem _⟩
  · obtain ⟨vs, e1, rv1⟩ := tup_inv r1
    obtain ⟨ws, e2, rv2⟩ := tup_inv r2
    have l1 := rv1.length; have l2 := rv2.length
    exact ⟨vs, ws, e1, e2, by rw [zip_len]; omega⟩
  · obtain ⟨T, x', y', rfl, hT, rfl, h1, h2⟩ := y
    refine ⟨same_fresh hT _, fun N' _ hh => ?_⟩
    obtain ⟨vs', e1', rv1'⟩ := tup_inv (hh _ (m1 _ _))
    obtain ⟨ws', e2', rv2'⟩ := tup_inv (hh _ (m2 _ _))
    obtain ⟨d, g1, g2⟩ := rv1'.get (h1 vs' e1')
    obtain ⟨e, g3, g4⟩ := rv2'.get (h2 ws' e2')
    exact ⟨.tup [d, e], by rw [zip_get, g1, g3], rv_pair hT g2 g4⟩
theorem wk_enumL {ds : List D} {a : Addr} : WkD G [(.lst ds, .ref a)] (Ite K a) (enumFrom 0 ds) := by
  have we := fun (xs : List V) => walk_enum (K := K) (a := a) (xs := xs)
  refine ⟨fun H => ∃ N, Rv G N H (.lst ds) (.ref a), fun N H h => ⟨N, h _ List.mem_cons_self⟩, fun i H hi ⟨N, r⟩ => ?_, fun H ⟨N, r⟩ => ?_, fun i H x H' hi ⟨N, r⟩ y => ?_⟩
  · obtain ⟨vs, e, rv⟩ := lst_inv r
    rw [enum_len] at hi
    exact (we vs).goes i H (by rw [← rv.length]; exact hi) (SqL.of e)
  · obtain ⟨vs, e, rv⟩ := lst_inv r
    have := (we vs).stops H (SqL.of e)
    rw [← rv.length] at this
    rw [enum_len]; exact this
  · obtain ⟨vs, e, rv⟩ := lst_inv r
    rw [enum_len] at hi
    obtain ⟨T, x', y', rfl, hT, rfl, h1, h2⟩ := (we vs).yields i H x H' (by rw [← rv.length]; exact hi) (SqL.of e) y
    cases h1
    refine ⟨same_fresh hT _, fun N' _ hh => ?_⟩
    obtain ⟨vs', e1', rv1'⟩ := lst_inv (hh _ List.mem_cons_self)
    cases sql_eq e e1'
    obtain ⟨d, g1, g2⟩ := rv1'.get h2
    exact ⟨.tup [.int (i : Nat), d], by rw [enum_get, g1]; simp, rv_pair hT (.int _) g2⟩
theorem wk_enumT {ds : List D} {a : Addr} (hK : K = G.K) : WkD G [(.tup ds, .ref a)] (ItT K a) (enumFrom 0 ds) := by
  subst hK
  have we := fun (xs : List V) => walk_enumT (K := G.K) (a := a) (xs := xs)
  refine ⟨fun H => ∃ N, Rv G N H (.tup ds) (.ref a), fun N H h => ⟨N, h _ List.mem_cons_self⟩, fun i H hi ⟨N, r⟩ => ?_, fun H ⟨N, r⟩ => ?_, fun i H x H' hi ⟨N, r⟩ y => ?_⟩
  · obtain ⟨vs, e, rv⟩ := tup_inv r
    rw [enum_len] at hi
    exact (we vs).goes i H (by rw [← rv.length]; exact hi) e
  · obtain ⟨vs, e, rv⟩ := tup_inv r
    have := (we vs).stops H e
    rw [← rv.length] at this
    rw [enum_len]; exact this
  · obtain ⟨T, x', rfl, hT, rfl, h2⟩ := y
    refine ⟨same_fresh hT _, fun N' _ hh => ?_⟩
    obtain ⟨vs', e1', rv1'⟩ := tup_inv (hh _ List.mem_cons_self)
    obtain ⟨d, g1, g2⟩ := rv1'.get (h2 vs' e1')
    exact ⟨.tup [.int (i : Nat), d], by rw [enum_get, g1]; simp, rv_pair hT (.int _) g2⟩
end
section
variable {G : Glue} {W : WX} {X : Cx} {a b tg : Expr} {da db : Ev} {pos p tpos : Pos} {elts : List Expr} {kk : Nat}
theorem SqT.le {K : PySem.W.Frag} {H : Hp} {a : Addr} {xs : List V} (z : HSz H) (h : SqT K H a xs) : xs.length ≤ sizeLine := by
  rcases h with h | ⟨o, its, n, _, _, _, hl, hv⟩
  · exact z a xs (.inr h)
  · rw [hv.length]; simpa using hl
theorem lst_le {H : Hp} {a : Addr} {xs : List V} (z : HSz H) (h : H a = some (.lst xs)) : xs.length ≤ sizeLine := z a xs (.inl (.inl h))
theorem PI.imp {iter : Expr} {t t' : TI} (h : PI X tg iter t) (f : ∀ σ H Q, t' σ H Q → t σ H Q) : PI X tg iter t' := ⟨fun pins s σ H Q I q => h.run pins s σ H Q I (f σ H Q q)⟩
theorem fi_lst (ha : FE G W X a da) : FI G W X tg a (iLst da) := fun T => PI.imp (pi_list (ha T)) fun σ H R h hz => by
  obtain ⟨A, sl, s, p⟩ := h hz
  refine ⟨A, sl, s, PostG.bind p fun x sl1 v H1 _ s1 k1 r1 p1 => ?_⟩
  match x, r1, p1 with
  | .v (.lst ds), r1, p1 =>
    cases r1 with
    | lst h1 h2 h3 =>
      refine ⟨_, rfl, ⟨_, SqL.of h1⟩, p1 (Itl X.K _, [(.lst ds, .ref _)]) H1 s1 .refl ⟨wk_list, fun p hp => ?_, by rw [h3.length]; exact lst_le s1.sz h1⟩⟩
      rw [List.mem_singleton.mp hp]; exact .lst h1 h2 h3
theorem fi_tp (ha : FE G W X a da) (hK : X.K = G.K := by rfl) : FI G W X tg a (iTp da) := fun T => PI.imp (pi_tup (ha T)) fun σ H R h hz => by
  obtain ⟨A, sl, s, p⟩ := h hz
  refine ⟨A, sl, s, PostG.bind p fun x sl1 v H1 _ s1 k1 r1 p1 => ?_⟩
  match x, r1, p1 with
  | .v (.tup ds), r1, p1 =>
    cases r1 with
    | tup h1 h2 =>
      refine ⟨_, rfl, ⟨_, hK ▸ h1⟩, p1 (Itt X.K _, [(.tup ds, .ref _)]) H1 s1 .refl ⟨wk_tup hK, fun p hp => ?_, by rw [h2.length]; exact SqT.le s1.sz h1⟩⟩
      rw [List.mem_singleton.mp hp]; exact .tup h1 h2
theorem fi_range1 (ha : FE G W X a da) (hm : X.mg "range" = none) (hg : Gl X "range" := by rfl) (hs : starEach [a] X.env = [(false, eval a X.env)] := by rfl) : FI G W X tg (.Call (.Name "range" p) [a] [] pos) (iRange1 da) := fun T => PI.imp (pi_rangeA1 hg hm (pa_cons (ha T) pa_nil hs) hs) fun σ H R h hz => by
  obtain ⟨A, sl, s, q⟩ := h hz
  refine ⟨A, sl, s, PostG.bind q fun x sl1 v H1 _ s1 k1 r1 p1 => ?_⟩
  split at p1
  · rename_i n e
    split at p1
    · rename_i hf
      cases (Rl.of s1 r1 e).int
      refine ⟨n, rfl, ?_⟩
      have w : WkD G [] (Itr 0 n.toNat) (rgD 0 n) := by
        have := wk_range (G := G) (a := 0) (b := n)
        rw [Int.sub_zero] at this; exact this
      exact p1 (Itr 0 n.toNat, []) H1 s1 .refl ⟨w, (fun _ h => by cases h), by rw [rg_len]; exact fits_le (by unfold rgOk at hf; rw [Int.sub_zero] at hf ⊢; exact hf)⟩
    · exact p1.elim
  · exact p1.elim
theorem fi_range2 (ha : FE G W X a da) (hb : FE G W X b db) (hm : X.mg "range" = none) (hg : Gl X "range" := by rfl) (hs : starEach [a, b] X.env = [(false, eval a X.env), (false, eval b X.env)] := by rfl) (hs2 : starEach [b] X.env = [(false, eval b X.env)] := by rfl) :
    FI G W X tg (.Call (.Name "range" p) [a, b] [] pos) (iRange2 da db) := fun T => PI.imp (pi_rangeA2 hg hm (pa_cons (ha T) (pa_cons (hb T) pa_nil hs2) (by rw [hs, hs2])) hs hs2) fun σ H R h hz => by
  obtain ⟨A, sl, s, q⟩ := h hz
  refine ⟨A, sl, s, PostG.bind q fun x sl1 v H1 _ s1 k1 r1 p1 _ => ⟨A, sl1, s1, PostG.bind p1 fun y sl2 u H2 _ s2 k2 r2 p2 => ?_⟩⟩
  split at p2
  · rename_i i j e1 e2
    split at p2
    · rename_i hf
      cases (Rl.of s2 (Rs.keep k2 r1) e1).int
      cases (Rl.of s2 r2 e2).int
      exact ⟨i, j, rfl, p2 (Itr i (j - i).toNat, []) H2 s2 .refl ⟨wk_range, (fun _ h => by cases h), by rw [rg_len]; exact fits_le hf⟩⟩
    · exact p2.elim
  · exact p2.elim
theorem fi_zip (ha : FE G W X a da) (hb : FE G W X b db) (hm : X.mg "zip" = none) (hK : X.K = G.K := by rfl) (hg : Gl X "zip" := by rfl) (hs : starEach [a, b] X.env = (false, eval a X.env) :: starEach [b] X.env := by rfl) (hs2 : starEach [b] X.env = (false, eval b X.env) :: starEach [] X.env := by rfl)
    (hpl : (backTo pos (starEach [b] X.env)).any (·.1) = false := by rfl) : FI G W X (.Tuple elts kk tpos) (.Call (.Name "zip" p) [a, b] [] pos) (iZip da db) := fun T => PI.imp (RZ.pi_zipA hg hm (pa_cons (ha T) (pa_cons (hb T) pa_nil hs2) hs) hs hpl) fun σ H R h hz => by
  obtain ⟨A, sl, s, q⟩ := h hz
  refine ⟨A, sl, s, PostG.bind q fun x sl1 v H1 _ s1 k1 r1 p1 _ => ⟨A, sl1, s1, PostG.bind p1 fun y sl2 u H2 _ s2 k2 r2 p2 => ?_⟩⟩
  have r1' := Rs.keep k2 r1
  have mem2 : ∀ {P : D × V → Prop} {p q : D × V}, P p → P q → ∀ r ∈ [p, q], P r := fun h1 h2 r hr => by
    rcases List.mem_cons.mp hr with rfl | hr
    · exact h1
    · rw [List.mem_singleton.mp hr]; exact h2
  match x, y, r1', r2, p2 with
  | .v (.lst xs), .v (.lst ys), r1', r2, p2 =>
    cases r1' with
    | lst h1 h2 h3 =>
      cases r2 with
      | lst g1 g2 g3 =>
        exact ⟨_, _, _, _, rfl, .inl ⟨SqL.of h1, SqL.of g1, p2 (Itz X.K _ _, [(.lst xs, .ref _), (.lst ys, .ref _)]) H2 s2 .refl ⟨wk_zipL, mem2 (Rv.lst h1 h2 h3) (Rv.lst g1 g2 g3), by rw [zip_len, h3.length]; exact Nat.le_trans (Nat.min_le_left _ _) (lst_le s2.sz h1)⟩⟩⟩
  | .v (.tup xs), .v (.tup ys), r1', r2, p2 =>
    cases r1' with
    | tup h1 h2 =>
      cases r2 with
      | tup g1 g2 => exact ⟨_, _, _, _, rfl, .inr ⟨hK ▸ h1, hK ▸ g1, p2 (RZ.ItzT X.K _ _, [(.tup xs, .ref _), (.tup ys, .ref _)]) H2 s2 .refl ⟨wk_zipT hK, mem2 (Rv.tup h1 h2) (Rv.tup g1 g2), by rw [zip_len, h2.length]; exact Nat.le_trans (Nat.min_le_left _ _) (SqT.le s2.sz h1)⟩⟩⟩
  | .v (.tpn xs), .v (.tup ys), r1', r2, p2 =>
    cases r1' with
    | tpn h1 h2 =>
      cases r2 with
      | tup g1 g2 => exact ⟨_, _, _, _, rfl, .inr ⟨hK ▸ (h1.t), hK ▸ g1, p2 (RZ.ItzT X.K _ _, [(.tup xs, .ref _), (.tup ys, .ref _)]) H2 s2 .refl ⟨wk_zipT hK, mem2 (Rv.tup (h1.t) h2) (Rv.tup g1 g2), by rw [zip_len, h2.length]; exact Nat.le_trans (Nat.min_le_left _ _) (SqT.le s2.sz (h1.t))⟩⟩⟩
  | .v (.tup xs), .v (.tpn ys), r1', r2, p2 =>
    cases r1' with
    | tup h1 h2 =>
      cases r2 with
      | tpn g1 g2 => exact ⟨_, _, _, _, rfl, .inr ⟨hK ▸ h1, hK ▸ (g1.t), p2 (RZ.ItzT X.K _ _, [(.tup xs, .ref _), (.tup ys, .ref _)]) H2 s2 .refl ⟨wk_zipT hK, mem2 (Rv.tup h1 h2) (Rv.tup (g1.t) g2), by rw [zip_len, h2.length]; exact Nat.le_trans (Nat.min_le_left _ _) (SqT.le s2.sz h1)⟩⟩⟩
  | .v (.tpn xs), .v (.tpn ys), r1', r2, p2 =>
    cases r1' with
    | tpn h1 h2 =>
      cases r2 with
      | tpn g1 g2 => exact ⟨_, _, _, _, rfl, .inr ⟨hK ▸ (h1.t), hK ▸ (g1.t), p2 (RZ.ItzT X.K _ _, [(.tup xs, .ref _), (.tup ys, .ref _)]) H2 s2 .refl ⟨wk_zipT hK, mem2 (Rv.tup (h1.t) h2) (Rv.tup (g1.t) g2), by rw [zip_len, h2.length]; exact Nat.le_trans (Nat.min_le_left _ _) (SqT.le s2.sz (h1.t))⟩⟩⟩
theorem fi_enumL (ha : FE G W X a da) (hm : X.mg "enumerate" = none) (hK : X.K = G.K := by rfl) (hg : Gl X "enumerate" := by rfl) (hs : starEach [a] X.env = [(false, eval a X.env)] := by rfl) : FI G W X (.Tuple elts kk tpos) (.Call (.Name "enumerate" p) [a] [] pos) (iEnumL da) := fun T => PI.imp (pi_enumA hg hm (pa_cons (ha T) pa_nil hs) hs) fun σ H R h hz => by
  obtain ⟨A, sl, s, q⟩ := h hz
  refine ⟨A, sl, s, PostG.bind q fun x sl1 v H1 _ s1 k1 r1 p1 => ?_⟩
  match x, r1, p1 with
  | .v (.lst ds), r1, p1 =>
    cases r1 with
    | lst h1 h2 h3 =>
      refine ⟨_, _, rfl, .inl ⟨SqL.of h1, p1 (Ite X.K _, [(.lst ds, .ref _)]) H1 s1 .refl ⟨wk_enumL, fun p hp => ?_, by rw [enum_len, h3.length]; exact lst_le s1.sz h1⟩⟩⟩
      rw [List.mem_singleton.mp hp]; exact .lst h1 h2 h3
  | .v (.tup ds), r1, p1 =>
    cases r1 with
    | tup h1 h2 =>
      refine ⟨_, _, rfl, .inr ⟨hK ▸ h1, p1 (ItT X.K _, [(.tup ds, .ref _)]) H1 s1 .refl ⟨wk_enumT hK, fun p hp => ?_, by rw [enum_len, h2.length]; exact SqT.le s1.sz h1⟩⟩⟩
      rw [List.mem_singleton.mp hp]; exact .tup h1 h2
  | .v (.tpn ds), r1, p1 =>
    cases r1 with
    | tpn h1 h2 =>
      refine ⟨_, _, rfl, .inr ⟨hK ▸ h1.t, p1 (ItT X.K _, [(.tup ds, .ref _)]) H1 s1 .refl ⟨wk_enumT hK, fun p hp => ?_, by rw [enum_len, h2.length]; exact SqT.le s1.sz h1.t⟩⟩⟩
      rw [List.mem_singleton.mp hp]; exact .tup h1.t h2
end

/-! ### for, while -/
def Fl.step (f : Fl) (k : Sl → Fl) : Fl := match f with
  | .nx sl => k sl
  | .ct sl => k sl
  | .bk sl => .nx sl
  | f => f
def forL (t : Tg) (m : Sm) : List D → Sl → Fl
  | [], sl => .nx sl
  | d :: ds, sl => match bindT t d sl with
    | some sl1 => (m sl1).step (forL t m ds)
    | none => .bad
def mFor (t : Tg) (it : Lv) (m : Sm) : Sm := fun sl => (it sl).to fun ds sl1 => forL t m ds sl1
def whileL (c : Ev) (m : Sm) : Nat → Sl → Fl
  | 0, _ => .bad
  | n + 1, sl => (dB c sl).to fun k sl1 => if k = true then (m sl1).step (whileL c m n) else .nx sl1
def mWhile (n : Nat) (c : Ev) (m : Sm) : Sm := whileL c m n
section
variable {G : Glue} {W : WX} {X : Cx} {c tg iter : Expr} {body : List Stmt} {t : Tg} {it : Lv} {m : Sm} {dc : Ev} {pos : Pos} {T T' : Act} {A : Nat → Option Addr} {sl : Sl} {σ : St} {H : Hp}
theorem step_post {D : Ends} {f : Fl} {k : Sl → Fl} {N : St → Hp → Prop} (h0 : T'.N0 = T.N0) (h1 : T'.H0 = T.H0) (h2 : T'.io = T.io) (h3 : ∀ p ∈ T.hd, p ∈ T'.hd) (h : SPost G W T D (f.step k))
    (hN : ∀ A sl σ H, Sr G T' A sl σ H → SPost G W T D (k sl) → N σ H) : SPost G W T' { D with nx := N, ct := N, bk := D.nx } f := by
  cases f with
  | nx sl => exact fun A σ H s => hN A sl σ H s h
  | rt x sl => exact fun A σ H v s r => h A σ H v (s.unhold h0 h1 h2 h3) (by
      obtain ⟨N0, H0, io, hd⟩ := T; obtain ⟨N0', H0', io', hd'⟩ := T'; cases h0; cases h1; cases h2; exact r)
  | bk sl => exact fun A σ H s => h A σ H (s.unhold h0 h1 h2 h3)
  | ct sl => exact fun A σ H s => hN A sl σ H s h
  | ex e sl => exact fun A σ H c od x s => h A σ H c od (by rw [← h0]; exact x) (s.unhold h0 h1 h2 h3)
  | bad => exact h
theorem SPost.unplus {D : Ends} {f : Fl} (h : SPost G W T D f) : SPost G W T (plusE D) f := SPost.plus h
theorem Sr.holds (r : Sr G T A sl σ H) : ∀ {hv : List (D × V)}, (∀ p ∈ hv, Rv G (T.N A) H p.1 p.2) → Sr G { T with hd := hv ++ T.hd } A sl σ H := fun {hv} h =>
  ⟨r.val, r.mu, r.len, r.inj, r.own, r.alive, r.kept, r.trk, r.iot, fun p hp => by
    rcases List.mem_append.mp hp with hp | hp
    · exact h p hp
    · exact r.held p hp, r.sz, r.mx⟩
theorem PE.any {e : Expr} {f : Act → TE} (h : ∀ T, PE X e (f T)) : PE X e fun σ H Q => ∃ T, f T σ H Q := ⟨fun pins s σ H Q I ⟨T, q⟩ => (h T).run pins s σ H Q I q⟩
theorem PT.any {e : Expr} {f : Act → TT} (h : ∀ T, PT X e (f T)) : PT X e fun σ H Q => ∃ T, f T σ H Q := ⟨fun pins s σ H Q I ⟨T, q⟩ => (h T).run pins s σ H Q I q⟩
theorem PSs.any {e : List Stmt} {f : Act → TS} (h : ∀ T, PSs X e (f T)) : PSs X e fun D σ H => ∃ T, f T D σ H := ⟨fun pins s σ H D I ⟨T, q⟩ => (h T).run pins s σ H D I q⟩
theorem PG.any {e : Expr} {f : Act → TG} (h : ∀ T, PG X e (f T)) : PG X e fun v σ H Q => ∃ T, f T v σ H Q := ⟨fun pins s σ H v u Q I r ⟨T, q⟩ => (h T).run pins s σ H v u Q I r q⟩
theorem PI.any {e : Expr} {f : Act → TI} (h : ∀ T, PI X tg e (f T)) : PI X tg e fun σ H Q => ∃ T, f T σ H Q := ⟨fun pins s σ H R I ⟨T, q⟩ => (h T).run pins s σ H R I q⟩
theorem fs_for (hp : PassesOwn (model X.prog X.w) X.A X.env X.xe) (hi : FI G W X tg iter it) (hg : FG G X tg t) (hb : FSs G W X body m) (hc : X.calm = true := by rfl) (hs : ∀ x, foldedSetIterable iter X.env x = pure x := by intro _; rfl) : FS G W X (.For tg iter body [] pos) (mFor t it m) := fun T => by
  refine PS.plus (ps_for hp hc (hi T) (PG.any hg) (PSs.any hb) hs) fun D σ H z h hz => ?_
  obtain ⟨A, sl, s, p⟩ := h hz
  refine ⟨A, sl, s, to_post p fun ds sl1 q H1 _ s1 k1 r1 p1 => ?_⟩
  obtain ⟨J, hv⟩ := q
  obtain ⟨⟨Gd, hG, wk⟩, hh, _⟩ := r1
  dsimp only at hG wk hh p1
  refine for_it (g := fun v σ H Q => ∃ T, tTg G T t v σ H Q) (tb := fun D σ H => ∃ T, tSm G W T m D σ H) (D := plusE D) wk (fun i σ H => ∃ A sl, Sr G { T with hd := hv ++ T.hd } A sl σ H ∧ SPost G W T (plusE D) (forL t m (ds.drop i) sl)) ⟨A, sl1, s1.holds hh, by rw [List.drop_zero]; exact SPost.plus p1⟩ (fun i σ H _ ⟨A, sl, s, _⟩ => hG (T.N A) H fun p hp => s.held p (List.mem_append_left _ hp)) (fun i x σ H H' hi ⟨A, sl, s, p⟩ y => ?_) fun σ H ⟨A, sl, s, p⟩ => ?_
  · obtain ⟨sm, y⟩ := y
    obtain ⟨d, hd, rd⟩ := y (T.N A) (fun p h => s.fresh h) fun p hp => s.held p (List.mem_append_left _ hp)
    have e : ds.drop i = d :: ds.drop (i + 1) := by
      obtain ⟨hl, e⟩ := List.getElem?_eq_some_iff.mp hd
      rw [List.drop_eq_getElem_cons hl, e]
    rw [e] at p
    unfold forL at p
    split at p
    · rename_i sl2 hb2
      refine ⟨{ T with hd := hv ++ T.hd }, fun hz' => ⟨A, sl, d, sl2, s.grown sm hz', rd, hb2, fun σ' _ s' => ⟨{ T with hd := hv ++ T.hd }, fun _ => ⟨A, sl2, s', ?_⟩⟩⟩⟩
      exact step_post (T := T) (T' := { T with hd := hv ++ T.hd }) (D := plusE D) rfl rfl rfl (fun p hp => List.mem_append_right _ hp) p fun A sl σ H s p => ⟨A, sl, s, p⟩
    · exact p.elim
  · rw [List.drop_length] at p
    exact fun hz => p A σ H (Sr.unhold (T := T) (T' := { T with hd := hv ++ T.hd }) rfl rfl rfl (fun p hp => List.mem_append_right _ hp) s) hz
theorem fs_while {n : Nat} (hp : PassesOwn (model X.prog X.w) X.A X.env X.xe) (hcd : FB G W X c dc) (hb : FSs G W X body m) : FS G W X (.While c body [] pos) (mWhile n dc m) := fun T => by
  refine PS.plus (ps_while hp (hcd T) (hb T)) fun D σ H z h => ?_
  obtain ⟨A, sl, s, p⟩ := h z
  refine ⟨fun k σ H => ∃ A sl, Sr G T A sl σ H ∧ SPost G W T (plusE D) (whileL dc m k sl), ⟨n, A, sl, s, SPost.plus p⟩, ?_⟩
  intro k σ H ⟨A, sl, s, p⟩
  cases k with
  | zero => exact p.elim
  | succ k =>
    unfold whileL at p
    refine fun hz => ⟨A, sl, s, to_post p fun b sl1 v H1 _ s1 k1 r1 p1 => ?_⟩
    cases r1
    cases b with
    | false => exact fun hz => p1 A σ H1 s1 hz
    | true =>
      refine ⟨fun σ' H' => ∃ A sl, Sr G T A sl σ' H' ∧ SPost G W T (plusE D) (whileL dc m k sl), fun σ' H' w => ⟨k, Nat.lt_succ_self k, w⟩, fun _ => ⟨A, sl1, s1, ?_⟩⟩
      exact step_post (D := plusE D) rfl rfl rfl (fun p hp => hp) p1 fun A sl σ H s p => ⟨A, sl, s, p⟩
end
end F

set_option Elab.async false
set_option linter.all false
set_option maxRecDepth 100000
set_option maxHeartbeats 4000000
namespace F
open PySem PySem.Spec PyProof.Rows L2

/-! ### list comprehensions -/
def wipeD (sl : Sl) : List Nat → Sl
  | [] => sl
  | v :: vs => (wipeD sl vs).set v none
def merge (sl1 slw : Sl) : List Nat → Sl
  | [] => slw
  | v :: vs => (merge sl1 slw vs).set v (sl1.getD v none)
@[simp] def isOwn (sl : Sl) (i : Nat) : Bool := match sl[i]? with
  | some (some (Sv.m _)) => true
  | some (some (Sv.d _ _)) => true
  | some (some (Sv.o _ _)) => true
  | some (some (Sv.od _ _ _ _)) => true
  | _ => false
def noOwn (sl : Sl) (vs : List Nat) : Bool := vs.all fun v => !isOwn sl v
/-- the turns of a comprehension: what is made, the slots behind it -/
def lcL (vs : List Nat) (t : Tg) (c : Sl → R Bool) (e : Ev) : List D → Sl → Option (List D × Sl)
  | [], sl => some ([], sl)
  | d :: ds, sl => match bindT t d (wipeD sl vs) with
    | none => none
    | some sl1 => match c sl1 with
      | .ok true sl2 => match e sl2 with
        | .ok (.v x) sl3 => match lcL vs t c e ds sl3 with
          | some (ys, sl4) => some (x :: ys, sl4)
          | none => none
        | _ => none
      | .ok false sl2 => lcL vs t c e ds sl2
      | _ => none
def dLc (vs : List Nat) (t : Tg) (c : Sl → R Bool) (e : Ev) (it : Lv) : Lv := fun sl => (it sl).bind fun ds sl1 => if noOwn sl1 vs then match lcL vs t c e ds sl1 with
  | some (ys, slw) => .ok ys (merge sl1 slw vs)
  | none => .bad
  else .bad
def cYes : Sl → R Bool := fun sl => .ok true sl

theorem wipeD_len (sl : Sl) : ∀ vs, (wipeD sl vs).length = sl.length
  | [] => rfl
  | v :: vs => by simp [wipeD, wipeD_len sl vs]
theorem wipeD_get {sl : Sl} {i : Nat} : ∀ {vs : List Nat}, (wipeD sl vs)[i]? = if i ∈ vs then (if i < sl.length then some none else none) else sl[i]?
  | [] => by simp [wipeD]
  | v :: vs => by
    simp only [wipeD, List.getElem?_set, wipeD_len]
    by_cases h : v = i
    · subst h; simp
    · rw [if_neg h, wipeD_get]
      simp only [List.mem_cons, Ne.symm h, false_or]
theorem wipe_get {σ : St} {i : Nat} : ∀ {vs : List Nat}, (wipe σ vs)[i]? = if i ∈ vs then (if i < σ.length then some none else none) else σ[i]?
  | [] => by simp [wipe]
  | v :: vs => by
    simp only [wipe, List.getElem?_set, wipe_length]
    by_cases h : v = i
    · subst h; simp
    · rw [if_neg h, wipe_get]
      simp only [List.mem_cons, Ne.symm h, false_or]
theorem merge_len (sl1 slw : Sl) : ∀ vs, (merge sl1 slw vs).length = slw.length
  | [] => rfl
  | v :: vs => by simp [merge, merge_len sl1 slw vs]
theorem merge_get {sl1 slw : Sl} (hl : sl1.length = slw.length) {i : Nat} : ∀ {vs : List Nat}, (merge sl1 slw vs)[i]? = if i ∈ vs then sl1[i]? else slw[i]?
  | [] => by simp [merge]
  | v :: vs => by
    simp only [merge, List.getElem?_set, merge_len]
    by_cases h : v = i
    · subst h
      simp only [if_true, List.mem_cons, true_or]
      by_cases q : v < slw.length
      · rw [if_pos q]
        rw [List.getD_eq_getElem?_getD]
        rw [List.getElem?_eq_getElem (by rw [hl]; exact q)]; rfl
      · rw [if_neg q, List.getElem?_eq_none (by rw [hl]; exact Nat.le_of_not_lt q)]
    · rw [if_neg h, merge_get hl]
      simp only [List.mem_cons, Ne.symm h, false_or]
theorem wipe_alike {σ σ' : St} {ns vs : List Nat} (h : Alike ns σ σ') (hs : ∀ n ∈ ns, n ∈ vs) : wipe σ' vs = wipe σ vs := by
  apply List.ext_getElem?
  intro i
  rw [wipe_get, wipe_get, h.1]
  by_cases q : i ∈ vs
  · rw [if_pos q, if_pos q]
  · rw [if_neg q, if_neg q, h.2 i fun z => q (hs i z)]
theorem wipe_wipe {σ : St} {vs : List Nat} : wipe (wipe σ vs) vs = wipe σ vs := by
  apply List.ext_getElem?
  intro i
  rw [wipe_get, wipe_get, wipe_length]
  by_cases q : i ∈ vs
  · rw [if_pos q, if_pos q]
  · rw [if_neg q, if_neg q]

section
variable {G : Glue} {W : WX} {X : Cx} {T T' : Act} {A : Nat → Option Addr} {sl : Sl} {σ : St} {H H1 : Hp} {Dd : Addr}
/-- names forgotten -/
theorem Sr.wiped (r : Sr G T A sl σ H) (vs : List Nat) : Sr G T A (wipeD sl vs) (wipe σ vs) H := by
  refine ⟨fun i d e => ?_, fun i xs e => ?_, by rw [wipeD_len, wipe_length]; exact r.len, r.inj, r.own, r.alive, r.kept, r.trk, r.iot, r.held, r.sz, fun i x e h => ?_⟩
  · rw [wipeD_get] at e
    split at e
    · split at e <;> cases e
    · rename_i h
      obtain ⟨v, e1, e2⟩ := r.val i d e
      exact ⟨v, by rw [wipe_get, if_neg h]; exact e1, e2⟩
  · rw [wipeD_get] at e
    split at e
    · split at e <;> cases e
    · rename_i h
      obtain ⟨a, vs', e1, e2, e3, e4⟩ := r.mu i xs e
      exact ⟨a, vs', e1, by rw [wipe_get, if_neg h]; exact e2, e3, e4⟩
  · rw [wipeD_get] at e
    split at e
    · split at e <;> cases e
    · rename_i h'
      obtain ⟨a, e1, e2, e3⟩ := r.mx i x e h
      exact ⟨a, e1, by rw [wipe_get, if_neg h']; exact e2, e3⟩
/-- .. with a place that is another's -/
abbrev Act.away (T : Act) (p : Addr) : Act := { T with N0 := fun a => T.N0 a ∨ a = p }
theorem HSz.upd {vs : List V} (h : HSz H) (hl : vs.length ≤ sizeLine) : HSz (upd H Dd (.lst vs)) := fun a xs e => by
  by_cases z : a = Dd
  · subst z
    unfold Rd at e
    rw [upd_same] at e
    rcases e with (e | ⟨o, e⟩) | (e | ⟨o, e⟩) <;> cases e
    exact hl
  · refine h a xs ?_
    unfold Rd at e ⊢
    rw [upd_ne z] at e
    exact e
/-- a new list at Dd that the slots do not see -/
theorem Sr.block (r : Sr G T A sl σ H) (hD : H Dd = none) {vs : List V} (hl : vs.length ≤ sizeLine) : Sr G (T.away Dd) A sl σ (L2.upd H Dd (.lst vs)) := by
  have sm : Same H (L2.upd H Dd (.lst vs)) := same_fresh hD _
  have g := r.grown sm (HSz.upd (Dd := Dd) r.sz hl)
  have up : ∀ {d : D} {v : V}, Rv G (T.N A) H d v → Rv G ((T.away Dd).N A) (L2.upd H Dd (.lst vs)) d v := fun h => by
    refine Rv.keep (O := fun _ => False) (.same sm) (fun _ z => z.elim) (h.anti' fun a o e z => ?_)
    rcases z with (z | z) | z
    · exact .inl z
    · subst z; rw [hD] at e; cases e
    · exact .inr z
  have ups : ∀ {d : List D} {v : List V}, Rvs G (T.N A) H d v → Rvs G ((T.away Dd).N A) (L2.upd H Dd (.lst vs)) d v := fun h => by
    refine Rvs.keep (O := fun _ => False) (.same sm) (fun _ z => z.elim) (h.anti' fun a o e z => ?_)
    rcases z with (z | z) | z
    · exact .inl z
    · subst z; rw [hD] at e; cases e
    · exact .inr z
  refine ⟨fun i d e => ?_, fun i xs e => ?_, r.len, r.inj, fun i a e => ?_, g.alive, g.kept, fun b h => ?_, r.iot, fun p hp => up (r.held p hp), g.sz, fun i x e h => ?_⟩
  · obtain ⟨v, e1, e2⟩ := r.val i d e; exact ⟨v, e1, up e2⟩
  · obtain ⟨a, vs', e1, e2, e3, e4⟩ := r.mu i xs e; exact ⟨a, vs', e1, e2, sm _ _ e3, ups e4⟩
  · have ne : a ≠ Dd := fun z => by subst z; exact r.fresh hD (.inr ⟨i, e⟩)
    rcases r.own i a e with ⟨h1, h2, h3⟩ | ⟨h1, h2, h3⟩
    · exact .inl ⟨h1, fun z => z.elim h2 ne, h3⟩
    · exact .inr ⟨h1, h2, .inl h3⟩
  · rcases h with h | h
    · exact g.trk b h
    · exact ⟨_, by rw [h]; exact upd_same⟩
  · obtain ⟨a, e1, e2, e3⟩ := r.mx i x e h
    exact ⟨a, e1, e2, e3.imp (fun _ _ _ q => sm _ _ q) (fun _ q => q) fun _ _ q => ups q⟩
/-- the list at Dd is written -/
theorem Sr.grow (r : Sr G T A sl σ H) (hN : T.N0 Dd) (hO : ¬ Own A Dd) (h0 : T.H0 Dd = none) {us vs : List V} (hD : H Dd = some (.lst us)) (hl : vs.length ≤ sizeLine) : Sr G T A sl σ (L2.upd H Dd (.lst vs)) := by
  have k : Keep (fun a => a = Dd) H (L2.upd H Dd (.lst vs)) := Keep.upd hD (fun z => z) rfl
  have hN' : ∀ a, a = Dd → T.N A a := fun a z => by rw [z]; exact .inl hN
  refine ⟨fun i d e => ?_, fun i xs e => ?_, r.len, r.inj, r.own, fun i a e => ?_, fun b o e n => ?_, fun b h => ?_, r.iot, fun p hp => Rv.keep k hN' (r.held p hp), HSz.upd (Dd := Dd) r.sz hl, fun i x e h => ?_⟩
  · obtain ⟨v, e1, e2⟩ := r.val i d e; exact ⟨v, e1, Rv.keep k hN' e2⟩
  · obtain ⟨a, vs', e1, e2, e3, e4⟩ := r.mu i xs e
    exact ⟨a, vs', e1, e2, by rw [upd_ne fun z => hO ⟨i, by rw [← z]; exact e1⟩]; exact e3, Rvs.keep k hN' e4⟩
  · obtain ⟨xs, q, nf⟩ := r.alive i a e
    exact ⟨xs, by rw [upd_ne fun z => hO ⟨i, by rw [← z]; exact e⟩]; exact q, nf⟩
  · rw [upd_ne fun z => by rw [z, h0] at e; cases e]; exact r.kept b o e n
  · by_cases z : b = Dd
    · exact ⟨_, by rw [z]; exact upd_same⟩
    · obtain ⟨o, q⟩ := r.trk b h; exact ⟨o, by rw [upd_ne z]; exact q⟩
  · obtain ⟨a, e1, e2, e3⟩ := r.mx i x e h
    refine ⟨a, e1, e2, e3.imp (fun b o q w => ?_) (fun _ q => q) fun _ _ q => Rvs.keep k hN' q⟩
    rw [upd_ne fun z => ?_]; exact w
    rcases q with q | ⟨q, _⟩
    · exact hO ⟨i, by rw [← z, q]; exact e1⟩
    · exact hO ⟨i + 1000, by rw [← z]; exact q⟩
theorem SqT.del {K : PySem.W.Frag} {a : Addr} {xs us : List V} (hD : H Dd = some (.lst us)) (h : SqT K H a xs) : SqT K (L2.del H Dd) a xs := by
  have ne : ∀ {o : HO}, H a = some o → (∀ us, o ≠ .lst us) → L2.del H Dd a = some o := fun {o} e n => by
    rw [L2.del_ne fun z => by rw [z, hD] at e; exact n _ (Option.some.inj e).symm]; exact e
  rcases h with (h | ⟨o, h⟩) | h
  · exact .inl (.inl (ne h fun _ z => nomatch z))
  · exact .inl (.inr ⟨o, ne h fun _ z => nomatch z⟩)
  · exact .inr h
theorem Rv.del {N N' : Addr → Prop} {us : List V} (hD : H Dd = some (.lst us)) (hN : N Dd) (hNN : ∀ a, N' a → N a) : ∀ {d : D} {v : V}, Rv G N H d v → Rv G N' (L2.del H Dd) d v := by
  intro d v h
  refine Rv.rec (G := G) (N := N) (H := H) (motive_1 := fun d v _ => Rv G N' (L2.del H Dd) d v) (motive_2 := fun ds vs _ => Rvs G N' (L2.del H Dd) ds vs) .non .bl .int .str ?_ ?_ ?_ ?_ ?_ ?_ ?_ .nil ?_ h
  · intro a vs ds hs _ ih; exact .tup (SqT.del hD hs) ih
  · intro a vs ds hs n _ ih
    exact .lst (by rw [L2.del_ne fun z => n (by rw [z]; exact hN)]; exact hs) (fun z => n (hNN a z)) ih
  · intro a vs ds hs _ ih
    rcases hs with ⟨o, hs⟩ | hs
    · exact .scr (.inl ⟨o, by rw [L2.del_ne fun z => by rw [z, hD] at hs; cases hs]; exact hs⟩) ih
    · exact .scr (.inr hs) ih
  · intro a vs ds hs _ ih
    rcases hs with ⟨o, hs, h1⟩ | hs
    · exact .tpn (.inl ⟨o, by rw [L2.del_ne fun z => by rw [z, hD] at hs; cases hs]; exact hs, h1⟩) ih
    · exact .tpn (.inr hs) ih
  · intro a dx fs c ds hs n hf _ ih
    exact .obj (by rw [L2.del_ne fun z => n (by rw [z]; exact hN)]; exact hs) (fun z => n (hNN a z)) hf ih
  · intro a o es kv vv ks vs hs n hk he hv _ _ h1 h2
    exact .dct (by rw [L2.del_ne fun z => n (by rw [z]; exact hN)]; exact hs) (fun z => n (hNN a z)) hk he hv h1 h2
  · intro a u hs n
    exact .fix (by rw [L2.del_ne fun z => n (by rw [z]; exact hN)]; exact hs) fun z => n (hNN a z)
  · intro d v ds vs _ _ h1 h2; exact .cons h1 h2
theorem Rvs.del {N N' : Addr → Prop} {us : List V} (hD : H Dd = some (.lst us)) (hN : N Dd) (hNN : ∀ a, N' a → N a) : ∀ {d : List D} {v : List V}, Rvs G N H d v → Rvs G N' (L2.del H Dd) d v
  | [], _, h => by cases h; exact .nil
  | d :: ds, _, h => by
    cases h with
    | cons h1 h2 => exact .cons (Rv.del hD hN hNN h1) (Rvs.del hD hN hNN h2)
theorem isM_no {sl : Sl} {vs : List Nat} (h : noOwn sl vs = true) {i : Nat} (hi : i ∈ vs) {xs : List D} : sl[i]? ≠ some (some (Sv.m xs)) := fun e => by
  have := List.all_eq_true.mp h i hi
  simp [e] at this
theorem isX_no {sl : Sl} {vs : List Nat} (h : noOwn sl vs = true) {i : Nat} (hi : i ∈ vs) {x : Sv} (hx : x.mx = true) : sl[i]? ≠ some (some x) := fun e => by
  have := List.all_eq_true.mp h i hi
  cases x <;> simp [e, Sv.mx] at this hx
/-- behind the block -/
theorem Sr.unblock {sl1 slc : Sl} {vs : List Nat} {us : List V} (r1 : Sr G T A sl1 σ H1) (h0 : T'.N0 = (T.away Dd).N0) (hH : T'.H0 = T.H0) (hio : T'.io = T.io) (rw' : Sr G T' A (wipeD slc vs) (wipe σ vs) H) (k : Keep (Own A) H1 H) (h1 : H1 Dd = none) (hD : H Dd = some (.lst us)) (no : noOwn sl1 vs = true) :
    Sr G T A (merge sl1 slc vs) σ (L2.del H Dd) ∧ Keep (Own A) H1 (L2.del H Dd) := by
  have k' : Keep (Own A) H1 (L2.del H Dd) := fun a o e f => by rw [L2.del_ne fun z => by rw [z, h1] at e; cases e]; exact k a o e f
  have hl : sl1.length = slc.length := by
    have := rw'.len
    rw [wipeD_len, wipe_length] at this
    rw [this]; exact r1.len
  have nO : ¬ Own A Dd := fun ⟨i, e⟩ => r1.fresh h1 (.inr ⟨i, e⟩)
  have hNN : ∀ a, T.N A a → T'.N A a := fun a z => by
    rcases z with z | z
    · exact .inl (by rw [h0]; exact .inl z)
    · exact .inr z
  have hND : T'.N A Dd := .inl (by rw [h0]; exact .inr rfl)
  refine ⟨⟨fun i d e => ?_, fun i xs e => ?_, by rw [merge_len, ← hl]; exact r1.len, r1.inj, r1.own, fun i a e => ?_, fun b o e n => ?_, fun b h => ?_, r1.iot, fun p hp => Rv.keep k' (fun _ z => .inr z) (r1.held p hp), fun a xs e => ?_, fun i x e h => ?_⟩, k'⟩
  · rw [merge_get hl] at e
    split at e
    · obtain ⟨v, e1, e2⟩ := r1.val i d e; exact ⟨v, e1, Rv.keep k' (fun _ z => .inr z) e2⟩
    · rename_i hi
      obtain ⟨v, e1, e2⟩ := rw'.val i d (by rw [wipeD_get, if_neg hi]; exact e)
      rw [wipe_get, if_neg hi] at e1
      exact ⟨v, e1, Rv.del hD hND hNN e2⟩
  · rw [merge_get hl] at e
    split at e
    · rename_i hi; exact absurd e (isM_no no hi)
    · rename_i hi
      obtain ⟨a, vs', e1, e2, e3, e4⟩ := rw'.mu i xs (by rw [wipeD_get, if_neg hi]; exact e)
      rw [wipe_get, if_neg hi] at e2
      exact ⟨a, vs', e1, e2, by rw [L2.del_ne fun z => nO ⟨i, by rw [← z]; exact e1⟩]; exact e3, Rvs.del hD hND hNN e4⟩
  · obtain ⟨xs, q, nf⟩ := rw'.alive i a e
    exact ⟨xs, by rw [L2.del_ne fun z => nO ⟨i, by rw [← z]; exact e⟩]; exact q, nf⟩
  · rw [L2.del_ne fun z => by rw [z, r1.fresh0 h1] at e; cases e]
    exact rw'.kept b o (by rw [hH]; exact e) (by rw [hio]; exact n)
  · obtain ⟨o, q⟩ := rw'.trk b (by rw [h0]; exact .inl h)
    exact ⟨o, by rw [L2.del_ne fun z => r1.fresh h1 (.inl (by rw [← z]; exact h))]; exact q⟩
  · refine rw'.sz a xs ?_
    have dn : ∀ {o : HO}, L2.del H Dd a = some o → H a = some o := fun {o} q => by
      by_cases z : a = Dd
      · rw [z, L2.del_same] at q; cases q
      · rw [L2.del_ne z] at q; exact q
    rcases e with (e | ⟨o, e⟩) | (e | ⟨o, e⟩)
    · exact .inl (.inl (dn e))
    · exact .inl (.inr ⟨o, dn e⟩)
    · exact .inr (.inl (dn e))
    · exact .inr (.inr ⟨o, dn e⟩)
  · rw [merge_get hl] at e
    split at e
    · rename_i hi; exact absurd e (isX_no no hi h)
    · rename_i hi
      obtain ⟨a, e1, e2, e3⟩ := rw'.mx i x (by rw [wipeD_get, if_neg hi]; exact e) h
      rw [wipe_get, if_neg hi] at e2
      refine ⟨a, e1, e2, e3.imp (fun b o q w => ?_) (fun _ q => q) fun _ _ q => Rvs.del hD hND hNN q⟩
      rw [L2.del_ne fun z => ?_]; exact w
      rcases q with q | ⟨q, _⟩
      · exact nO ⟨i, by rw [← z, q]; exact e1⟩
      · exact nO ⟨i + 1000, by rw [← z]; exact q⟩
end

abbrev noW : WX := fun _ _ _ _ => False
/-- a comprehension's test -/
def FTs (G : Glue) (X : Cx) (ifs : List Expr) (c : Sl → R Bool) : Prop := ∀ T, PTs X ifs fun σ H Q => HSz H → ∃ A sl, Sr G T A sl σ H ∧ PostB G noW T A σ H (c sl) Q
theorem fts_nil {G : Glue} {X : Cx} : FTs G X [] cYes := fun T => ⟨fun pins s σ H Q I q => by
  obtain ⟨A, sl, sr, p⟩ := q (Inv.hsz I)
  exact pts_nil.run pins s σ H Q I (p true H sr .refl rfl)⟩
theorem fts_one {G : Glue} {X : Cx} {c : Expr} {d : Ev} (h : FB G noW X c d) : FTs G X [c] (dB d) := fun T => pts_one (h T)
/-- one way through a list comprehension -/
theorem lc_read {G : Glue} {W : WX} {X : Cx} {tg iter elt : Expr} {T : Act} {t : Tg} {it : Lv} {c : Sl → R Bool} {e : Ev} {vs : List Nat} {σ : St} {H : Hp} {Q : VK} (hs : ∀ n ∈ t.slots, n ∈ vs)
    (h : tNew G W T (dLc vs t c e it) σ H Q) :
    tLc (tIt G W T it) (fun v σ H Q => ∃ T, tTg G T t v σ H Q) (fun σ H Q => ∃ T, HSz H → ∃ A sl, Sr G T A sl σ H ∧ PostB G noW T A σ H (c sl) Q) (fun σ H Q => ∃ T, tEv G noW T e σ H Q) vs σ H Q := fun hz => by
  obtain ⟨A, sl, s, p⟩ := h hz
  refine ⟨A, sl, s, PostG.bind p fun ds sl1 q H1 _ s1 k1 r1 p1 => ?_⟩
  obtain ⟨J, hv⟩ := q
  obtain ⟨⟨Gd, hG, wk⟩, hh, hle⟩ := r1
  dsimp only at hG wk hh p1
  split at p1
  · rename_i no
    split at p1
    · rename_i Y SLW hY
      intro Dd hD
      have sb := ((s1.holds hh).block hD (vs := []) (Nat.zero_le _)).wiped vs
      have nO : ¬ Own A Dd := fun ⟨i, z⟩ => s1.fresh hD (.inr ⟨i, z⟩)
      have h0D : T.H0 Dd = none := s1.fresh0 hD
      refine lc_it (g := fun v σ H Q => ∃ T, tTg G T t v σ H Q) (tt := fun σ H Q => ∃ T, HSz H → ∃ A sl, Sr G T A sl σ H ∧ PostB G noW T A σ H (c sl) Q) (te := fun σ H Q => ∃ T, tEv G noW T e σ H Q) (vs := vs) (σ := σ) (Qd := fun H => Q (.ref Dd) H) wk
        (fun i H => ∃ slc accD accV, Sr G (Act.away { T with hd := hv ++ T.hd } Dd) A (wipeD slc vs) (wipe σ vs) H ∧ H Dd = some (.lst accV) ∧ Rvs G ((Act.away { T with hd := hv ++ T.hd } Dd).N A) H accD accV ∧ accD.length ≤ i ∧ Keep (Own A) H1 H ∧
          ∃ ys, lcL vs t c e (ds.drop i) slc = some (ys, SLW) ∧ accD ++ ys = Y)
        ⟨sl1, [], [], sb, upd_same, .nil, Nat.le_refl _, .same (same_fresh hD _), Y, by rw [List.drop_zero]; exact hY, rfl⟩
        (fun i H _ ⟨slc, accD, accV, sr, _⟩ => hG _ H fun p hp => sr.held p (List.mem_append_left _ hp)) (fun i x H H' hi ⟨slc, accD, accV, sr, hDD, ra, hlen, kk, ys, hl, hY'⟩ y => ?_) fun H ⟨slc, accD, accV, sr, hDD, ra, hlen, kk, ys, hl, hY'⟩ => ?_
      · obtain ⟨sm, y⟩ := y
        obtain ⟨d, hd, rd⟩ := y _ (fun p h => sr.fresh h) fun p hp => sr.held p (List.mem_append_left _ hp)
        have ed : ds.drop i = d :: ds.drop (i + 1) := by
          obtain ⟨hl, e⟩ := List.getElem?_eq_some_iff.mp hd
          rw [List.drop_eq_getElem_cons hl, e]
        rw [ed] at hl
        unfold lcL at hl
        split at hl
        · cases hl
        · rename_i slb hb
          refine ⟨_, fun hz' => ⟨A, _, d, slb, sr.grown sm hz', rd, hb, fun σ2 al s2 => ?_⟩⟩
          have e2 : wipe σ2 vs = wipe σ vs := by rw [wipe_alike al hs, wipe_wipe]
          refine ⟨e2, _, fun hz2 => ⟨A, slb, s2, ?_⟩⟩
          have nxt : ∀ {slc' : Sl} {H3 : Hp}, Sr G (Act.away { T with hd := hv ++ T.hd } Dd) A slc' σ2 H3 → Sr G (Act.away { T with hd := hv ++ T.hd } Dd) A (wipeD slc' vs) (wipe σ vs) H3 := fun s3 => by
            have := s3.wiped vs
            rw [e2] at this; exact this
          have keepD : ∀ {H3 : Hp}, Keep (Own A) H' H3 → H3 Dd = some (.lst accV) := fun k => k _ _ (sm _ _ hDD) fun z => absurd z nO
          split at hl
          · rename_i sl2 hc
            rw [hc]
            intro b H3 s3 k3 eb
            subst eb
            rw [if_pos rfl]
            split at hl
            · rename_i x' sl3 he
              split at hl
              · rename_i ys' sl4 hrec
                cases hl
                refine ⟨_, fun hz3 => ⟨A, sl2, s3, ?_⟩⟩
                rw [he]
                intro v H4 s4 k4 r4
                have kt : Keep (Own A) H H4 := (Keep.same sm).trans (k3.trans k4)
                have hD4 : H4 Dd = some (.lst accV) := keepD (k3.trans k4)
                have lt : accD.length < sizeLine := by omega
                have ra4 := Rvs.keep kt (fun _ z => .inr z) ra
                have la := ra.length
                have kD : Keep (fun a => a = Dd) H4 (L2.upd H4 Dd (.lst (accV ++ [v]))) := Keep.upd hD4 (fun z => z) rfl
                refine ⟨accV, hD4, by omega, sl3, accD ++ [x'], accV ++ [v], (nxt s4).grow (.inr rfl) nO h0D hD4 (by rw [List.length_append]; show _ + 1 ≤ _; omega), upd_same, ?_, by rw [List.length_append]; show _ + 1 ≤ _; omega, ?_, ys', hrec, by rw [List.append_assoc]; exact hY'⟩
                · exact Rvs.keep kD (fun a z => .inl (.inr z)) (ra4.append (.cons r4 .nil))
                · intro b o e f
                  rw [upd_ne fun z => by rw [z, hD] at e; cases e]
                  exact (kk.trans kt) b o e f
              · cases hl
            · cases hl
          · rename_i sl2 hc
            rw [hc]
            intro b H3 s3 k3 eb
            subst eb
            rw [if_neg (by simp)]
            have kt : Keep (Own A) H H3 := (Keep.same sm).trans k3
            exact ⟨sl2, accD, accV, nxt s3, keepD k3, Rvs.keep kt (fun _ z => .inr z) ra, by omega, kk.trans kt, ys, hl, hY'⟩
          · cases hl
      · rw [List.drop_length] at hl
        unfold lcL at hl
        cases hl
        rw [List.append_nil] at hY'
        subst hY'
        obtain ⟨sr', kr⟩ := Sr.unblock (T' := Act.away { T with hd := hv ++ T.hd } Dd) s1 rfl rfl rfl sr kk hD hDD no
        have eH : H = L2.upd (L2.del H Dd) Dd (.lst accV) := by
          funext a
          by_cases z : a = Dd
          · subst z; rw [upd_same]; exact hDD
          · rw [upd_ne z, L2.del_ne z]
        have := p1 accV (L2.del H Dd) sr' kr (Rvs.del hDD (.inl (.inr rfl)) (fun a z => by
          rcases z with z | z
          · exact .inl (.inl z)
          · exact .inr z) ra) Dd L2.del_same
        rw [← eH] at this
        exact this
    · exact p1.elim
  · exact p1.elim
section
variable {G : Glue} {W : WX} {X : Cx} {tg iter elt : Expr} {ifs : List Expr} {scope : Scope} {own : List (Str × Nat)} {pos spos : Pos} {t : Tg} {it : Lv} {c : Sl → R Bool} {e : Ev} {vs : List Nat}
theorem PTs.any {f : Act → TT} (h : ∀ T, PTs X ifs (f T)) : PTs X ifs fun σ H Q => ∃ T, f T σ H Q := ⟨fun pins s σ H Q I ⟨T, q⟩ => (h T).run pins s σ H Q I q⟩
theorem fl_lc (hN : X.N.Nodup) (ok : BlkOk X.N X.env.scope scope own) (hi : FI G W X tg iter it)
    (hg : ∀ (s : Shared) (H : Hp) (C : Addr) (cl : List (Str × Addr)) (fp : List Addr), FG G (X.blk s H scope (compEnvC scope cl C X.env) fp) tg t)
    (ht : ∀ (s : Shared) (H : Hp) (C : Addr) (cl : List (Str × Addr)) (fp : List Addr), FTs G (X.blk s H scope (compEnvC scope cl C X.env) fp) ifs c)
    (he : ∀ (s : Shared) (H : Hp) (C : Addr) (cl : List (Str × Addr)) (fp : List Addr), FE G noW (X.blk s H scope (compEnvC scope cl C X.env) fp) elt e)
    (hv : own.map (·.2) = vs := by rfl) (hsl : ∀ n ∈ t.slots, n ∈ vs := by decide) (hc : X.calm = true := by rfl) (hs : ∀ x, foldedSetIterable iter X.env x = pure x := by intro _; rfl) :
    FL G W X (.ListComp elt [⟨tg, iter, ifs, 0⟩] scope pos) (dLc vs t c e it) := fun T => by
  subst hv
  exact PE.imp (pe_lc hc hN (hi T) ok (fun s H C cl fp => PG.any (hg s H C cl fp)) (fun s H C cl fp => PTs.any (ht s H C cl fp)) (fun s H C cl fp => PE.any (he s H C cl fp)) hs) fun σ H Q h => lc_read (tg := tg) (iter := iter) (elt := elt) (X := X) hsl h
end
end F

set_option Elab.async false
set_option linter.all false
set_option maxRecDepth 100000
set_option maxHeartbeats 4000000
/-! dicts of one's own: made, written -/
namespace F
open PySem PySem.Spec PyProof.Rows L2
/-! ### {} -/
theorem dic_empty {P : Program} {w : World} {H : Hp} (h : Heap) (hb : sysModules < h.objs.size) : ObjOk P w H (h.push { cls := .type "dict", data := .dict #[] }) h.objs.size (dicO P w h.objs.size { cls := .type "dict", data := .dict #[] } []) := by
  have e : (h.push { cls := .type "dict", data := .dict #[] }).get? h.objs.size = some { cls := .type "dict", data := .dict #[] } := Heap.get?_push_size _ rfl
  refine ⟨⟨⟨#[], 0, e, ⟨rfl, rfl, rfl⟩, rfl, rfl⟩, List.nodup_nil, beq_eq_false_iff_ne.mpr (Ne.symm (Nat.ne_of_lt hb)), Nat.zero_le _⟩, ⟨_, e⟩, ?_⟩
  rintro h1 h2 ⟨⟨arr, ep, e1, e2⟩, r⟩ st
  exact ⟨⟨arr, ep, st _ e1, e2⟩, r⟩
theorem pe_newN {X : Cx} {pos : Pos} {P : Program} {w : World} (hP : X.prog = P) (hw : X.w = w) : PE X (.Dict [] [] pos) fun _ H Q => ∀ p o, H p = none → Q (.ref p) (upd H p (dicO P w p o [])) := ⟨fun pins s σ H Q I h => by
  subst hP hw
  exact wpAny_Dict_empty ⟨.ref s.heap.objs.size, _, I.laid (a := s.heap.objs.size) (o := dicO X.prog X.w s.heap.objs.size { cls := .type "dict", data := .dict #[] } []) (t' := s.toks) (fun _ _ q => Heap.get?_push_of_some _ q) (Nat.le_refl _) (dic_empty s.heap I.big), rfl, h _ _ (I.hok.fresh (Nat.le_refl _))⟩⟩
theorem hsz_ext {H : Hp} {p : Addr} {φ : Heap → Prop} (h : HSz H) : HSz (upd H p (.ext φ)) := fun a xs e => by
  refine h a xs ?_
  unfold Rd at e ⊢
  by_cases z : a = p
  · subst z
    rw [upd_same] at e
    rcases e with (e | ⟨o, e⟩) | (e | ⟨o, e⟩) <;> cases e
  · rw [upd_ne z] at e; exact e
theorem dic_new {G : Glue} {N : Addr → Prop} {H : Hp} {p : Addr} {o : Obj} : Dic G N (upd H p (dicO G.P G.w p o [])) p [] [] := ⟨o, [], [], [], upd_same, .nil, rfl, .nil, .nil, .nil⟩
def mNewE (i : Nat) : Sm := fun sl => .nx (sl.set i (some (.d [] [])))
section
variable {G : Glue} {W : WX} {X : Cx} {a b c : Expr} {da db dc : Ev} {pos : Pos} {T : Act} {A : Nat → Option Addr} {sl : Sl} {σ : St} {H : Hp}
theorem fs_newE {i : Nat} {x : Str} {pos' : Pos} {p2 : Pos} (hP : X.prog = G.P) (hw : X.w = G.w) (hN : X.N.Nodup) (hi : X.N[i + 1]? = some x := by rfl) (hx : Loc X.env.scope x := by first | exact Or.inl rfl | exact Or.inr rfl) (hs : swapsWith (.Dict [] [] p2) (some (.Name x pos')) pos.line X.env = pure false := by rfl)
    (hf : X.fn x = true ∨ X.env.scope.names.lookup x = some .local := by first | exact .inl rfl | exact .inr rfl | assumption) (h1000 : i + 1 < 1000 := by decide) : FS G W X (.Assign [.Name x pos'] (.Dict [] [] p2) pos) (mNewE (i + 1)) := fun T =>
  PS.plus (ps_set hN hi hx (pe_newN hP hw) hs hf) fun D σ H z h => by
    obtain ⟨A, sl, s, p⟩ := h z
    intro q o hq hz'
    exact p _ _ _ (s.setO h1000 (.inr (Nat.succ_ne_zero i)) hq id hz' dic_new)
end
/-! ### d[k] = v -/
def dput (ks vs : List D) (d z : D) : List D × List D := if isIn d ks = true then (ks, go ks vs) else (ks ++ [d], vs ++ [z])
where go : List D → List D → List D
  | k :: ks, v :: vs => (if D.eqv k d = true then z else v) :: go ks vs
  | _, vs => vs
/-- o[i] = e, for a dict of nested keys -/
def sPutN (G : Glue) (td ty tv : TE) : TS := fun DD σ H => tv σ H fun z H1 => td σ H1 fun x H2 => ty σ H2 fun y H3 => ∃ (N : Addr → Prop) (k : NestedKey) (d : D) (ks : List D) (a b : Addr) (o : Obj) (es : List (NestedKey × Addr × Value)), x = .ref a ∧ y = .ref b ∧ KeyOf k d ∧ Rv G N H3 d (.ref b) ∧
  H3 a = some (dicO G.P G.w a o es) ∧ Paired (fun (e : NestedKey × Addr × Value) d => KeyOf e.1 d) es ks ∧ Rvs G N H3 ks (es.map fun e => V.ref e.2.1) ∧ ks.length < sizeLine ∧ ∀ u o', RelV z u → DD.nx σ (upd H3 a (dicO G.P G.w a o' (storedH es k b u)))
theorem storedH_len {K : Type} [DecidableEq K] {es : List (K × Addr × Value)} {k : K} {b : Addr} {u : Value} : (storedH es k b u).length ≤ es.length + 1 := by
  unfold storedH; split <;> simp
theorem nodup_stored {K : Type} [DecidableEq K] {es : List (K × Addr × Value)} {k : K} {b : Addr} {u : Value} (h : (es.map (·.1)).Nodup) : ((storedH es k b u).map (·.1)).Nodup := by
  unfold storedH
  split
  · rw [List.map_map]
    have : ((fun x : K × Addr × Value => x.1) ∘ putAt k u) = fun x : K × Addr × Value => x.1 := by
      funext x
      simp only [Function.comp, putAt]
      split <;> rfl
    rw [this]; exact h
  · rename_i hn
    rw [List.map_append, List.nodup_append]
    refine ⟨h, by simp, fun x hx y hy e => ?_⟩
    simp at hy
    rw [hy] at e
    obtain ⟨p, hp, e2⟩ := List.mem_map.mp hx
    apply hn
    unfold atKey
    cases q : es.find? (fun x => decide (x.1 = k)) with
    | some _ => rfl
    | none =>
      have := List.find?_eq_none.mp q p hp
      simp [e2.trans e] at this
section
variable {G : Glue} {W : WX} {X : Cx} {o i value : Expr} {pos pos' : Pos} {td ty tv : TE}
theorem ps_putN (hu : X.A.units + 130 < cLine) (hK : X.K = G.K) (hP : X.prog = G.P) (hw : X.w = G.w) (ho : PE X o td) (hi : PE X i ty) (hv : PE X value tv) (hs : swapsWith value (some (.Subscript o i pos')) pos.line X.env = pure false) : PS X (.Assign [.Subscript o i pos'] value pos) (sPutN G td ty tv) := by
  refine ⟨fun pins s σ H D I h => ?_⟩
  refine wpAny_Assign_Subscript (thn (hv.run pins s σ H _ I h) fun r s1 ⟨z, H1, I1, rz, q1⟩ => thn (ho.run pins s1 σ H1 _ I1 q1) fun u s2 ⟨x, H2, I2, rx, q2⟩ => thn (hi.run pins s2 σ H2 _ I2 q2) fun iv s3 ⟨y, H3, I3, ry, q3⟩ => ?_) hs
  obtain ⟨N, k, d, ks, a, b, o0, es0, rfl, rfl, hk, rd, he0, h3, h5, hl, q⟩ := q3
  obtain rfl : u = Value.ref a := rx
  obtain rfl : iv = Value.ref b := ry
  obtain ⟨h1, h2, h2'⟩ := dic_keyed hK hP hw I3 he0 h3 h5
  obtain ⟨_, _, _, g1, _, _, g2, _, gn⟩ := id h1
  refine wpAny_setItem_heap (knd := nestedKind X.prog X.w) (hsz := h2') (show X.A.units + 1 + 8 < cLine by omega) ⟨Rv.key hK I3 rd rfl hk.1, hk.2.1⟩ h1 fun h' hm' hs' => ?_
  obtain ⟨ob, arr, ep, w1, w2, w3, w4, _, w5⟩ := hm'
  refine ⟨σ, _, ?_, q r ob rz⟩
  have lk : es0.length = ks.length := Paired.length h3
  refine d_write I3 (by rw [he0]; exact True.intro) hs' ⟨ob, w1⟩ ?_
  refine ⟨⟨⟨arr, ep, w1, w2, w3, by rw [← hP, ← hw]; exact w4⟩, nodup_stored gn, h2, ?_⟩, ⟨ob, w1⟩, ?_⟩
  · have := storedH_len (es := es0) (k := k) (b := b) (u := r); omega
  · rintro p1 p2 ⟨⟨arr', ep', e1, e2⟩, r'⟩ st
    exact ⟨⟨arr', ep', st _ e1, e2⟩, r'⟩
end
/-- behind a store: what the dict is -/
theorem dput_dic {G : Glue} {N : Addr → Prop} {H : Hp} {k : NestedKey} {d z : D} {b : Addr} {u : Value} {w : V} (hk : KeyOf k d) (rd : Rv G N H d (.ref b)) (rz : Rv G N H z w) (ru : RelV w u) {es : List (NestedKey × Addr × Value)} {ks vs : List D} {vv : List V}
    (h1 : Paired (fun (e : NestedKey × Addr × Value) d => KeyOf e.1 d) es ks) (h2 : Rvs G N H ks (es.map fun e => V.ref e.2.1)) (h3 : Vals vv (es.map (·.2.2))) (h4 : Rvs G N H vs vv) :
    Paired (fun (e : NestedKey × Addr × Value) d => KeyOf e.1 d) (storedH es k b u) (dput ks vs d z).1 ∧ Rvs G N H (dput ks vs d z).1 ((storedH es k b u).map fun e => V.ref e.2.1) ∧
      ∃ vv', Vals vv' ((storedH es k b u).map (·.2.2)) ∧ Rvs G N H (dput ks vs d z).2 vv' := by
  have at' := at_isIn hk h1
  unfold storedH dput
  rw [at']
  by_cases c : isIn d ks = true
  · rw [if_pos c, if_pos c]
    dsimp only
    have gen : ∀ (es : List (NestedKey × Addr × Value)) (ks vs : List D) (vv : List V), Paired (fun (e : NestedKey × Addr × Value) d => KeyOf e.1 d) es ks → Vals vv (es.map (·.2.2)) → Rvs G N H vs vv →
        Paired (fun (e : NestedKey × Addr × Value) d => KeyOf e.1 d) (es.map (putAt k u)) ks ∧ (es.map (putAt k u)).map (fun e => V.ref e.2.1) = es.map (fun e => V.ref e.2.1) ∧ ∃ vv', Vals vv' ((es.map (putAt k u)).map (·.2.2)) ∧ Rvs G N H (dput.go d z ks vs) vv' := by
      intro es
      induction es with
      | nil =>
        intro ks vs vv p v r
        cases p; cases v; cases r
        exact ⟨.nil, rfl, [], .nil, .nil⟩
      | cons e es ih =>
        intro ks vs vv p v r
        cases p with
        | cons p1 p2 =>
          rename_i y ys
          rw [List.map_cons] at v
          cases v with
          | cons v1 v2 =>
            cases r with
            | cons r1 r2 =>
              obtain ⟨q1, q2, vv', q3, q4⟩ := ih _ _ _ p2 v2 r2
              have ke := key_eq y d e.1 k p1.1 hk.1
              have e1 : (putAt k u e).1 = e.1 := by unfold putAt; split <;> rfl
              have e2 : (putAt k u e).2.1 = e.2.1 := by unfold putAt; split <;> rfl
              refine ⟨.cons (by rw [e1]; exact p1) q1, by rw [List.map_cons, List.map_cons, List.map_cons, e2, q2], ?_⟩
              simp only [dput.go, List.map_cons]
              by_cases g : e.1 = k
              · rw [if_pos (ke.mp g)]
                exact ⟨w :: vv', .cons (by unfold putAt; rw [if_pos g]; exact ru) q3, .cons rz q4⟩
              · rw [if_neg fun t => g (ke.mpr t)]
                exact ⟨_ :: vv', .cons (by unfold putAt; rw [if_neg g]; exact v1) q3, .cons r1 q4⟩
    obtain ⟨q1, q2, q3⟩ := gen es ks vs vv h1 h3 h4
    exact ⟨q1, by rw [q2]; exact h2, q3⟩
  · rw [if_neg c, if_neg c]
    dsimp only
    refine ⟨?_, by rw [List.map_append]; exact h2.append (.cons rd .nil), vv ++ [w], by rw [List.map_append]; exact h3.append (.cons ru .nil), h4.append (.cons rz .nil)⟩
    have gen : ∀ (es : List (NestedKey × Addr × Value)) (ks : List D), Paired (fun (e : NestedKey × Addr × Value) d => KeyOf e.1 d) es ks → Paired (fun (e : NestedKey × Addr × Value) d => KeyOf e.1 d) (es ++ [(k, b, u)]) (ks ++ [d]) := by
      intro es
      induction es with
      | nil => intro ks p; cases p; exact .cons hk .nil
      | cons e es ih => intro ks p; cases p with | cons p1 p2 => exact .cons p1 (ih _ p2)
    exact gen es ks h1
def mPut (i : Nat) (dv dk : Ev) : Sm := fun sl => (dv sl).to fun x sl1 => match sl1[i]? with
  | some (some (.d _ _)) => (dk sl1).to fun y sl2 => match x, sl2[i]?, y with
    | .v z, some (some (.d ks vs)), .v d => if keyOk d && (decide (sl2.length ≤ 1000) && decide (ks.length < sizeLine)) then .nx (sl2.set i (some (.d (dput ks vs d z).1 (dput ks vs d z).2))) else .bad
    | _, _, _ => .bad
  | _ => .bad
section
variable {G : Glue} {W : WX} {X : Cx} {a b c : Expr} {da db dc : Ev} {pos pos' : Pos} {T : Act} {A : Nat → Option Addr} {sl : Sl} {σ : St} {H : Hp}
theorem fs_put {i : Nat} {x : Str} {p2 : Pos} (hu : X.A.units + 130 < cLine) (hP : X.prog = G.P) (hw : X.w = G.w) (hv : FE G W X a da) (hi : FE G W X b db) (hN : X.N[i]? = some x := by rfl) (hK : X.K = G.K := by rfl)
    (hvis : Vis X.env.scope x := by first | exact Or.inl rfl | exact Or.inr (Or.inl rfl) | exact Or.inr (Or.inr rfl)) (hd : (x == ("__debug__" : Str)) = false := by decide) (hcd : (x == ("__classdict__" : Str)) = false := by decide)
    (hs : swapsWith a (some (.Subscript (.Name x p2) b pos')) pos.line X.env = pure false := by rfl) : FS G W X (.Assign [.Subscript (.Name x p2) b pos'] a pos) (mPut i da db) := fun T =>
  PS.plus (ps_putN (G := G) hu hK hP hw (pe_var hN hvis hd hcd) (hi T) (hv T) hs) fun D σ H z h hz => by
    obtain ⟨A, sl, s, p⟩ := h hz
    refine ⟨A, sl, s, to_post p fun x sl1 v H1 ex s1 k1 r1 p1 => ?_⟩
    split at p1
    · rename_i ks0 vs0 e0
      obtain ⟨a0, g1, g2, g3⟩ := s1.mx i _ e0 rfl
      refine ⟨_, g2, fun hz2 => ⟨A, sl1, s1, to_post p1 fun y sl2 u H2 ey s2 k2 r2 p2 => ?_⟩⟩
      split at p2
      · rename_i z' ks vs d e1
        split at p2
        · rename_i hc
          simp only [Bool.and_eq_true, decide_eq_true_eq] at hc
          obtain ⟨kk, hk⟩ := keyOk_spec hc.1
          obtain ⟨b', rfl, rd⟩ := Rl.keyRef (.inl r2) hk
          obtain ⟨a1, f1, f2, o0, es, kv, vv, f3, f4, f5, f6, f7, f8⟩ := s2.mx i _ e1 rfl
          rw [g1] at f1; cases f1
          subst f5
          have rz := Rs.keep k2 r1
          refine ⟨_, kk, d, ks, a0, b', o0, es, rfl, rfl, hk, rd, f3, f4, f7, hc.2.2, fun u' o' ru hz3 => ?_⟩
          obtain ⟨n1, n2, vv', n3, n4⟩ := dput_dic hk rd rz ru f4 f7 f6 f8
          have kp : Keep (Own A) H2 (upd H2 a0 (dicO G.P G.w a0 o' (storedH es kk b' u'))) := Keep.upd f3 id ⟨i, g1⟩
          obtain ⟨s3, _⟩ := s2.writeO (i := i) (n := i) (c := a0) (x := .d (dput ks vs d z').1 (dput ks vs d z').2) (u := dicO G.P G.w a0 o' (storedH es kk b' u')) hc.2.1 e1 rfl rfl (.inl rfl) g1 id hz3 fun a ha _ => by
            rw [g1] at ha; cases ha
            exact ⟨_, _, _, _, upd_same, n1, rfl, n3, Rvs.keep kp (fun _ z => .inr z) n2, Rvs.keep kp (fun _ z => .inr z) n4⟩
          exact p2 _ _ _ s3
        · exact p2.elim
      · exact p2.elim
    · exact p1.elim
end
end F

set_option Elab.async false
set_option linter.all false
set_option maxRecDepth 100000
set_option maxHeartbeats 4000000
namespace F
open PySem PySem.Spec PyProof.Rows L2

section
variable {G : Glue} {W : WX} {X : Cx} {tg iter elt : Expr} {ifs : List Expr} {scope : Scope} {own : List (Str × Nat)} {pos spos py : Pos} {t : Tg} {it : Lv} {c : Sl → R Bool} {e : Ev} {vs : List Nat} {i : Nat} {y : Str}
theorem set_new {T : Act} {l : Lv} {D : Ends} {σ : St} {H : Hp} (h : tSm G W T (mSet i (dL l)) D σ H) : tNew G W T l σ H fun x H1 => HSz H1 → D.nx (σ.set i (some x)) H1 := fun hz => by
  obtain ⟨A, sl, s, p⟩ := h hz
  refine ⟨A, sl, s, ?_⟩
  unfold mSet dL at p
  cases hl : l sl with
  | ok ds sl1 =>
    rw [hl] at p
    intro vs H1 s1 k1 r1 q hq hz'
    have sm := same_fresh hq (.lst vs)
    exact p A _ _ ((s1.grown sm hz').set i (.lst upd_same (s1.fresh hq) (Rvs.keep (.same sm) (fun _ z => .inr z) r1)))
  | ex x sl1 =>
    rw [hl] at p
    exact fun c od H' x s => p A σ H' c od x s
  | bad => rw [hl] at p; exact p
theorem new_new {T : Act} {l : Lv} {D : Ends} {σ : St} {H : Hp} (h1000 : i + 1 < 1000) (h : tSm G W T (mNew (i + 1) l) D σ H) : tNew G W T l σ H fun x H1 => HSz H1 → D.nx (σ.set (i + 1) (some x)) H1 := fun hz => by
  obtain ⟨A, sl, s, p⟩ := h hz
  refine ⟨A, sl, s, ?_⟩
  unfold mNew at p
  cases hl : l sl with
  | ok ds sl1 =>
    rw [hl] at p
    intro vs H1 s1 k1 r1 q hq hz'
    exact p _ _ _ (s1.setM h1000 (.inr (Nat.succ_ne_zero i)) hq r1 hz')
  | ex x sl1 =>
    rw [hl] at p
    exact fun c od H' x s => p A σ H' c od x s
  | bad => rw [hl] at p; exact p
/-- x = [..] of a local name -/
theorem fs_setLc (hN : X.N.Nodup) (ok : BlkOk X.N X.env.scope scope own) (hi : FI G W X tg iter it)
    (hg : ∀ (s : Shared) (H : Hp) (C : Addr) (cl : List (Str × Addr)) (fp : List Addr), FG G (X.blk s H scope (compEnvC scope cl C X.env) fp) tg t)
    (ht : ∀ (s : Shared) (H : Hp) (C : Addr) (cl : List (Str × Addr)) (fp : List Addr), FTs G (X.blk s H scope (compEnvC scope cl C X.env) fp) ifs c)
    (he : ∀ (s : Shared) (H : Hp) (C : Addr) (cl : List (Str × Addr)) (fp : List Addr), FE G noW (X.blk s H scope (compEnvC scope cl C X.env) fp) elt e)
    (hsw : swapsWith (.ListComp elt [⟨tg, iter, ifs, 0⟩] scope pos) (some (.Name y py)) spos.line X.env = pure true)
    (hy : X.N[i]? = some y := by rfl) (hyl : X.env.scope.names.lookup y = some .local := by rfl)
    (hv : own.map (·.2) = vs := by rfl) (hsl : ∀ n ∈ t.slots, n ∈ vs := by decide) (hc : X.calm = true := by rfl) (hs : ∀ x, foldedSetIterable iter X.env x = pure x := by intro _; rfl) :
    FS G W X (.Assign [.Name y py] (.ListComp elt [⟨tg, iter, ifs, 0⟩] scope pos) spos) (mSet i (dL (dLc vs t c e it))) := fun T => by
  subst hv
  exact PS.plus (ps_setLc hc hN hy hyl hsw (hi T) ok (fun s H C cl fp => PG.any (hg s H C cl fp)) (fun s H C cl fp => PTs.any (ht s H C cl fp)) (fun s H C cl fp => PE.any (he s H C cl fp)) hs) fun D σ H z h =>
    lc_read (tg := tg) (iter := iter) (elt := elt) (X := X) hsl (set_new h)
theorem fs_newLc (hN : X.N.Nodup) (ok : BlkOk X.N X.env.scope scope own) (hi : FI G W X tg iter it)
    (hg : ∀ (s : Shared) (H : Hp) (C : Addr) (cl : List (Str × Addr)) (fp : List Addr), FG G (X.blk s H scope (compEnvC scope cl C X.env) fp) tg t)
    (ht : ∀ (s : Shared) (H : Hp) (C : Addr) (cl : List (Str × Addr)) (fp : List Addr), FTs G (X.blk s H scope (compEnvC scope cl C X.env) fp) ifs c)
    (he : ∀ (s : Shared) (H : Hp) (C : Addr) (cl : List (Str × Addr)) (fp : List Addr), FE G noW (X.blk s H scope (compEnvC scope cl C X.env) fp) elt e)
    (hsw : swapsWith (.ListComp elt [⟨tg, iter, ifs, 0⟩] scope pos) (some (.Name y py)) spos.line X.env = pure true)
    (hy : X.N[i + 1]? = some y := by rfl) (hyl : X.env.scope.names.lookup y = some .local := by rfl)
    (hv : own.map (·.2) = vs := by rfl) (hsl : ∀ n ∈ t.slots, n ∈ vs := by decide) (hc : X.calm = true := by rfl) (hs : ∀ x, foldedSetIterable iter X.env x = pure x := by intro _; rfl) (h1000 : i + 1 < 1000 := by decide) :
    FS G W X (.Assign [.Name y py] (.ListComp elt [⟨tg, iter, ifs, 0⟩] scope pos) spos) (mNew (i + 1) (dLc vs t c e it)) := fun T => by
  subst hv
  exact PS.plus (ps_setLc hc hN hy hyl hsw (hi T) ok (fun s H C cl fp => PG.any (hg s H C cl fp)) (fun s H C cl fp => PTs.any (ht s H C cl fp)) (fun s H C cl fp => PE.any (he s H C cl fp)) hs) fun D σ H z h =>
    lc_read (tg := tg) (iter := iter) (elt := elt) (X := X) hsl (new_new h1000 h)
end

/-! ### several names at once -/
/-- a component: data, or a new list -/
inductive Cm where
  | v (d : Ev) | l (d : Lv) | e
def evC : Cm → Sl → R Sv
  | .v d, sl => (d sl).bind fun x sl1 => match x with
    | .v d => .ok (.v d) sl1
    | .r _ => .bad
  | .l d, sl => (d sl).bind fun ds sl1 => .ok (.m ds) sl1
  | .e, sl => .ok (.d [] []) sl
def evCs : List Cm → Sl → R (List Sv)
  | [], sl => .ok [] sl
  | c :: cs, sl => (evC c sl).bind fun x sl1 => (evCs cs sl1).bind fun xs sl2 => .ok (x :: xs) sl2
def setAll {α : Type} (sl : List (Option α)) : List Nat → List α → List (Option α)
  | i :: is, x :: xs => (setAll sl is xs).set i (some x)
  | _, _ => sl
def mPar (is : List Nat) (cs : List Cm) : Sm := fun sl => (evCs cs sl).to fun xs sl1 => .nx (setAll sl1 is xs)
theorem Rvs.of_zip {G : Glue} {N : Addr → Prop} {H : Hp} : ∀ {ds : List D} {vs : List V}, ds.length = vs.length → (∀ p ∈ ds.zip vs, Rv G N H p.1 p.2) → Rvs G N H ds vs
  | [], [], _, _ => .nil
  | [], _ :: _, e, _ => by simp at e
  | _ :: _, [], e, _ => by simp at e
  | d :: ds, v :: vs, e, h => .cons (h (d, v) (by simp)) (Rvs.of_zip (by simpa using e) fun p hp => h p (by simp [hp]))
theorem Rvs.zip {G : Glue} {N : Addr → Prop} {H : Hp} : ∀ {ds : List D} {vs : List V}, Rvs G N H ds vs → ∀ p ∈ ds.zip vs, Rv G N H p.1 p.2
  | [], _, h, p, hp => by simp at hp
  | d :: ds, _, h, p, hp => by
    cases h with
    | cons h1 h2 =>
      rcases List.mem_cons.mp (by simpa using hp) with rfl | hp
      · exact h1
      · exact Rvs.zip h2 p hp
/-- what waits to be bound: data that is held, new lists that no one sees -/
inductive Pend (G : Glue) (A : Nat → Option Addr) (H : Hp) : Act → List Sv → List V → Act → Prop
  | nil {T : Act} : Pend G A H T [] [] T
  | v {T T' : Act} {d : D} {x : V} {xs : List Sv} {vs : List V} : Pend G A H { T with hd := (d, x) :: T.hd } xs vs T' → Pend G A H T (.v d :: xs) (x :: vs) T'
  | m {T T' : Act} {ds : List D} {p : Addr} {ws : List V} {xs : List Sv} {vs : List V} : H p = some (.lst ws) → ds.length = ws.length → ¬ T.N A p → T.H0 p = none → T.io ≠ some p →
      Pend G A H { (T.away p) with hd := ds.zip ws ++ T.hd } xs vs T' → Pend G A H T (.m ds :: xs) (.ref p :: vs) T'
  | e {T T' : Act} {p : Addr} {o : Obj} {xs : List Sv} {vs : List V} : H p = some (dicO G.P G.w p o [])  → ¬ T.N A p → T.H0 p = none → T.io ≠ some p → Pend G A H (T.away p) xs vs T' → Pend G A H T (.d [] [] :: xs) (.ref p :: vs) T'
theorem Pend.keep {G : Glue} {A : Nat → Option Addr} {H H' : Hp} {T T' : Act} {xs : List Sv} {vs : List V} (h : Pend G A H T xs vs T') (k : Keep (Own A) H H') : Pend G A H' T xs vs T' := by
  induction h with
  | nil => exact .nil
  | v _ ih => exact .v ih
  | m h1 h2 h3 h4 h5 _ ih => exact .m (k _ _ h1 fun z => absurd (.inr z) h3) h2 h3 h4 h5 ih
  | e h1 h3 h4 h5 _ ih => exact .e (k _ _ h1 fun z => absurd (.inr z) h3) h3 h4 h5 ih
def tCs (G : Glue) (W : WX) (T : Act) (cs : List Cm) : TA := fun σ H Q => HSz H → ∃ A sl, Sr G T A sl σ H ∧ match evCs cs sl with
  | .ok xs sl' => ∀ (vs : List V) (T' : Act) (H' : Hp), Keep (Own A) H H' → Pend G A H' T xs vs T' → Sr G T' A sl' σ H' → Q vs H'
  | .ex e sl' => ∀ c od H', ExR G T.N0 H' e c od → Sr G T A sl' σ H' → W c od σ H'
  | .bad => False
def FC (G : Glue) (W : WX) (X : Cx) (es : List Expr) (cs : List Cm) : Prop := ∀ T, PA X es (tCs G W T cs)
section
variable {G : Glue} {W : WX} {X : Cx} {a : Expr} {es : List Expr} {da : Ev} {l : Lv} {cs : List Cm} {T T' : Act} {A : Nat → Option Addr} {sl : Sl} {σ : St} {H : Hp}
theorem PA.any {es : List Expr} {f : Act → TA} (h : ∀ T, PA X es (f T)) : PA X es fun σ H Q => ∃ T, f T σ H Q := ⟨fun pos pins s σ H Q I ⟨T, q⟩ => (h T).run pos pins s σ H Q I q⟩
theorem Sr.home {q : Addr} {hd : List (D × V)} (nO : ¬ Own A q) (r : Sr G { (T.away q) with hd := hd ++ T.hd } A sl σ H) : Sr G T A sl σ H := by
  have hN : ∀ a, T.N A a → Act.N { (T.away q) with hd := hd ++ T.hd } A a := fun a z => by
    rcases z with z | z
    · exact .inl (.inl z)
    · exact .inr z
  refine ⟨fun i d e => ?_, fun i xs e => ?_, r.len, r.inj, fun i a e => ?_, r.alive, r.kept, fun b h => r.trk b (.inl h), r.iot, fun p hp => (r.held p (List.mem_append_right _ hp)).anti hN, r.sz, fun i x e h => ?_⟩
  · obtain ⟨v, e1, e2⟩ := r.val i d e; exact ⟨v, e1, e2.anti hN⟩
  · obtain ⟨a, vs, e1, e2, e3, e4⟩ := r.mu i xs e; exact ⟨a, vs, e1, e2, e3, e4.anti hN⟩
  · rcases r.own i a e with ⟨h1, h2, h3⟩ | ⟨h1, h2, h3⟩
    · exact .inl ⟨h1, fun z => h2 (.inl z), h3⟩
    · rcases h3 with h3 | h3
      · exact .inr ⟨h1, h2, h3⟩
      · exact absurd ⟨i, by rw [← h3]; exact e⟩ nO
  · obtain ⟨a, e1, e2, e3⟩ := r.mx i x e h
    exact ⟨a, e1, e2, e3.imp (fun _ _ _ q => q) (fun _ q => q) fun _ _ q => q.anti hN⟩
theorem fc_nil : FC G W X [] [] := fun T => PA.plus pa_nil fun σ H Q z h => by
  obtain ⟨A, sl, s, p⟩ := h z
  exact fun _ => p [] T H .refl .nil s
theorem Pend.N0 {xs : List Sv} {vs : List V} (h : Pend G A H T xs vs T') : ∀ a, T.N0 a → T'.N0 a := by
  induction h with
  | nil => exact fun _ z => z
  | v _ ih => exact ih
  | m _ _ _ _ _ _ ih => exact fun a z => ih a (.inl z)
  | e _ _ _ _ _ ih => exact fun a z => ih a (.inl z)
theorem exr_mono {N N' : Addr → Prop} {x : Ex} {c : Value} {od : Option Addr} (hn : ∀ a, N' a → N a) (h : ExR G N H x c od) : ExR G N' H x c od := h.anti hn
theorem fc_v (ha : FE G W X a da) (hr : FC G W X es cs) (hs : starEach (a :: es) X.env = (false, eval a X.env) :: starEach es X.env := by rfl) : FC G W X (a :: es) (.v da :: cs) := fun T =>
  F.PA.plus (pa_cons (ha T) (F.PA.any (f := fun T => tCs G W T cs) hr) hs) fun σ H Q z h hz => by
    obtain ⟨A, sl, s, p⟩ := h hz
    refine ⟨A, sl, s, ?_⟩
    simp only [evCs, evC] at p
    cases hd : da sl with
    | bad => rw [hd] at p; exact p
    | ex e sl1 => rw [hd] at p; exact fun c od H' x s' => p c od H' x s'
    | ok x sl1 =>
      rw [hd] at p
      intro v H1 s1 k1 r1
      match x, r1, p with
      | .v d, r1, p =>
        refine ⟨{ T with hd := (d, v) :: T.hd }, fun _ => ⟨A, sl1, s1.hold r1, ?_⟩⟩
        dsimp only [R.bind] at p
        cases hc : evCs cs sl1 with
        | bad => rw [hc] at p; exact p
        | ex e sl2 => rw [hc] at p; exact fun c od H' x s' => p c od H' x (Sr.unhold (T := T) (T' := { T with hd := (d, v) :: T.hd }) rfl rfl rfl (fun q hq => List.mem_cons_of_mem _ hq) s')
        | ok xs sl2 => rw [hc] at p; exact fun vs T' H' kk pe s' _ => p (v :: vs) T' H' (k1.trans kk) (.v pe) s'
      | .r _, r1, p => exact p.elim
theorem fc_l (ha : FL G W X a l) (hr : FC G W X es cs) (hs : starEach (a :: es) X.env = (false, eval a X.env) :: starEach es X.env := by rfl) : FC G W X (a :: es) (.l l :: cs) := fun T =>
  F.PA.plus (pa_cons (ha T) (F.PA.any (f := fun T => tCs G W T cs) hr) hs) fun σ H Q z h hz => by
    obtain ⟨A, sl, s, p⟩ := h hz
    refine ⟨A, sl, s, ?_⟩
    simp only [evCs, evC] at p
    cases hd : l sl with
    | bad => rw [hd] at p; exact p
    | ex e sl1 => rw [hd] at p; exact fun c od H' x s' => p c od H' x s'
    | ok ds sl1 =>
      rw [hd] at p
      intro ws H1 s1 k1 r1 q hq
      have hl : ws.length ≤ sizeLine → Sr G (T.away q) A sl1 σ (upd H1 q (.lst ws)) := fun hl => s1.block hq hl
      refine ⟨{ (T.away q) with hd := ds.zip ws ++ T.hd }, fun hz2 => ⟨A, sl1, (hl (hz2 q ws (.inl (.inl upd_same)))).holds (fun pr hp => ?_), ?_⟩⟩
      · have sm := same_fresh hq (.lst ws)
        refine Rv.keep (O := fun _ => False) (.same sm) (fun _ z => z.elim) ((Rvs.zip r1 pr hp).anti' fun b o e z => ?_)
        rcases z with (z | z) | z
        · exact .inl z
        · subst z; rw [hq] at e; cases e
        · exact .inr z
      · dsimp only [R.bind] at p
        cases hc : evCs cs sl1 with
        | bad => rw [hc] at p; exact p
        | ex e sl2 =>
          rw [hc] at p
          exact fun c od H' x s' => p c od H' (x.anti fun a z => .inl z) (Sr.home (fun z => s1.fresh hq (.inr z)) s')
        | ok xs sl2 =>
          rw [hc] at p
          intro vs T' H' kk pe s' _
          have nO : ¬ Own A q := fun z => s1.fresh hq (.inr z)
          exact p (.ref q :: vs) T' H' (k1.trans ((Keep.same (same_fresh hq _)).trans kk)) (.m (kk _ _ upd_same fun z => absurd z nO) r1.length (s1.fresh hq) (s1.fresh0 hq) (fun z => s1.fresh hq (.inr ⟨0, s1.iot q z⟩)) pe) s'
/-- {} as a component -/
theorem Sr.blockE (r : Sr G T A sl σ H) {q : Addr} {o : Obj} (hD : H q = none) : Sr G (T.away q) A sl σ (L2.upd H q (dicO G.P G.w q o [])) := by
  have sm : Same H (L2.upd H q (dicO G.P G.w q o [])) := same_fresh hD _
  have g := r.grown sm (hsz_ext r.sz)
  have up : ∀ {d : D} {v : V}, Rv G (T.N A) H d v → Rv G ((T.away q).N A) (L2.upd H q (dicO G.P G.w q o [])) d v := fun h => by
    refine Rv.keep (O := fun _ => False) (.same sm) (fun _ z => z.elim) (h.anti' fun a o e z => ?_)
    rcases z with (z | z) | z
    · exact .inl z
    · subst z; rw [hD] at e; cases e
    · exact .inr z
  have ups : ∀ {d : List D} {v : List V}, Rvs G (T.N A) H d v → Rvs G ((T.away q).N A) (L2.upd H q (dicO G.P G.w q o [])) d v := fun h => by
    refine Rvs.keep (O := fun _ => False) (.same sm) (fun _ z => z.elim) (h.anti' fun a o e z => ?_)
    rcases z with (z | z) | z
    · exact .inl z
    · subst z; rw [hD] at e; cases e
    · exact .inr z
  refine ⟨fun i d e => ?_, fun i xs e => ?_, r.len, r.inj, fun i a e => ?_, g.alive, g.kept, fun b h => ?_, r.iot, fun p hp => up (r.held p hp), g.sz, fun i x e h => ?_⟩
  · obtain ⟨v, e1, e2⟩ := r.val i d e; exact ⟨v, e1, up e2⟩
  · obtain ⟨a, vs', e1, e2, e3, e4⟩ := r.mu i xs e; exact ⟨a, vs', e1, e2, sm _ _ e3, ups e4⟩
  · have ne : a ≠ q := fun z => by subst z; exact r.fresh hD (.inr ⟨i, e⟩)
    rcases r.own i a e with ⟨h1, h2, h3⟩ | ⟨h1, h2, h3⟩
    · exact .inl ⟨h1, fun z => z.elim h2 ne, h3⟩
    · exact .inr ⟨h1, h2, .inl h3⟩
  · rcases h with h | h
    · exact g.trk b h
    · exact ⟨_, by rw [h]; exact upd_same⟩
  · obtain ⟨a, e1, e2, e3⟩ := r.mx i x e h
    exact ⟨a, e1, e2, e3.imp (fun _ _ _ q => sm _ _ q) (fun _ q => q) fun _ _ q => ups q⟩
theorem Sr.homeE {q : Addr} (nO : ¬ Own A q) (r : Sr G (T.away q) A sl σ H) : Sr G T A sl σ H := Sr.home (hd := []) nO r
theorem fc_e {p2 : Pos} (hP : X.prog = G.P) (hw : X.w = G.w) (hr : FC G W X es cs) (hs : starEach (.Dict [] [] p2 :: es) X.env = (false, eval (.Dict [] [] p2) X.env) :: starEach es X.env := by rfl) : FC G W X (.Dict [] [] p2 :: es) (.e :: cs) := fun T =>
  F.PA.plus (pa_cons (pe_newN hP hw) (F.PA.any (f := fun T => tCs G W T cs) hr) hs) fun σ H Q z h => by
    obtain ⟨A, sl, s, p⟩ := h z
    simp only [evCs, evC] at p
    intro q o hq
    refine ⟨T.away q, fun hz2 => ⟨A, sl, s.blockE hq, ?_⟩⟩
    dsimp only [R.bind] at p
    have nO : ¬ Own A q := fun z => s.fresh hq (.inr z)
    cases hc : evCs cs sl with
    | bad => rw [hc] at p; exact p
    | ex e sl2 =>
      rw [hc] at p
      exact fun c od H' x s' => p c od H' (x.anti fun a z => .inl z) (s'.homeE nO)
    | ok xs sl2 =>
      rw [hc] at p
      intro vs T' H' kk pe s' _
      exact p (.ref q :: vs) T' H' ((Keep.same (same_fresh hq _)).trans kk) (.e (kk _ _ upd_same fun z => absurd z nO) (s.fresh hq) (s.fresh0 hq) (fun z => s.fresh hq (.inr ⟨0, s.iot q z⟩)) pe) s'
theorem Sr.adopt {p : Addr} {ds : List D} {ws : List V} {i : Nat} (r : Sr G { (T.away p) with hd := ds.zip ws ++ T.hd } A sl σ H) (hp : H p = some (.lst ws)) (hl : ds.length = ws.length) (n0 : ¬ T.N0 p) (h0 : T.H0 p = none) (hio : T.io ≠ some p) (hi : T.io = none ∨ i ≠ 0) (hi1000 : i < 1000) :
    Sr G T (fun j => if j = i then some p else A j) (sl.set i (some (Sv.m ds))) (σ.set i (some (.ref p))) H := by
  have nO : ¬ Own A p := fun ⟨j, e⟩ => by
    rcases r.own j p e with ⟨_, h, _⟩ | ⟨h, _⟩
    · exact h (.inr rfl)
    · exact hio h
  have hN : ∀ b, T.N (fun j => if j = i then some p else A j) b → Act.N { (T.away p) with hd := ds.zip ws ++ T.hd } A b := fun b h => by
    rcases h with h | ⟨j, h⟩
    · exact .inl (.inl h)
    · dsimp only at h
      split at h
      · cases h; exact .inl (.inr rfl)
      · exact .inr ⟨j, h⟩
  refine ⟨fun j d' e => ?_, fun j xs' e => ?_, by simpa using r.len, fun j l a e1 e2 => ?_, fun j a e => ?_, fun j a e => ?_, r.kept, fun b e => r.trk b (.inl e), fun a e => ?_, fun q hq => (r.held q (List.mem_append_right _ hq)).anti hN, r.sz, fun j y e h => ?_⟩
  · by_cases hj : i = j
    · subst hj
      rw [List.getElem?_set] at e
      simp only [if_true] at e
      split at e <;> cases e
    · rw [List.getElem?_set_ne hj] at e
      obtain ⟨v', e1, e2⟩ := r.val j d' e; exact ⟨v', by rw [List.getElem?_set_ne hj]; exact e1, e2.anti hN⟩
  · by_cases hj : i = j
    · subst hj
      rw [List.getElem?_set] at e
      simp only [if_true] at e
      split at e
      · rename_i hlt
        cases e
        exact ⟨p, ws, if_pos rfl, by rw [List.getElem?_set]; simp only [if_true]; rw [if_pos (by rw [← r.len]; exact hlt)], hp, (Rvs.of_zip hl fun q hq => r.held q (List.mem_append_left _ hq)).anti hN⟩
      · cases e
    · rw [List.getElem?_set_ne hj] at e
      obtain ⟨a, vs', e1, e2, e3, e4⟩ := r.mu j xs' e
      exact ⟨a, vs', by rw [if_neg (Ne.symm hj)]; exact e1, by rw [List.getElem?_set_ne hj]; exact e2, e3, e4.anti hN⟩
  · by_cases g1 : j = i
    · by_cases g2 : l = i
      · rw [g1, g2]
      · rw [if_pos g1] at e1; rw [if_neg g2] at e2; cases e1; exact absurd ⟨l, e2⟩ nO
    · by_cases g2 : l = i
      · rw [if_neg g1] at e1; rw [if_pos g2] at e2; cases e2; exact absurd ⟨j, e1⟩ nO
      · rw [if_neg g1] at e1; rw [if_neg g2] at e2; exact r.inj j l a e1 e2
  · by_cases h1 : j = i
    · rw [if_pos h1] at e; cases e
      exact .inl ⟨h0, n0, hio⟩
    · rw [if_neg h1] at e
      rcases r.own j a e with ⟨g1, g2, g3⟩ | ⟨g1, g2, g3⟩
      · exact .inl ⟨g1, fun z => g2 (.inl z), g3⟩
      · rcases g3 with g3 | g3
        · exact .inr ⟨g1, g2, g3⟩
        · exact absurd ⟨j, by rw [← g3]; exact e⟩ nO
  · by_cases h1 : j = i
    · rw [if_pos h1] at e; cases e; exact ⟨_, hp, id⟩
    · rw [if_neg h1] at e; exact r.alive j a e
  · have h0 : (0 : Nat) ≠ i := fun h => by
      rcases hi with h1 | h1
      · rw [h1] at e; cases e
      · exact h1 h.symm
    rw [if_neg h0]; exact r.iot a e
  · by_cases hj : i = j
    · subst hj
      rw [List.getElem?_set] at e
      simp only [if_true] at e
      split at e <;> cases e
      cases h
    · rw [List.getElem?_set_ne hj] at e
      obtain ⟨a, e1, e2, e3⟩ := r.mx j y e h
      exact ⟨a, by rw [if_neg (Ne.symm hj)]; exact e1, by rw [List.getElem?_set_ne hj]; exact e2, e3.imp (fun _ _ _ q => q) (fun b q => by rw [if_neg (by omega)]; exact q) fun _ _ q => q.anti hN⟩
theorem Sr.adoptE {p : Addr} {o : Obj} {i : Nat} (r : Sr G (T.away p) A sl σ H) (hp : H p = some (dicO G.P G.w p o []) ) (n0 : ¬ T.N0 p) (h0 : T.H0 p = none) (hio : T.io ≠ some p) (hi : T.io = none ∨ i ≠ 0) (hi1000 : i < 1000) :
    Sr G T (fun j => if j = i then some p else A j) (sl.set i (some (Sv.d [] []))) (σ.set i (some (.ref p))) H := by
  have nO : ¬ Own A p := fun ⟨j, e⟩ => by
    rcases r.own j p e with ⟨_, h, _⟩ | ⟨h, _⟩
    · exact h (.inr rfl)
    · exact hio h
  have hN : ∀ b, T.N (fun j => if j = i then some p else A j) b → Act.N (T.away p) A b := fun b h => by
    rcases h with h | ⟨j, h⟩
    · exact .inl (.inl h)
    · dsimp only at h
      split at h
      · cases h; exact .inl (.inr rfl)
      · exact .inr ⟨j, h⟩
  refine ⟨fun j d' e => ?_, fun j xs' e => ?_, by simpa using r.len, fun j l a e1 e2 => ?_, fun j a e => ?_, fun j a e => ?_, r.kept, fun b e => r.trk b (.inl e), fun a e => ?_, fun q hq => (r.held q hq).anti hN, r.sz, fun j y e h => ?_⟩
  · by_cases hj : i = j
    · subst hj
      rw [List.getElem?_set] at e
      simp only [if_true] at e
      split at e <;> cases e
    · rw [List.getElem?_set_ne hj] at e
      obtain ⟨v', e1, e2⟩ := r.val j d' e; exact ⟨v', by rw [List.getElem?_set_ne hj]; exact e1, e2.anti hN⟩
  · by_cases hj : i = j
    · subst hj
      rw [List.getElem?_set] at e
      simp only [if_true] at e
      split at e <;> cases e
    · rw [List.getElem?_set_ne hj] at e
      obtain ⟨a, vs', e1, e2, e3, e4⟩ := r.mu j xs' e
      exact ⟨a, vs', by rw [if_neg (Ne.symm hj)]; exact e1, by rw [List.getElem?_set_ne hj]; exact e2, e3, e4.anti hN⟩
  · by_cases g1 : j = i
    · by_cases g2 : l = i
      · rw [g1, g2]
      · rw [if_pos g1] at e1; rw [if_neg g2] at e2; cases e1; exact absurd ⟨l, e2⟩ nO
    · by_cases g2 : l = i
      · rw [if_neg g1] at e1; rw [if_pos g2] at e2; cases e2; exact absurd ⟨j, e1⟩ nO
      · rw [if_neg g1] at e1; rw [if_neg g2] at e2; exact r.inj j l a e1 e2
  · by_cases h1 : j = i
    · rw [if_pos h1] at e; cases e
      exact .inl ⟨h0, n0, hio⟩
    · rw [if_neg h1] at e
      rcases r.own j a e with ⟨g1, g2, g3⟩ | ⟨g1, g2, g3⟩
      · exact .inl ⟨g1, fun z => g2 (.inl z), g3⟩
      · rcases g3 with g3 | g3
        · exact .inr ⟨g1, g2, g3⟩
        · exact absurd ⟨j, by rw [← g3]; exact e⟩ nO
  · by_cases h1 : j = i
    · rw [if_pos h1] at e; cases e; exact ⟨_, hp, id⟩
    · rw [if_neg h1] at e; exact r.alive j a e
  · have h0 : (0 : Nat) ≠ i := fun h => by
      rcases hi with h1 | h1
      · rw [h1] at e; cases e
      · exact h1 h.symm
    rw [if_neg h0]; exact r.iot a e
  · by_cases hj : i = j
    · subst hj
      rw [List.getElem?_set] at e
      simp only [if_true] at e
      split at e
      · rename_i hlt
        cases e
        exact ⟨p, if_pos rfl, by rw [List.getElem?_set]; simp only [if_true]; rw [if_pos (by rw [← r.len]; exact hlt)], o, [], [], [], hp, .nil, rfl, .nil, .nil, .nil⟩
      · cases e
    · rw [List.getElem?_set_ne hj] at e
      obtain ⟨a, e1, e2, e3⟩ := r.mx j y e h
      exact ⟨a, by rw [if_neg (Ne.symm hj)]; exact e1, by rw [List.getElem?_set_ne hj]; exact e2, e3.imp (fun _ _ _ q => q) (fun b q => by rw [if_neg (by omega)]; exact q) fun _ _ q => q.anti hN⟩
/-- a new list is never bound to the first name -/
def okX : List Nat → List Sv → Bool
  | i :: is, .m _ :: xs => decide (i ≠ 0 ∧ i < 1000) && okX is xs
  | i :: is, .d _ _ :: xs => decide (i ≠ 0 ∧ i < 1000) && okX is xs
  | _ :: is, .v _ :: xs => okX is xs
  | _, _ => true
def okC : List Nat → List Cm → Bool
  | i :: is, .l _ :: xs => decide (i ≠ 0 ∧ i < 1000) && okC is xs
  | i :: is, .e :: xs => decide (i ≠ 0 ∧ i < 1000) && okC is xs
  | _ :: is, .v _ :: xs => okC is xs
  | _, _ => true
theorem evCs_ok : ∀ (cs : List Cm) (is : List Nat) (sl sl' : Sl) (xs : List Sv), evCs cs sl = .ok xs sl' → okC is cs = true → okX is xs = true
  | [], is, _, _, _, e, _ => by cases e; cases is <;> rfl
  | c :: cs, [], _, _, xs, _, _ => by cases xs <;> rfl
  | c :: cs, i :: is, sl, sl', xs, e, h => by
    simp only [evCs] at e
    cases h1 : evC c sl with
    | ok x sl1 =>
      rw [h1] at e
      dsimp only [R.bind] at e
      cases h2 : evCs cs sl1 with
      | ok ys sl2 =>
        rw [h2] at e
        cases e
        cases c with
        | v d =>
          have ih := evCs_ok cs is _ _ _ h2 (by simpa [okC] using h)
          simp only [evC] at h1
          cases hd : d sl with
          | ok y sl3 =>
            rw [hd] at h1
            cases y with
            | v z => cases h1; simpa [okX] using ih
            | r _ => cases h1
          | ex _ _ => rw [hd] at h1; cases h1
          | bad => rw [hd] at h1; cases h1
        | l d =>
          simp only [okC, Bool.and_eq_true] at h
          have ih := evCs_ok cs is _ _ _ h2 h.2
          simp only [evC] at h1
          cases hd : d sl with
          | ok y sl3 => rw [hd] at h1; cases h1; simp only [okX, Bool.and_eq_true]; exact ⟨h.1, ih⟩
          | ex _ _ => rw [hd] at h1; cases h1
          | bad => rw [hd] at h1; cases h1
        | e =>
          simp only [okC, Bool.and_eq_true] at h
          have ih := evCs_ok cs is _ _ _ h2 h.2
          simp only [evC] at h1
          cases h1; simp only [okX, Bool.and_eq_true]; exact ⟨h.1, ih⟩
      | ex _ _ => rw [h2] at e; cases e
      | bad => rw [h2] at e; cases e
    | ex _ _ => rw [h1] at e; cases e
    | bad => rw [h1] at e; cases e
theorem Pend.bound {xs : List Sv} {vs : List V} (h : Pend G A H T xs vs T') : ∀ {is : List Nat} {sl : Sl} {σ : St}, is.length = xs.length → okX is xs = true → Sr G T' A sl σ H → ∃ A', Sr G T A' (setAll sl is xs) (setAll σ is vs) H := by
  induction h with
  | nil => exact fun {is sl σ} hl _ s => ⟨A, by cases is <;> exact s⟩
  | @v T T' d x xs vs _ ih =>
    intro is sl σ hl h0 s
    cases is with
    | nil => simp at hl
    | cons i is =>
      obtain ⟨A', s'⟩ := ih (by simpa using hl) (by simpa [okX] using h0) s
      exact ⟨A', (Sr.unhold (T := T) (T' := { T with hd := (d, x) :: T.hd }) rfl rfl rfl (fun q hq => List.mem_cons_of_mem _ hq) (s'.set i (s'.held _ List.mem_cons_self)))⟩
  | @m T T' ds p ws xs vs h1 h2 h3 h4 h5 _ ih =>
    intro is sl σ hl h0 s
    cases is with
    | nil => simp at hl
    | cons i is =>
      simp only [okX, Bool.and_eq_true] at h0
      obtain ⟨A', s'⟩ := ih (by simpa using hl) h0.2 s
      exact ⟨_, s'.adopt h1 h2 (fun z => h3 (.inl z)) h4 h5 (.inr (of_decide_eq_true h0.1).1) (of_decide_eq_true h0.1).2⟩
  | @e T T' p o0 xs vs h1 h3 h4 h5 _ ih =>
    intro is sl σ hl h0 s
    cases is with
    | nil => simp at hl
    | cons i is =>
      simp only [okX, Bool.and_eq_true] at h0
      obtain ⟨A', s'⟩ := ih (by simpa using hl) h0.2 s
      exact ⟨_, s'.adoptE h1 (fun z => h3 (.inl z)) h4 h5 (.inr (of_decide_eq_true h0.1).1) (of_decide_eq_true h0.1).2⟩
theorem setAll_two {α : Type} {sl : List (Option α)} {i j : Nat} {x y : α} (h : i ≠ j) : setAll sl [i, j] [x, y] = (sl.set i (some x)).set j (some y) := by
  simp only [setAll]; exact List.set_comm _ _ h.symm
theorem setAll_three {α : Type} {sl : List (Option α)} {i j l : Nat} {x y z : α} (h1 : i ≠ j) (h2 : i ≠ l) (h3 : j ≠ l) : setAll sl [i, j, l] [x, y, z] = ((sl.set i (some x)).set j (some y)).set l (some z) := by
  simp only [setAll]
  rw [List.set_comm _ _ h3.symm, List.set_comm _ _ h2.symm, List.set_comm _ _ h1.symm]
theorem pend_len {xs : List Sv} {vs : List V} (h : Pend G A H T xs vs T') : xs.length = vs.length := by
  induction h with
  | nil => rfl
  | v _ ih => simp [ih]
  | m _ _ _ _ _ _ ih => simp [ih]
  | e _ _ _ _ _ ih => simp [ih]
theorem evCs_len : ∀ (cs : List Cm) (sl sl' : Sl) (xs : List Sv), evCs cs sl = .ok xs sl' → xs.length = cs.length
  | [], _, _, _, e => by cases e; rfl
  | c :: cs, sl, sl', xs, e => by
    simp only [evCs] at e
    cases h : evC c sl with
    | ok x sl1 =>
      rw [h] at e
      dsimp only [R.bind] at e
      cases h2 : evCs cs sl1 with
      | ok ys sl2 => rw [h2] at e; cases e; simp [evCs_len cs _ _ _ h2]
      | ex _ _ => rw [h2] at e; cases e
      | bad => rw [h2] at e; cases e
    | ex _ _ => rw [h] at e; cases e
    | bad => rw [h] at e; cases e
variable {x y z : Str} {i j l' : Nat} {b c : Expr} {px py pz pt pos : Pos} {kt k2 : Nat} {pt2 : Pos}
theorem fs_par2 (hN : X.N.Nodup) (ha : FC G W X [a, b] cs) (hcs : cs.length = 2) (h0 : okC [i, j] cs = true) (hij : i ≠ j) (hi : X.N[i]? = some x := by rfl) (hj : X.N[j]? = some y := by rfl)
    (hx : X.env.scope.names.lookup x = some .local := by rfl) (hy : X.env.scope.names.lookup y = some .local := by rfl) (hc : X.calm = true := by rfl)
    (hw : swappedStores [.Tuple [.Name x px, .Name y py] kt pt] (.Tuple [a, b] k2 pt2) X.env = pure (some [x, y]) := by rfl)
    (hs : swapsWithSole [.Tuple [.Name x px, .Name y py] kt pt] (.Tuple [a, b] k2 pt2) pos.line X.env = pure false := by rfl) :
    FS G W X (.Assign [.Tuple [.Name x px, .Name y py] kt pt] (.Tuple [a, b] k2 pt2) pos) (mPar [i, j] cs) := fun T =>
  PS.plus (ps_par hc hN hi hj hij hx hy (ha T) hw hs) fun D σ H z h hz => by
    obtain ⟨A, sl, s, p⟩ := h hz
    refine ⟨A, sl, s, ?_⟩
    unfold mPar at p
    cases hd : evCs cs sl with
    | bad => rw [hd] at p; exact p
    | ex e sl1 => rw [hd] at p; exact fun c od H' x s' => p A σ H' c od x s'
    | ok xs sl1 =>
      rw [hd] at p
      intro vs T' H' kk pe s'
      have hlx := evCs_len _ _ _ _ hd
      have hlv := pend_len pe
      obtain ⟨A', s2⟩ := pe.bound (is := [i, j]) (by rw [hlx, hcs]; rfl) (evCs_ok _ _ _ _ _ hd h0) s'
      match vs, hlv, s2 with
      | [v, w], _, s2 =>
        refine ⟨v, w, rfl, fun hz => ?_⟩
        rw [← setAll_two hij]
        exact p A' _ H' s2
      | [], hlv, _ => rw [hlx, hcs] at hlv; cases hlv
      | [_], hlv, _ => rw [hlx, hcs] at hlv; cases hlv
      | _ :: _ :: _ :: _, hlv, _ => rw [hlx, hcs] at hlv; simp at hlv
theorem fs_par3 (hN : X.N.Nodup) (ha : FC G W X [a, b, c] cs) (hcs : cs.length = 3) (h0 : okC [i, j, l'] cs = true) (hij : i ≠ j) (hil : i ≠ l') (hjl : j ≠ l') (hi : X.N[i]? = some x := by rfl) (hj : X.N[j]? = some y := by rfl) (hl : X.N[l']? = some z := by rfl)
    (hx : X.env.scope.names.lookup x = some .local := by rfl) (hy : X.env.scope.names.lookup y = some .local := by rfl) (hz' : X.env.scope.names.lookup z = some .local := by rfl) (hc : X.calm = true := by rfl)
    (hw : swappedStores [.Tuple [.Name x px, .Name y py, .Name z pz] kt pt] (.Tuple [a, b, c] k2 pt2) X.env = pure (some [x, y, z]) := by rfl)
    (hs : swapsWithSole [.Tuple [.Name x px, .Name y py, .Name z pz] kt pt] (.Tuple [a, b, c] k2 pt2) pos.line X.env = pure false := by rfl) :
    FS G W X (.Assign [.Tuple [.Name x px, .Name y py, .Name z pz] kt pt] (.Tuple [a, b, c] k2 pt2) pos) (mPar [i, j, l'] cs) := fun T =>
  PS.plus (ps_par3 hc hN hi hj hl hij hil hjl hx hy hz' (ha T) hw hs) fun D σ H z h hz => by
    obtain ⟨A, sl, s, p⟩ := h hz
    refine ⟨A, sl, s, ?_⟩
    unfold mPar at p
    cases hd : evCs cs sl with
    | bad => rw [hd] at p; exact p
    | ex e sl1 => rw [hd] at p; exact fun c od H' x s' => p A σ H' c od x s'
    | ok xs sl1 =>
      rw [hd] at p
      intro vs T' H' kk pe s'
      have hlx := evCs_len _ _ _ _ hd
      have hlv := pend_len pe
      obtain ⟨A', s2⟩ := pe.bound (is := [i, j, l']) (by rw [hlx, hcs]; rfl) (evCs_ok _ _ _ _ _ hd h0) s'
      match vs, hlv, s2 with
      | [u, v, w], _, s2 =>
        refine ⟨u, v, w, rfl, fun hz => ?_⟩
        rw [← setAll_three hij hil hjl]
        exact p A' _ H' s2
      | [], hlv, _ => rw [hlx, hcs] at hlv; cases hlv
      | [_], hlv, _ => rw [hlx, hcs] at hlv; cases hlv
      | [_, _], hlv, _ => rw [hlx, hcs] at hlv; cases hlv
      | _ :: _ :: _ :: _ :: _, hlv, _ => rw [hlx, hcs] at hlv; simp at hlv
end

/-! ### raise -/
section
variable {G : Glue} {W : WX} {X : Cx} {n : Nat} {x : Str} {p pos : Pos}
/-- what of the text an own exception class without a body must have -/
structure ExC (G : Glue) (mg : Str → Option Value) (x : Str) (n : Nat) (bm : List Value) (nid : String) : Prop where
  g : mg x = some (.ref (G.exA n))
  k : PySem.W.keepIn G.K (.ref (G.exA n)) = true
  x : PySem.W.excIn G.K (G.exA n) bm nid = true
  b : PySem.W.subIn G.K (.ref (G.exA n)) (.type "BaseException") = some true
  t : PySem.W.typeIn G.K (.ref (G.exA n)) = some (.type "type")
/-- X() -/
theorem pmk_own0 {C : Addr} {bmB : List Value} {B newId initId : String} (EF : ExcBaseFacts B newId initId bmB) (q : PySem.W.excIn X.K C bmB newId = true) (gC : X.mg x = some (.ref C)) (kC : PySem.W.keepIn X.K (.ref C) = true) (r : Raises X (.ref C)) (hg : Gl X x)
    (hdb : (x == ("__debug__" : Str)) = false := by decide) : PMk X (.Call (.Name x p) [] [] pos) (fun _ H Q => Q (.ref C) none H) := by
  intro pins s σ H Q I h
  refine wpAny_Call_Name_kw (ld_glob I hg gC ?_ hdb)
  refine PySem.W.callWith_K0 I.kIn kC ?_
  show wpAny _ _ (call (.ref C) []) _ _ _
  obtain ⟨bm, N, nm, qn, bs, hdct, sn, sub, ab, col, dd, k0, k1, k2, k3, k5, mN, hC, hN, hni, T⟩ := exc_obj I.kIn q
  exact wpAny_call_exc_subT EF T hC hN hni (fun h' e hm => mk_of I hm r h (I.hok.gone hm.new)) (Nat.zero_le _)
theorem fs_raise0 {bm : List Value} {B nid iid : String} {pos' : Pos} (EF : ExcBaseFacts B nid iid bm) (E : ExC G X.mg x n bm nid) (tk : Takes X W) (hK : X.K = G.K := by rfl) (hg : Gl X x := by rfl) (hc : X.calm = true := by rfl) (hdb : (x == ("__debug__" : Str)) = false := by decide) :
    FS G W X (.Raise (some (.Call (.Name x p) [] [] pos)) none pos') (mRaise n) :=
  fs_raise (bmB := []) (B := "") (newId := "") (initId := "") (xp := .Name x p) tk hc (pmk_own0 (initId := iid) EF (by rw [hK]; exact E.x) E.g (by rw [hK]; exact E.k) (raises_own (by rw [hK]; exact E.b) (by rw [hK]; exact E.t)) hg hdb)
end

/-! ### try: several except clauses without a name -/
def Ex.cls : Ex → Nat
  | .plain n => n
  | .field n _ => n
def findH : List (Nat × Sm) → Nat → Option Sm
  | [], _ => none
  | (m, s) :: r, n => if n = m then some s else findH r n
def mTry (known : List Nat) (b : Sm) (hs : List (Nat × Sm)) : Sm := fun sl => match b sl with
  | .ex e sl1 => if e.cls ∈ known then match findH hs e.cls with
    | some m => m sl1
    | none => .ex e sl1
    else .bad
  | f => f
section
variable {G : Glue} {W : WX} {X : Cx} {body : List Stmt} {mb : Sm} {hds : List ExceptHandler} {h₀ : ExceptHandler} {pos : Pos} {known : List Nat}
/-- the clauses -/
inductive FHs (G : Glue) (X : Cx) : List ExceptHandler → List (Nat × Sm) → Prop
  | nil : FHs G X [] []
  | cons {x : Str} {n : Nat} {m : Sm} {b₀ : Stmt} {suite : List Stmt} {np pos' : Pos} {hds : List ExceptHandler} {l : List (Nat × Sm)} (hg : Gl X x) (hd : (x == ("__debug__" : Str)) = false) (hm : X.mg x = some (.ref (G.exA n)))
      (hsu : ∀ (a : Addr) (oe : Obj) (pn : List (Addr × Obj)), FSs G noW (X.suite a ((a, oe) :: pn)) (b₀ :: suite) m) (r : FHs G X hds l) : FHs G X (.ExceptHandler (some (.Name x np)) none (b₀ :: suite) pos' :: hds) ((n, m) :: l)
def hdL (G : Glue) (T : Act) (l : List (Nat × Sm)) : List (Value × (Addr → Value → Option Addr → TS)) := l.map fun q => (.ref (G.exA q.1), fun _ _ _ => tSm G noW T q.2)
theorem FHs.ok {T : Act} {l : List (Nat × Sm)} (h : FHs G X hds l) : HdsOk X hds (hdL G T l) := by
  induction h with
  | nil => exact .nil
  | cons hg hd hm hsu r ih => exact .cons ⟨hg, hd, .inl hm⟩ (fun a oe cls d pn _ _ => hsu a oe pn T) ih
theorem many_ex {T : Act} {D : Ends} {l : List (Nat × Sm)} {e : Ex} {sl : Sl} {A : Nat → Option Addr} {σ : St} {H : Hp} {c : Value} {od : Option Addr} {Kf : PySem.W.Frag} (hk : Kf = G.K) (hx : ∀ n ∈ known, ∀ m ∈ known, PySem.W.exmOne G.K (.ref (G.exA n)) (.ref (G.exA m)) = some (decide (n = m)))
    (hl : ∀ q ∈ l, q.1 ∈ known) (he : e.cls ∈ known) (x : ExR G T.N0 H e c od) (s : Sr G T A sl σ H)
    (p : SPost G W T D (match findH l e.cls with | some m => m sl | none => .ex e sl)) (nx : ∀ q ∈ l, ∀ sl, SPost G W T D (q.2 sl) → SPost G noW T D (q.2 sl)) : wMany Kf W D (hdL G T l) c od σ H := by
  subst hk
  have ec : c = .ref (G.exA e.cls) := by
    cases e with
    | plain n => exact x.1
    | field n d => exact x.1
  induction l with
  | nil => exact p A σ H c od x s
  | cons q l ih =>
    obtain ⟨m, ms⟩ := q
    simp only [findH] at p
    refine ⟨decide (e.cls = m), by rw [ec]; exact hx _ he _ (hl (m, ms) List.mem_cons_self), fun hb => ?_, fun hb => ?_⟩
    · have : e.cls = m := of_decide_eq_true hb
      rw [if_pos this] at p
      exact fun a _ hz => ⟨A, sl, s, nx (m, ms) List.mem_cons_self sl p⟩
    · have : ¬ e.cls = m := of_decide_eq_false hb
      rw [if_neg this] at p
      exact ih (fun q hq => hl q (List.mem_cons_of_mem _ hq)) p fun q hq => nx q (List.mem_cons_of_mem _ hq)
/-- a suite that raises nothing -/
def Calm (m : Sm) : Prop := ∀ sl, match m sl with | .ex _ _ => False | _ => True
theorem calm_post {T : Act} {D : Ends} {m : Sm} (h : Calm m) {sl : Sl} (p : SPost G W T D (m sl)) : SPost G noW T D (m sl) := by
  have := h sl
  cases hm : m sl with
  | ex e sl' => rw [hm] at this; exact this.elim
  | nx _ => rw [hm] at p; exact p
  | rt _ _ => rw [hm] at p; exact p
  | bk _ => rw [hm] at p; exact p
  | ct _ => rw [hm] at p; exact p
  | bad => rw [hm] at p; exact p
theorem fs_try {l : List (Nat × Sm)} (tk : Takes X W) (hb : ∀ (W' : WX) (pn : List (Addr × Obj)) (xe : Value → Shared → Prop), Takes (X.tr pn xe) W' → PassesOwn (model X.prog X.w) X.A X.env xe → FSs G W' (X.tr pn xe) body mb) (hh : FHs G X (h₀ :: hds) l)
    (hx : ∀ n ∈ known, ∀ m ∈ known, PySem.W.exmOne G.K (.ref (G.exA n)) (.ref (G.exA m)) = some (decide (n = m))) (hl : ∀ q ∈ l, q.1 ∈ known) (hcalm : ∀ q ∈ l, Calm q.2) (hK : X.K = G.K := by rfl) (hs : X.stack = X.env :: X.outer := by rfl) (hf : X.env.frame = some X.env.locals := by rfl) :
    FS G W X (.Try body (h₀ :: hds) [] [] pos) (mTry known mb l) := fun T =>
  PS.imp (ps_try_many (tb := fun W' => tSm G W' T mb) hs hf tk (fun W' pn xe t q => hb W' pn xe t q T) (hh.ok (T := T))) fun D σ H h hz => by
    obtain ⟨A, sl, s, p⟩ := h hz
    refine ⟨A, sl, s, ?_⟩
    unfold mTry at p
    cases hm : mb sl with
    | nx sl' => rw [hm] at p; exact p
    | rt x sl' => rw [hm] at p; exact p
    | bk sl' => rw [hm] at p; exact p
    | ct sl' => rw [hm] at p; exact p
    | bad => rw [hm] at p; exact p
    | ex e sl' =>
      rw [hm] at p
      dsimp only at p
      split at p
      · rename_i he
        exact fun A' σ' H' c od x s' => many_ex hK hx hl he x s' p fun q hq sl p => calm_post (hcalm q hq) p
      · exact p.elim
end
end F

set_option Elab.async false
set_option linter.all false
set_option maxRecDepth 100000
set_option maxHeartbeats 4000000
/-! ### tuple * 1 -/
namespace L2
open PySem PySem.Spec PyProof.Rows
theorem tuple_mul1 (l : Addr) (items : Array Value) (n : Nat) (dd : Option Addr) (sl : Array (Option Value)) (u : Tok) :
    Meets (Builtin.«tuple.__mul__» ⟨[.ref l, .int 1 u], []⟩) (fun _ R s => s.heap.get? l = some { cls := .type "tuple", dict := dd, data := .seq items n, slots := sl } ∧
      R (.ok (.ret (Value.ref l))) s) :=
  .of_wp fun prog w A R s h => by
    obtain ⟨hp, g, d, tk, os⟩ := s
    obtain ⟨hl, h⟩ := h
    have f1 := AutoSeq1.idx_int
    wp_walk using wpAny_loadPart' hl
    exact ⟨_, rfl, h⟩
def rRep1 (K : PySem.W.Frag) : R2 := fun x y H Q => ∃ l xs, x = .ref l ∧ y = .int 1 ∧ SqT K H l xs ∧ Q (.ref l) H
theorem op_rep1 {X : Cx} : OpR X (binaryOp .Mult) (rRep1 X.K) := by
  intro pins s σ H x y v u Q I rx ry h
  obtain ⟨l, xs, rfl, rfl, hT, q⟩ := h
  cases rx
  obtain ⟨t, rfl⟩ := ry
  obtain ⟨its, r, ⟨⟨cls, dd, data, sl⟩, ho, hc, n, hd⟩, hs⟩ := I.tuple hT
  simp only at hc hd
  subst hc hd
  refine wpAny_binaryOp_repeat_ref (T := "tuple") (U := "int") (by decide) ⟨_, ho, rfl⟩ (fun s' => typeIs_int s' 1 t) noFill_tuple_mul F.fills_int_mul F.slot_int_rmul repeat_tuple F.slot_int_index.lookup
    (call_meets F.slot_int_rmul (typeIs_int s 1 t) F.entry_int_rmul (F.args_int_rmul_2 _ _) (int_rmul_tuple 1 t l its.toArray n dd sl)
      ⟨ho, rfl, ⟨_, ho, rfl⟩, call_meets F.slot_tuple_mul ⟨_, ho, rfl⟩ F.entry_tuple_mul (F.args_tuple_mul_2 _ _) (tuple_mul1 l its.toArray n dd sl t) ⟨ho, ?_⟩⟩)
  exact ⟨.ref l, H, I, rfl, q⟩
/-! ### tuple * 0 -/
theorem tuple_mul0 (l : Addr) (items : Array Value) (n : Nat) (dd : Option Addr) (sl : Array (Option Value)) (u : Tok) (c1 : (items.isEmpty || ((0 : Int) == 1)) = false) :
    Meets (Builtin.«tuple.__mul__» ⟨[.ref l, .int 0 u], []⟩) (fun _ R s => s.heap.get? l = some { cls := .type "tuple", dict := dd, data := .seq items n, slots := sl } ∧
      R (.ok (.ret (Value.ref s.heap.objs.size))) { s with heap := s.heap.push { cls := Value.type "tuple", data := Data.seq #[] }, toks := s.toks }) :=
  .of_wp fun prog w A R s h => by
    obtain ⟨hp, g, d, tk, os⟩ := s
    obtain ⟨hl, h⟩ := h
    have f1 := AutoSeq1.idx_int
    wp_walk using wpAny_loadPart' hl
    refine wpAny_ite_false (decide_eq_false (by rw [c1]; exact Bool.false_ne_true)) ?_
    wp_walk using wpAny_loadPart' hl
    exact ⟨_, rfl, h⟩
def rRep0 (K : PySem.W.Frag) : R2 := fun x y H Q => ∃ l xs, x = .ref l ∧ y = .int 0 ∧ SqT K H l xs ∧ xs ≠ [] ∧ ∀ p, H p = none → Q (.ref p) (upd H p (.tup []))
theorem op_rep0 {X : Cx} : OpR X (binaryOp .Mult) (rRep0 X.K) := by
  intro pins s σ H x y v u Q I rx ry h
  obtain ⟨l, xs, rfl, rfl, hT, hne, q⟩ := h
  cases rx
  obtain ⟨t, rfl⟩ := ry
  obtain ⟨its, r, ⟨⟨cls, dd, data, sl⟩, ho, hc, n, hd⟩, hs⟩ := I.tuple hT
  simp only at hc hd
  subst hc hd
  have c1 : (its.toArray.isEmpty || ((0 : Int) == 1)) = false := by
    cases its with
    | nil => cases r; exact absurd rfl hne
    | cons a b => simp
  refine wpAny_binaryOp_repeat_ref (T := "tuple") (U := "int") (by decide) ⟨_, ho, rfl⟩ (fun s' => typeIs_int s' 0 t) noFill_tuple_mul F.fills_int_mul F.slot_int_rmul repeat_tuple F.slot_int_index.lookup
    (call_meets F.slot_int_rmul (typeIs_int s 0 t) F.entry_int_rmul (F.args_int_rmul_2 _ _) (int_rmul_tuple 0 t l its.toArray n dd sl)
      ⟨ho, rfl, ⟨_, ho, rfl⟩, call_meets F.slot_tuple_mul ⟨_, ho, rfl⟩ F.entry_tuple_mul (F.args_tuple_mul_2 _ _) (tuple_mul0 l its.toArray n dd sl t c1) ⟨ho, ?_⟩⟩)
  refine ⟨.ref s.heap.objs.size, _, I.laid (t' := s.toks) (o := .tup []) (fun b ob q => Heap.get?_push_of_some _ q) (Nat.le_refl _) ?_, rfl, q _ (I.hok.fresh (Nat.le_refl _))⟩
  exact ⟨Nat.zero_le _, _, .nil, IsTup.new _ _⟩
/-! ### set(xs) of ints -/
def rSetI (K : PySem.W.Frag) (w : World) : List V → Hp → VK → Prop := fun xs H Q => ∃ (l : Addr) (ns : List Int), xs = [.ref l] ∧ SqT K H l (ns.map V.int) ∧ ns.length ≤ 1000 ∧
  ∀ (p : Addr) (S : Int → Bool) (c : Nat), H p = none → (∀ k, S k = true ↔ k ∈ ns) → c ≤ ns.length → Q (.ref p) (upd H p (SetO w p S c))
theorem cr_setI {X : Cx} (hc : X.calm = true) : CallR X (.type "set") (rSetI X.K X.w) := by
  intro pins s σ H vs us Q I r h
  obtain ⟨l, ns, rfl, hq, hl, q⟩ := h
  rw [Vals.ref1 r]
  have hd := I.ok.hd hc
  obtain ⟨its, rv, pt, hz⟩ := I.tuple hq
  have hi : IntsAre its.toArray.toList ns := ints_of_vals rv
  refine call_set_tupI ns hd (show s.heap.IsTuple l its.toArray from pt) hi (by unfold scanBound; omega) fun h' tk c R1 hcn k => ?_
  have hn := I.hok.fresh (Nat.le_refl s.heap.objs.size)
  exact ⟨.ref s.heap.objs.size, _, I.laid (t' := tk) (o := SetO X.w s.heap.objs.size (fun j => decide (j ∈ ns)) c) k (Nat.le_refl _) (setO_new R1), rfl, q _ _ c hn (fun k => by simp) hcn⟩
end L2
namespace F
open PySem PySem.Spec PyProof.Rows L2
section
variable {G : Glue} {W : WX} {X : Cx} {a b c e : Expr} {es : List Expr} {da db dc : Ev} {ds : Evs} {pos p p2 : Pos} {T : Act} {A : Nat → Option Addr} {sl : Sl} {σ : St} {H : Hp} {l lb : Lv}
def dMulT : D → D → Re D
  | .tup a, .int k => if k = 1 then .ok (.tup a) else if k = 0 then (if a ≠ [] then .ok (.tup []) else .bad) else if decide (2 ≤ k) && decide (k ≤ 1000) && decide (a ≠ []) && decide (a.length ≤ 1000) then .ok (.tup (List.replicate k.toNat a).flatten) else .bad
  | x, y => dMul x y
theorem o_mulT (hK : X.K = G.K := by rfl) : Op2 G X (binaryOp .Mult) dMulT := by
  obtain ⟨r, hr, q⟩ := o_mul (G := G) (X := X)
  refine ⟨_, hr.or (op_rep0.or (op_rep1.or op_repT)), fun N H x y d e z Q hz hn rx ry h k => ?_⟩
  unfold dMulT at h
  split at h
  · rename_i a i
    obtain ⟨p, vs, e1, s1, r1⟩ := tupK hK rx
    split at h
    · rename_i h1
      cases h
      subst h1
      exact .inr (.inr (.inl ⟨p, vs, e1, ry.int, s1, by rw [e1] at rx; exact k _ H (Same.refl H) (by rw [← e1]; exact (by rw [e1]; exact .tup (hK ▸ s1) r1))⟩))
    split at h
    · rename_i h0
      split at h
      · rename_i hne
        cases h
        subst h0
        refine .inr (.inl ⟨p, vs, e1, ry.int, s1, fun z => hne ?_, fun p' hp' => ?_⟩)
        · subst z; cases r1; rfl
        · exact k _ _ (same_fresh hp' _) (.tup (SqT.of upd_same) .nil)
      · cases h
    · split at h
      · rename_i hf
        cases h
        simp only [Bool.and_eq_true, decide_eq_true_eq] at hf
        refine .inr (.inr (.inr ⟨p, i, vs, e1, ry.int, s1, fun z => hf.1.2 ?_, hf.1.1.1, hf.1.1.2, by rw [← r1.length]; exact hf.2, fun p' hp' => ?_⟩))
        · subst z; cases r1; rfl
        · exact k _ _ (same_fresh hp' _) (.tup (SqT.of upd_same) (Rvs.keep (O := fun _ => False) (.same (same_fresh hp' _)) (fun _ z => z.elim) (r1.rep _)))
      · cases h
  · exact .inl (q N H x y _ _ z Q hz hn rx ry h k)
/-! ### what is walked: a list or a tuple, as it comes; the list of a name, from then on only read -/
def iSeqL (K : PySem.W.Frag) (tl : TE) : TI := fun σ H R => tl σ H fun x H1 => ∃ a, x = .ref a ∧ (((∃ xs, SqL K H1 a xs) ∧ R (Itl K a) H1) ∨ ((∃ xs, SqT K H1 a xs) ∧ R (Itt K a) H1))
theorem pi_seq {tg l : Expr} {tl : TE} (hl : PE X l tl) : PI X tg l (iSeqL X.K tl) := by
  refine ⟨fun pins s σ H R I h => ?_⟩
  refine thn (hl.run pins s σ H _ I h) fun v s1 ⟨x, H1, I1, r1, q1⟩ => ?_
  obtain ⟨a, e, q⟩ := q1
  subst e
  cases r1
  rcases q with ⟨⟨xs, hq⟩, q⟩ | ⟨⟨xs, hq⟩, q⟩
  · obtain ⟨its, rv, p, hz⟩ := I1.list hq
    refine wpAny_pyIter_list p.isList ?_
    refine ⟨s1.heap.objs.size, [s1.heap.objs.size], _, _, H1, rfl, I1.kept (t' := s1.toks) fun b o e => Heap.get?_push_of_some _ e, turn_list a _, ⟨_, Heap.get?_push_size _ rfl, rfl, rfl⟩, fun b hb => ?_, q⟩
    have e : b = s1.heap.objs.size := by simpa using hb
    subst e
    exact I1.fpOk (Nat.le_refl _) (I1.hok.fresh (Nat.le_refl _))
  · obtain ⟨its, rv, p, hz⟩ := I1.tuple hq
    refine wpAny_pyIter_tuple (show s1.heap.IsTuple a its.toArray from p) ?_
    refine ⟨s1.heap.objs.size, [s1.heap.objs.size], _, _, H1, rfl, I1.kept (t' := s1.toks) fun b o e => Heap.get?_push_of_some _ e, turn_tuple a _, ⟨_, Heap.get?_push_size _ rfl, rfl, rfl⟩, fun b hb => ?_, q⟩
    have e : b = s1.heap.objs.size := by simpa using hb
    subst e
    exact I1.fpOk (Nat.le_refl _) (I1.hok.fresh (Nat.le_refl _))
theorem fi_seq {tg : Expr} (ha : FE G W X a da) (hK : X.K = G.K := by rfl) : FI G W X tg a (iSeq da) := fun T => PI.imp (pi_seq (ha T)) fun σ H R h hz => by
  obtain ⟨A, sl, s, p⟩ := h hz
  refine ⟨A, sl, s, PostG.bind p fun x sl1 v H1 _ s1 k1 r1 p1 => ?_⟩
  match x, r1, p1 with
  | .v (.lst ds), r1, p1 =>
    cases r1 with
    | lst h1 h2 h3 =>
      refine ⟨_, rfl, .inl ⟨⟨_, SqL.of h1⟩, p1 (Itl X.K _, [(.lst ds, .ref _)]) H1 s1 .refl ⟨wk_list, fun p hp => ?_, by rw [h3.length]; exact lst_le s1.sz h1⟩⟩⟩
      rw [List.mem_singleton.mp hp]; exact .lst h1 h2 h3
  | .v (.tup ds), r1, p1 =>
    cases r1 with
    | tup h1 h2 =>
      refine ⟨_, rfl, .inr ⟨⟨_, hK ▸ h1⟩, p1 (Itt X.K _, [(.tup ds, .ref _)]) H1 s1 .refl ⟨wk_tup hK, fun p hp => ?_, by rw [h2.length]; exact SqT.le s1.sz h1⟩⟩⟩
      rw [List.mem_singleton.mp hp]; exact .tup h1 h2
  | .v (.tpn ds), r1, p1 =>
    cases r1 with
    | tpn h1 h2 =>
      refine ⟨_, rfl, .inr ⟨⟨_, hK ▸ h1.t⟩, p1 (Itt X.K _, [(.tup ds, .ref _)]) H1 s1 .refl ⟨wk_tup hK, fun p hp => ?_, by rw [h2.length]; exact SqT.le s1.sz h1.t⟩⟩⟩
      rw [List.mem_singleton.mp hp]; exact .tup h1.t h2
/-- the list, the dict of the name at place i is from here on only read -/
theorem Sr.freezeO {i : Nat} {x : Sv} {d0 : D} {a : Addr} (r : Sr G T A sl σ H) (hx : sl[i]? = some (some x)) (hi : T.io = none ∨ i ≠ 0) (ha : A i = some a) (hs : σ[i]? = some (some (.ref a)))
    (hv : ¬ (T.N fun j => if j = i then none else A j) a → Rv G (T.N fun j => if j = i then none else A j) H d0 (.ref a)) (hm : ∀ j b, A (j + 1000) = some b → (∃ o es, H b = some (dicO G.P G.w b o es)) → j + 1000 ≠ i) :
    Sr G T (fun j => if j = i then none else A j) (sl.set i (some (.v d0))) σ H := by
  have sub : ∀ b, T.N (fun j => if j = i then none else A j) b → T.N A b := fun b z => by
    rcases z with z | ⟨j, z⟩
    · exact .inl z
    · dsimp only at z
      split at z
      · cases z
      · exact .inr ⟨j, z⟩
  have hlt : i < sl.length := (List.getElem?_eq_some_iff.mp hx).1
  refine ⟨fun j d e => ?_, fun j ys e => ?_, by simpa using r.len, fun j l b e1 e2 => ?_, fun j b e => ?_, fun j b e => ?_, r.kept, r.trk, fun b e => ?_, fun p hp => (r.held p hp).anti sub, r.sz, fun j y e h => ?_⟩
  · by_cases hj : i = j
    · subst hj
      rw [List.getElem?_set_self hlt] at e
      cases e
      refine ⟨_, hs, hv fun z => ?_⟩
      rcases z with z | ⟨j, z⟩
      · rcases r.own i a ha with ⟨_, h, _⟩ | ⟨h1, h2, _⟩
        · exact h z
        · rcases hi with hi | hi
          · rw [hi] at h1; cases h1
          · exact hi h2
      · dsimp only at z
        split at z
        · cases z
        · rename_i hne; exact hne (r.inj j i a z ha)
    · rw [List.getElem?_set_ne hj] at e
      obtain ⟨v, e1, e2⟩ := r.val j d e; exact ⟨v, e1, e2.anti sub⟩
  · by_cases hj : i = j
    · subst hj
      rw [List.getElem?_set_self hlt] at e
      cases e
    · rw [List.getElem?_set_ne hj] at e
      obtain ⟨b, ws, e1, e2, e3, e4⟩ := r.mu j ys e
      exact ⟨b, ws, by rw [if_neg (Ne.symm hj)]; exact e1, e2, e3, e4.anti sub⟩
  · split at e1
    · cases e1
    · split at e2
      · cases e2
      · exact r.inj j l b e1 e2
  · split at e
    · cases e
    · exact r.own j b e
  · split at e
    · cases e
    · exact r.alive j b e
  · have : (0 : Nat) ≠ i := fun z => by
      rcases hi with h | h
      · rw [h] at e; cases e
      · exact h z.symm
    rw [if_neg this]; exact r.iot b e
  · by_cases hj : i = j
    · subst hj
      rw [List.getElem?_set_self hlt] at e
      cases e; cases h
    · rw [List.getElem?_set_ne hj] at e
      obtain ⟨b, e1, e2, e3⟩ := r.mx j y e h
      exact ⟨b, by rw [if_neg (Ne.symm hj)]; exact e1, e2, e3.imp' (fun _ _ _ q => q) (fun b q w => by rw [if_neg (hm j b q w)]; exact q) fun _ _ q => q.anti sub⟩
theorem Sr.freeze {i : Nat} {xs : List D} (r : Sr G T A sl σ H) (hx : sl[i]? = some (some (.m xs))) (hi : T.io = none ∨ i ≠ 0) : Sr G T (fun j => if j = i then none else A j) (sl.set i (some (.v (.lst xs)))) σ H := by
  obtain ⟨a, vs, ha, hs, hH, hv⟩ := r.mu i xs hx
  refine r.freezeO hx hi ha hs (fun n => .lst hH n (hv.anti fun b z => ?_)) fun j b q ⟨o0, es, w⟩ z => ?_
  · rcases z with z | ⟨j, z⟩
    · exact .inl z
    · dsimp only at z
      split at z
      · cases z
      · exact .inr ⟨j, z⟩
  · rw [z, ha] at q; cases q
    rw [hH] at w; cases w
theorem Sr.freezeD {i : Nat} {ks vs : List D} (r : Sr G T A sl σ H) (hl : sl.length ≤ 1000) (hx : sl[i]? = some (some (.d ks vs))) (hi : T.io = none ∨ i ≠ 0) : Sr G T (fun j => if j = i then none else A j) (sl.set i (some (.v (.dct ks vs)))) σ H := by
  obtain ⟨a, ha, hs, hd⟩ := r.mx i _ hx rfl
  have hd : Dic G (T.N A) H a ks vs := hd
  have hlt : i < sl.length := (List.getElem?_eq_some_iff.mp hx).1
  refine r.freezeO hx hi ha hs (fun n => (hd.imp (fun _ q => q) fun _ _ q => q.anti fun b z => ?_).rv n) fun j b q _ z => by omega
  rcases z with z | ⟨j, z⟩
  · exact .inl z
  · dsimp only at z
    split at z
    · cases z
    · exact .inr ⟨j, z⟩
def frz (i : Nat) (sl : Sl) : Sl := match sl[i]? with
  | some (some (.m ds)) => sl.set i (some (.v (.lst ds)))
  | some (some (.d ks vs)) => if decide (sl.length ≤ 1000) then sl.set i (some (.v (.dct ks vs))) else sl
  | _ => sl
def mFrz (i : Nat) (m : Sm) : Sm := fun sl => m (frz i sl)
theorem Sr.frz {i : Nat} (r : Sr G T A sl σ H) : ∃ A', Sr G T A' (frz (i + 1) sl) σ H := by
  unfold F.frz
  split
  · rename_i ds e; exact ⟨_, r.freeze e (.inr (Nat.succ_ne_zero i))⟩
  · rename_i ks vs e
    split
    · rename_i hl; exact ⟨_, r.freezeD (of_decide_eq_true hl) e (.inr (Nat.succ_ne_zero i))⟩
    · exact ⟨A, r⟩
  · exact ⟨A, r⟩
theorem fs_frz {st : Stmt} {m : Sm} (i : Nat) (h : FS G W X st m) : FS G W X st (mFrz (i + 1) m) := fun T => PS.imp (h T) fun D σ H h hz => by
  obtain ⟨A, sl, s, p⟩ := h hz
  obtain ⟨A', s'⟩ := s.frz (i := i)
  exact ⟨A', _, s', p⟩

/-! ### new lists by an operator -/
def Op2L (G : Glue) (X : Cx) (op : Value → Value → Sem Value) (f : D → D → Re (List D)) : Prop := ∃ r : R2, OpR X op r ∧
  ∀ (N : Addr → Prop) (H : Hp) (x y : V) (d e : D) (z : List D) (Q : VK), HSz H → (∀ p, H p = none → ¬ N p) → Rl G N H d x → Rl G N H e y → f d e = .ok z →
    (∀ vs, Rvs G N H z vs → ∀ p, H p = none → Q (.ref p) (upd H p (.lst vs))) → r x y H Q
def dBinL (f : D → D → Re (List D)) (a b : Ev) : Lv := fun sl => (a sl).bind fun x sl1 => (b sl1).bind fun y sl2 => match getS sl2 x, getS sl2 y with
  | some d, some e => match f d e with
    | .ok z => .ok z sl2
    | _ => .bad
  | _, _ => .bad
theorem fl_op {op : Operator} {f : D → D → Re (List D)} (ho : Op2L G X (binaryOp op) f) (ha : FE G W X a da) (hb : FE G W X b db) : FL G W X (.BinOp a op b pos) (dBinL f da db) := fun T => by
  obtain ⟨r, hr, q⟩ := ho
  refine PE.plus (pe_op hr (ha T) (hb T)) fun σ H Q z h hz => ?_
  obtain ⟨A, sl, s, p⟩ := h hz
  refine ⟨A, sl, s, PostG.bind p fun x sl1 u H1 _ s1 k1 r1 p1 _ => ⟨A, sl1, s1, PostG.bind p1 fun y sl2 v H2 _ s2 k2 r2 p2 => ?_⟩⟩
  split at p2
  · rename_i d e e1 e2
    split at p2
    · rename_i z hf
      exact q _ H2 u v d e z _ s2.sz (fun p h => s2.fresh h) (Rl.of s2 (Rs.keep k2 r1) e1) (Rl.of s2 r2 e2) hf fun vs rv p hp hz' => p2 vs H2 s2 .refl rv p hp
    · exact p2.elim
  · exact p2.elim
def dAddL : D → D → Re (List D)
  | .lst a, .lst b => if fits (a.length + b.length) then .ok (a ++ b) else .bad
  | _, _ => .bad
theorem o_addL : Op2L G X (binaryOp .Add) dAddL := by
  refine ⟨_, op_cat, fun N H x y d e z Q hz hn rx ry h k => ?_⟩
  unfold dAddL at h
  split at h
  · rename_i a b
    split at h
    · rename_i hf
      cases h
      obtain ⟨p, vs, e1, s1, r1⟩ := rx.lst
      obtain ⟨q, ws, e2, s2, r2⟩ := ry.lst
      exact ⟨p, q, vs, ws, e1, e2, s1, s2, by rw [← r1.length, ← r2.length]; exact fits_le hf, fun p' hp' => k _ (r1.append r2) p' hp'⟩
    · cases h
  · cases h
def dMulL : D → D → Re (List D)
  | .lst a, .int k => if decide (-(2 ^ 63) ≤ k) && decide (k < 2 ^ 63) && fits (a.length * k.toNat) then .ok (List.replicate k.toNat a).flatten else .bad
  | _, _ => .bad
theorem o_mulL : Op2L G X (binaryOp .Mult) dMulL := by
  refine ⟨_, op_rep, fun N H x y d e z Q hz hn rx ry h k => ?_⟩
  unfold dMulL at h
  split at h
  · split at h
    · rename_i hf
      cases h
      obtain ⟨p, vs, e1, s1, r1⟩ := rx.lst
      simp only [Bool.and_eq_true, decide_eq_true_eq] at hf
      exact ⟨p, _, vs, e1, ry.int, s1, hf.1.1, hf.1.2, by rw [← r1.length]; exact fits_le hf.2, fun p' hp' => k _ (r1.rep _) p' hp'⟩
    · cases h
  · cases h
/-! ### a or b, by truth, both new lists -/
def dOrL (a b : Lv) : Lv := fun sl => (a sl).bind fun ds sl1 => if ds.isEmpty then b sl1 else .ok ds sl1
theorem fl_one (h : FL G W X a l) : FL G W X (.BoolOp .Or [a] pos) l := fun T => pe_one (h T)
theorem PostG.imp {α β : Type} {rel : Hp → α → β → Prop} {Q Q' : β → Hp → Prop} {r : R α} (p : PostG rel G W T A σ H r Q) (f : ∀ v H, Q v H → Q' v H) : PostG rel G W T A σ H r Q' := by
  cases r with
  | ok s sl' => exact fun v H' a b c => f _ _ (p v H' a b c)
  | ex e sl' => exact p
  | bad => exact p
theorem fl_or {rest : List Expr} (ha : FL G W X a l) (hb : FL G W X (.BoolOp .Or (b :: rest) pos) lb) : FL G W X (.BoolOp .Or (a :: b :: rest) pos) (dOrL l lb) := fun T => by
  refine PE.plus (pe_orT (ha T) (hb T)) fun σ H Q z h hz => ?_
  obtain ⟨A, sl, s, p⟩ := h hz
  refine ⟨A, sl, s, PostG.bind p fun ds sl1 vs H1 _ s1 k1 r1 p1 p hp => ⟨!vs.isEmpty, .inl ⟨vs, SqL.of upd_same, rfl⟩, ?_⟩⟩
  have sm := same_fresh hp (.lst vs)
  cases r1 with
  | nil =>
    rw [if_neg (by simp)]
    intro hz2
    exact ⟨A, sl1, s1.grown sm hz2, PostG.keep (.same sm) (p1.imp fun v H' q p hp _ => q p hp)⟩
  | cons h1 h2 =>
    rw [if_pos (by simp)]
    exact fun _ => p1 _ H1 s1 .refl (.cons h1 h2) p hp

/-! ### defs that hand back a new list -/
/-- a promise: the list that comes is new -/
def spF (G : Glue) (n : Nat) (f : List D → Re (List D)) : Sp := fun vs H Q E => ∃ (N : Addr → Prop) (ds : List D), (∀ p, N p → ∃ o, H p = some o) ∧ Rvs G N H ds vs ∧ ds.length = n ∧
  match f ds with
  | .ok zs => ∀ ws H' p, Same H H' → HSz (upd H' p (.lst ws)) → Rvs G N H' zs ws → H' p = none → Q (.ref p) (upd H' p (.lst ws))
  | _ => False
theorem spF.len {n : Nat} {f : List D → Re (List D)} {vs : List V} {H : Hp} {Q : VK} {E : XK} (h : spF G n f vs H Q E) : vs.length = n := by
  obtain ⟨N, ds, _, r, e, _⟩ := h
  rw [← r.length, e]
def runF (n : Nat) (m : Sm) (l : Lv) (ds : List D) : Re (List D) := match m (initS n ds) with
  | .nx sl => match l sl with
    | .ok zs _ => .ok zs
    | _ => .bad
  | _ => .bad
theorem fn_fresh {P : Program} {w : World} {mg : Str → Option Value} {base : Heap} {x qual : Str} {st : Stmt} {f : Addr} {fd : FuncData} {N ps : List Str} {k n : Nat} {e : Expr} {st1 : Stmt} {m : Sm} (F : Fun G.K x qual st f fd) (S : FnScope N ps (defScope st)) (hn : ps.length = n) (hb : defBody st = [st1, .Return (some e) pos])
    (hbody : ∀ (cdv : Value) (A : Around) (outer : List Env) (s : Shared) (H : Hp) (E : XK), Room k (A.deeper (envOfC qual (defScope st) s.heap.objs.size f cdv)) →
      Takes (cxOf (L2.CX P w) P w G.K mg base N qual (defScope st) f cdv A outer s H E) (wOf E) →
      FS G (wOf E) (cxOf (L2.CX P w) P w G.K mg base N qual (defScope st) f cdv A outer s H E) st1 m ∧ FL G (wOf E) (cxOf (L2.CX P w) P w G.K mg base N qual (defScope st) f cdv A outer s H E) e l) : FnOk P w G.K mg base (L2.CX P w) (k + 1) f fd ps (spF G n (runF N.length m l)) := by
  refine F.okX S (fun vs H Q E h => by rw [h.len, hn]) fun cdv A outer s H vs Q E hr h => ?_
  obtain ⟨N0, ds, tr, r, hl, h⟩ := h
  rw [hb]
  obtain ⟨b1, b2⟩ := hbody cdv A outer s H E hr (takes_of rfl rfl rfl rfl)
  refine ⟨_, pss_cons (b1 ⟨N0, H, none, []⟩) (pss_one (ps_ret (PE.plus (t' := fun σ H' Q => tNew G (wOf E) ⟨N0, H, none, []⟩ l σ H' fun v H' => HSz H' → Q v H') (b2 ⟨N0, H, none, []⟩) fun σ H Q _ p => p))), fun hz => ⟨_, _, sr_start tr r hz, ?_⟩⟩
  unfold runF at h
  cases h1 : m (initS N.length ds) with
  | nx sl1 =>
    rw [h1] at h
    dsimp only at h
    intro A' σ H1 s1 hz
    refine ⟨A', sl1, s1, ?_⟩
    cases hm : l sl1 with
    | ok zs sl =>
      rw [hm] at h
      exact fun ws H1 s1 k1 r1 p hp hz2 => h ws H1 p (fun b o e => s1.kept b o e (by simp)) hz2 (r1.anti fun a z => .inl z) hp
    | ex e sl => rw [hm] at h; exact h.elim
    | bad => rw [hm] at h; exact h.elim
  | rt _ _ => rw [h1] at h; exact h.elim
  | bk _ => rw [h1] at h; exact h.elim
  | ct _ => rw [h1] at h; exact h.elim
  | ex _ _ => rw [h1] at h; exact h.elim
  | bad => rw [h1] at h; exact h.elim
/-- a call of such a def -/
def dCallF (n : Nat) (f : List D → Re (List D)) (r : Evs) : Lv := fun sl => (r sl).bind fun xs sl1 => match asVs xs with
  | some ds => if ds.length = n then match f ds with
    | .ok z => .ok z sl1
    | _ => .bad
    else .bad
  | none => .bad
theorem fl_call {x : Str} {k n : Nat} {ps : List Str} {f : List D → Re (List D)} (c : Cal X.prog X.w X.K X.mg X.base k x ps (spF G n f)) (tk : Takes X W) (hr : Room k X.A) (ha : FA G W X (e :: es) ds) (hg : Gl X x := by rfl) (hdb : (x == ("__debug__" : Str)) = false := by decide)
    (he : starEach (e :: es) X.env = (false, eval e X.env) :: starEach es X.env := by rfl) (hpl : (backTo pos (starEach es X.env)).any (·.1) = false := by rfl) : FL G W X (.Call (.Name x p) (e :: es) [] pos) (dCallF n f ds) := fun T => by
  obtain ⟨fa, fd, h1, h2, h3, h4⟩ := c.ex
  refine PE.plus (pe_callS h4 hr hg h1 h2 h3 (fun σ => passAt tk σ) (ha T) hdb he hpl) fun σ H Q z h hz => ?_
  obtain ⟨A, sl, s, p⟩ := h hz
  refine ⟨A, sl, s, PostG.bind p fun xs sl1 vs H1 _ s1 k1 r1 p1 => ?_⟩
  split at p1
  · rename_i ds' e'
    have rv := asVs_rv r1 e'
    split at p1
    · rename_i hn
      cases hf : f ds' with
      | ok zs =>
        rw [hf] at p1
        refine ⟨T.N A, ds', s1.tracked, rv, hn, ?_⟩
        rw [hf]
        intro ws H' p sm hz1 rz hp _
        exact p1 ws H' (s1.grown sm (hsz_down _ _ _ hp hz1)) (.same sm) rz p hp
      | ex e => rw [hf] at p1; exact p1.elim
      | bad => rw [hf] at p1; exact p1.elim
    · exact p1.elim
  · exact p1.elim
end
end F

set_option Elab.async false
set_option linter.all false
set_option maxRecDepth 100000
set_option maxHeartbeats 4000000
namespace F
open PySem PySem.Spec PyProof.Rows L2
/-! ### the built-ins -/
theorem bb_len : bootBuiltins "len" = some (.builtin "len") := by decide +kernel
theorem bb_abs : bootBuiltins "abs" = some (.builtin "abs") := by decide +kernel
theorem bb_max : bootBuiltins "max" = some (.builtin "max") := by decide +kernel
theorem bb_min : bootBuiltins "min" = some (.builtin "min") := by decide +kernel
theorem bb_sum : bootBuiltins "sum" = some (.builtin "sum") := by decide +kernel
theorem bb_all : bootBuiltins "all" = some (.builtin "all") := by decide +kernel
theorem bb_any : bootBuiltins "any" = some (.builtin "any") := by decide +kernel
theorem bb_sorted : bootBuiltins "sorted" = some (.builtin "sorted") := by decide +kernel
theorem bb_isinstance : bootBuiltins "isinstance" = some (.builtin "isinstance") := by decide +kernel
theorem bb_int : bootBuiltins "int" = some (.type "int") := by decide +kernel
theorem bb_bool : bootBuiltins "bool" = some (.type "bool") := by decide +kernel
theorem bb_str : bootBuiltins "str" = some (.type "str") := by decide +kernel
theorem bb_list : bootBuiltins "list" = some (.type "list") := by decide +kernel
theorem bb_tuple : bootBuiltins "tuple" = some (.type "tuple") := by decide +kernel
theorem bb_set : bootBuiltins "set" = some (.type "set") := by decide +kernel
theorem bb_range : bootBuiltins "range" = some (.type "range") := by decide +kernel
theorem bb_zip : bootBuiltins "zip" = some (.type "zip") := by decide +kernel
theorem bb_enumerate : bootBuiltins "enumerate" = some (.type "enumerate") := by decide +kernel
/-! ### sorted(set(..)) of ints -/
def insI (k : Int) : List Int → List Int
  | [] => [k]
  | x :: xs => if k < x then k :: x :: xs else if k = x then x :: xs else x :: insI k xs
def sortI (xs : List Int) : List Int := xs.foldr insI []
theorem insI_mem {k j : Int} : ∀ {xs : List Int}, j ∈ insI k xs ↔ j = k ∨ j ∈ xs
  | [] => by simp [insI]
  | x :: xs => by
    unfold insI
    split
    · simp
    · split
      · rename_i h; subst h; simp
      · simp only [List.mem_cons, insI_mem (xs := xs)]
        constructor
        · rintro (h | h | h) <;> simp [h]
        · rintro (h | h | h) <;> simp [h]
theorem sortI_mem {j : Int} : ∀ {xs : List Int}, j ∈ sortI xs ↔ j ∈ xs
  | [] => by simp [sortI]
  | x :: xs => by
    show j ∈ insI x (sortI xs) ↔ _
    rw [insI_mem, sortI_mem (xs := xs)]; simp
theorem insI_lt {k : Int} : ∀ {xs : List Int}, xs.Pairwise (· < ·) → (insI k xs).Pairwise (· < ·)
  | [], _ => by simp [insI]
  | x :: xs, h => by
    obtain ⟨h1, h2⟩ := List.pairwise_cons.mp h
    unfold insI
    split
    · rename_i hk
      exact List.pairwise_cons.mpr ⟨fun y hy => by
        rcases List.mem_cons.mp hy with rfl | hy
        · exact hk
        · exact Int.lt_trans hk (h1 y hy), h⟩
    · split
      · exact h
      · exact List.pairwise_cons.mpr ⟨fun y hy => by
          rcases insI_mem.mp hy with rfl | hy
          · omega
          · exact h1 y hy, insI_lt h2⟩
theorem sortI_lt : ∀ {xs : List Int}, (sortI xs).Pairwise (· < ·)
  | [] => .nil
  | x :: xs => insI_lt (sortI_lt (xs := xs))
theorem lt_uniq : ∀ {xs ys : List Int}, xs.Pairwise (· < ·) → ys.Pairwise (· < ·) → (∀ k, k ∈ xs ↔ k ∈ ys) → xs = ys
  | [], [], _, _, _ => rfl
  | [], y :: ys, _, _, h => by have := (h y).mpr (by simp); simp at this
  | x :: xs, [], _, _, h => by have := (h x).mp (by simp); simp at this
  | x :: xs, y :: ys, h1, h2, h => by
    obtain ⟨a1, a2⟩ := List.pairwise_cons.mp h1
    obtain ⟨b1, b2⟩ := List.pairwise_cons.mp h2
    have e : x = y := by
      rcases List.mem_cons.mp ((h x).mp (by simp)) with e | e
      · exact e
      · rcases List.mem_cons.mp ((h y).mpr (by simp)) with e' | e'
        · exact e'.symm
        · have := a1 y e'; have := b1 x e; omega
    subst e
    refine congrArg (x :: ·) (lt_uniq a2 b2 fun k => ⟨fun hk => ?_, fun hk => ?_⟩)
    · rcases List.mem_cons.mp ((h k).mp (by simp [hk])) with e | e
      · have := a1 k hk; omega
      · exact e
    · rcases List.mem_cons.mp ((h k).mpr (by simp [hk])) with e | e
      · have := b1 k hk; omega
      · exact e
section
variable {G : Glue} {W : WX} {X : Cx} {a : Expr} {da : Ev} {pos p p2 pos2 : Pos}
def dSortSet (a : Ev) : Lv := fun sl => (a sl).bind fun x sl1 => match getS sl1 x with
  | some (.tup xs) => match intsOf xs with
    | some ns => if decide (ns.length < 64) then .ok ((sortI ns).map .int) sl1 else .bad
    | none => .bad
  | _ => .bad
theorem fl_sortSet (ha : FE G W X a da) (hm1 : X.mg "sorted" = none) (hm2 : X.mg "set" = none) (hc : X.calm = true := by rfl) (hK : X.K = G.K := by rfl) (hg1 : Gl X "sorted" := by rfl) (hg2 : Gl X "set" := by rfl) (hs : starEach [a] X.env = (false, eval a X.env) :: starEach [] X.env := by rfl)
    (hs2 : starEach [.Call (.Name "set" p2) [a] [] pos2] X.env = (false, eval (.Call (.Name "set" p2) [a] [] pos2) X.env) :: starEach [] X.env := by rfl) : FL G W X (.Call (.Name "sorted" p) [.Call (.Name "set" p2) [a] [] pos2] [] pos) (dSortSet da) := fun T => by
  refine PE.plus (pe_callB (cr_sortedSet hc) hg1 hm1 bb_sorted (pa_cons (pe_callTy (cr_setI hc) hg2 hm2 bb_set (pa_cons (ha T) pa_nil hs) (he := hs)) pa_nil hs2) (he := hs2)) fun σ H Q z h hz => ?_
  obtain ⟨A, sl, s, q⟩ := h hz
  refine ⟨A, sl, s, PostG.bind q fun x sl1 v H1 _ s1 k1 r1 p1 => ?_⟩
  split at p1
  · rename_i xs e
    split at p1
    · rename_i ns e2
      split at p1
      · rename_i hl
        have hl := of_decide_eq_true hl
        obtain ⟨l, vs, rfl, sq, rv⟩ := tupK hK (Rl.of s1 r1 e)
        have ev := ints_rv rv e2
        subst ev
        refine ⟨l, ns, rfl, sq, by omega, fun q S c hq hS hcl => ⟨q, S, c, rfl, upd_same, by omega, fun ms r hms hm hlen hr hz2 => ?_⟩⟩
        have em : ms = sortI ns := lt_uniq hms sortI_lt fun k => by rw [hm, hS, sortI_mem]
        subst em
        have sm := same_fresh hq (SetO X.w q S c)
        exact p1 _ _ (s1.grown sm (hsz_down _ _ _ hr hz2)) (.same sm) (Rvs.ints _ |> fun z => by simpa using z) r hr
      · exact p1.elim
    · exact p1.elim
  · exact p1.elim
end
/-! ### what a law's text has -/
/-- a constant of the module -/
def GlobD (G : Glue) (mg : Str → Option Value) (x : Str) (d : D) : Prop := ∃ v u, mg x = some u ∧ RelV v u ∧ ∀ N H, Rv G N H d v
theorem GlobD.fe {G : Glue} {W : WX} {X : Cx} {x : Str} {d : D} {pos : Pos} (h : GlobD G X.mg x d) (hg : Gl X x := by rfl) (hd : (x == ("__debug__" : Str)) = false := by decide) : FE G W X (.Name x pos) (dC d) := by
  obtain ⟨v, u, h1, h2, h3⟩ := h
  exact fe_glob h1 h2 h3 hg hd
def Calms (l : List (Nat × Sm)) : Prop := ∀ q ∈ l, Calm q.2
theorem calms_nil : Calms [] := fun _ h => nomatch h
theorem calms_cons {n : Nat} {m : Sm} {l : List (Nat × Sm)} (h : Calm m) (hs : Calms l) : Calms ((n, m) :: l) := fun q hq => by
  rcases List.mem_cons.mp hq with rfl | hq
  · exact h
  · exact hs q hq
theorem calm_retC {d : D} : Calm (mRet (dC d)) := fun _ => trivial
theorem hu130 {A : Around} {k : Nat} (h : Room k A) : A.units + 130 < cLine := by have := h.un; omega
end F

set_option Elab.async false
set_option linter.all false
set_option maxRecDepth 100000
set_option maxHeartbeats 4000000
namespace F
open PySem PySem.Spec PyProof.Rows L2
/-! ### the law's own promise, and the end -/
def ScriptOk (ns : List Int) : Prop := ns.length ≤ 63 ∧ ∀ z ∈ ns, Builtin.Int.intBits z ≤ 1048576
def spLaw (K : PySem.W.Frag) : Sp := fun vs H Q _ => ∃ (a : Addr) (ns : List Int), vs = [.ref a] ∧ SqL K H a (ns.map V.int) ∧ ScriptOk ns ∧ Only H ∧ ∀ H', Q (.bl true) H'
theorem law_imp {G : Glue} {f : List D → Re D} (hl : ∀ ns, ScriptOk ns → f [.scr (ns.map .int)] = .ok (.bl true)) : ∀ vs H Q E, spLaw G.K vs H Q E → spP G 1 f vs H Q E := fun vs H Q E h => by
  obtain ⟨a, ns, rfl, sq, ok, on, q⟩ := h
  refine ⟨fun _ => False, [.scr (ns.map .int)], fun _ z => z.elim, .cons (.scr ?_ (Rvs.ints ns)) .nil, rfl, ?_⟩
  · rcases sq with (z | ⟨o, z⟩) | z
    · rcases on a with e | ⟨o, xs, e⟩
      · rw [e] at z; cases z
      · rw [e] at z; cases z
    · exact .inl ⟨o, z⟩
    · exact .inr z
  · rw [hl ns ok]
    intro v H' sm r
    cases r
    exact q H'
/-- is an error of class S what «except R» names -/
theorem exm_pair {K : PySem.W.Frag} {S R : Addr} {v : Bool} (h1 : PySem.W.subIn K (.ref R) (.type "BaseException") = some true) (h2 : PySem.W.isClsIn K R = true) (h3 : PySem.W.typeIn K (.ref R) = some (.type "type")) (h4 : PySem.W.subIn K (.ref S) (.ref R) = some v) :
    PySem.W.exmOne K (.ref S) (.ref R) = some v := by
  have e1 : (PySem.W.subIn K (.ref R) (.type "BaseException") == some true) = true := by rw [h1] <;> rfl
  have e2 : ((PySem.W.clsIn K R).isSome && PySem.W.typeIn K (.ref R) == some (.type "type")) = true := by
    have h2' : (PySem.W.clsIn K R).isSome = true := h2
    rw [h2', h3] <;> rfl
  show (if (PySem.W.subIn K (.ref R) (.type "BaseException") == some true) = true then (if ((PySem.W.clsIn K R).isSome && PySem.W.typeIn K (.ref R) == some (.type "type")) = true then PySem.W.subIn K (.ref S) (.ref R) else none) else none) = some v
  rw [if_pos e1, if_pos e2]
  exact h4
theorem fn_none {P : Program} {w : World} {K : PySem.W.Frag} {mg : Str → Option Value} {base : Heap} {k : Nat} {f : Addr} {fd : FuncData} {ps : List Str} {sp : Sp} (h : ∀ vs H Q E, ¬ sp vs H Q E) : FnOk P w K mg base (L2.CX P w) k f fd ps sp :=
  ⟨fun vs H Q E z => absurd z (h vs H Q E), fun A outer s H args us vs Q E _ _ _ _ z => absurd z (h vs H Q E)⟩
theorem no_P {G : Glue} {n : Nat} : ∀ vs H Q E, ¬ spP G n (fun _ => .bad) vs H Q E := fun vs H Q E h => by
  obtain ⟨_, _, _, _, _, z⟩ := h
  exact z
theorem no_T {G : Glue} {n : Nat} : ∀ vs H Q E, ¬ spT G n (fun _ _ => .bad) vs H Q E := fun vs H Q E h => by
  obtain ⟨_, _, _, _, _, _, _, _, _, _, _, _, _, z⟩ := h
  exact z
theorem cal_mk {P : Program} {w : World} {K : PySem.W.Frag} {mg : Str → Option Value} {base h : Heap} {k : Nat} {x : Str} {ps : List Str} {sp : Sp} {f : Addr} {fd : FuncData} (X : K.In h) (G : h.Ns mainGlobals mg) (a : PySem.W.nsIn K mainGlobals x = some (some (.ref f)))
    (kp : PySem.W.keepIn K (.ref f) = true) (b : Binds K fd ps []) (ok : FnOk P w K mg base (L2.CX P w) k f fd ps sp) : Cal P w K mg base k x ps sp := ⟨⟨f, fd, PySem.W.mg_of X G a, kp, b, ok⟩⟩
theorem walk {l : PySem.W.OpenLaw} {k : Nat} {q : Program} {loose : List Str} {XP : (Str → Option Value) → Heap → Prop} {YP : World → Heap → Prop} {d : DefRec} {K : Params → PySem.W.Frag} (hr : Room k callerA) (hn : l.most = some 63) (hdf : d.params.defaults = [])
    (hY : ∀ (w : World) (h : Heap), YP w h → (K w.params).In h)
    (F : ∀ (w : World) (mg : Str → Option Value) (fa : Addr) (h : Heap), (K w.params).In h → h.Ns mainGlobals mg → mg d.name = some (.ref fa) →
      ∃ fd : FuncData, (∀ (s : Shared) (u : Value), BindsTo s fd ⟨[u], []⟩ [("script", u)]) ∧ ∀ base : Heap, (K w.params).In base → base.Ns mainGlobals mg → FnOk l.prog w (K w.params) mg base (L2.CX l.prog w) k fa fd ["script"] (spLaw (K w.params))) :
    PySem.W.WalkO q loose XP YP l.row.toRowW d [] (fun f vs => PySem.call f vs) :=
  L2.walk_ofB (n := 63) (k := k) (x := "script") (CX := fun w => L2.CX l.prog w) (sp := fun w => spLaw (K w.params)) hn (by decide) hdf hr hY F (fun _ _ a ns hl hb on hS => ⟨a, ns, rfl, hS, ⟨hl, hb⟩, on, fun _ => rfl⟩)
    fun w H s e s' z => by
      obtain ⟨_, _, _, _, _, _, _, _, _, _, _, _, z⟩ := z
      exact z
end F

set_option Elab.async false
set_option linter.all false
set_option maxRecDepth 100000
set_option maxHeartbeats 4000000
namespace F
open PySem PySem.Spec
/-! ### reading meanings: rules for simp -/
section
variable {α β : Type} {a : α} {sl : Sl} {e : Ex} {f : α → Sl → R β} {g : α → Sl → Fl} {m m1 m2 : Sm} {x : S} {d : D} {ds : List D} {p q r : Ev} {rs : Evs} {l : Lv}
@[simp] theorem ev_bind_ok : (R.ok a sl).bind f = f a sl := rfl
@[simp] theorem ev_bind_ex : (R.ex e sl : R α).bind f = .ex e sl := rfl
@[simp] theorem ev_bind_bad : (R.bad : R α).bind f = .bad := rfl
@[simp] theorem ev_to_ok : (R.ok a sl).to g = g a sl := rfl
@[simp] theorem ev_to_ex : (R.ex e sl : R α).to g = .ex e sl := rfl
@[simp] theorem ev_to_bad : (R.bad : R α).to g = .bad := rfl
@[simp] theorem ev_seq_nx : (Fl.nx sl).seq m = m sl := rfl
@[simp] theorem ev_seq_rt : (Fl.rt x sl).seq m = .rt x sl := rfl
@[simp] theorem ev_seq_bk : (Fl.bk sl).seq m = .bk sl := rfl
@[simp] theorem ev_seq_ct : (Fl.ct sl).seq m = .ct sl := rfl
@[simp] theorem ev_seq_ex : (Fl.ex e sl).seq m = .ex e sl := rfl
@[simp] theorem ev_seq_bad : (Fl.bad).seq m = .bad := rfl
@[simp] theorem ev_mSeq : mSeq m1 m2 sl = (m1 sl).seq m2 := rfl
@[simp] theorem ev_mNil : mNil sl = .nx sl := rfl
@[simp] theorem ev_mBrk : mBrk sl = .bk sl := rfl
@[simp] theorem ev_mCont : mCont sl = .ct sl := rfl
@[simp] theorem ev_mRaise {n : Nat} : mRaise n sl = .ex (.plain n) sl := rfl
@[simp] theorem ev_mRetN : mRetN sl = .rt (.v .non) sl := rfl
@[simp] theorem ev_mRet : mRet p sl = (p sl).to fun x sl1 => .rt x sl1 := rfl
@[simp] theorem ev_mDrop : mDrop p sl = (p sl).to fun _ sl1 => .nx sl1 := rfl
@[simp] theorem ev_mIf : mIf p m1 m2 sl = (dB p sl).to fun k sl1 => if k = true then m1 sl1 else m2 sl1 := rfl
@[simp] theorem ev_dB : dB p sl = (p sl).bind asB := rfl
@[simp] theorem ev_asB {b : Bool} : asB (.v (.bl b)) sl = .ok b sl := rfl
def mSetK (i : Nat) : S → Sl → Fl
  | .v d, sl => .nx (sl.set i (some (.v d)))
  | .r _, _ => .bad
@[simp] theorem ev_mSetK {i : Nat} : mSetK i (.v d) sl = .nx (sl.set i (some (.v d))) := rfl
@[simp] theorem ev_mSet {i : Nat} : mSet i p sl = (p sl).to (mSetK i) := by
  unfold mSet; congr 1; funext x sl; cases x <;> rfl
@[simp] theorem ev_dC : dC d sl = .ok (.v d) sl := rfl
@[simp] theorem ev_dVar {i : Nat} : dVar i sl = match sl[i]? with
  | some (some (.v d)) => .ok (.v d) sl
  | some (some (.m _)) => .ok (.r i) sl
  | some (some (.d _ _)) => .ok (.r i) sl
  | some (some (.o _ _)) => .ok (.r i) sl
  | some (some (.od _ _ _ _)) => .ok (.r i) sl
  | _ => .bad := rfl
@[simp] theorem ev_two {f : D → D → Re D} {d e z : D} (h : f d e = .ok z) : two f sl (.v d) (.v e) = .ok (.v z) sl := by
  unfold two; simp only [getS, h]
@[simp] theorem ev_dBin {f : D → D → Re D} : dBin f p q sl = (p sl).bind fun x sl1 => (q sl1).bind fun y sl2 => two f sl2 x y := rfl
@[simp] theorem ev_dChain {f g : D → D → Re D} : dChain f g p q r sl = (p sl).bind fun x sl1 => (q sl1).bind fun y sl2 => ((two f sl2 x y).bind asB).bind fun k sl3 => if k = true then (r sl3).bind fun z sl4 => two g sl4 y z else .ok (.v (.bl false)) sl3 := rfl
@[simp] theorem ev_dAnd : dAnd p q sl = ((p sl).bind asB).bind fun k sl1 => if k = true then q sl1 else .ok (.v (.bl false)) sl1 := rfl
@[simp] theorem ev_dOr : dOr p q sl = ((p sl).bind asB).bind fun k sl1 => if k = true then .ok (.v (.bl true)) sl1 else q sl1 := rfl
@[simp] theorem ev_dNot : dNot p sl = ((p sl).bind asB).bind fun k sl1 => .ok (.v (.bl (!k))) sl1 := rfl
@[simp] theorem ev_dIf : dIf p q r sl = ((p sl).bind asB).bind fun k sl1 => if k = true then q sl1 else r sl1 := rfl
@[simp] theorem ev_dNil : dNil sl = .ok [] sl := rfl
@[simp] theorem ev_dCons : dCons p rs sl = (p sl).bind fun x sl1 => (rs sl1).bind fun xs sl2 => .ok (x :: xs) sl2 := rfl
@[simp] theorem ev_asVs0 : asVs [] = some [] := rfl
@[simp] theorem ev_asVs1 {s : List S} : asVs (.v d :: s) = match asVs s with | some ds => some (d :: ds) | none => none := rfl
@[simp] theorem ev_getS : getS sl (.v d) = some d := rfl
@[simp] theorem ev_getAll0 : getAll sl [] = some [] := rfl
@[simp] theorem ev_getAll1 {s : List S} : getAll sl (.v d :: s) = match getAll sl s with | some ds => some (d :: ds) | none => none := by
  simp only [getAll, getS]
  all_goals (cases getAll sl s <;> rfl)
@[simp] theorem ev_dTup : dTup rs sl = (rs sl).bind fun xs sl1 => match asVs xs with
  | some ds => if fits ds.length then .ok (.v (.tup ds)) sl1 else .bad
  | none => .bad := rfl
@[simp] theorem ev_dItems : dItems rs sl = (rs sl).bind fun xs sl1 => match asVs xs with
  | some ds => if fits ds.length then .ok ds sl1 else .bad
  | none => .bad := rfl
@[simp] theorem ev_dL : dL l sl = (l sl).bind fun ds sl1 => .ok (.v (.lst ds)) sl1 := rfl
@[simp] theorem ev_dCB {f : List D → Re D} : dCB f rs sl = (rs sl).bind fun xs sl1 => match getAll sl1 xs with
  | some ds => match f ds with
    | .ok z => .ok (.v z) sl1
    | _ => .bad
  | none => .bad := rfl
@[simp] theorem ev_dCall {n : Nat} {f : List D → Re D} : dCall n f rs sl = (rs sl).bind fun xs sl1 => match asVs xs with
  | some ds => match ari n f ds with
    | .ok z => .ok (.v z) sl1
    | .ex e => .ex e sl1
    | .bad => .bad
  | none => .bad := rfl
@[simp] theorem ev_ari {n : Nat} {f : List D → Re D} : ari n f ds = if ds.length = n then f ds else .bad := rfl
def fin : Fl → Re D
  | .nx _ => .ok .non
  | .rt s sl => match retV sl s with
    | some d => .ok d
    | none => .bad
  | .ex e _ => .ex e
  | _ => .bad
theorem ev_runP {n : Nat} : runP n m ds = fin (m (initS n ds)) := rfl
@[simp] theorem ev_fin_nx : fin (.nx sl) = .ok .non := rfl
@[simp] theorem ev_fin_rt : fin (.rt (.v d) sl) = .ok d := rfl
@[simp] theorem ev_fin_ex : fin (.ex e sl) = .ex e := rfl
@[simp] theorem ev_fin_if {c : Prop} [Decidable c] {a b : Fl} : fin (if c then a else b) = if c then fin a else fin b := by split <;> rfl
@[simp] theorem ev_bind_if {c : Prop} [Decidable c] {a b : R α} : (if c then a else b).bind f = if c then a.bind f else b.bind f := by split <;> rfl
@[simp] theorem ev_to_if {c : Prop} [Decidable c] {a b : R α} : (if c then a else b).to g = if c then a.to g else b.to g := by split <;> rfl
@[simp] theorem ev_seq_if {c : Prop} [Decidable c] {a b : Fl} : (if c then a else b).seq m = if c then a.seq m else b.seq m := by split <;> rfl
@[simp] theorem ev_initS {n : Nat} : initS n ds = ds.map (fun d => some (Sv.v d)) ++ List.replicate (n - ds.length) none := rfl
@[simp] theorem ev_retV : retV sl (.v d) = some d := rfl
@[simp] theorem ev_dIsi {ns : List String} : dIsi ns p sl = (p sl).bind fun x sl1 => match getS sl1 x with
  | some d => if isData d = true then .ok (.v (.bl (ns.any (isTy d)))) sl1 else .bad
  | none => .bad := rfl
@[simp] theorem isData_non : isData .non = true := rfl
@[simp] theorem isData_bl {b : Bool} : isData (.bl b) = true := rfl
@[simp] theorem isData_int {b : Int} : isData (.int b) = true := rfl
@[simp] theorem isData_str {b : Str} : isData (.str b) = true := rfl
@[simp] theorem isData_tup {b : List D} : isData (.tup b) = true := rfl
@[simp] theorem isData_lst {b : List D} : isData (.lst b) = true := rfl
@[simp] theorem isData_scr {b : List D} : isData (.scr b) = true := rfl
@[simp] theorem isData_tpn {b : List D} : isData (.tpn b) = true := rfl
@[simp] theorem ev_fits {n : Nat} (h : n ≤ 1000) : fits n = true := by
  unfold fits; exact decide_eq_true (Nat.le_of_lt (L2.small1000 h))
@[simp] theorem ev_getR {i : Nat} : getS sl (.r i) = match sl[i]? with
  | some (some (.m xs)) => some (.lst xs)
  | some (some (.d ks vs)) => some (.dct ks vs)
  | _ => if 1000 ≤ i then match sl[i - 1000]? with
    | some (some (.od _ _ ks vs)) => some (.dct ks vs)
    | _ => none
    else none := rfl
theorem ev_two_g {f : D → D → Re D} {x y : S} {d e z : D} (h1 : getS sl x = some d) (h2 : getS sl y = some e) (h : f d e = .ok z) : two f sl x y = .ok (.v z) sl := by
  unfold two; simp only [h1, h2, h]
@[simp] theorem ev_two_r {f : D → D → Re D} {i : Nat} {xs : List D} {e z : D} (h1 : sl[i]? = some (some (.m xs))) (h : f (.lst xs) e = .ok z) : two f sl (.r i) (.v e) = .ok (.v z) sl :=
  ev_two_g (by rw [ev_getR, h1]) rfl h
@[simp] theorem ev_getAllr {s : List S} {i : Nat} : getAll sl (.r i :: s) = match getS sl (.r i), getAll sl s with | some d, some ds => some (d :: ds) | _, _ => none := by
  simp only [getAll]
  all_goals (cases getS sl (.r i) <;> cases getAll sl s <;> rfl)
@[simp] theorem ev_mSetIx {i : Nat} : mSetIx i p q sl = (p sl).to fun x sl1 => if isM sl1 i then (q sl1).to fun y sl2 => match x, sl2[i]?, getS sl2 y with
  | .v d, some (some (.m ys)), some (.int k) => match L2.ixN ys.length k with
    | some j => .nx (sl2.set i (some (.m (ys.set j d))))
    | none => .bad
  | _, _, _ => .bad
  else .bad := rfl
@[simp] theorem ev_mNew {i : Nat} : mNew i l sl = (l sl).to fun ds sl1 => .nx (sl1.set i (some (.m ds))) := rfl
@[simp] theorem ev_dNoPart : dNoPart sl = .ok none sl := rfl
@[simp] theorem ev_dPart : dPart p sl = (p sl).bind fun x sl1 => match getS sl1 x with
  | some (.int i) => .ok (some i) sl1
  | _ => .bad := rfl
def sliceO : Option D → Option Int → Option Int → Sl → R S
  | some (.tup xs), l, u, sl => .ok (.v (.tup (cut xs l u))) sl
  | some (.lst xs), l, u, sl => .ok (.v (.lst (cut xs l u))) sl
  | some (.scr xs), l, u, sl => .ok (.v (.lst (cut xs l u))) sl
  | some (.tpn xs), l, u, sl => .ok (.v (.tup (cut xs l u))) sl
  | _, _, _, _ => .bad
@[simp] theorem ev_dSl {lo hi : Ov} : dSl p lo hi sl = (p sl).bind fun x sl1 => (lo sl1).bind fun l sl2 => (hi sl2).bind fun u sl3 => sliceO (getS sl3 x) l u sl3 := by
  unfold dSl
  congr 1; funext x sl1; congr 1; funext l sl2; congr 1; funext u sl3
  cases getS sl3 x with
  | none => rfl
  | some d => cases d <;> rfl
@[simp] theorem ev_slice_t {u : List D} {l h : Option Int} : sliceO (some (.tup u)) l h sl = .ok (.v (.tup (cut u l h))) sl := rfl
@[simp] theorem ev_slice_l {u : List D} {l h : Option Int} : sliceO (some (.lst u)) l h sl = .ok (.v (.lst (cut u l h))) sl := rfl
@[simp] theorem ev_slice_s {u : List D} {l h : Option Int} : sliceO (some (.scr u)) l h sl = .ok (.v (.lst (cut u l h))) sl := rfl
@[simp] theorem ev_dCL {f : List D → Re (List D)} : dCL f rs sl = (rs sl).bind fun xs sl1 => match getAll sl1 xs with
  | some ds => match f ds with
    | .ok z => .ok z sl1
    | _ => .bad
  | none => .bad := rfl
@[simp] theorem ev_dOrL {l2 : Lv} : dOrL l l2 sl = (l sl).bind fun ds sl1 => if ds.isEmpty then l2 sl1 else .ok ds sl1 := rfl
@[simp] theorem b_list_l {u : List D} : bList [.lst u] = .ok u := rfl
@[simp] theorem b_list_t {u : List D} : bList [.tup u] = .ok u := rfl
@[simp] theorem ev_mFor {t : Tg} {it : Lv} : mFor t it m sl = (it sl).to fun ds sl1 => forL t m ds sl1 := rfl
@[simp] theorem ev_forL0 {t : Tg} : forL t m [] sl = .nx sl := rfl
theorem ev_forL1 {t : Tg} : forL t m (d :: ds) sl = match bindT t d sl with
    | some sl1 => (m sl1).step (forL t m ds)
    | none => .bad := rfl
@[simp] theorem ev_step_nx {k : Sl → Fl} : (Fl.nx sl).step k = k sl := rfl
@[simp] theorem ev_step_ct {k : Sl → Fl} : (Fl.ct sl).step k = k sl := rfl
@[simp] theorem ev_step_bk {k : Sl → Fl} : (Fl.bk sl).step k = .nx sl := rfl
@[simp] theorem ev_step_rt {k : Sl → Fl} : (Fl.rt x sl).step k = .rt x sl := rfl
@[simp] theorem ev_bindT_nm {i : Nat} : bindT (.nm i) d sl = some (sl.set i (some (.v d))) := by simp [bindT]
@[simp] theorem ev_bindT_tp {ts : List Tg} {xs : List D} : bindT (.tp ts) (.tup xs) sl = bindTs ts xs sl := by simp [bindT]
@[simp] theorem ev_bindTs0 : bindTs [] [] sl = some sl := by simp [bindTs]
@[simp] theorem ev_bindTs1 {t : Tg} {ts : List Tg} {xs : List D} : bindTs (t :: ts) (d :: xs) sl = match bindT t d sl with
    | some sl' => bindTs ts xs sl'
    | none => none := by
  simp only [bindTs]
  all_goals (cases bindT t d sl <;> rfl)
@[simp] theorem ev_iEnumL : iEnumL p sl = (p sl).bind fun x sl1 => match x with
  | .v (.lst xs) => .ok (enumFrom 0 xs) sl1
  | .v (.tup xs) => .ok (enumFrom 0 xs) sl1
  | .v (.tpn xs) => .ok (enumFrom 0 xs) sl1
  | _ => .bad := rfl
@[simp] theorem ev_iSeq : iSeq p sl = (p sl).bind fun x sl1 => match x with
  | .v (.lst ds) => .ok ds sl1
  | .v (.tup ds) => .ok ds sl1
  | .v (.tpn ds) => .ok ds sl1
  | _ => .bad := rfl
@[simp] theorem ev_iRange2 : iRange2 p q sl = (p sl).bind fun x sl1 => (q sl1).bind fun y sl2 => match getS sl2 x, getS sl2 y with
  | some (.int i), some (.int j) => if rgOk i j then .ok (rgD i j) sl2 else .bad
  | _, _ => .bad := rfl
@[simp] theorem ev_iRange1 : iRange1 p sl = (p sl).bind fun x sl1 => match getS sl1 x with
  | some (.int n) => if rgOk 0 n then .ok (rgD 0 n) sl1 else .bad
  | _ => .bad := rfl
@[simp] theorem ev_iZip : iZip p q sl = (p sl).bind fun x sl1 => (q sl1).bind fun y sl2 => match x, y with
  | .v (.lst xs), .v (.lst ys) => .ok (zipD xs ys) sl2
  | .v (.tup xs), .v (.tup ys) => .ok (zipD xs ys) sl2
  | .v (.tpn xs), .v (.tup ys) => .ok (zipD xs ys) sl2
  | .v (.tup xs), .v (.tpn ys) => .ok (zipD xs ys) sl2
  | .v (.tpn xs), .v (.tpn ys) => .ok (zipD xs ys) sl2
  | _, _ => .bad := rfl
@[simp] theorem ev_mAsg {t : Tg} : mAsg t p sl = (p sl).to fun x sl1 => match x with
  | .v d => match bindT t d sl1 with
    | some sl2 => .nx sl2
    | none => .bad
  | .r _ => .bad := rfl
@[simp] theorem ev_dUn {f : D → Re D} : dUn f p sl = (p sl).bind fun x sl1 => match getS sl1 x with
  | some d => match f d with
    | .ok z => .ok (.v z) sl1
    | _ => .bad
  | none => .bad := rfl
@[simp] theorem op_neg_i {i : Int} : dNeg (.int i) = .ok (.int (-i)) := rfl
theorem cut_to {xs : List α} {k : Nat} : cut xs none (some (k : Int)) = xs.take k := by
  unfold cut
  rw [HT.sIx_none, HT.sIx_nat]
  simp only [List.drop_zero, Nat.sub_zero]
  by_cases h : k ≤ xs.length
  · rw [Nat.min_eq_left h]
  · rw [Nat.min_eq_right (by omega), List.take_length, List.take_of_length_le (by omega)]
theorem cut_from {xs : List α} {k h : Nat} (hh : xs.length ≤ h) : cut xs (some (k : Int)) (some (h : Int)) = xs.drop k := by
  unfold cut
  rw [HT.sIx_nat, HT.sIx_nat, Nat.min_eq_right hh]
  by_cases hk : k ≤ xs.length
  · rw [Nat.min_eq_left hk]; exact List.take_of_length_le (by rw [List.length_drop]; omega)
  · rw [Nat.min_eq_right (by omega), List.drop_of_length_le (Nat.le_refl _), List.drop_of_length_le (by omega), List.take_nil]
theorem cut_rest {xs : List α} {k : Nat} : cut xs (some (k : Int)) none = xs.drop k := by
  unfold cut
  rw [HT.sIx_nat, HT.sIx_none]
  by_cases hk : k ≤ xs.length
  · rw [Nat.min_eq_left hk]; exact List.take_of_length_le (by rw [List.length_drop]; omega)
  · rw [Nat.min_eq_right (by omega), List.drop_of_length_le (Nat.le_refl _), List.drop_of_length_le (by omega), List.take_nil]
def finT : Fl → Re (D × List D)
  | .nx sl => match sl[0]? with
    | some (some (Sv.m bs')) => .ok (.non, bs')
    | _ => .bad
  | .rt s sl => match sl[0]?, retT sl s with
    | some (some (Sv.m bs')), some d => .ok (d, bs')
    | _, _ => .bad
  | _ => .bad
theorem ev_runT {n : Nat} {bs : List D} : runT n m bs ds = finT (m (initT n bs ds)) := rfl
@[simp] theorem ev_finT_rt {bs : List D} {s2 : Sl} : finT (.rt (.v d) (some (.m bs) :: s2)) = .ok (d, bs) := rfl
@[simp] theorem ev_finT_if {c : Prop} [Decidable c] {a b : Fl} : finT (if c then a else b) = if c then finT a else finT b := by split <;> rfl
@[simp] theorem ev_initT {n : Nat} {bs : List D} : initT n bs ds = some (.m bs) :: (ds.map (fun d => some (Sv.v d)) ++ List.replicate (n - (ds.length + 1)) none) := rfl
@[simp] theorem ev_dCallT {n : Nat} {f : List D → List D → Re (D × List D)} : dCallT n f rs sl = (rs sl).bind fun xs sl1 => match xs with
  | .r i :: ss => match sl1[i]?, asVs ss with
    | some (some (.m bs)), some ds => if ds.length + 1 = n then match f bs ds with
      | .ok (z, bs') => .ok (.v z) (sl1.set i (some (.m bs')))
      | _ => .bad
      else .bad
    | _, _ => .bad
  | _ => .bad := rfl
/-! the operations on what they are for -/
variable {i j : Int} {u v : List D} {b1 b2 : Bool}
@[simp] theorem op_add_i : dAdd (.int i) (.int j) = .ok (.int (i + j)) := rfl
@[simp] theorem op_sub_i : dSub (.int i) (.int j) = .ok (.int (i - j)) := rfl
@[simp] theorem op_div_i (h : divOk j = true) : dDiv (.int i) (.int j) = .ok (.int (i / j)) := by simp only [dDiv, h, if_true]
@[simp] theorem op_mod_i (h : 0 < j) : dMod (.int i) (.int j) = .ok (.int (i % j)) := by simp only [dMod, h, decide_true, if_true]
@[simp] theorem op_mul_i (h : mulOk i j = true) : dMulT (.int i) (.int j) = .ok (.int (i * j)) := by simp only [dMulT, dMul, h, if_true]
@[simp] theorem op_lt_i : dLt (.int i) (.int j) = .ok (.bl (decide (i < j))) := rfl
@[simp] theorem op_le_i : dLe (.int i) (.int j) = .ok (.bl (decide (i ≤ j))) := rfl
@[simp] theorem op_gt_i : dGt (.int i) (.int j) = .ok (.bl (decide (j < i))) := rfl
@[simp] theorem op_ge_i : dGe (.int i) (.int j) = .ok (.bl (decide (j ≤ i))) := rfl
@[simp] theorem op_eq_i : dEq (.int i) (.int j) = .ok (.bl (i == j)) := rfl
@[simp] theorem op_ne_i : dNe (.int i) (.int j) = .ok (.bl (!(i == j))) := rfl
@[simp] theorem op_eq_b : dEq (.bl b1) (.bl b2) = .ok (.bl (b1 == b2)) := rfl
@[simp] theorem op_ne_b : dNe (.bl b1) (.bl b2) = .ok (.bl (!(b1 == b2))) := rfl
@[simp] theorem op_ix_t : dIx (.tup u) (.int i) = match L2.atI u i with | some d => .ok d | none => .bad := rfl
@[simp] theorem op_ix_l : dIx (.lst u) (.int i) = match L2.atI u i with | some d => .ok d | none => .bad := rfl
@[simp] theorem b_len_t : bLen [.tup u] = .ok (.int u.length) := rfl
@[simp] theorem b_len_l : bLen [.lst u] = .ok (.int u.length) := rfl
@[simp] theorem b_len_s : bLen [.scr u] = .ok (.int u.length) := rfl
@[simp] theorem b_int_i : bInt [.int i] = .ok (.int i) := rfl
@[simp] theorem b_abs_i : bAbs [.int i] = .ok (.int (if i < 0 then -i else i)) := rfl
@[simp] theorem b_tuple_l : bTuple [.lst u] = .ok (.tup u) := rfl
@[simp] theorem b_tuple_t : bTuple [.tup u] = .ok (.tup u) := rfl
@[simp] theorem op_add_t (h : fits (u.length + v.length) = true) : dAdd (.tup u) (.tup v) = .ok (.tup (u ++ v)) := by simp only [dAdd, h, if_true]
@[simp] theorem op_add_l (h : fits (u.length + v.length) = true) : dAdd (.lst u) (.lst v) = .ok (.lst (u ++ v)) := by simp only [dAdd, h, if_true]
end
end F

set_option Elab.async false
set_option linter.all false
set_option maxRecDepth 100000
set_option maxHeartbeats 4000000
namespace F
open PySem PySem.Spec
/-! ### comprehensions that change nothing outside -/
theorem merge_back {sl slw : Sl} {vs : List Nat} (h : wipeD slw vs = wipeD sl vs) : merge sl slw vs = sl := by
  have hl : sl.length = slw.length := by
    have := congrArg List.length h
    rw [wipeD_len, wipeD_len] at this
    exact this.symm
  refine List.ext_getElem? fun i => ?_
  rw [merge_get hl]
  split
  · rfl
  · rename_i hi
    have := congrArg (fun l => l[i]?) h
    rw [wipeD_get, wipeD_get, if_neg hi, if_neg hi] at this
    exact this
theorem lc_filter {t : Tg} {c : Sl → R Bool} {e : Ev} {vs : List Nat} {p : D → Bool} {f : D → D} {base : Sl} : ∀ {ds : List D} {sl : Sl},
    (∀ d ∈ ds, ∃ sl1 sl2, bindT t d base = some sl1 ∧ c sl1 = .ok (p d) sl2 ∧ wipeD sl2 vs = base ∧ (p d = true → ∃ sl3, e sl2 = .ok (.v (f d)) sl3 ∧ wipeD sl3 vs = base)) → wipeD sl vs = base →
    ∃ sl', lcL vs t c e ds sl = some ((ds.filter p).map f, sl') ∧ wipeD sl' vs = base
  | [], sl, h, hb => ⟨sl, rfl, hb⟩
  | d :: ds, sl, h, hb => by
    obtain ⟨sl1, sl2, h1, h2, h3, h4⟩ := h d (by simp)
    have tl := fun {sl : Sl} (hb : wipeD sl vs = base) => lc_filter (f := f) (ds := ds) (sl := sl) (fun d hd => h d (by simp [hd])) hb
    cases hp : p d with
    | true =>
      obtain ⟨sl3, h5, h6⟩ := h4 hp
      obtain ⟨sl', h7, h8⟩ := tl h6
      refine ⟨sl', ?_, h8⟩
      rw [hp] at h2
      simp only [lcL, hb, h1, h2, h5, h7, List.filter_cons, hp, if_true, List.map_cons]
    | false =>
      obtain ⟨sl', h7, h8⟩ := tl h3
      refine ⟨sl', ?_, h8⟩
      rw [hp] at h2
      simp only [lcL, hb, h1, h2, h7, List.filter_cons, hp, if_false, Bool.false_eq_true]
theorem dLc_filter {t : Tg} {c : Sl → R Bool} {e : Ev} {vs : List Nat} {it : Lv} {p : D → Bool} {f : D → D} {ds : List D} {sl : Sl} (hi : it sl = .ok ds sl) (hn : noOwn sl vs = true)
    (h : ∀ d ∈ ds, ∃ sl1 sl2, bindT t d (wipeD sl vs) = some sl1 ∧ c sl1 = .ok (p d) sl2 ∧ wipeD sl2 vs = wipeD sl vs ∧ (p d = true → ∃ sl3, e sl2 = .ok (.v (f d)) sl3 ∧ wipeD sl3 vs = wipeD sl vs)) :
    dLc vs t c e it sl = .ok ((ds.filter p).map f) sl := by
  obtain ⟨sl', h1, h2⟩ := lc_filter (f := f) h rfl
  unfold dLc
  rw [hi, ev_bind_ok, if_pos hn, h1]
  dsimp only
  rw [merge_back h2]
theorem lc_mapY {t : Tg} {e : Ev} {vs : List Nat} {f : D → D} {base : Sl} : ∀ {ds : List D} {sl : Sl}, (∀ d ∈ ds, ∃ sl1 sl2, bindT t d base = some sl1 ∧ e sl1 = .ok (.v (f d)) sl2 ∧ wipeD sl2 vs = base) → wipeD sl vs = base →
    ∃ sl', lcL vs t cYes e ds sl = some (ds.map f, sl') ∧ wipeD sl' vs = base
  | [], sl, h, hb => ⟨sl, rfl, hb⟩
  | d :: ds, sl, h, hb => by
    obtain ⟨sl1, sl2, h1, h2, h3⟩ := h d (by simp)
    obtain ⟨sl', h4, h5⟩ := lc_mapY (f := f) (ds := ds) (sl := sl2) (fun d hd => h d (by simp [hd])) h3
    refine ⟨sl', ?_, h5⟩
    simp only [lcL, hb, h1, cYes, h2, h4, List.map_cons]
theorem dLc_map {t : Tg} {e : Ev} {vs : List Nat} {it : Lv} {f : D → D} {ds : List D} {sl sl0 : Sl} (hi : it sl = .ok ds sl0) (hn : noOwn sl0 vs = true)
    (h : ∀ d ∈ ds, ∃ sl1 sl2, bindT t d (wipeD sl0 vs) = some sl1 ∧ e sl1 = .ok (.v (f d)) sl2 ∧ wipeD sl2 vs = wipeD sl0 vs) :
    dLc vs t cYes e it sl = .ok (ds.map f) sl0 := by
  obtain ⟨sl', h1, h2⟩ := lc_mapY (f := f) h rfl
  unfold dLc
  rw [hi, ev_bind_ok, if_pos hn, h1]
  dsimp only
  rw [merge_back h2]
/-! ### a loop that looks for the first -/
theorem forL_find {i : Nat} {m : Sm} {sl : Sl} {p : D → Bool} {g : D → S} : ∀ {ds : List D} {x : Option Sv}, (∀ d ∈ ds, m (sl.set i (some (.v d))) = if p d = true then .rt (g d) (sl.set i (some (.v d))) else .nx (sl.set i (some (.v d)))) →
    (∃ d, ds.find? p = some d ∧ forL (.nm i) m ds (sl.set i x) = .rt (g d) (sl.set i (some (.v d)))) ∨ (ds.find? p = none ∧ ∃ y, forL (.nm i) m ds (sl.set i x) = .nx (sl.set i y))
  | [], x, _ => .inr ⟨rfl, x, rfl⟩
  | d :: ds, x, h => by
    have hd := h d (by simp)
    rw [ev_forL1, ev_bindT_nm]
    dsimp only
    rw [List.set_set, hd]
    cases hp : p d with
    | true =>
      left
      exact ⟨d, by rw [List.find?_cons_of_pos hp], by rw [if_pos rfl]; rfl⟩
    | false =>
      rw [if_neg (by simp), ev_step_nx, List.find?_cons_of_neg (by simp [hp])]
      exact forL_find fun d hd => h d (by simp [hd])
end F

set_option Elab.async false
set_option linter.all false
/-! endless texts: (a, b) tells a, then b over and over -/
instance : OfNat Bool 0 := ⟨false⟩
namespace Las
abbrev L := List Int
section
variable {α : Type} [DecidableEq α] [OfNat α 0]
def cyc (b : List α) (i : Nat) : α := b.getD (i % b.length) 0
def wd (a b : List α) (i : Nat) : α := if i < a.length then a.getD i 0 else cyc b (i - a.length)
def Per (f : Nat → α) (s p : Nat) : Prop := ∀ i, s ≤ i → f (i + p) = f i
theorem Per.mul {f : Nat → α} {s p : Nat} (h : Per f s p) : ∀ k, Per f s (k * p)
  | 0 => fun i _ => by rw [Nat.zero_mul, Nat.add_zero]
  | k + 1 => fun i hi => by rw [Nat.succ_mul, ← Nat.add_assoc, h (i + k * p) (by omega), Per.mul h k i hi]
theorem Per.sub {f : Nat → α} {s p q : Nat} (hp : Per f s p) (hq : Per f s q) (h : p ≤ q) : Per f s (q - p) := fun i hi => by
  have h1 := hp (i + (q - p)) (by omega)
  rw [show i + (q - p) + p = i + q by omega, hq i hi] at h1
  exact h1.symm
theorem Per.gcd {f : Nat → α} {s : Nat} : ∀ (n p q : Nat), p + q ≤ n → Per f s p → Per f s q → Per f s (Nat.gcd p q)
  | 0, p, q, h, hp, hq => by
    have e1 : p = 0 := by omega
    have e2 : q = 0 := by omega
    subst e1; subst e2; exact hp
  | n + 1, p, q, h, hp, hq => by
    by_cases h0 : p = 0
    · subst h0; rw [Nat.gcd_zero_left]; exact hq
    by_cases h1 : q = 0
    · subst h1; rw [Nat.gcd_zero_right]; exact hp
    by_cases hle : p ≤ q
    · have := Per.gcd n p (q - p) (by omega) hp (hp.sub hq hle)
      rwa [Nat.gcd_sub_self_right hle] at this
    · have := Per.gcd n (p - q) q (by omega) (hq.sub hp (by omega)) hq
      rwa [Nat.gcd_sub_self_left (by omega)] at this
theorem Per.mono {f : Nat → α} {s t p : Nat} (h : Per f s p) (hs : s ≤ t) : Per f t p := fun i hi => h i (by omega)
theorem cyc_mod (b : List α) (i : Nat) : cyc b (i % b.length) = cyc b i := by unfold cyc; rw [Nat.mod_mod]
theorem cyc_per (b : List α) : Per (cyc b) 0 b.length := fun i _ => by unfold cyc; rw [Nat.add_mod_right]
theorem wd_lo {a b : List α} {i : Nat} (h : i < a.length) : wd a b i = a.getD i 0 := if_pos h
theorem wd_hi {a b : List α} {i : Nat} (h : a.length ≤ i) : wd a b i = cyc b (i - a.length) := if_neg (by omega)
theorem wd_per (a b : List α) : Per (wd a b) a.length b.length := fun i hi => by
  rw [wd_hi hi, wd_hi (by omega), show i + b.length - a.length = i - a.length + b.length by omega]
  exact cyc_per b _ (Nat.zero_le _)
/-- told alike over a stretch of both lengths together: alike for ever -/
theorem fine_wilf {f g : Nat → α} {s p q : Nat} (hp0 : 0 < p) (hq0 : 0 < q) (hf : Per f s p) (hg : Per g s q) (h : ∀ i, s ≤ i → i < s + p + q → f i = g i) : ∀ i, s ≤ i → f i = g i := by
  have gp : Per g s p := fun i hi => by
    -- i = i0 + k q
    have key : ∀ k i0, s ≤ i0 → i0 < s + q → g (i0 + k * q + p) = g (i0 + k * q) := fun k i0 h1 h2 => by
      have e1 : g (i0 + k * q + p) = g (i0 + p) := by rw [show i0 + k * q + p = i0 + p + k * q by omega]; exact hg.mul k _ (by omega)
      rw [e1, hg.mul k i0 h1, ← h (i0 + p) (by omega) (by omega), hf i0 h1, h i0 h1 (by omega)]
    have e : i = s + (i - s) % q + (i - s) / q * q := by
      have := Nat.mod_add_div (i - s) q
      rw [Nat.mul_comm] at this
      omega
    rw [e]
    exact key _ _ (by omega) (by have := Nat.mod_lt (i - s) hq0; omega)
  intro i hi
  have e : i = s + (i - s) % p + (i - s) / p * p := by
    have := Nat.mod_add_div (i - s) p
    rw [Nat.mul_comm] at this
    omega
  have hm := Nat.mod_lt (i - s) hp0
  rw [e, hf.mul _ _ (by omega), gp.mul _ _ (by omega)]
  exact h _ (by omega) (by omega)
/-! ### the shortest round -/
/-- b is m letters over and over -/
def Rep (m : Nat) (b : List α) : Prop := m ∣ b.length ∧ Per (cyc b) 0 m
def Prim (b : List α) : Prop := ∀ m, 0 < m → Rep m b → m = b.length
theorem getD_take {b : List α} {m i : Nat} (h : i < m) : (b.take m).getD i 0 = b.getD i 0 := by
  rw [List.getD_eq_getElem?_getD, List.getD_eq_getElem?_getD, List.getElem?_take, if_pos h]
theorem getD_drop {b : List α} {m i : Nat} : (b.drop m).getD i 0 = b.getD (m + i) 0 := by
  rw [List.getD_eq_getElem?_getD, List.getD_eq_getElem?_getD, List.getElem?_drop]
theorem getD_append_lo {a b : List α} {i : Nat} (h : i < a.length) : (a ++ b).getD i 0 = a.getD i 0 := by
  rw [List.getD_eq_getElem?_getD, List.getD_eq_getElem?_getD, List.getElem?_append_left h]
theorem getD_append_hi {a b : List α} {i : Nat} (h : a.length ≤ i) : (a ++ b).getD i 0 = b.getD (i - a.length) 0 := by
  rw [List.getD_eq_getElem?_getD, List.getD_eq_getElem?_getD, List.getElem?_append_right h]
theorem ext0 {a b : List α} (hl : a.length = b.length) (h : ∀ i, i < a.length → a.getD i 0 = b.getD i 0) : a = b := by
  refine List.ext_getElem hl fun i h1 h2 => ?_
  have := h i h1
  rw [List.getD_eq_getElem?_getD, List.getD_eq_getElem?_getD, List.getElem?_eq_getElem h1, List.getElem?_eq_getElem h2] at this
  exact this
theorem flat_len {xs : List α} : ∀ k, (List.replicate k xs).flatten.length = k * xs.length
  | 0 => by simp
  | k + 1 => by rw [List.replicate_succ, List.flatten_cons, List.length_append, flat_len k, Nat.succ_mul]; omega
theorem flat_get {xs : List α} : ∀ k i, i < k * xs.length → (List.replicate k xs).flatten.getD i 0 = xs.getD (i % xs.length) 0
  | 0, i, h => by omega
  | k + 1, i, h => by
    rw [List.replicate_succ, List.flatten_cons]
    by_cases hi : i < xs.length
    · rw [getD_append_lo hi, Nat.mod_eq_of_lt hi]
    · rw [getD_append_hi (by omega), flat_get k _ (by rw [Nat.succ_mul] at h; omega)]
      congr 1
      conv => rhs; rw [show i = i - xs.length + xs.length by omega, Nat.add_mod_right]
theorem cyc_lt {b : List α} {i : Nat} (h : i < b.length) : cyc b i = b.getD i 0 := by unfold cyc; rw [Nat.mod_eq_of_lt h]
theorem Per.mod {f : Nat → α} {m : Nat} (h : Per f 0 m) (i : Nat) : f i = f (i % m) := by
  have := h.mul (i / m) (i % m) (Nat.zero_le _)
  rw [← this]
  congr 1
  have := Nat.mod_add_div i m
  rw [Nat.mul_comm] at this
  omega
/-- what the program asks of m -/
theorem rep_iff {m : Nat} {b : List α} (h0 : 0 < m) (hl : m ≤ b.length) : (b.length % m = 0 ∧ (List.replicate (b.length / m) (b.take m)).flatten = b) ↔ Rep m b := by
  have tl : (b.take m).length = m := by rw [List.length_take]; omega
  constructor
  · rintro ⟨h1, h2⟩
    have hd : m ∣ b.length := Nat.dvd_of_mod_eq_zero h1
    refine ⟨hd, fun i _ => ?_⟩
    have hk : b.length / m * m = b.length := Nat.div_mul_cancel hd
    have gen : ∀ j, j < b.length → b.getD j 0 = b.getD (j % m) 0 := fun j hj => by
      have := flat_get (xs := b.take m) (b.length / m) j (by rw [tl, hk]; exact hj)
      rw [h2, tl, getD_take (Nat.mod_lt _ h0)] at this
      exact this
    have hb : 0 < b.length := by omega
    unfold cyc
    rw [gen _ (Nat.mod_lt _ hb), gen (i % b.length) (Nat.mod_lt _ hb), Nat.mod_mod_of_dvd _ hd, Nat.mod_mod_of_dvd _ hd, Nat.add_mod_right]
  · rintro ⟨hd, hp⟩
    refine ⟨Nat.mod_eq_zero_of_dvd hd, ?_⟩
    have hk : b.length / m * m = b.length := Nat.div_mul_cancel hd
    refine ext0 (by rw [flat_len, tl, hk]) fun i hi => ?_
    rw [flat_len, tl, hk] at hi
    rw [flat_get _ _ (by rw [tl, hk]; exact hi), tl, getD_take (Nat.mod_lt _ h0)]
    have hm := Nat.mod_lt i h0
    rw [← cyc_lt hi, ← cyc_lt (show i % m < b.length by omega)]
    exact (hp.mod i).symm
def repB (b : List α) (m : Nat) : Bool := decide (b.length % m = 0) && decide ((List.replicate (b.length / m) (b.take m)).flatten = b)
def srt (b : List α) : List α := match (List.range' 1 b.length).find? (repB b) with
  | some m => b.take m
  | none => b
theorem rep_self (b : List α) : Rep b.length b := ⟨Nat.dvd_refl _, cyc_per b⟩
theorem srt_spec {b : List α} (hb : b ≠ []) : ∃ m, 0 < m ∧ m ≤ b.length ∧ Rep m b ∧ srt b = b.take m ∧ ∀ j, 0 < j → j < m → ¬ Rep j b := by
  have hl : 0 < b.length := List.length_pos_iff.mpr hb
  have conv : ∀ j, 0 < j → j ≤ b.length → (repB b j = true ↔ Rep j b) := fun j h1 h2 => by
    unfold repB
    rw [Bool.and_eq_true, decide_eq_true_eq, decide_eq_true_eq]
    exact rep_iff h1 h2
  cases h : (List.range' 1 b.length).find? (repB b) with
  | none =>
    have := List.find?_eq_none.mp h b.length (by rw [List.mem_range'_1]; omega)
    exact absurd ((conv _ hl (Nat.le_refl _)).mpr (rep_self b)) (by simpa using this)
  | some m =>
    have hm := List.find?_some h
    have hin := List.mem_of_find?_eq_some h
    rw [List.mem_range'_1] at hin
    refine ⟨m, by omega, by omega, (conv m (by omega) (by omega)).mp hm, by unfold srt; rw [h], fun j h1 h2 h3 => ?_⟩
    obtain ⟨_, as, bs, e, hall⟩ := List.find?_eq_some_iff_append.mp h
    have hj : j ∈ List.range' 1 b.length := by rw [List.mem_range'_1]; omega
    rw [e] at hj
    rcases List.mem_append.mp hj with hj | hj
    · have := hall j hj
      rw [(conv j h1 (by omega)).mpr h3] at this
      simp at this
    · have hs : (as ++ m :: bs).Pairwise (· < ·) := by rw [← e]; exact List.pairwise_lt_range'
      have hp := (List.pairwise_append.mp hs).2.1
      rcases List.mem_cons.mp hj with rfl | hj
      · omega
      · have := (List.pairwise_cons.mp hp).1 j hj; omega
theorem cyc_take {m : Nat} {b : List α} (h0 : 0 < m) (hl : m ≤ b.length) (hr : Rep m b) (i : Nat) : cyc (b.take m) i = cyc b i := by
  have tl : (b.take m).length = m := by rw [List.length_take]; omega
  have hm := Nat.mod_lt i h0
  rw [hr.2.mod i, cyc_lt (show i % m < b.length by omega)]
  unfold cyc
  rw [tl, getD_take hm]
theorem srt_cyc {b : List α} (hb : b ≠ []) (i : Nat) : cyc (srt b) i = cyc b i := by
  obtain ⟨m, h0, hl, hr, e, _⟩ := srt_spec hb
  rw [e]; exact cyc_take h0 hl hr i
theorem srt_ne {b : List α} (hb : b ≠ []) : srt b ≠ [] := by
  obtain ⟨m, h0, hl, hr, e, _⟩ := srt_spec hb
  rw [e]
  intro z
  have := congrArg List.length z
  rw [List.length_take, List.length_nil] at this
  omega
theorem srt_prim {b : List α} (hb : b ≠ []) : Prim (srt b) := by
  obtain ⟨m, h0, hl, hr, e, hmin⟩ := srt_spec hb
  have tl : (b.take m).length = m := by rw [List.length_take]; omega
  intro j hj hrj
  rw [e] at hrj ⊢
  rw [tl]
  obtain ⟨d, p⟩ := hrj
  rw [tl] at d
  have hjm : j ≤ m := Nat.le_of_dvd h0 d
  rcases Nat.lt_or_ge j m with h | h
  · refine absurd (⟨Nat.dvd_trans d hr.1, fun i hi => ?_⟩ : Rep j b) (hmin j hj h)
    have := p i hi
    rw [cyc_take h0 hl hr, cyc_take h0 hl hr] at this
    exact this
  · omega
theorem srt_of_prim {b : List α} (hb : b ≠ []) (hp : Prim b) : srt b = b := by
  obtain ⟨m, h0, hl, hr, e, _⟩ := srt_spec hb
  rw [e, hp m h0 hr, List.take_length]
/-! ### the short form -/
def rot1 (b : List α) : List α := b.getLastD 0 :: b.dropLast
def strip : Nat → List α → List α → List α × List α
  | 0, a, b => (a, b)
  | n + 1, a, b => if a ≠ [] ∧ a.getLastD 0 = b.getLastD 0 then strip n a.dropLast (rot1 b) else (a, b)
def short (a b : List α) : List α × List α := strip a.length a (srt b)
/-- the form of fewest letters -/
def Norm (a b : List α) : Prop := b ≠ [] ∧ Prim b ∧ (a = [] ∨ a.getLastD 0 ≠ b.getLastD 0)
theorem rot1_len {b : List α} (h : b ≠ []) : (rot1 b).length = b.length := by
  have : 0 < b.length := List.length_pos_iff.mpr h
  unfold rot1; rw [List.length_cons, List.length_dropLast]; omega
theorem rot1_ne (b : List α) : rot1 b ≠ [] := by unfold rot1; simp
theorem lastD {b : List α} (h : b ≠ []) : b.getLastD 0 = b.getD (b.length - 1) 0 := by
  rw [List.getLastD_eq_getLast?, List.getLast?_eq_getElem?, List.getD_eq_getElem?_getD]
theorem getD_dropLast {b : List α} {i : Nat} (h : i < b.length - 1) : b.dropLast.getD i 0 = b.getD i 0 := by
  rw [List.getD_eq_getElem?_getD, List.getD_eq_getElem?_getD, List.getElem?_dropLast, if_pos h]
theorem rot1_cyc {b : List α} (h : b ≠ []) (i : Nat) : cyc (rot1 b) (i + 1) = cyc b i := by
  have hl : 0 < b.length := List.length_pos_iff.mpr h
  have hm := Nat.mod_lt i hl
  unfold cyc
  rw [rot1_len h]
  by_cases e : i % b.length = b.length - 1
  · have e1 : (i + 1) % b.length = 0 := by
      rw [Nat.add_mod, e]
      rcases Nat.lt_or_ge 1 b.length with h1 | h1
      · rw [Nat.mod_eq_of_lt h1, show b.length - 1 + 1 = b.length by omega, Nat.mod_self]
      · have : b.length = 1 := by omega
        rw [this]
    rw [e1, e, ← lastD h]
    rfl
  · have h1 : 1 < b.length := by omega
    have e1 : (i + 1) % b.length = i % b.length + 1 := by
      rw [Nat.add_mod, Nat.mod_eq_of_lt h1, Nat.mod_eq_of_lt (by omega)]
    rw [e1]
    show (b.getLastD 0 :: b.dropLast).getD (i % b.length + 1) 0 = _
    rw [List.getD_cons_succ, getD_dropLast (by omega)]
theorem prim_iff {b : List α} : Prim b ↔ ∀ m, 0 < m → m ∣ b.length → (∀ i, cyc b (i + m) = cyc b i) → m = b.length :=
  ⟨fun h m h0 h1 h2 => h m h0 ⟨h1, fun i _ => h2 i⟩, fun h m h0 h1 => h m h0 h1.1 fun i => h1.2 i (Nat.zero_le _)⟩
theorem rot1_prim {b : List α} (h : b ≠ []) (hp : Prim b) : Prim (rot1 b) := prim_iff.mpr fun m h0 h1 h2 => by
  rw [rot1_len h] at h1 ⊢
  refine prim_iff.mp hp m h0 h1 fun i => ?_
  rw [← rot1_cyc h, ← rot1_cyc h, show i + m + 1 = i + 1 + m by omega]
  exact h2 _
theorem dropLast_len {a : List α} : a.dropLast.length = a.length - 1 := List.length_dropLast
theorem strip_wd : ∀ (n : Nat) (a b : List α), b ≠ [] → ∀ i, wd (strip n a b).1 (strip n a b).2 i = wd a b i
  | 0, _, _, _, _ => rfl
  | n + 1, a, b, h, i => by
    unfold strip
    split
    · rename_i hc
      rw [strip_wd n _ _ (rot1_ne b)]
      have hl : 0 < a.length := List.length_pos_iff.mpr hc.1
      have hb : 0 < b.length := List.length_pos_iff.mpr h
      by_cases h1 : i < a.length - 1
      · rw [wd_lo (by rw [dropLast_len]; exact h1), wd_lo (by omega), getD_dropLast h1]
      · rw [wd_hi (by rw [dropLast_len]; omega), dropLast_len]
        by_cases h2 : i = a.length - 1
        · rw [wd_lo (by omega), h2, Nat.sub_self, ← lastD hc.1, hc.2]
          unfold cyc; rw [rot1_len h, Nat.zero_mod]; rfl
        · rw [wd_hi (by omega), show i - (a.length - 1) = i - a.length + 1 by omega, rot1_cyc h]
    · rfl
theorem strip_norm : ∀ (n : Nat) (a b : List α), a.length ≤ n → b ≠ [] → Prim b → Norm (strip n a b).1 (strip n a b).2
  | 0, a, b, hn, h, hp => ⟨h, hp, .inl (show a = [] from List.length_eq_zero_iff.mp (by omega))⟩
  | n + 1, a, b, hn, h, hp => by
    unfold strip
    split
    · rename_i hc
      have hl : 0 < a.length := List.length_pos_iff.mpr hc.1
      exact strip_norm n _ _ (by rw [dropLast_len]; omega) (rot1_ne b) (rot1_prim h hp)
    · rename_i hc
      refine ⟨h, hp, ?_⟩
      by_cases e : a = []
      · exact .inl e
      · exact .inr fun z => hc ⟨e, z⟩
theorem short_wd {a b : List α} (h : b ≠ []) (i : Nat) : wd (short a b).1 (short a b).2 i = wd a b i := by
  unfold short
  rw [strip_wd _ _ _ (srt_ne h)]
  unfold wd
  rw [srt_cyc h]
theorem short_norm {a b : List α} (h : b ≠ []) : Norm (short a b).1 (short a b).2 := strip_norm _ _ _ (Nat.le_refl _) (srt_ne h) (srt_prim h)
theorem strip_of_norm {n : Nat} {a b : List α} (h : Norm a b) : strip n a b = (a, b) := by
  cases n with
  | zero => rfl
  | succ n =>
    unfold strip
    rw [if_neg]
    rintro ⟨h1, h2⟩
    rcases h.2.2 with e | e
    · exact h1 e
    · exact e h2
theorem short_of_norm {a b : List α} (h : Norm a b) : short a b = (a, b) := by
  unfold short; rw [srt_of_prim h.1 h.2.1]; exact strip_of_norm h
/-! ### one endless text, one short form -/
theorem round_min {a b c d : List α} (h1 : Norm a b) (hd : d ≠ []) (h : ∀ i, wd a b i = wd c d i) : b.length ∣ d.length := by
  have hb : 0 < b.length := List.length_pos_iff.mpr h1.1
  have p1 : Per (wd a b) (max a.length c.length) b.length := (wd_per a b).mono (Nat.le_max_left _ _)
  have p2 : Per (wd a b) (max a.length c.length) d.length := fun i hi => by rw [h, h]; exact wd_per c d i (by omega)
  have pg := Per.gcd _ _ _ (Nat.le_refl _) p1 p2
  have hg : 0 < Nat.gcd b.length d.length := Nat.gcd_pos_of_pos_left _ hb
  have key : Nat.gcd b.length d.length = b.length := by
    refine prim_iff.mp h1.2.1 _ hg (Nat.gcd_dvd_left _ _) fun i => ?_
    -- far enough out
    have far : ∀ j, cyc b j = wd a b (a.length + (j + (max a.length c.length) * b.length)) := fun j => by
      rw [wd_hi (by omega), show a.length + (j + max a.length c.length * b.length) - a.length = j + max a.length c.length * b.length by omega]
      exact ((cyc_per b).mul _ j (Nat.zero_le _)).symm
    have hk : max a.length c.length ≤ max a.length c.length * b.length := Nat.le_mul_of_pos_right _ hb
    rw [far, far, show a.length + (i + Nat.gcd b.length d.length + max a.length c.length * b.length) = a.length + (i + max a.length c.length * b.length) + Nat.gcd b.length d.length by omega]
    exact pg _ (by omega)
  rw [← key]; exact Nat.gcd_dvd_right _ _
theorem norm_le {a b c d : List α} (h1 : Norm a b) (h2 : Norm c d) (h : ∀ i, wd a b i = wd c d i) (hl : b.length = d.length) : ¬ a.length < c.length := fun hlt => by
  have hd : 0 < d.length := List.length_pos_iff.mpr h2.1
  have hc : c ≠ [] := fun e => by rw [e] at hlt; simp at hlt
  rcases h2.2.2 with e | e
  · exact hc e
  · refine e ?_
    rw [lastD hc, lastD h2.1]
    have e1 : wd c d (c.length - 1) = c.getD (c.length - 1) 0 := wd_lo (by omega)
    have e2 : wd c d (c.length - 1 + d.length) = d.getD (d.length - 1) 0 := by
      rw [wd_hi (by omega), show c.length - 1 + d.length - c.length = d.length - 1 by omega, cyc_lt (by omega)]
    rw [← e1, ← e2, ← h, ← h, ← hl]
    exact (wd_per a b _ (by omega)).symm
theorem norm_uniq {a b c d : List α} (h1 : Norm a b) (h2 : Norm c d) (h : ∀ i, wd a b i = wd c d i) : a = c ∧ b = d := by
  have hl : b.length = d.length := Nat.dvd_antisymm (round_min h1 h2.1 h) (round_min h2 h1.1 fun i => (h i).symm)
  have hb : 0 < b.length := List.length_pos_iff.mpr h1.1
  have ha : a.length = c.length := by
    have := norm_le h1 h2 h hl
    have := norm_le h2 h1 (fun i => (h i).symm) hl.symm
    omega
  refine ⟨ext0 ha fun i hi => ?_, ext0 hl fun i hi => ?_⟩
  · rw [← wd_lo hi, h, wd_lo (by omega)]
  · have e := h (a.length + i)
    rw [wd_hi (by omega), wd_hi (by omega), ha, Nat.add_sub_cancel_left, cyc_lt hi, cyc_lt (by omega)] at e
    exact e
theorem short_eq_iff {a b c d : List α} (hb : b ≠ []) (hd : d ≠ []) : short a b = short c d ↔ ∀ i, wd a b i = wd c d i := by
  constructor
  · intro e i; rw [← short_wd hb, ← short_wd hd, e]
  · intro h
    obtain ⟨e1, e2⟩ := norm_uniq (short_norm (a := a) hb) (short_norm (a := c) hd) fun i => by rw [short_wd hb, short_wd hd]; exact h i
    exact Prod.ext e1 e2
theorem short_eq_self {a b : List α} (hb : b ≠ []) : short a b = (a, b) ↔ Norm a b :=
  ⟨fun e => by have := short_norm (a := a) hb; rw [e] at this; exact this, short_of_norm⟩
theorem short_short {a b : List α} (hb : b ≠ []) : short (short a b).1 (short a b).2 = short a b := short_of_norm (short_norm hb)
end
end Las

set_option Elab.async false
set_option linter.all false
set_option maxRecDepth 100000
set_option maxHeartbeats 4000000
namespace F
open PySem PySem.Spec Las
def tI (xs : L) : D := .tup (xs.map .int)
def lI (xs : L) : D := .lst (xs.map .int)
def lasD (a b : L) : D := .tup [tI a, tI b]
def lasL (a b : L) : D := .lst [lI a, lI b]
def letters (w : Int) (xs : L) : Prop := ∀ x ∈ xs, 1 ≤ x ∧ x ≤ w
theorem letters.mono {w v : Int} {xs : L} (h : letters w xs) (hv : w ≤ v) : letters v xs := fun x hx => ⟨(h x hx).1, Int.le_trans (h x hx).2 hv⟩
@[simp] theorem tI_len {xs : L} : (xs.map D.int).length = xs.length := List.length_map _
theorem eqv_int {i j : Int} : D.eqv (.int i) (.int j) = decide (i = j) := by simp only [D.eqv]; rfl
theorem eqvs_ints : ∀ {xs ys : L}, D.eqvs (xs.map .int) (ys.map .int) = decide (xs = ys)
  | [], [] => by simp [D.eqvs]
  | [], _ :: _ => by simp [D.eqvs]
  | _ :: _, [] => by simp [D.eqvs]
  | x :: xs, y :: ys => by
    simp only [List.map_cons, D.eqvs, eqv_int, eqvs_ints, List.cons.injEq]
    by_cases h1 : x = y <;> by_cases h2 : xs = ys <;> simp [h1, h2]
theorem depths_ints : ∀ {xs : L}, D.depths (xs.map .int) = 0
  | [] => by simp [D.depths]
  | x :: xs => by simp only [List.map_cons, D.depths, D.depth, depths_ints]; rfl
@[simp] theorem purs_ints : ∀ {xs : L}, D.purs (xs.map .int) = true
  | [] => by simp [D.purs]
  | x :: xs => by simp only [List.map_cons, D.purs, D.pur, purs_ints]; rfl
@[simp] theorem pur_tI {xs : L} : D.pur (tI xs) = true := by unfold tI; simp only [D.pur, purs_ints]
theorem eqv_tI {xs ys : L} : D.eqv (tI xs) (tI ys) = decide (xs = ys) := by unfold tI; simp only [D.eqv, eqvs_ints]
theorem depth_tI {xs : L} : D.depth (tI xs) = 1 := by unfold tI; simp only [D.depth, depths_ints]
theorem eq_tI {xs ys : L} : dEq (tI xs) (tI ys) = .ok (.bl (decide (xs = ys))) := by
  unfold dEq shallow; rw [depth_tI, depth_tI, eqv_tI, pur_tI, pur_tI]; rfl
theorem ne_tI {xs ys : L} : dNe (tI xs) (tI ys) = .ok (.bl (!decide (xs = ys))) := by
  unfold dNe shallow; rw [depth_tI, depth_tI, eqv_tI, pur_tI, pur_tI]; rfl
theorem eqv_las {a b c d : L} : D.eqv (lasD a b) (lasD c d) = decide (a = c ∧ b = d) := by
  unfold lasD
  simp only [D.eqv, D.eqvs, eqv_tI]
  by_cases h1 : a = c <;> by_cases h2 : b = d <;> simp [h1, h2]
theorem depth_las {a b : L} : D.depth (lasD a b) = 2 := by
  unfold lasD; simp only [D.depth, D.depths, depth_tI]; rfl
@[simp] theorem pur_las {a b : L} : D.pur (lasD a b) = true := by unfold lasD; simp only [D.pur, D.purs, pur_tI]; rfl
theorem eq_las {a b c d : L} : dEq (lasD a b) (lasD c d) = .ok (.bl (decide (a = c ∧ b = d))) := by
  unfold dEq shallow; rw [depth_las, depth_las, eqv_las, pur_las, pur_las]; rfl
theorem ne_las {a b c d : L} : dNe (lasD a b) (lasD c d) = .ok (.bl (!decide (a = c ∧ b = d))) := by
  unfold dNe shallow; rw [depth_las, depth_las, eqv_las, pur_las, pur_las]; rfl
theorem tI_nil : tI [] = .tup [] := rfl
theorem in_int {x : Int} {ys : L} {neg : Bool} : dIn neg (.int x) (tI ys) = .ok (.bl (if neg then !decide (x ∈ ys) else decide (x ∈ ys))) := by
  have e : isIn (.int x) (ys.map .int) = decide (x ∈ ys) := by
    unfold isIn
    induction ys with
    | nil => rfl
    | cons y ys ih =>
      simp only [List.map_cons, List.any_cons, ih, eqv_int, List.mem_cons]
      by_cases h1 : y = x
      · simp [h1]
      · have h2 : ¬ x = y := fun z => h1 z.symm
        simp [h1, h2]
  unfold dIn tI
  simp only [items, depths_ints, e, D.depth, purs_ints, D.pur]
  rfl
theorem atI_ints {xs : L} {i : Nat} (h : i < xs.length) : L2.atI (xs.map D.int) (i : Int) = some (.int (xs.getD i 0)) := by
  refine L2.atI_nat ?_
  rw [List.getElem?_map, List.getElem?_eq_getElem h, List.getD_eq_getElem?_getD, List.getElem?_eq_getElem h]
  rfl
theorem atI_last {xs : L} (h : xs ≠ []) : L2.atI (xs.map D.int) (-1) = some (.int (xs.getLastD 0)) := by
  have hl : 0 < xs.length := List.length_pos_iff.mpr h
  unfold L2.atI L2.ixN
  rw [tI_len, if_neg (by omega), if_pos (by omega)]
  rw [show (-1 + (xs.length : Int)).toNat = xs.length - 1 by omega, lastD h, List.getD_eq_getElem?_getD]
  simp only [Option.bind_some]
  rw [List.getElem?_map, List.getElem?_eq_getElem (by omega)]
  rfl
theorem slice_to {xs : L} {k : Nat} {sl : Sl} : sliceO (some (tI xs)) none (some (k : Int)) sl = .ok (.v (tI (xs.take k))) sl := by
  unfold tI; rw [ev_slice_t, cut_to, List.map_take]
theorem slice_rest {xs : L} {k : Nat} {sl : Sl} : sliceO (some (tI xs)) (some (k : Int)) none sl = .ok (.v (tI (xs.drop k))) sl := by
  unfold tI; rw [ev_slice_t, cut_rest, List.map_drop]
theorem add_tI {xs ys : L} (h : xs.length + ys.length ≤ 1000) : dAdd (tI xs) (tI ys) = .ok (tI (xs ++ ys)) := by
  unfold tI
  rw [op_add_t (ev_fits (by rw [tI_len, tI_len]; exact h)), List.map_append]
theorem len_tI {xs : L} : bLen [tI xs] = .ok (.int xs.length) := by unfold tI; rw [b_len_t, tI_len]
theorem cut_nolast {α : Type} {xs : List α} : cut xs none (some (-1)) = xs.dropLast := by
  unfold cut
  rw [HT.sIx_none]
  have e : HT.sIx xs.length xs.length (some (-1)) = xs.length - 1 := by
    show (if (-1 : Int) < 0 then (-1 + (xs.length : Int)).toNat else min (-1 : Int).toNat xs.length) = _
    rw [if_pos (by decide)]; omega
  rw [e, List.drop_zero, Nat.sub_zero, ← List.dropLast_eq_take]
end F

set_option Elab.async false
set_option linter.all false
set_option maxRecDepth 100000
set_option maxHeartbeats 4000000
/-! expressions that leave the slots as they are; comprehensions over such, as plain lists; names that are forgotten -/
namespace F
open PySem PySem.Spec PyProof.Rows L2
class PE1 (e : Ev) : Prop where h : ∀ sl s sl', e sl = .ok s sl' → sl' = sl
class PEs (e : Evs) : Prop where h : ∀ sl s sl', e sl = .ok s sl' → sl' = sl
class PB1 (c : Sl → R Bool) : Prop where h : ∀ sl s sl', c sl = .ok s sl' → sl' = sl
class PL1 (l : Lv) : Prop where h : ∀ sl s sl', l sl = .ok s sl' → sl' = sl
class PO1 (l : Ov) : Prop where h : ∀ sl s sl', l sl = .ok s sl' → sl' = sl
theorem bind_ok_iff {α β : Type} {x : R α} {f : α → Sl → R β} {b : β} {s : Sl} (h : x.bind f = .ok b s) : ∃ a s1, x = .ok a s1 ∧ f a s1 = .ok b s := by
  cases x with
  | ok a s1 => exact ⟨a, s1, rfl, h⟩
  | ex e s1 => cases h
  | bad => cases h
theorem asB_pure {x : S} {sl sl' : Sl} {b : Bool} (h : asB x sl = .ok b sl') : sl' = sl := by
  unfold asB at h; split at h <;> cases h; rfl
theorem two_pure {f : D → D → Re D} {sl sl' : Sl} {x y z : S} (h : two f sl x y = .ok z sl') : sl' = sl := by
  unfold two at h; repeat' split at h
  all_goals (cases h; try rfl)
section
variable {a b c : Ev} {r : Evs} {l l2 : Lv} {o o2 : Ov}
instance (i : Nat) : PE1 (dVar i) := ⟨fun sl s sl' h => by unfold dVar at h; split at h <;> cases h <;> rfl⟩
instance (d : D) : PE1 (dC d) := ⟨fun sl s sl' h => by cases h; rfl⟩
instance (f : D → D → Re D) [ha : PE1 a] [hb : PE1 b] : PE1 (dBin f a b) := ⟨fun sl s sl' h => by
  have zz := bind_ok_iff h; clear h; obtain ⟨x, s1, h1, h⟩ := zz
  have zz := bind_ok_iff h; clear h; obtain ⟨y, s2, h2, h⟩ := zz
  have := ha.h _ _ _ h1; subst this
  have := hb.h _ _ _ h2; subst this
  exact two_pure h⟩
instance (f g : D → D → Re D) [ha : PE1 a] [hb : PE1 b] [hc : PE1 c] : PE1 (dChain f g a b c) := ⟨fun sl s sl' h => by
  have zz := bind_ok_iff h; clear h; obtain ⟨x, s1, h1, h⟩ := zz
  have zz := bind_ok_iff h; clear h; obtain ⟨y, s2, h2, h⟩ := zz
  have zz := bind_ok_iff h; clear h; obtain ⟨k, s3, h3, h⟩ := zz
  have zz := bind_ok_iff h3; clear h3; obtain ⟨z, s4, h4, h3⟩ := zz
  have := ha.h _ _ _ h1; subst this
  have := hb.h _ _ _ h2; subst this
  have := two_pure h4; subst this
  have := asB_pure h3; subst this
  split at h
  · have zz := bind_ok_iff h; clear h; obtain ⟨z, s4, h4, h⟩ := zz
    have := hc.h _ _ _ h4; subst this
    exact two_pure h
  · cases h; rfl⟩
instance [ha : PE1 a] [hb : PE1 b] : PE1 (dAnd a b) := ⟨fun sl s sl' h => by
  have zz := bind_ok_iff h; clear h; obtain ⟨x, s1, h1, h⟩ := zz
  have zz := bind_ok_iff h1; clear h1; obtain ⟨y, s2, h2, h1⟩ := zz
  have := ha.h _ _ _ h2; subst this
  have := asB_pure h1; subst this
  split at h
  · exact hb.h _ _ _ h
  · cases h; rfl⟩
instance [ha : PE1 a] [hb : PE1 b] : PE1 (dOr a b) := ⟨fun sl s sl' h => by
  have zz := bind_ok_iff h; clear h; obtain ⟨x, s1, h1, h⟩ := zz
  have zz := bind_ok_iff h1; clear h1; obtain ⟨y, s2, h2, h1⟩ := zz
  have := ha.h _ _ _ h2; subst this
  have := asB_pure h1; subst this
  split at h
  · cases h; rfl
  · exact hb.h _ _ _ h⟩
instance [ha : PE1 a] : PE1 (dNot a) := ⟨fun sl s sl' h => by
  have zz := bind_ok_iff h; clear h; obtain ⟨x, s1, h1, h⟩ := zz
  have zz := bind_ok_iff h1; clear h1; obtain ⟨y, s2, h2, h1⟩ := zz
  have := ha.h _ _ _ h2; subst this
  have := asB_pure h1; subst this
  cases h; rfl⟩
instance [ha : PE1 a] [hb : PE1 b] [hc : PE1 c] : PE1 (dIf a b c) := ⟨fun sl s sl' h => by
  have zz := bind_ok_iff h; clear h; obtain ⟨x, s1, h1, h⟩ := zz
  have zz := bind_ok_iff h1; clear h1; obtain ⟨y, s2, h2, h1⟩ := zz
  have := ha.h _ _ _ h2; subst this
  have := asB_pure h1; subst this
  split at h
  · exact hb.h _ _ _ h
  · exact hc.h _ _ _ h⟩
instance : PEs dNil := ⟨fun sl s sl' h => by cases h; rfl⟩
instance [ha : PE1 a] [hr : PEs r] : PEs (dCons a r) := ⟨fun sl s sl' h => by
  have zz := bind_ok_iff h; clear h; obtain ⟨x, s1, h1, h⟩ := zz
  have zz := bind_ok_iff h; clear h; obtain ⟨y, s2, h2, h⟩ := zz
  have := ha.h _ _ _ h1; subst this
  have := hr.h _ _ _ h2; subst this
  cases h; rfl⟩
instance [ha : PE1 a] [hr : PEs r] : PEs (dStar a r) := ⟨fun sl s sl' h => by
  unfold dStar at h
  have zz := bind_ok_iff h; clear h; obtain ⟨x, s1, h1, h⟩ := zz
  have := ha.h _ _ _ h1; subst this
  split at h
  · have zz := bind_ok_iff h; clear h; obtain ⟨y, s2, h2, h⟩ := zz
    have := hr.h _ _ _ h2; subst this
    cases h; rfl
  · cases h⟩
instance [hr : PEs r] : PE1 (dTup r) := ⟨fun sl s sl' h => by
  have zz := bind_ok_iff h; clear h; obtain ⟨x, s1, h1, h⟩ := zz
  have := hr.h _ _ _ h1; subst this
  split at h
  · split at h
    · cases h; rfl
    · cases h
  · cases h⟩
instance [hr : PEs r] : PL1 (dItems r) := ⟨fun sl s sl' h => by
  have zz := bind_ok_iff h; clear h; obtain ⟨x, s1, h1, h⟩ := zz
  have := hr.h _ _ _ h1; subst this
  split at h
  · split at h
    · cases h; rfl
    · cases h
  · cases h⟩
instance [hl : PL1 l] : PE1 (dL l) := ⟨fun sl s sl' h => by
  have zz := bind_ok_iff h; clear h; obtain ⟨x, s1, h1, h⟩ := zz
  have := hl.h _ _ _ h1; subst this
  cases h; rfl⟩
instance (f : D → Re D) [ha : PE1 a] : PE1 (dUn f a) := ⟨fun sl s sl' h => by
  have zz := bind_ok_iff h; clear h; obtain ⟨x, s1, h1, h⟩ := zz
  have := ha.h _ _ _ h1; subst this
  split at h
  · split at h <;> cases h
    rfl
  · cases h⟩
instance (f : List D → Re D) [hr : PEs r] : PE1 (dCB f r) := ⟨fun sl s sl' h => by
  have zz := bind_ok_iff h; clear h; obtain ⟨x, s1, h1, h⟩ := zz
  have := hr.h _ _ _ h1; subst this
  split at h
  · split at h <;> cases h
    rfl
  · cases h⟩
instance (f : List D → Re (List D)) [hr : PEs r] : PL1 (dCL f r) := ⟨fun sl s sl' h => by
  have zz := bind_ok_iff h; clear h; obtain ⟨x, s1, h1, h⟩ := zz
  have := hr.h _ _ _ h1; subst this
  split at h
  · split at h <;> cases h
    rfl
  · cases h⟩
instance (n : Nat) (f : List D → Re D) [hr : PEs r] : PE1 (dCall n f r) := ⟨fun sl s sl' h => by
  have zz := bind_ok_iff h; clear h; obtain ⟨x, s1, h1, h⟩ := zz
  have := hr.h _ _ _ h1; subst this
  split at h
  · split at h <;> cases h
    rfl
  · cases h⟩
instance (n : Nat) (f : List D → Re D) [hr : PEs r] : PE1 (dCallB n f r) := ⟨fun sl s sl' h => by
  have zz := bind_ok_iff h; clear h; obtain ⟨x, s1, h1, h⟩ := zz
  have := hr.h _ _ _ h1; subst this
  split at h
  · split at h
    · split at h <;> cases h
      rfl
    · cases h
  · cases h⟩
instance (ns : List String) [ha : PE1 a] : PE1 (dIsi ns a) := ⟨fun sl s sl' h => by
  have zz := bind_ok_iff h; clear h; obtain ⟨x, s1, h1, h⟩ := zz
  have := ha.h _ _ _ h1; subst this
  split at h
  · split at h <;> cases h
    rfl
  · cases h⟩
instance : PO1 dNoPart := ⟨fun sl s sl' h => by cases h; rfl⟩
instance [ha : PE1 a] : PO1 (dPart a) := ⟨fun sl s sl' h => by
  have zz := bind_ok_iff h; clear h; obtain ⟨x, s1, h1, h⟩ := zz
  have := ha.h _ _ _ h1; subst this
  split at h <;> cases h
  rfl⟩
theorem sliceO_pure {d : Option D} {l u : Option Int} {sl sl' : Sl} {s : S} (h : sliceO d l u sl = .ok s sl') : sl' = sl := by
  unfold sliceO at h; split at h <;> cases h <;> rfl
instance [ha : PE1 a] [ho : PO1 o] [ho2 : PO1 o2] : PE1 (dSl a o o2) := ⟨fun sl s sl' h => by
  rw [ev_dSl] at h
  have zz := bind_ok_iff h; clear h; obtain ⟨x, s1, h1, h⟩ := zz
  have zz := bind_ok_iff h; clear h; obtain ⟨y, s2, h2, h⟩ := zz
  have zz := bind_ok_iff h; clear h; obtain ⟨z, s3, h3, h⟩ := zz
  have := ha.h _ _ _ h1; subst this
  have := ho.h _ _ _ h2; subst this
  have := ho2.h _ _ _ h3; subst this
  exact sliceO_pure h⟩
instance [ha : PE1 a] : PL1 (iSeq a) := ⟨fun sl s sl' h => by
  have zz := bind_ok_iff h; clear h; obtain ⟨x, s1, h1, h⟩ := zz
  have := ha.h _ _ _ h1; subst this
  split at h <;> cases h <;> rfl⟩
instance [ha : PE1 a] : PL1 (iEnumL a) := ⟨fun sl s sl' h => by
  have zz := bind_ok_iff h; clear h; obtain ⟨x, s1, h1, h⟩ := zz
  have := ha.h _ _ _ h1; subst this
  split at h <;> cases h <;> rfl⟩
instance [ha : PE1 a] : PL1 (iRange1 a) := ⟨fun sl s sl' h => by
  have zz := bind_ok_iff h; clear h; obtain ⟨x, s1, h1, h⟩ := zz
  have := ha.h _ _ _ h1; subst this
  split at h
  · split at h <;> cases h
    rfl
  · cases h⟩
instance [ha : PE1 a] [hb : PE1 b] : PL1 (iRange2 a b) := ⟨fun sl s sl' h => by
  have zz := bind_ok_iff h; clear h; obtain ⟨x, s1, h1, h⟩ := zz
  have zz := bind_ok_iff h; clear h; obtain ⟨y, s2, h2, h⟩ := zz
  have := ha.h _ _ _ h1; subst this
  have := hb.h _ _ _ h2; subst this
  split at h
  · split at h <;> cases h
    rfl
  · cases h⟩
instance [ha : PE1 a] [hb : PE1 b] : PL1 (iZip a b) := ⟨fun sl s sl' h => by
  have zz := bind_ok_iff h; clear h; obtain ⟨x, s1, h1, h⟩ := zz
  have zz := bind_ok_iff h; clear h; obtain ⟨y, s2, h2, h⟩ := zz
  have := ha.h _ _ _ h1; subst this
  have := hb.h _ _ _ h2; subst this
  split at h <;> cases h <;> rfl⟩
instance (f : D → D → Re (List D)) [ha : PE1 a] [hb : PE1 b] : PL1 (dBinL f a b) := ⟨fun sl s sl' h => by
  unfold dBinL at h
  have zz := bind_ok_iff h; clear h; obtain ⟨x, s1, h1, h⟩ := zz
  have zz := bind_ok_iff h; clear h; obtain ⟨y, s2, h2, h⟩ := zz
  have := ha.h _ _ _ h1; subst this
  have := hb.h _ _ _ h2; subst this
  split at h
  · split at h <;> cases h
    rfl
  · cases h⟩
instance [hl : PL1 l] [hl2 : PL1 l2] : PL1 (dOrL l l2) := ⟨fun sl s sl' h => by
  have zz := bind_ok_iff h; clear h; obtain ⟨x, s1, h1, h⟩ := zz
  have := hl.h _ _ _ h1; subst this
  split at h
  · exact hl2.h _ _ _ h
  · cases h; rfl⟩
instance [ha : PE1 a] : PL1 (dSortSet a) := ⟨fun sl s sl' h => by
  unfold dSortSet at h
  have zz := bind_ok_iff h; clear h; obtain ⟨x, s1, h1, h⟩ := zz
  have := ha.h _ _ _ h1; subst this
  repeat' split at h
  all_goals (cases h; try rfl)⟩
instance : PB1 cYes := ⟨fun sl s sl' h => by cases h; rfl⟩
instance [ha : PE1 a] : PB1 (dB a) := ⟨fun sl s sl' h => by
  have zz := bind_ok_iff h; clear h; obtain ⟨x, s1, h1, h⟩ := zz
  have := ha.h _ _ _ h1; subst this
  exact asB_pure h⟩
end

/-! ### a comprehension over pure parts -/
def mapO {α β : Type} (g : α → Option (Option β)) : List α → Option (List β)
  | [] => some []
  | a :: r => match g a with
    | none => none
    | some none => mapO g r
    | some (some x) => match mapO g r with
      | some xs => some (x :: xs)
      | none => none
def lcE : R S → Option (Option D)
  | .ok (.v x) _ => some (some x)
  | _ => none
def lcC (x : R Bool) (k : Sl → Option (Option D)) : Option (Option D) := match x with
  | .ok b sl => if b = true then k sl else some none
  | _ => none
def lcB (x : Option Sl) (k : Sl → Option (Option D)) : Option (Option D) := match x with
  | some sl => k sl
  | none => none
def lcO (t : Tg) (c : Sl → R Bool) (e : Ev) (base : Sl) (d : D) : Option (Option D) := lcB (bindT t d base) fun s1 => lcC (c s1) fun s2 => lcE (e s2)
@[simp] theorem ev_lcE {x : D} {sl : Sl} : lcE (.ok (.v x) sl) = some (some x) := rfl
@[simp] theorem ev_lcC {b : Bool} {sl : Sl} {k : Sl → Option (Option D)} : lcC (.ok b sl) k = if b = true then k sl else some none := rfl
@[simp] theorem ev_lcB {sl : Sl} {k : Sl → Option (Option D)} : lcB (some sl) k = k sl := rfl
@[simp] theorem ev_lcO {t : Tg} {c : Sl → R Bool} {e : Ev} {base : Sl} : lcO t c e base = fun d => lcB (bindT t d base) fun s1 => lcC (c s1) fun s2 => lcE (e s2) := rfl
@[simp] theorem ev_cYes {sl : Sl} : cYes sl = .ok true sl := rfl
theorem lcE_if {p : Prop} [Decidable p] {a b : R S} : lcE (if p then a else b) = if p then lcE a else lcE b := by split <;> rfl
theorem lcC_if {p : Prop} [Decidable p] {a b : R Bool} {k : Sl → Option (Option D)} : lcC (if p then a else b) k = if p then lcC a k else lcC b k := by split <;> rfl
mutual
theorem bindT_wipe {vs : List Nat} : ∀ (t : Tg) {d : D} {sl sl' : Sl}, (∀ i ∈ t.slots, i ∈ vs) → bindT t d sl = some sl' → wipeD sl' vs = wipeD sl vs
  | .nm i, d, sl, sl', hs, h => by
    simp [bindT] at h
    subst h
    refine List.ext_getElem? fun j => ?_
    rw [wipeD_get, wipeD_get, List.length_set]
    by_cases hj : j ∈ vs
    · rw [if_pos hj, if_pos hj]
    · rw [if_neg hj, if_neg hj, List.getElem?_set_ne (fun z => by subst z; exact hj (hs i (by simp [Tg.slots])))]
  | .tp ts, d, sl, sl', hs, h => by
    cases d with
    | tup xs =>
      simp only [bindT] at h
      exact bindTs_wipe ts (fun i hi => hs i (by simpa [Tg.slots] using hi)) h
    | _ => simp [bindT] at h
  | .ul ts, d, sl, sl', hs, h => by
    cases d with
    | lst xs =>
      simp only [bindT] at h
      exact bindTs_wipe ts (fun i hi => hs i (by simpa [Tg.slots] using hi)) h
    | _ => simp [bindT] at h
theorem bindTs_wipe {vs : List Nat} : ∀ (ts : List Tg) {ds : List D} {sl sl' : Sl}, (∀ i ∈ Tg.slotss ts, i ∈ vs) → bindTs ts ds sl = some sl' → wipeD sl' vs = wipeD sl vs
  | [], ds, sl, sl', hs, h => by
    cases ds with
    | nil => simp [bindTs] at h; rw [h]
    | cons d ds => simp [bindTs] at h
  | t :: ts, ds, sl, sl', hs, h => by
    cases ds with
    | nil => simp [bindTs] at h
    | cons d ds =>
      simp only [bindTs] at h
      split at h
      · rename_i s1 h1
        rw [bindTs_wipe ts (fun i hi => hs i (by simp [Tg.slotss, hi])) h, bindT_wipe t (fun i hi => hs i (by simp [Tg.slotss, hi])) h1]
      · cases h
end
theorem wipeD_wipeD {sl : Sl} {vs : List Nat} : wipeD (wipeD sl vs) vs = wipeD sl vs := by
  refine List.ext_getElem? fun j => ?_
  rw [wipeD_get, wipeD_get, wipeD_len]
  by_cases hj : j ∈ vs
  · rw [if_pos hj, if_pos hj]
  · rw [if_neg hj, if_neg hj]
theorem lcL_pure {vs : List Nat} {t : Tg} {c : Sl → R Bool} {e : Ev} {base : Sl} [hc : PB1 c] [he : PE1 e] (ht : ∀ i ∈ t.slots, i ∈ vs) (hb : wipeD base vs = base) : ∀ {ds : List D} {sl : Sl}, wipeD sl vs = base →
    match mapO (lcO t c e base) ds with
    | none => lcL vs t c e ds sl = none
    | some xs => ∃ sl', lcL vs t c e ds sl = some (xs, sl') ∧ wipeD sl' vs = base
  | [], sl, h => ⟨sl, rfl, h⟩
  | d :: ds, sl, h => by
    have tl := fun {sl : Sl} (hb : wipeD sl vs = base) => lcL_pure (t := t) (c := c) (e := e) ht ‹_› (ds := ds) (sl := sl) hb
    simp only [mapO, lcL, h]
    cases h1 : bindT t d base with
    | none => simp only [lcO, h1, lcB]
    | some s1 =>
      have w1 := bindT_wipe t ht h1
      rw [hb] at w1
      simp only [lcO, h1, lcB]
      cases h2 : c s1 with
      | ok b s2 =>
        have := hc.h _ _ _ h2; subst this
        cases b with
        | true =>
          simp only [lcC, if_true]
          cases h3 : e s2 with
          | ok x s3 =>
            have := he.h _ _ _ h3; subst this
            cases x with
            | v x =>
              simp only [lcE]
              have := tl w1
              cases h4 : mapO (lcO t c e base) ds with
              | none => rw [h4] at this; dsimp only at this; rw [this]
              | some xs =>
                rw [h4] at this
                obtain ⟨sl', g1, g2⟩ := this
                exact ⟨sl', by rw [g1], g2⟩
            | r i => simp only [lcE]
          | ex _ _ => simp only [lcE]
          | bad => simp only [lcE]
        | false =>
          simp only [lcC, if_false, Bool.false_eq_true]
          exact tl w1
      | ex _ _ => simp only [lcC]
      | bad => simp only [lcC]
def tgIn (t : Tg) (vs : List Nat) : Bool := t.slots.all fun i => vs.contains i
class TgIn (t : Tg) (vs : List Nat) : Prop where h : tgIn t vs = true
instance {v : Nat} : TgIn (.nm v) [v] := ⟨by simp [tgIn, Tg.slots]⟩
instance {v u : Nat} : TgIn (.tp [.nm v, .nm u]) [v, u] := ⟨by simp [tgIn, Tg.slots, Tg.slotss]⟩
instance {v u w : Nat} : TgIn (.tp [.nm v, .nm u, .nm w]) [v, u, w] := ⟨by simp [tgIn, Tg.slots, Tg.slotss]⟩
def lcR (x : Option (List D)) (sl : Sl) : R (List D) := match x with
  | some xs => .ok xs sl
  | none => .bad
@[simp] theorem ev_lcR {xs : List D} {sl : Sl} : lcR (some xs) sl = .ok xs sl := rfl
/-- what a comprehension over pure parts makes -/
@[simp] theorem ev_dLc {vs : List Nat} {t : Tg} {c : Sl → R Bool} {e : Ev} {it : Lv} {sl : Sl} [PB1 c] [PE1 e] (ht : tgIn t vs = true) : dLc vs t c e it sl = (it sl).bind fun ds sl1 => if noOwn sl1 vs = true then lcR (mapO (lcO t c e (wipeD sl1 vs)) ds) sl1 else .bad := by
  unfold dLc
  congr 1
  funext ds sl1
  split
  · have := lcL_pure (vs := vs) (t := t) (c := c) (e := e) (base := wipeD sl1 vs) (fun i hi => by
      unfold tgIn at ht
      rw [List.all_eq_true] at ht
      exact List.contains_iff_mem.mp (ht i hi)) wipeD_wipeD (ds := ds) (sl := sl1) rfl
    cases h : mapO (lcO t c e (wipeD sl1 vs)) ds with
    | none => rw [h] at this; dsimp only at this; rw [this]; rfl
    | some xs =>
      rw [h] at this
      obtain ⟨sl', g1, g2⟩ := this
      rw [g1]
      dsimp only
      rw [merge_back g2]; rfl
  · rfl
instance {vs : List Nat} {t : Tg} {c : Sl → R Bool} {e : Ev} {it : Lv} [hc : PB1 c] [he : PE1 e] [hi : PL1 it] [ht : TgIn t vs] : PL1 (dLc vs t c e it) := ⟨fun sl s sl' h => by
  rw [ev_dLc ht.1] at h
  have zz := bind_ok_iff h; clear h; obtain ⟨x, s1, h1, h⟩ := zz
  have := hi.h _ _ _ h1; subst this
  split at h
  · unfold lcR at h
    split at h <;> cases h
    rfl
  · cases h⟩
section
variable {α β γ : Type} {xs ys : List α}
@[simp] theorem mapO_nil {g : α → Option (Option β)} : mapO g [] = some [] := rfl
@[simp] theorem mapO_cons {g : α → Option (Option β)} {a : α} : mapO g (a :: xs) = match g a with
    | none => none
    | some none => mapO g xs
    | some (some x) => match mapO g xs with
      | some ys => some (x :: ys)
      | none => none := rfl
theorem mapO_congr {g g' : α → Option (Option β)} (e : xs = ys) (h : ∀ x ∈ ys, g x = g' x) : mapO g xs = mapO g' ys := by
  subst e
  induction xs with
  | nil => rfl
  | cons x xs ih =>
    simp only [mapO, h x (by simp)]
    rw [ih fun y hy => h y (by simp [hy])]
@[simp] theorem mapO_map {f : γ → α} {g : α → Option (Option β)} {zs : List γ} : mapO g (zs.map f) = mapO (fun x => g (f x)) zs := by
  induction zs with
  | nil => rfl
  | cons x zs ih => simp only [List.map_cons, mapO, ih]
@[simp] theorem mapO_some {h : α → β} : mapO (fun x => some (some (h x))) xs = some (xs.map h) := by
  induction xs with
  | nil => rfl
  | cons x xs ih => simp only [mapO, ih, List.map_cons]
@[simp] theorem mapO_if {h : α → β} {p : α → Prop} [DecidablePred p] : mapO (fun x => if p x then some (some (h x)) else some none) xs = some ((xs.filter fun x => decide (p x)).map h) := by
  induction xs with
  | nil => rfl
  | cons x xs ih =>
    by_cases hp : p x
    · simp only [mapO, hp, if_true, ih, List.filter_cons, decide_true, List.map_cons]
    · simp only [mapO, hp, if_false, ih, List.filter_cons, decide_false, Bool.false_eq_true]
@[simp] theorem mapO_ifn {h : α → β} {p : α → Prop} [DecidablePred p] : mapO (fun x => if p x then some none else some (some (h x))) xs = some ((xs.filter fun x => decide (¬ p x)).map h) := by
  induction xs with
  | nil => rfl
  | cons x xs ih =>
    by_cases hp : p x
    · simp only [mapO, hp, if_true, ih, List.filter_cons, not_true_eq_false, decide_false, Bool.false_eq_true, if_false]
    · simp only [mapO, hp, if_false, ih, List.filter_cons, not_false_eq_true, decide_true, if_true, List.map_cons]
@[simp] theorem mapO_const {b : β} : mapO (fun _ => some (some b)) xs = some (xs.map fun _ => b) := mapO_some
theorem mapO_append {g : α → Option (Option β)} : mapO g (xs ++ ys) = match mapO g xs with
    | some us => match mapO g ys with
      | some ws => some (us ++ ws)
      | none => none
    | none => none := by
  induction xs with
  | nil => simp only [List.nil_append, mapO]; cases mapO g ys <;> rfl
  | cons x xs ih =>
    simp only [List.cons_append, mapO, ih]
    cases g x with
    | none => rfl
    | some o => cases o with
      | none => rfl
      | some z =>
        cases mapO g xs with
        | none => rfl
        | some us => cases mapO g ys <;> rfl
end
/-! ### names that are forgotten -/
def Fl.kill (vs : List Nat) : Fl → Fl
  | .nx sl => .nx (wipeD sl vs)
  | f => f
def mKill (vs : List Nat) (m : Sm) : Sm := fun sl => (m sl).kill vs
@[simp] theorem ev_mKill {vs : List Nat} {m : Sm} {sl : Sl} : mKill vs m sl = (m sl).kill vs := rfl
@[simp] theorem ev_kill_nx {vs : List Nat} {sl : Sl} : (Fl.nx sl).kill vs = .nx (wipeD sl vs) := rfl
@[simp] theorem ev_kill_rt {vs : List Nat} {sl : Sl} {s : S} : (Fl.rt s sl).kill vs = .rt s sl := rfl
@[simp] theorem ev_kill_bk {vs : List Nat} {sl : Sl} : (Fl.bk sl).kill vs = .bk sl := rfl
@[simp] theorem ev_kill_ct {vs : List Nat} {sl : Sl} : (Fl.ct sl).kill vs = .ct sl := rfl
@[simp] theorem ev_kill_ex {vs : List Nat} {sl : Sl} {e : Ex} : (Fl.ex e sl).kill vs = .ex e sl := rfl
@[simp] theorem ev_kill_if {vs : List Nat} {c : Prop} [Decidable c] {a b : Fl} : (if c then a else b : Fl).kill vs = if c then a.kill vs else b.kill vs := by split <;> rfl
@[simp] theorem ev_wipe0 {sl : Sl} : wipeD sl [] = sl := rfl
@[simp] theorem ev_wipe1 {sl : Sl} {v : Nat} {vs : List Nat} : wipeD sl (v :: vs) = (wipeD sl vs).set v none := rfl
theorem Sr.unset {G : Glue} {T : Act} {A : Nat → Option Addr} {sl : Sl} {σ : St} {H : Hp} (r : Sr G T A sl σ H) (i : Nat) : Sr G T A (sl.set i none) σ H := by
  have off : ∀ {j : Nat} {x : Sv}, (sl.set i none)[j]? = some (some x) → sl[j]? = some (some x) := fun {j x} e => by
    by_cases hj : i = j
    · subst hj
      rw [List.getElem?_set] at e
      simp only [if_true] at e
      split at e <;> cases e
    · rw [List.getElem?_set_ne hj] at e; exact e
  exact ⟨fun j d e => r.val j d (off e), fun j xs e => r.mu j xs (off e), by simpa using r.len, r.inj, r.own, r.alive, r.kept, r.trk, r.iot, r.held, r.sz, fun j x e h => r.mx j x (off e) h⟩
theorem Sr.forget {G : Glue} {T : Act} {A : Nat → Option Addr} {sl : Sl} {σ : St} {H : Hp} (r : Sr G T A sl σ H) : ∀ vs : List Nat, Sr G T A (wipeD sl vs) σ H
  | [] => r
  | v :: vs => (Sr.forget r vs).unset v
theorem fs_kill {G : Glue} {W : WX} {X : Cx} {st : Stmt} {m : Sm} (vs : List Nat) (h : FS G W X st m) : FS G W X st (mKill vs m) := fun T =>
  PS.imp (h T) fun D σ H q hz => by
    obtain ⟨A, sl, s, p⟩ := q hz
    refine ⟨A, sl, s, ?_⟩
    unfold mKill at p
    cases hm : m sl with
    | nx s1 => rw [hm] at p; exact fun A σ H s' => p A σ H (s'.forget vs)
    | rt x s1 => rw [hm] at p; exact p
    | bk s1 => rw [hm] at p; exact p
    | ct s1 => rw [hm] at p; exact p
    | ex e s1 => rw [hm] at p; exact p
    | bad => rw [hm] at p; exact p
/-! ### more reading rules -/
@[simp] theorem ev_bindT_ul {ts : List Tg} {xs : List D} {sl : Sl} : bindT (.ul ts) (.lst xs) sl = bindTs ts xs sl := by simp [bindT]
@[simp] theorem ev_mPar {is : List Nat} {cs : List Cm} {sl : Sl} : mPar is cs sl = (evCs cs sl).to fun xs sl1 => .nx (setAll sl1 is xs) := rfl
@[simp] theorem bls_mapb {α : Type} {xs : List α} {p : α → Bool} : blsOf (xs.map fun x => D.bl (p x)) = some (xs.map p) := by
  induction xs with
  | nil => rfl
  | cons x xs ih => simp only [List.map_cons, blsOf, ih]
@[simp] theorem b_all_map {α : Type} {xs : List α} {p : α → Bool} : bAll [.lst (xs.map fun x => D.bl (p x))] = .ok (.bl (xs.all p)) := by
  simp only [bAll, bls_mapb, List.all_map]; rfl
@[simp] theorem b_any_map {α : Type} {xs : List α} {p : α → Bool} : bAny [.lst (xs.map fun x => D.bl (p x))] = .ok (.bl (xs.any p)) := by
  simp only [bAny, bls_mapb, List.any_map]; rfl
end F

set_option Elab.async false
set_option linter.all false
set_option maxRecDepth 100000
set_option maxHeartbeats 4000000
namespace F
open PySem PySem.Spec PyProof.Rows L2

/-! ### methods of lists and tuples that are only asked: index, count -/
def place (xs : List D) (d : D) : Option Nat := xs.findIdx? fun y => D.eqv y d
theorem place_py (d : D) : ∀ xs : List D, SeqAt.dataPlace (toPys xs) (toPy d) = place xs d
  | [] => rfl
  | x :: xs => by
    have ih := place_py d xs
    unfold SeqAt.dataPlace place at ih ⊢
    simp only [toPys, List.findIdx?_cons, eqv_py, ih]
theorem count_py (d : D) : ∀ xs : List D, ((toPys xs).countP fun y => PyData.eqv y (toPy d)) = xs.countP fun y => D.eqv y d
  | [] => rfl
  | x :: xs => by
    simp only [toPys, List.countP_cons, eqv_py, count_py d xs]
def mIndex : D → List D → Re D
  | .lst xs, [d] => if decide (min (D.depths xs) d.depth ≤ 120) && (D.purs xs && d.pur) then match place xs d with | some j => .ok (.int j) | none => .bad else .bad
  | .tpn xs, [d] => if decide (min (D.depths xs) d.depth ≤ 120) && (D.purs xs && d.pur) then match place xs d with | some j => .ok (.int j) | none => .bad else .bad
  | _, _ => .bad
def mCount : D → List D → Re D
  | .lst xs, [d] => if decide (min (D.depths xs) d.depth ≤ 120) && (D.purs xs && d.pur) then .ok (.int (xs.countP fun y => D.eqv y d : Nat)) else .bad
  | .tpn xs, [d] => if decide (min (D.depths xs) d.depth ≤ 120) && (D.purs xs && d.pur) then .ok (.int (xs.countP fun y => D.eqv y d : Nat)) else .bad
  | _, _ => .bad
/-- a method of a thing of type ty -/
def MethR (G : Glue) (X : Cx) (ty id : String) (f : D → List D → Re D) : Prop := ∃ r, MtR X id r ∧
  ∀ (N : Addr → Prop) (H : Hp) (x : V) (xs : List V) (d : D) (ds : List D) (z : D) (Q : VK), HSz H → (∀ p, H p = none → ¬ N p) → tyName d = ty → Rl G N H d x → RlL G N H ds xs → f d ds = .ok z → (∀ v H', Same H H' → Rv G N H' z v → Q v H') → r x xs H Q
def rIndexL (K : PySem.W.Frag) : V → List V → Hp → VK → Prop := fun x xs H Q => ∃ (a : Addr) (y : V) (d : D) (ds : List D) (j : Nat), x = V.ref a ∧ xs = [y] ∧ Dp K H (V.ref a) (.list (toPys ds)) ∧ Dp K H y (toPy d) ∧
  min (D.depths ds) d.depth ≤ 120 ∧ place ds d = some j ∧ Q (.int (j : Nat)) H
def rIndexT (K : PySem.W.Frag) : V → List V → Hp → VK → Prop := fun x xs H Q => ∃ (a : Addr) (y : V) (d : D) (ds : List D) (j : Nat), x = V.ref a ∧ xs = [y] ∧ Dp K H (V.ref a) (.tuple (toPys ds)) ∧ Dp K H y (toPy d) ∧
  min (D.depths ds) d.depth ≤ 120 ∧ place ds d = some j ∧ Q (.int (j : Nat)) H
def rCountL (K : PySem.W.Frag) : V → List V → Hp → VK → Prop := fun x xs H Q => ∃ (a : Addr) (y : V) (d : D) (ds : List D), x = V.ref a ∧ xs = [y] ∧ Dp K H (V.ref a) (.list (toPys ds)) ∧ Dp K H y (toPy d) ∧
  min (D.depths ds) d.depth ≤ 120 ∧ Q (.int (ds.countP fun z => D.eqv z d : Nat)) H
def rCountT (K : PySem.W.Frag) : V → List V → Hp → VK → Prop := fun x xs H Q => ∃ (a : Addr) (y : V) (d : D) (ds : List D), x = V.ref a ∧ xs = [y] ∧ Dp K H (V.ref a) (.tuple (toPys ds)) ∧ Dp K H y (toPy d) ∧
  min (D.depths ds) d.depth ≤ 120 ∧ Q (.int (ds.countP fun z => D.eqv z d : Nat)) H
section
variable {X : Cx}
/-- a list of data, as the library has it -/
theorem dp_list {pins : List (Addr × Obj)} {s : Shared} {σ : St} {H : Hp} {a : Addr} {ds : List PyData} (I : Inv X pins σ H s) (h : Dp X.K H (V.ref a) (.list ds)) : ∃ (vs : List Value) (as : List Addr), s.heap.IsList a vs.toArray ∧ ReadsAll s.heap vs ds as ∧ vs.length ≤ sizeLine := by
  cases h with
  | lst hs ha =>
    obtain ⟨its, rv, ⟨o, n, ho, hc, _, hd⟩, hlen⟩ := I.list hs
    obtain ⟨as, h4⟩ := Dp.readsAll I ds _ its ha rv
    exact ⟨its, as, ⟨o, ho, hc, n, hd⟩, h4, by rw [← rv.length]; exact hlen⟩
theorem dp_tup {pins : List (Addr × Obj)} {s : Shared} {σ : St} {H : Hp} {a : Addr} {ds : List PyData} (I : Inv X pins σ H s) (h : Dp X.K H (V.ref a) (.tuple ds)) : ∃ (vs : List Value) (as : List Addr), s.heap.IsTuple a vs.toArray ∧ ReadsAll s.heap vs ds as ∧ vs.length ≤ sizeLine := by
  cases h with
  | tup hs ha =>
    obtain ⟨its, rv, hl, hlen⟩ := I.tuple hs
    obtain ⟨as, h4⟩ := Dp.readsAll I ds _ its ha rv
    exact ⟨its, as, hl, h4, by rw [← rv.length]; exact hlen⟩
theorem mt_indexL (hu : X.A.units + 130 < cLine) : MtR X "list.index" (rIndexL X.K) := by
  intro pins s σ H x xs v us Q I rx rxs h
  obtain ⟨a, y, d, ds, j, rfl, rfl, hl, hy, hm, hp, q⟩ := h
  cases rx
  cases rxs with
  | cons ry rt =>
    rename_i uy ut
    cases rt
    obtain ⟨bs, r1⟩ := Dp.reads I _ y uy hy ry
    obtain ⟨vs, as, il, rs, hz⟩ := dp_list I hl
    obtain ⟨⟨cls, dd, data, sl⟩, ho, hc, n, hd⟩ := id il
    simp only at hc hd
    subst hc hd
    rw [← place_py] at hp
    obtain ⟨hj, h1, h2⟩ := SeqAt.hit_at (h := s.heap) (vs := vs.toArray) (xs := toPys ds) rs (plains_py ds) hp
    have hsl := sizeLine_eq
    have hv : vs.toArray.size = vs.length := by simp
    refine call_meets PySem.F.slot_list_index ⟨_, ho, rfl⟩ PySem.F.entry_list_index (PySem.F.args_list_index_2 _ _)
      (SeqAt.list_indexAt a vs.toArray n dd sl uy (fun u => PyData.eqv (SeqAt.readOf s.heap u) (toPy d)) j hj (by omega) h1 h2) ⟨ho, SeqAt.items_plain (vs := vs.toArray) rs r1 (plains_py ds) (plain_py d) (by rw [depths_py, depth_py]; omega), ?_⟩
    exact ⟨.int (j : Nat), H, I.tok _, ⟨_, rfl⟩, q⟩
theorem mt_indexT (hu : X.A.units + 130 < cLine) : MtR X "tuple.index" (rIndexT X.K) := by
  intro pins s σ H x xs v us Q I rx rxs h
  obtain ⟨a, y, d, ds, j, rfl, rfl, hl, hy, hm, hp, q⟩ := h
  cases rx
  cases rxs with
  | cons ry rt =>
    rename_i uy ut
    cases rt
    obtain ⟨bs, r1⟩ := Dp.reads I _ y uy hy ry
    obtain ⟨vs, as, il, rs, hz⟩ := dp_tup I hl
    obtain ⟨⟨cls, dd, data, sl⟩, ho, hc, n, hd⟩ := id il
    simp only at hc hd
    subst hc hd
    rw [← place_py] at hp
    obtain ⟨hj, h1, h2⟩ := SeqAt.hit_at (h := s.heap) (vs := vs.toArray) (xs := toPys ds) rs (plains_py ds) hp
    have ip := SeqAt.items_plain (A := X.A) (s := s) (vs := vs.toArray) rs r1 (plains_py ds) (plain_py d) (by rw [depths_py, depth_py]; omega)
    refine call_meets PySem.F.slot_tuple_index ⟨_, ho, rfl⟩ PySem.F.entry_tuple_index (PySem.F.args_tuple_index_2 _ _)
      (SeqAt.tuple_index2_found a vs.toArray n dd sl uy (fun i => if hi : i < vs.toArray.size then PyData.eqv (SeqAt.readOf s.heap vs.toArray[i]) (toPy d) else false) j hj (Nat.zero_le _) hj (by rw [dif_pos hj]; exact h1) (fun m hm _ hlt => by rw [dif_pos hm]; exact h2 m hm hlt)) ⟨ho, fun i hi => ?_, ?_⟩
    · rw [dif_pos hi]; exact ip _ (Array.getElem_mem hi)
    · exact ⟨.int (j : Nat), H, I.tok _, ⟨_, rfl⟩, q⟩
theorem mt_countL (hu : X.A.units + 130 < cLine) : MtR X "list.count" (rCountL X.K) := by
  intro pins s σ H x xs v us Q I rx rxs h
  obtain ⟨a, y, d, ds, rfl, rfl, hl, hy, hm, q⟩ := h
  cases rx
  cases rxs with
  | cons ry rt =>
    rename_i uy ut
    cases rt
    obtain ⟨bs, r1⟩ := Dp.reads I _ y uy hy ry
    obtain ⟨vs, as, il, rs, hz⟩ := dp_list I hl
    refine SeqAt.count_list_data il (show ReadsAll s.heap vs.toArray.toList _ _ from rs) r1 (plains_py ds) (plain_py d) (by rw [depths_py, depth_py]; omega) ?_
    rw [count_py]
    exact ⟨.int _, H, I.tok _, ⟨_, rfl⟩, q⟩
theorem mt_countT (hu : X.A.units + 130 < cLine) : MtR X "tuple.count" (rCountT X.K) := by
  intro pins s σ H x xs v us Q I rx rxs h
  obtain ⟨a, y, d, ds, rfl, rfl, hl, hy, hm, q⟩ := h
  cases rx
  cases rxs with
  | cons ry rt =>
    rename_i uy ut
    cases rt
    obtain ⟨bs, r1⟩ := Dp.reads I _ y uy hy ry
    obtain ⟨vs, as, il, rs, hz⟩ := dp_tup I hl
    refine SeqAt.count_tuple_data il (show ReadsAll s.heap vs.toArray.toList _ _ from rs) r1 (plains_py ds) (plain_py d) (by rw [depths_py, depth_py]; omega) ?_
    rw [count_py]
    exact ⟨.int _, H, I.tok _, ⟨_, rfl⟩, q⟩
end
section
variable {G : Glue} {X : Cx}
theorem pure_cond {xs : List D} {d : D} (h : (decide (min (D.depths xs) d.depth ≤ 120) && (D.purs xs && d.pur)) = true) : min (D.depths xs) d.depth ≤ 120 ∧ D.purs xs = true ∧ d.pur = true := by
  simp only [Bool.and_eq_true, decide_eq_true_eq] at h; exact h
theorem mth_indexL (hu : X.A.units + 130 < cLine) (hK : X.K = G.K := by rfl) : MethR G X "list" "list.index" mIndex := ⟨_, mt_indexL hu, fun N H x xs d ds z Q hz hn ty rx rxs h k => by
  unfold mIndex at h
  split at h
  · rename_i ys e
    split at h
    · rename_i hf
      obtain ⟨g1, g2, g3⟩ := pure_cond hf
      split at h
      · rename_i j hj
        cases h
        obtain ⟨v, rfl, q⟩ := rxs.one
        obtain ⟨a, vs, rfl, _, _⟩ := rx.lst
        have := dpK hK (by simpa [D.pur] using g2) rx
        simp only [toPy] at this
        exact ⟨a, v, e, ys, j, rfl, rfl, this, dpK hK g3 q, g1, hj, k _ H (Same.refl H) (.int _)⟩
      · cases h
    · cases h
  · exact absurd ty (by simp [tyName])
  · cases h⟩
theorem mth_indexT (hu : X.A.units + 130 < cLine) (hK : X.K = G.K := by rfl) : MethR G X "tuple" "tuple.index" mIndex := ⟨_, mt_indexT hu, fun N H x xs d ds z Q hz hn ty rx rxs h k => by
  unfold mIndex at h
  split at h
  · exact absurd ty (by simp [tyName])
  · rename_i ys e
    split at h
    · rename_i hf
      obtain ⟨g1, g2, g3⟩ := pure_cond hf
      split at h
      · rename_i j hj
        cases h
        obtain ⟨v, rfl, q⟩ := rxs.one
        obtain ⟨a, vs, rfl, _, _⟩ := rx.tpn
        have := dpK hK (by simpa [D.pur] using g2) rx
        simp only [toPy] at this
        exact ⟨a, v, e, ys, j, rfl, rfl, this, dpK hK g3 q, g1, hj, k _ H (Same.refl H) (.int _)⟩
      · cases h
    · cases h
  · cases h⟩
theorem mth_countL (hu : X.A.units + 130 < cLine) (hK : X.K = G.K := by rfl) : MethR G X "list" "list.count" mCount := ⟨_, mt_countL hu, fun N H x xs d ds z Q hz hn ty rx rxs h k => by
  unfold mCount at h
  split at h
  · rename_i ys e
    split at h
    · rename_i hf
      obtain ⟨g1, g2, g3⟩ := pure_cond hf
      cases h
      obtain ⟨v, rfl, q⟩ := rxs.one
      obtain ⟨a, vs, rfl, _, _⟩ := rx.lst
      have := dpK hK (by simpa [D.pur] using g2) rx
      simp only [toPy] at this
      exact ⟨a, v, e, ys, rfl, rfl, this, dpK hK g3 q, g1, k _ H (Same.refl H) (.int _)⟩
    · cases h
  · exact absurd ty (by simp [tyName])
  · cases h⟩
theorem mth_countT (hu : X.A.units + 130 < cLine) (hK : X.K = G.K := by rfl) : MethR G X "tuple" "tuple.count" mCount := ⟨_, mt_countT hu, fun N H x xs d ds z Q hz hn ty rx rxs h k => by
  unfold mCount at h
  split at h
  · exact absurd ty (by simp [tyName])
  · rename_i ys e
    split at h
    · rename_i hf
      obtain ⟨g1, g2, g3⟩ := pure_cond hf
      cases h
      obtain ⟨v, rfl, q⟩ := rxs.one
      obtain ⟨a, vs, rfl, _, _⟩ := rx.tpn
      have := dpK hK (by simpa [D.pur] using g2) rx
      simp only [toPy] at this
      exact ⟨a, v, e, ys, rfl, rfl, this, dpK hK g3 q, g1, k _ H (Same.refl H) (.int _)⟩
    · cases h
  · cases h⟩
end
section
variable {G : Glue} {W : WX} {X : Cx} {a o e : Expr} {es : List Expr} {da : Ev} {ds : Evs} {T : Act} {A : Nat → Option Addr} {sl : Sl} {σ : St} {H : Hp} {name : Str} {apos cpos : Pos} {ty id : String} {r : V → List V → Hp → VK → Prop} {tr : TE} {ta : TA}
/-- a list, or a tuple that is known to have no attributes -/
def tyN (K : PySem.W.Frag) (ty : String) (x : V) (H : Hp) : Prop := (ty = "tuple" ∧ ∃ p vs, x = .ref p ∧ SqN K H p vs) ∨ (ty = "list" ∧ ∃ p vs, x = .ref p ∧ SqL K H p vs)
theorem tyN_is {pins : List (Addr × Obj)} {s : Shared} {x : V} {v : Value} (I : Inv X pins σ H s) (rv : RelV x v) (h : tyN X.K ty x H) : s.TypeIs v ty ∧ ∀ p, v = .ref p → ∃ ob, s.heap.get? p = some ob ∧ ob.dict = none := by
  rcases h with ⟨rfl, p, vs, rfl, ⟨ob, h1, h2, h3⟩ | ⟨ob, its, n, h1, h2, h3, _⟩⟩ | ⟨rfl, p, vs, rfl, h⟩
  · cases rv
    have ok := (I.hok p _ h1).1
    exact ⟨⟨ob, ok, h2⟩, fun q e => by cases e; exact ⟨ob, ok, h3⟩⟩
  · cases rv
    have ok := I.kIn p ob h1
    exact ⟨⟨ob, ok, h2⟩, fun q e => by cases e; exact ⟨ob, ok, h3⟩⟩
  · cases rv
    obtain ⟨its, _, ⟨ob, n, h1, h2, h3, _⟩, _⟩ := I.list h
    exact ⟨⟨ob, h1, h2⟩, fun q e => by cases e; exact ⟨ob, h1, h3⟩⟩
theorem pe_methN (pa : PlainAttrs ty) (sl0 : Slot ty name id) (hty : typeOf (.builtin id) = pure (.type "method_descriptor")) (hm : MtR X id r) (ho : PE X o tr) (hg : PA X (e :: es) ta)
    (hb : attributeBase o name X.env (eval o X.env) = eval o X.env := by rfl)
    (hf : ((backTo cpos (starEach (e :: es) X.env)).all (fun x => !x.1) && (backToKw cpos (keywordEach [] X.env)).all (fun x => x.1.isSome) && decide ((e :: es).length + ([] : List Keyword).length + (if ([] : List Keyword).isEmpty then 0 else 1) < 30)) = true := by rfl)
    (hl : (apos.endLine == cpos.line) = true := by rfl) (hs : starEach (e :: es) X.env = (false, eval e X.env) :: starEach es X.env := by rfl) (hp : (backTo cpos (starEach es X.env)).any (·.1) = false := by rfl) :
    PE X (.Call (.Attribute o name apos) (e :: es) [] cpos) fun σ H Q => tr σ H fun x H1 => tyN X.K ty x H1 ∧ ta σ H1 fun xs H2 => r x xs H2 Q := by
  refine ⟨fun pins s0 σ0 H0 Q0 I0 q0 => wpAny_Call_method_late hb hf hl rfl (thn (ho.run pins s0 σ0 H0 _ I0 q0) fun v s1 ⟨x, H1, I1, r1, t1, q1⟩ => ?_)⟩
  obtain ⟨g1, g2⟩ := tyN_is I1 r1 t1
  refine ⟨ty, id, pa, sl0, hty, g1, g2, ?_⟩
  have run := hg.run cpos pins s1 σ0 H1 _ I1 q1
  rw [hs] at run ⊢
  refine Calls.callWith_builtin (by show (false || (backTo cpos (starEach es X.env)).any (·.1)) = false; rw [hp]; rfl) (Calls.evalArgs_plain (thn run fun us s2 ⟨vs, H2, I2, r2, q2⟩ => ?_))
  exact hm pins s2 σ0 H2 x vs v us Q0 I2 r1 r2 q2
/-- what is asked is a list or a tuple of that type -/
def knownTup : D → Bool
  | .tup _ => false
  | _ => true
def dMethT (ty : String) (f : D → List D → Re D) (a : Ev) (rs : Evs) : Ev := fun sl => (a sl).bind fun x sl1 => match getS sl1 x with
  | some d0 => if (tyName d0 == ty && knownTup d0) = true then (rs sl1).bind fun xs sl2 => match getS sl2 x, getAll sl2 xs with
    | some d, some ds => if tyName d = ty then match f d ds with
      | .ok z => .ok (.v z) sl2
      | _ => .bad
      else .bad
    | _, _ => .bad
    else .bad
  | none => .bad
theorem Rl.tyOf {N : Addr → Prop} (hK : X.K = G.K) {d : D} {v : V} (h : Rl G N H d v) (e : tyName d = ty) (hs : ty = "list" ∨ ty = "tuple") (nt : knownTup d = true) : tyN X.K ty v H := by
  cases d with
  | tup b => cases nt
  | lst b => subst e; obtain ⟨p, vs, rfl, sq, _⟩ := h.lst; exact .inr ⟨rfl, p, vs, rfl, SqL.of sq⟩
  | scr b => subst e; obtain ⟨p, vs, rfl, sq, _⟩ := h.scr; exact .inr ⟨rfl, p, vs, rfl, hK ▸ sq.l⟩
  | tpn b => subst e; obtain ⟨p, vs, rfl, sq, _⟩ := h.tpn; exact .inl ⟨rfl, p, vs, rfl, hK ▸ sq⟩
  | _ => subst e; simp [tyName] at hs
theorem fe_meth {f : D → List D → Re D} (hm : MethR G X ty id f) (hs : ty = "list" ∨ ty = "tuple") (pa : PlainAttrs ty) (sl0 : Slot ty name id) (hty : typeOf (.builtin id) = pure (.type "method_descriptor")) (ha : FE G W X a da) (hg : FA G W X (e :: es) ds) (hK : X.K = G.K := by rfl)
    (hb : attributeBase a name X.env (eval a X.env) = eval a X.env := by rfl)
    (hf : ((backTo cpos (starEach (e :: es) X.env)).all (fun x => !x.1) && (backToKw cpos (keywordEach [] X.env)).all (fun x => x.1.isSome) && decide ((e :: es).length + ([] : List Keyword).length + (if ([] : List Keyword).isEmpty then 0 else 1) < 30)) = true := by rfl)
    (hl : (apos.endLine == cpos.line) = true := by rfl) (hst : starEach (e :: es) X.env = (false, eval e X.env) :: starEach es X.env := by rfl) (hp : (backTo cpos (starEach es X.env)).any (·.1) = false := by rfl) :
    FE G W X (.Call (.Attribute a name apos) (e :: es) [] cpos) (dMethT ty f da ds) := fun T => by
  obtain ⟨r, hr, q⟩ := hm
  refine PE.plus (pe_methN pa sl0 hty hr (ha T) (hg T) hb hf hl hst hp) fun σ H Q z h hz => ?_
  obtain ⟨A, sl, s, p⟩ := h hz
  refine ⟨A, sl, s, PostG.bind p fun x sl1 v H1 ex s1 k1 r1 p1 => ?_⟩
  split at p1
  · rename_i d0 e0
    split at p1
    · rename_i hc
      rw [Bool.and_eq_true, beq_iff_eq] at hc
      refine ⟨(Rl.of s1 r1 e0).tyOf hK hc.1 hs hc.2, fun _ => ⟨A, sl1, s1, PostG.bind p1 fun xs sl2 vs H2 exs s2 k2 r2 p2 => ?_⟩⟩
      split at p2
      · rename_i d ds' e1 e2
        split at p2
        · rename_i ht
          split at p2
          · rename_i z' hz'
            exact q _ H2 v vs d ds' z' _ s2.sz (fun p h => s2.fresh h) ht (Rl.of s2 (Rs.keep k2 r1) e1) (RlL.of s2 r2 e2) hz' fun w H' sm rv => end_E s2 p2 sm rv
          · exact p2.elim
        · exact p2.elim
      · exact p2.elim
    · exact p1.elim
  · exact p1.elim
end
end F

set_option Elab.async false
set_option linter.all false
set_option maxRecDepth 100000
set_option maxHeartbeats 4000000
namespace F
open PySem PySem.Spec PyProof.Rows L2
/-! ### max of a list of ints -/
def maxI : List Int → Option Int
  | [] => none
  | x :: xs => match maxI xs with | some m => some (if m < x then x else m) | none => some x
theorem maxI_spec : ∀ {xs : List Int} {m : Int}, maxI xs = some m → m ∈ xs ∧ ∀ y ∈ xs, y ≤ m
  | [], _, h => by cases h
  | x :: xs, m, h => by
    simp only [maxI] at h
    split at h
    · rename_i k e
      obtain ⟨h1, h2⟩ := maxI_spec e
      cases h
      by_cases c : k < x
      · rw [if_pos c]
        exact ⟨by simp, fun y hy => by
          rcases List.mem_cons.mp hy with rfl | hy
          · exact Int.le_refl _
          · have := h2 y hy; omega⟩
      · rw [if_neg c]
        exact ⟨by simp [h1], fun y hy => by
          rcases List.mem_cons.mp hy with rfl | hy
          · omega
          · exact h2 y hy⟩
    · rename_i e
      cases h
      cases xs with
      | nil => exact ⟨by simp, fun y hy => by simp at hy; omega⟩
      | cons a b => simp only [maxI] at e; split at e <;> cases e
theorem maxI_isSome {xs : List Int} (h : xs ≠ []) : ∃ m, maxI xs = some m := by
  cases xs with
  | nil => exact absurd rfl h
  | cons x xs => simp only [maxI]; split <;> exact ⟨_, rfl⟩
def bMaxL : List D → Re D
  | [.lst xs] => match (intsOf xs).bind fun ns => maxI ns with | some m => .ok (.int m) | none => .bad
  | _ => .bad
section
variable {G : Glue} {W : WX} {X : Cx} {a b e : Expr} {da db : Ev} {pos p : Pos} {T : Act} {A : Nat → Option Addr} {sl : Sl} {σ : St} {H : Hp}
theorem c_maxL (hc : X.calm = true := by rfl) : CallD G X (.builtin "max") bMaxL := by
  refine ⟨_, cr_max hc, fun N H xs ds z Q hz hn r h k => ?_⟩
  unfold bMaxL at h
  split at h
  · obtain ⟨v, rfl, q⟩ := r.one
    split at h
    · rename_i m hm
      cases e : intsOf _ with
      | none => rw [e] at hm; cases hm
      | some ns =>
        rw [e] at hm
        replace hm : maxI ns = some m := hm
        cases h
        obtain ⟨a, vs, rfl, sq, rv⟩ := q.lst
        obtain ⟨g1, g2⟩ := maxI_spec hm
        refine ⟨a, ns, rfl, by rw [← ints_rv rv e]; exact SqL.of sq, ?_, fun m' h1 h2 => ?_⟩
        · cases ns with
          | nil => cases hm
          | cons _ _ => exact Nat.succ_pos _
        · have e1 := h2 m g1
          have e2 := g2 m' h1
          have : m' = m := by omega
          subst this
          exact k _ H (Same.refl H) (.int _)
    · cases h
  · cases h
/-! ### list(range(..)), tuple(range(..)) -/
def rgS (a b : Int) : Bool := decide (-(2 ^ 62) ≤ a) && (decide (a < 2 ^ 62) && (decide (-(2 ^ 62) ≤ b) && (decide (b < 2 ^ 62) && decide ((b - a).toNat ≤ 2 ^ 24))))
theorem rgS_ok {a b : Int} (h : rgS a b = true) : RgOk a b := by
  unfold rgS at h
  simp only [Bool.and_eq_true, decide_eq_true_eq] at h
  exact ⟨h.1, h.2.1, h.2.2.1, h.2.2.2.1, h.2.2.2.2⟩
theorem rg_rv {N : Addr → Prop} {a b : Int} : Rvs G N H (rgD a b) (rgV a b) := by
  unfold rgD rgV
  have gen : ∀ (l : List Nat), Rvs G N H (l.map fun i => D.int (a + (i : Nat))) (l.map fun i => V.int (a + (i : Nat))) := by
    intro l
    induction l with
    | nil => exact .nil
    | cons x l ih => exact .cons (.int _) ih
  exact gen _
def dRg1 (a : Ev) : Lv := fun sl => (a sl).bind fun x sl1 => match getS sl1 x with
  | some (.int n) => if rgS 0 n then .ok (rgD 0 n) sl1 else .bad
  | _ => .bad
def dRg2 (a b : Ev) : Lv := fun sl => (a sl).bind fun x sl1 => (b sl1).bind fun y sl2 => match getS sl2 x, getS sl2 y with
  | some (.int i), some (.int j) => if rgS i j then .ok (rgD i j) sl2 else .bad
  | _, _ => .bad
def dTp (l : Lv) : Ev := fun sl => (l sl).bind fun ds sl1 => .ok (.v (.tup ds)) sl1
theorem fl_listRg1 {p2 pos2 : Pos} (ha : FE G W X a da) (hm : X.mg "list" = none) (hm2 : X.mg "range" = none) (hg : Gl X "list" := by rfl) (hg2 : Gl X "range" := by rfl) (hc : X.calm = true := by rfl) (hs : starEach [a] X.env = (false, eval a X.env) :: starEach [] X.env := by rfl)
    (hs2 : starEach [.Call (.Name "range" p2) [a] [] pos2] X.env = (false, eval (.Call (.Name "range" p2) [a] [] pos2) X.env) :: starEach [] X.env := by rfl) : FL G W X (.Call (.Name "list" p) [.Call (.Name "range" p2) [a] [] pos2] [] pos) (dRg1 da) := fun T =>
  PE.plus (pe_listRg hc hg hm (prg_1 hg2 hm2 (ha T) hs) hs2) fun σ H Q z h hz => by
    obtain ⟨A, sl, s, p⟩ := h hz
    refine ⟨A, sl, s, PostG.bind p fun x sl1 v H1 ex s1 k1 r1 p1 => ?_⟩
    split at p1
    · rename_i n e
      cases (Rl.of s1 r1 e).int
      refine ⟨n, rfl, ?_⟩
      split at p1
      · rename_i hr
        exact ⟨rgS_ok hr, fun q hq hz => p1 _ H1 s1 .refl rg_rv q hq⟩
      · exact p1.elim
    · exact p1.elim
theorem fl_listRg2 {p2 pos2 : Pos} (ha : FE G W X a da) (hb : FE G W X b db) (hm : X.mg "list" = none) (hm2 : X.mg "range" = none) (hg : Gl X "list" := by rfl) (hg2 : Gl X "range" := by rfl) (hc : X.calm = true := by rfl) (hs : starEach [a, b] X.env = (false, eval a X.env) :: starEach [b] X.env := by rfl)
    (hs1 : starEach [b] X.env = (false, eval b X.env) :: starEach [] X.env := by rfl) (hp : (backTo pos2 (starEach [b] X.env)).any (·.1) = false := by rfl)
    (hs2 : starEach [.Call (.Name "range" p2) [a, b] [] pos2] X.env = (false, eval (.Call (.Name "range" p2) [a, b] [] pos2) X.env) :: starEach [] X.env := by rfl) : FL G W X (.Call (.Name "list" p) [.Call (.Name "range" p2) [a, b] [] pos2] [] pos) (dRg2 da db) := fun T =>
  PE.plus (pe_listRg hc hg hm (prg_2 hg2 hm2 (ha T) (hb T) hs hs1 hp) hs2) fun σ H Q z h hz => by
    obtain ⟨A, sl, s, p⟩ := h hz
    refine ⟨A, sl, s, PostG.bind p fun x sl1 v H1 ex s1 k1 r1 p1 _ => ⟨A, sl1, s1, PostG.bind p1 fun y sl2 w H2 ey s2 k2 r2 p2 => ?_⟩⟩
    have rx := Rs.keep k2 r1
    split at p2
    · rename_i i j e1 e2
      cases (Rl.of s2 rx e1).int
      cases (Rl.of s2 r2 e2).int
      refine ⟨i, j, rfl, rfl, ?_⟩
      split at p2
      · rename_i hr
        exact ⟨rgS_ok hr, fun q hq hz => p2 _ H2 s2 .refl rg_rv q hq⟩
      · exact p2.elim
    · exact p2.elim
theorem fe_tupRg2 {p2 pos2 : Pos} (ha : FE G W X a da) (hb : FE G W X b db) (hm : X.mg "tuple" = none) (hm2 : X.mg "range" = none) (hg : Gl X "tuple" := by rfl) (hg2 : Gl X "range" := by rfl) (hc : X.calm = true := by rfl) (hs : starEach [a, b] X.env = (false, eval a X.env) :: starEach [b] X.env := by rfl)
    (hs1 : starEach [b] X.env = (false, eval b X.env) :: starEach [] X.env := by rfl) (hp : (backTo pos2 (starEach [b] X.env)).any (·.1) = false := by rfl)
    (hs2 : starEach [.Call (.Name "range" p2) [a, b] [] pos2] X.env = (false, eval (.Call (.Name "range" p2) [a, b] [] pos2) X.env) :: starEach [] X.env := by rfl) : FE G W X (.Call (.Name "tuple" p) [.Call (.Name "range" p2) [a, b] [] pos2] [] pos) (dTp (dRg2 da db)) := fun T =>
  PE.plus (pe_tupRg hc hg hm (prg_2 hg2 hm2 (ha T) (hb T) hs hs1 hp) hs2) fun σ H Q z h hz => by
    obtain ⟨A, sl, s, p⟩ := h hz
    unfold dTp dRg2 at p
    simp only [bind_bind] at p
    refine ⟨A, sl, s, PostG.bind p fun x sl1 v H1 ex s1 k1 r1 p1 _ => ⟨A, sl1, s1, PostG.bind p1 fun y sl2 w H2 ey s2 k2 r2 p2 => ?_⟩⟩
    have rx := Rs.keep k2 r1
    split at p2
    · rename_i i j e1 e2
      cases (Rl.of s2 rx e1).int
      cases (Rl.of s2 r2 e2).int
      refine ⟨i, j, rfl, rfl, ?_⟩
      split at p2
      · rename_i hr
        exact ⟨rgS_ok hr, fun q hq hz => p2 _ _ (s2.grown (same_fresh hq _) hz) (.same (same_fresh hq _)) (.tup (SqT.of upd_same) rg_rv)⟩
      · exact p2.elim
    · exact p2.elim
/-! ### e[::-1] of a list -/
def dRev (a : Ev) : Lv := fun sl => (a sl).bind fun x sl1 => match getS sl1 x with
  | some (.lst xs) => .ok xs.reverse sl1
  | some (.scr xs) => .ok xs.reverse sl1
  | _ => .bad
theorem fl_rev {k : Nat} {p1 p2 p3 : Pos} (ha : FE G W X a da) (hK : X.K = G.K := by rfl) : FL G W X (.Subscript a (.Slice none none (some (.UnaryOp .USub (.Constant (.int 1) k p1) p2)) p3) pos) (dRev da) := fun T =>
  PE.plus (pe_revL (ha T)) fun σ H Q z h hz => by
    obtain ⟨A, sl, s, p⟩ := h hz
    refine ⟨A, sl, s, PostG.bind p fun x sl1 v H1 ex s1 k1 r1 p1 => ?_⟩
    split at p1
    · rename_i xs e
      obtain ⟨a, vs, rfl, sq, rv⟩ := (Rl.of s1 r1 e).lst
      exact ⟨a, vs, rfl, SqL.of sq, fun q hq hz => p1 _ H1 s1 .refl rv.reverse q hq⟩
    · rename_i xs e
      obtain ⟨a, vs, rfl, sq, rv⟩ := (Rl.of s1 r1 e).scr
      exact ⟨a, vs, rfl, hK ▸ sq.l, fun q hq hz => p1 _ H1 s1 .refl rv.reverse q hq⟩
    · exact p1.elim
/-! ### tuple(list), t[lo:hi], with the knowledge that it has no attributes -/
def rTupN (K : PySem.W.Frag) : List V → Hp → VK → Prop := fun xs H Q => ∃ p ys, xs = [.ref p] ∧ SqL K H p ys ∧ ∀ l o, H l = none → o.cls = .type "tuple" → o.dict = none → Q (.ref l) (upd H l (.frz o (.tup ys)))
theorem call_tupN : CallR X (.type "tuple") (rTupN X.K) := by
  intro pins s σ H xs us Q I r h
  obtain ⟨p, ys, rfl, hq, q⟩ := h
  obtain ⟨u, rfl, rx⟩ := vals1 r
  cases rx
  obtain ⟨its, rv, ⟨ob, n, e1, e2, e3, e4⟩, hz⟩ := I.list hq
  have hlen := rv.length
  refine call_tuple_list ⟨ob, e1, e2, n, e4⟩ (fun h' kp => ?_) (by simp only [List.size_toArray]; omega)
  have J : Inv X pins σ H { s with heap := h' } := I.kept (t' := s.toks) kp
  have e5 : (h'.push { cls := .type "tuple", data := .seq its.toArray }).get? h'.objs.size = some { cls := .type "tuple", data := .seq its.toArray } := Heap.get?_push_size _ rfl
  have J2 : Inv X pins σ (upd H h'.objs.size (.frz { cls := .type "tuple", data := .seq its.toArray } (.tup ys))) { s with heap := h'.push { cls := .type "tuple", data := .seq its.toArray } } :=
    J.laid (t' := s.toks) (fun b o e => Heap.get?_push_of_some _ e) (Nat.le_refl _) ⟨e5, hz, its, rv, IsTup.new _ _⟩
  exact ⟨.ref h'.objs.size, _, J2, rfl, q _ _ (J.hok.fresh (Nat.le_refl _)) rfl rfl⟩
def bTupN : List D → Re D
  | [.lst xs] => .ok (.tpn xs)
  | [.scr xs] => .ok (.tpn xs)
  | _ => .bad
theorem c_tupN (hK : X.K = G.K := by rfl) : CallD G X (.type "tuple") bTupN := by
  refine ⟨_, call_tupN, fun N H xs ds z Q hz hn r h k => ?_⟩
  have mk : ∀ (vs : List V) (ys : List D), Rvs G N H ys vs → (∀ v H', Same H H' → Rv G N H' (.tpn ys) v → Q v H') → ∀ l o, H l = none → o.cls = .type "tuple" → o.dict = none → Q (.ref l) (upd H l (.frz o (.tup vs))) := fun vs ys rv k l o hl h1 h2 => by
    have sm := same_fresh hl (.frz o (.tup vs))
    exact k _ _ sm (.tpn (.inl ⟨o, upd_same, h1, h2⟩) (Rvs.keep (O := fun _ => False) (.same sm) (fun _ z => z.elim) rv))
  unfold bTupN at h
  split at h
  · obtain ⟨v, rfl, q⟩ := r.one
    cases h
    obtain ⟨a, vs, rfl, sq, rv⟩ := q.lst
    exact ⟨a, vs, rfl, SqL.of sq, mk vs _ rv k⟩
  · obtain ⟨v, rfl, q⟩ := r.one
    cases h
    obtain ⟨a, vs, rfl, sq, rv⟩ := q.scr
    exact ⟨a, vs, rfl, hK ▸ sq.l, mk vs _ rv k⟩
  · cases h
def rSlN (K : PySem.W.Frag) : V → Option Int → Option Int → Hp → VK → Prop := fun x lo hi H Q => ∃ a xs, x = .ref a ∧ SqT K H a xs ∧
  (HT.sIx xs.length 0 lo = 0 ∧ HT.sIx xs.length xs.length hi = xs.length → Q (.ref a) H) ∧ (¬ (HT.sIx xs.length 0 lo = 0 ∧ HT.sIx xs.length xs.length hi = xs.length) → ∀ p o, H p = none → o.cls = .type "tuple" → o.dict = none → Q (.ref p) (upd H p (.frz o (.tup (cutV xs lo hi)))))
theorem sl_tupN : SlR X (rSlN X.K) := by
  intro pins s σ H x v vl vu lo hi sl Q I rx hs pl pu h
  obtain ⟨a, xs, rfl, hx, q1, q2⟩ := h
  by_cases hw : HT.sIx xs.length 0 lo = 0 ∧ HT.sIx xs.length xs.length hi = xs.length
  · exact sl_tupA pins s σ H _ v vl vu lo hi sl Q I rx hs pl pu ⟨a, xs, rfl, hx, q1, fun n => absurd hw n⟩
  · cases rx
    obtain ⟨its, r, ht, hz⟩ := I.tuple hx
    have hn : its.toArray.size = xs.length := by rw [List.size_toArray, ← r.length]
    refine ⟨"tuple", _, PyProof.Rows.slot_tuple_getitem.lookup, ht.typeIs, HT.getItem_tuple_cut ht hs pl pu (by rw [hn]; exact hw) ?_ (by rw [hn]; exact hz)⟩
    rw [hn]
    refine ⟨.ref s.heap.objs.size, _, I.laid (t' := s.toks) (o := .frz _ (.tup (cutV xs lo hi))) (fun b ob q => Heap.get?_push_of_some _ q) (Nat.le_refl _) ⟨Heap.get?_push_size _ rfl, Nat.le_trans (cutV_length xs lo hi) hz, _, (r.drop (HT.sIx xs.length 0 lo)).take (HT.sIx xs.length xs.length hi - HT.sIx xs.length 0 lo), IsTup.new _ _⟩, rfl, ?_⟩
    exact q2 hw _ _ (I.hok.fresh (Nat.le_refl _)) rfl rfl
def dSlN (a : Ev) (lo hi : Ov) : Ev := fun sl => (a sl).bind fun x sl1 => (lo sl1).bind fun l sl2 => (hi sl2).bind fun u sl3 => match getS sl3 x with
  | some (.tpn xs) => .ok (.v (.tpn (cut xs l u))) sl3
  | _ => .bad
variable {lo hi : Option Expr} {dlo dhi : Ov} {p2 : Pos}
theorem fe_slN (ha : FE G W X a da) (hl : FO G W X lo dlo) (hh : FO G W X hi dhi) (hK : X.K = G.K := by rfl) : FE G W X (.Subscript a (.Slice lo hi none p2) pos) (dSlN da dlo dhi) := fun T =>
  PE.plus (pe_slice sl_tupN (ha T) (hl T) (hh T)) fun σ H Q z h hz => by
    obtain ⟨A, sl, s, p⟩ := h hz
    refine ⟨A, sl, s, PostG.bind p fun x sl1 v H1 ex s1 k1 r1 p1 _ => ⟨A, sl1, s1, PostG.bind p1 fun l sl2 l' H2 el s2 k2 r2 p2 _ => ⟨A, sl2, s2, PostG.bind p2 fun u sl3 u' H3 eu s3 k3 r3 p3 => ?_⟩⟩⟩
    cases r2; cases r3
    have rx := Rs.keep k3 (Rs.keep k2 r1)
    split at p3
    · rename_i xs h
      obtain ⟨a, vs, e1, e2, e3⟩ := (Rl.of s3 rx h).tpn
      refine ⟨a, vs, e1, hK ▸ e2.t, fun hw hz' => ?_, fun hw q o hq h1 h2 hz' => ?_⟩
      · refine p3 _ _ (s3.grown (Same.refl _) hz') .refl ?_
        rw [cut_whole (by rw [e3.length]; exact hw)]
        exact .tpn e2 e3
      · have sm := same_fresh hq (.frz o (.tup (cutV vs l u)))
        exact p3 _ _ (s3.grown sm hz') (.same sm) (.tpn (.inl ⟨o, upd_same, h1, h2⟩) (Rvs.keep (.same sm) (fun _ z => .inr z) (e3.cut l u)))
    · exact p3.elim
end
end F

set_option Elab.async false
set_option linter.all false
set_option maxRecDepth 100000
set_option maxHeartbeats 4000000
namespace F
open PySem PySem.Spec Las
/-- things that stand for data: ints, truths -/
class Emb (α : Type) [DecidableEq α] where
  e : α → D
  eqv : ∀ x y, D.eqv (e x) (e y) = decide (x = y)
  dep : ∀ x, D.depth (e x) = 0
  pr : ∀ x, D.pur (e x) = true
instance : Emb Int := ⟨D.int, fun _ _ => eqv_int, fun _ => by simp [D.depth], fun _ => by simp [D.pur]⟩
instance : Emb Bool := ⟨D.bl, fun x y => by cases x <;> cases y <;> decide, fun _ => by simp [D.depth], fun _ => by simp [D.pur]⟩
section
variable {α : Type} [DecidableEq α] [OfNat α 0] [Emb α]
def tE (xs : List α) : D := .tup (xs.map Emb.e)
def nE (xs : List α) : D := .tpn (xs.map Emb.e)
def lE (xs : List α) : D := .lst (xs.map Emb.e)
def lasE (a b : List α) : D := .tup [tE a, tE b]
@[simp] theorem tE_len {xs : List α} : (xs.map Emb.e : List D).length = xs.length := List.length_map _
theorem eqvs_e : ∀ {xs ys : List α}, D.eqvs (xs.map Emb.e) (ys.map Emb.e) = decide (xs = ys)
  | [], [] => by simp [D.eqvs]
  | [], _ :: _ => by simp [D.eqvs]
  | _ :: _, [] => by simp [D.eqvs]
  | x :: xs, y :: ys => by
    simp only [List.map_cons, D.eqvs, Emb.eqv, eqvs_e, List.cons.injEq]
    by_cases h1 : x = y <;> by_cases h2 : xs = ys <;> simp [h1, h2]
theorem depths_e : ∀ {xs : List α}, D.depths (xs.map Emb.e) = 0
  | [] => by simp [D.depths]
  | x :: xs => by simp only [List.map_cons, D.depths, Emb.dep, depths_e]; rfl
@[simp] theorem purs_e : ∀ {xs : List α}, D.purs (xs.map Emb.e) = true
  | [] => by simp [D.purs]
  | x :: xs => by simp only [List.map_cons, D.purs, Emb.pr, purs_e]; rfl
@[simp] theorem pur_tE {xs : List α} : D.pur (tE xs) = true := by unfold tE; simp only [D.pur, purs_e]
@[simp] theorem pur_nE {xs : List α} : D.pur (nE xs) = true := by unfold nE; simp only [D.pur, purs_e]
theorem eqv_tE {xs ys : List α} : D.eqv (tE xs) (tE ys) = decide (xs = ys) := by unfold tE; simp only [D.eqv, eqvs_e]
theorem depth_tE {xs : List α} : D.depth (tE xs) = 1 := by unfold tE; simp only [D.depth, depths_e]
theorem eqv_nE {xs ys : List α} : D.eqv (nE xs) (tE ys) = decide (xs = ys) := by unfold tE nE; simp only [D.eqv, eqvs_e]
theorem eqv_nN {xs ys : List α} : D.eqv (nE xs) (nE ys) = decide (xs = ys) := by unfold nE; simp only [D.eqv, eqvs_e]
theorem eqv_tN {xs ys : List α} : D.eqv (tE xs) (nE ys) = decide (xs = ys) := by unfold tE nE; simp only [D.eqv, eqvs_e]
theorem depth_nE {xs : List α} : D.depth (nE xs) = 1 := by unfold nE; simp only [D.depth, depths_e]
theorem eq_tE {xs ys : List α} : dEq (tE xs) (tE ys) = .ok (.bl (decide (xs = ys))) := by
  unfold dEq shallow; rw [depth_tE, depth_tE, eqv_tE, pur_tE, pur_tE]; rfl
theorem ne_tE {xs ys : List α} : dNe (tE xs) (tE ys) = .ok (.bl (!decide (xs = ys))) := by
  unfold dNe shallow; rw [depth_tE, depth_tE, eqv_tE, pur_tE, pur_tE]; rfl
theorem eq_nE {xs ys : List α} : dEq (nE xs) (tE ys) = .ok (.bl (decide (xs = ys))) := by
  unfold dEq shallow; rw [depth_nE, depth_tE, eqv_nE, pur_nE, pur_tE]; rfl
theorem eq_nN {xs ys : List α} : dEq (nE xs) (nE ys) = .ok (.bl (decide (xs = ys))) := by
  unfold dEq shallow; rw [depth_nE, depth_nE, eqv_nN, pur_nE, pur_nE]; rfl
theorem eq_e {x y : α} : dEq (Emb.e x) (Emb.e y) = .ok (.bl (decide (x = y))) := by
  unfold dEq shallow; rw [Emb.dep, Emb.dep, Emb.eqv, Emb.pr, Emb.pr]; rfl
theorem tE_nil : tE ([] : List α) = .tup [] := rfl
theorem isIn_e {x : α} {ys : List α} : isIn (Emb.e x) (ys.map Emb.e) = decide (x ∈ ys) := by
  unfold isIn
  induction ys with
  | nil => rfl
  | cons y ys ih =>
    simp only [List.map_cons, List.any_cons, ih, Emb.eqv, List.mem_cons]
    by_cases h1 : y = x
    · simp [h1]
    · have h2 : ¬ x = y := fun z => h1 z.symm
      simp [h1, h2]
theorem in_t {x : α} {ys : List α} {neg : Bool} : dIn neg (Emb.e x) (tE ys) = .ok (.bl (if neg then !decide (x ∈ ys) else decide (x ∈ ys))) := by
  unfold dIn tE
  simp only [items, depths_e, isIn_e, Emb.dep, purs_e, Emb.pr]
  rfl
theorem in_l {x : α} {ys : List α} {neg : Bool} : dIn neg (Emb.e x) (lE ys) = .ok (.bl (if neg then !decide (x ∈ ys) else decide (x ∈ ys))) := by
  unfold dIn lE
  simp only [items, depths_e, isIn_e, Emb.dep, purs_e, Emb.pr]
  rfl
theorem in_n {x : α} {ys : List α} {neg : Bool} : dIn neg (Emb.e x) (nE ys) = .ok (.bl (if neg then !decide (x ∈ ys) else decide (x ∈ ys))) := by
  unfold dIn nE
  simp only [items, depths_e, isIn_e, Emb.dep, purs_e, Emb.pr]
  rfl
theorem atI_e {xs : List α} {i : Nat} (h : i < xs.length) : L2.atI (xs.map Emb.e : List D) (i : Int) = some (Emb.e (xs.getD i 0)) := by
  refine L2.atI_nat ?_
  rw [List.getElem?_map, List.getElem?_eq_getElem h, List.getD_eq_getElem?_getD, List.getElem?_eq_getElem h]
  rfl
theorem atI_lastE {xs : List α} (h : xs ≠ []) : L2.atI (xs.map Emb.e : List D) (-1) = some (Emb.e (xs.getLastD 0)) := by
  have hl : 0 < xs.length := List.length_pos_iff.mpr h
  unfold L2.atI L2.ixN
  rw [tE_len, if_neg (by omega), if_pos (by omega)]
  rw [show (-1 + (xs.length : Int)).toNat = xs.length - 1 by omega, lastD h, List.getD_eq_getElem?_getD]
  simp only [Option.bind_some]
  rw [List.getElem?_map, List.getElem?_eq_getElem (by omega)]
  rfl
theorem slice_toE {xs : List α} {k : Nat} {sl : Sl} : sliceO (some (tE xs)) none (some (k : Int)) sl = .ok (.v (tE (xs.take k))) sl := by
  unfold tE; rw [ev_slice_t, cut_to, List.map_take]
theorem slice_restE {xs : List α} {k : Nat} {sl : Sl} : sliceO (some (tE xs)) (some (k : Int)) none sl = .ok (.v (tE (xs.drop k))) sl := by
  unfold tE; rw [ev_slice_t, cut_rest, List.map_drop]
theorem add_tE {xs ys : List α} (h : xs.length + ys.length ≤ 1000) : dAdd (tE xs) (tE ys) = .ok (tE (xs ++ ys)) := by
  unfold tE
  rw [op_add_t (ev_fits (by rw [tE_len, tE_len]; exact h)), List.map_append]
theorem len_tE {xs : List α} : bLen [tE xs] = .ok (.int xs.length) := by unfold tE; rw [b_len_t, tE_len]
theorem len_nE {xs : List α} : bLen [nE xs] = .ok (.int xs.length) := by unfold nE; show Re.ok _ = _; rw [tE_len]
end
end F

set_option Elab.async false
set_option linter.all false
set_option maxRecDepth 100000
set_option maxHeartbeats 4000000
/-! the words of moods: printed by words.py -/
namespace F
open PySem PySem.Spec
@[simp] theorem eqw_yes_yes : dEq (.str "yes") (.str "yes") = .ok (.bl true) := by kernel_rfl
@[simp] theorem eqw_yes_letter : dEq (.str "yes") (.str "letter") = .ok (.bl false) := by kernel_rfl
@[simp] theorem eqw_yes_not : dEq (.str "yes") (.str "not") = .ok (.bl false) := by kernel_rfl
@[simp] theorem eqw_yes_and : dEq (.str "yes") (.str "and") = .ok (.bl false) := by kernel_rfl
@[simp] theorem eqw_yes_or : dEq (.str "yes") (.str "or") = .ok (.bl false) := by kernel_rfl
@[simp] theorem eqw_yes_later : dEq (.str "yes") (.str "later") = .ok (.bl false) := by kernel_rfl
@[simp] theorem eqw_yes_ahead : dEq (.str "yes") (.str "ahead") = .ok (.bl false) := by kernel_rfl
@[simp] theorem eqw_letter_yes : dEq (.str "letter") (.str "yes") = .ok (.bl false) := by kernel_rfl
@[simp] theorem eqw_letter_letter : dEq (.str "letter") (.str "letter") = .ok (.bl true) := by kernel_rfl
@[simp] theorem eqw_letter_not : dEq (.str "letter") (.str "not") = .ok (.bl false) := by kernel_rfl
@[simp] theorem eqw_letter_and : dEq (.str "letter") (.str "and") = .ok (.bl false) := by kernel_rfl
@[simp] theorem eqw_letter_or : dEq (.str "letter") (.str "or") = .ok (.bl false) := by kernel_rfl
@[simp] theorem eqw_letter_later : dEq (.str "letter") (.str "later") = .ok (.bl false) := by kernel_rfl
@[simp] theorem eqw_letter_ahead : dEq (.str "letter") (.str "ahead") = .ok (.bl false) := by kernel_rfl
@[simp] theorem eqw_not_yes : dEq (.str "not") (.str "yes") = .ok (.bl false) := by kernel_rfl
@[simp] theorem eqw_not_letter : dEq (.str "not") (.str "letter") = .ok (.bl false) := by kernel_rfl
@[simp] theorem eqw_not_not : dEq (.str "not") (.str "not") = .ok (.bl true) := by kernel_rfl
@[simp] theorem eqw_not_and : dEq (.str "not") (.str "and") = .ok (.bl false) := by kernel_rfl
@[simp] theorem eqw_not_or : dEq (.str "not") (.str "or") = .ok (.bl false) := by kernel_rfl
@[simp] theorem eqw_not_later : dEq (.str "not") (.str "later") = .ok (.bl false) := by kernel_rfl
@[simp] theorem eqw_not_ahead : dEq (.str "not") (.str "ahead") = .ok (.bl false) := by kernel_rfl
@[simp] theorem eqw_and_yes : dEq (.str "and") (.str "yes") = .ok (.bl false) := by kernel_rfl
@[simp] theorem eqw_and_letter : dEq (.str "and") (.str "letter") = .ok (.bl false) := by kernel_rfl
@[simp] theorem eqw_and_not : dEq (.str "and") (.str "not") = .ok (.bl false) := by kernel_rfl
@[simp] theorem eqw_and_and : dEq (.str "and") (.str "and") = .ok (.bl true) := by kernel_rfl
@[simp] theorem eqw_and_or : dEq (.str "and") (.str "or") = .ok (.bl false) := by kernel_rfl
@[simp] theorem eqw_and_later : dEq (.str "and") (.str "later") = .ok (.bl false) := by kernel_rfl
@[simp] theorem eqw_and_ahead : dEq (.str "and") (.str "ahead") = .ok (.bl false) := by kernel_rfl
@[simp] theorem eqw_or_yes : dEq (.str "or") (.str "yes") = .ok (.bl false) := by kernel_rfl
@[simp] theorem eqw_or_letter : dEq (.str "or") (.str "letter") = .ok (.bl false) := by kernel_rfl
@[simp] theorem eqw_or_not : dEq (.str "or") (.str "not") = .ok (.bl false) := by kernel_rfl
@[simp] theorem eqw_or_and : dEq (.str "or") (.str "and") = .ok (.bl false) := by kernel_rfl
@[simp] theorem eqw_or_or : dEq (.str "or") (.str "or") = .ok (.bl true) := by kernel_rfl
@[simp] theorem eqw_or_later : dEq (.str "or") (.str "later") = .ok (.bl false) := by kernel_rfl
@[simp] theorem eqw_or_ahead : dEq (.str "or") (.str "ahead") = .ok (.bl false) := by kernel_rfl
@[simp] theorem eqw_later_yes : dEq (.str "later") (.str "yes") = .ok (.bl false) := by kernel_rfl
@[simp] theorem eqw_later_letter : dEq (.str "later") (.str "letter") = .ok (.bl false) := by kernel_rfl
@[simp] theorem eqw_later_not : dEq (.str "later") (.str "not") = .ok (.bl false) := by kernel_rfl
@[simp] theorem eqw_later_and : dEq (.str "later") (.str "and") = .ok (.bl false) := by kernel_rfl
@[simp] theorem eqw_later_or : dEq (.str "later") (.str "or") = .ok (.bl false) := by kernel_rfl
@[simp] theorem eqw_later_later : dEq (.str "later") (.str "later") = .ok (.bl true) := by kernel_rfl
@[simp] theorem eqw_later_ahead : dEq (.str "later") (.str "ahead") = .ok (.bl false) := by kernel_rfl
@[simp] theorem eqw_ahead_yes : dEq (.str "ahead") (.str "yes") = .ok (.bl false) := by kernel_rfl
@[simp] theorem eqw_ahead_letter : dEq (.str "ahead") (.str "letter") = .ok (.bl false) := by kernel_rfl
@[simp] theorem eqw_ahead_not : dEq (.str "ahead") (.str "not") = .ok (.bl false) := by kernel_rfl
@[simp] theorem eqw_ahead_and : dEq (.str "ahead") (.str "and") = .ok (.bl false) := by kernel_rfl
@[simp] theorem eqw_ahead_or : dEq (.str "ahead") (.str "or") = .ok (.bl false) := by kernel_rfl
@[simp] theorem eqw_ahead_later : dEq (.str "ahead") (.str "later") = .ok (.bl false) := by kernel_rfl
@[simp] theorem eqw_ahead_ahead : dEq (.str "ahead") (.str "ahead") = .ok (.bl true) := by kernel_rfl
@[simp] theorem inw_0_yes : dIn false (.str "yes") (.tup [.str "not", .str "later", .str "ahead"]) = .ok (.bl false) := by kernel_rfl
@[simp] theorem inw_0_letter : dIn false (.str "letter") (.tup [.str "not", .str "later", .str "ahead"]) = .ok (.bl false) := by kernel_rfl
@[simp] theorem inw_0_not : dIn false (.str "not") (.tup [.str "not", .str "later", .str "ahead"]) = .ok (.bl true) := by kernel_rfl
@[simp] theorem inw_0_and : dIn false (.str "and") (.tup [.str "not", .str "later", .str "ahead"]) = .ok (.bl false) := by kernel_rfl
@[simp] theorem inw_0_or : dIn false (.str "or") (.tup [.str "not", .str "later", .str "ahead"]) = .ok (.bl false) := by kernel_rfl
@[simp] theorem inw_0_later : dIn false (.str "later") (.tup [.str "not", .str "later", .str "ahead"]) = .ok (.bl true) := by kernel_rfl
@[simp] theorem inw_0_ahead : dIn false (.str "ahead") (.tup [.str "not", .str "later", .str "ahead"]) = .ok (.bl true) := by kernel_rfl
@[simp] theorem inw_1_yes : dIn false (.str "yes") (.tup [.str "and", .str "or"]) = .ok (.bl false) := by kernel_rfl
@[simp] theorem inw_1_letter : dIn false (.str "letter") (.tup [.str "and", .str "or"]) = .ok (.bl false) := by kernel_rfl
@[simp] theorem inw_1_not : dIn false (.str "not") (.tup [.str "and", .str "or"]) = .ok (.bl false) := by kernel_rfl
@[simp] theorem inw_1_and : dIn false (.str "and") (.tup [.str "and", .str "or"]) = .ok (.bl true) := by kernel_rfl
@[simp] theorem inw_1_or : dIn false (.str "or") (.tup [.str "and", .str "or"]) = .ok (.bl true) := by kernel_rfl
@[simp] theorem inw_1_later : dIn false (.str "later") (.tup [.str "and", .str "or"]) = .ok (.bl false) := by kernel_rfl
@[simp] theorem inw_1_ahead : dIn false (.str "ahead") (.tup [.str "and", .str "or"]) = .ok (.bl false) := by kernel_rfl
@[simp] theorem inw_2_yes : dIn false (.str "yes") (.tup [.str "letter", .str "ahead"]) = .ok (.bl false) := by kernel_rfl
@[simp] theorem inw_2_letter : dIn false (.str "letter") (.tup [.str "letter", .str "ahead"]) = .ok (.bl true) := by kernel_rfl
@[simp] theorem inw_2_not : dIn false (.str "not") (.tup [.str "letter", .str "ahead"]) = .ok (.bl false) := by kernel_rfl
@[simp] theorem inw_2_and : dIn false (.str "and") (.tup [.str "letter", .str "ahead"]) = .ok (.bl false) := by kernel_rfl
@[simp] theorem inw_2_or : dIn false (.str "or") (.tup [.str "letter", .str "ahead"]) = .ok (.bl false) := by kernel_rfl
@[simp] theorem inw_2_later : dIn false (.str "later") (.tup [.str "letter", .str "ahead"]) = .ok (.bl false) := by kernel_rfl
@[simp] theorem inw_2_ahead : dIn false (.str "ahead") (.tup [.str "letter", .str "ahead"]) = .ok (.bl true) := by kernel_rfl
@[simp] theorem inw_3_yes : dIn false (.str "yes") (.tup [.str "yes", .str "letter"]) = .ok (.bl true) := by kernel_rfl
@[simp] theorem inw_3_letter : dIn false (.str "letter") (.tup [.str "yes", .str "letter"]) = .ok (.bl true) := by kernel_rfl
@[simp] theorem inw_3_not : dIn false (.str "not") (.tup [.str "yes", .str "letter"]) = .ok (.bl false) := by kernel_rfl
@[simp] theorem inw_3_and : dIn false (.str "and") (.tup [.str "yes", .str "letter"]) = .ok (.bl false) := by kernel_rfl
@[simp] theorem inw_3_or : dIn false (.str "or") (.tup [.str "yes", .str "letter"]) = .ok (.bl false) := by kernel_rfl
@[simp] theorem inw_3_later : dIn false (.str "later") (.tup [.str "yes", .str "letter"]) = .ok (.bl false) := by kernel_rfl
@[simp] theorem inw_3_ahead : dIn false (.str "ahead") (.tup [.str "yes", .str "letter"]) = .ok (.bl false) := by kernel_rfl
@[simp] theorem inw_4_yes : dIn false (.str "yes") (.tup [.str "later", .str "ahead"]) = .ok (.bl false) := by kernel_rfl
@[simp] theorem inw_4_letter : dIn false (.str "letter") (.tup [.str "later", .str "ahead"]) = .ok (.bl false) := by kernel_rfl
@[simp] theorem inw_4_not : dIn false (.str "not") (.tup [.str "later", .str "ahead"]) = .ok (.bl false) := by kernel_rfl
@[simp] theorem inw_4_and : dIn false (.str "and") (.tup [.str "later", .str "ahead"]) = .ok (.bl false) := by kernel_rfl
@[simp] theorem inw_4_or : dIn false (.str "or") (.tup [.str "later", .str "ahead"]) = .ok (.bl false) := by kernel_rfl
@[simp] theorem inw_4_later : dIn false (.str "later") (.tup [.str "later", .str "ahead"]) = .ok (.bl true) := by kernel_rfl
@[simp] theorem inw_4_ahead : dIn false (.str "ahead") (.tup [.str "later", .str "ahead"]) = .ok (.bl true) := by kernel_rfl
@[simp] theorem new_yes : dNe (.str "yes") (.str "later") = .ok (.bl true) := by kernel_rfl
@[simp] theorem new_letter : dNe (.str "letter") (.str "later") = .ok (.bl true) := by kernel_rfl
@[simp] theorem new_not : dNe (.str "not") (.str "later") = .ok (.bl true) := by kernel_rfl
@[simp] theorem new_and : dNe (.str "and") (.str "later") = .ok (.bl true) := by kernel_rfl
@[simp] theorem new_or : dNe (.str "or") (.str "later") = .ok (.bl true) := by kernel_rfl
@[simp] theorem new_later : dNe (.str "later") (.str "later") = .ok (.bl false) := by kernel_rfl
@[simp] theorem new_ahead : dNe (.str "ahead") (.str "later") = .ok (.bl true) := by kernel_rfl
end F

set_option Elab.async false
set_option linter.all false
set_option maxRecDepth 100000
set_option maxHeartbeats 4000000
/-! moods of endless texts, what they mean; no program in sight -/
namespace Las
inductive Md where
  | yes | letr (s : L) | nt (m : Md) | an (a b : Md) | ro (a b : Md) | lt (m : Md) | ah (m : Md)
deriving DecidableEq
namespace Md
/-- height -/
def dep : Md → Nat
  | yes => 1
  | letr _ => 2
  | nt m => m.dep + 1
  | an a b => max a.dep b.dep + 1
  | ro a b => max a.dep b.dep + 1
  | lt m => m.dep + 1
  | ah m => m.dep + 1
def deep : Md → Nat
  | yes => 0
  | letr _ => 0
  | nt m => m.deep
  | an a b => max a.deep b.deep
  | ro a b => max a.deep b.deep
  | lt m => m.deep + 1
  | ah m => m.deep + 1
def size : Md → Nat
  | yes => 1
  | letr _ => 1
  | nt m => m.size + 1
  | an a b => a.size + b.size + 1
  | ro a b => a.size + b.size + 1
  | lt m => m.size + 1
  | ah m => m.size + 1
theorem dep_pos : ∀ m : Md, 1 ≤ m.dep
  | yes => Nat.le_refl _
  | letr _ => by simp [dep]
  | nt m => by simp [dep]
  | an a b => by simp [dep]
  | ro a b => by simp [dep]
  | lt m => by simp [dep]
  | ah m => by simp [dep]
theorem deep_le : ∀ m : Md, m.deep + 1 ≤ m.dep
  | yes => Nat.le_refl _
  | letr _ => by simp [dep, deep]
  | nt m => by have := deep_le m; simp only [dep, deep]; omega
  | an a b => by have := deep_le a; have := deep_le b; simp only [dep, deep]; omega
  | ro a b => by have := deep_le a; have := deep_le b; simp only [dep, deep]; omega
  | lt m => by have := deep_le m; simp only [dep, deep]; omega
  | ah m => by have := deep_le m; simp only [dep, deep]; omega
theorem size_le : ∀ m : Md, m.size + 1 ≤ 2 ^ m.dep
  | yes => by simp [size, dep]
  | letr _ => by simp [size, dep]
  | nt m => by have := size_le m; simp only [dep, size, Nat.pow_succ]; omega
  | an a b => by
    have h1 := size_le a; have h2 := size_le b
    have g1 : 2 ^ a.dep ≤ 2 ^ max a.dep b.dep := Nat.pow_le_pow_right (by decide) (Nat.le_max_left _ _)
    have g2 : 2 ^ b.dep ≤ 2 ^ max a.dep b.dep := Nat.pow_le_pow_right (by decide) (Nat.le_max_right _ _)
    simp only [dep, size, Nat.pow_succ]; omega
  | ro a b => by
    have h1 := size_le a; have h2 := size_le b
    have g1 : 2 ^ a.dep ≤ 2 ^ max a.dep b.dep := Nat.pow_le_pow_right (by decide) (Nat.le_max_left _ _)
    have g2 : 2 ^ b.dep ≤ 2 ^ max a.dep b.dep := Nat.pow_le_pow_right (by decide) (Nat.le_max_right _ _)
    simp only [dep, size, Nat.pow_succ]; omega
  | lt m => by have := size_le m; simp only [dep, size, Nat.pow_succ]; omega
  | ah m => by have := size_le m; simp only [dep, size, Nat.pow_succ]; omega
/-- a set of letters as it is told -/
def setOk (w : Int) (s : L) : Bool := s.all (fun x => decide (1 ≤ x ∧ x ≤ w)) && (s.zip (s.drop 1)).all fun p => decide (p.1 < p.2)
/-- sets of letters 1 .. w, in order -/
def ok (w : Int) : Md → Bool
  | yes => true
  | letr s => setOk w s
  | nt m => m.ok w
  | an a b => a.ok w && b.ok w
  | ro a b => a.ok w && b.ok w
  | lt m => m.ok w
  | ah m => m.ok w
end Md
/-- where a mood holds -/
def Sat (w : Nat → Int) : Md → Nat → Prop
  | .yes, _ => True
  | .letr s, i => w i ∈ s
  | .nt m, i => ¬ Sat w m i
  | .an a b, i => Sat w a i ∧ Sat w b i
  | .ro a b, i => Sat w a i ∨ Sat w b i
  | .lt m, i => ∃ j, i < j ∧ Sat w m j
  | .ah m, i => ∃ j, j < i ∧ Sat w m j
/-- at the front -/
def FSat (w : Nat → Int) : Md → Prop
  | .yes => True
  | .letr _ => False
  | .nt m => ¬ FSat w m
  | .an a b => FSat w a ∧ FSat w b
  | .ro a b => FSat w a ∨ FSat w b
  | .lt m => ∃ j, Sat w m j
  | .ah _ => False
/-- from s on as p places before -/
def PerP (P : Nat → Prop) (s p : Nat) : Prop := ∀ i, s ≤ i → (P (i + p) ↔ P i)
theorem PerP.mono {P : Nat → Prop} {s t p : Nat} (h : PerP P s p) (hs : s ≤ t) : PerP P t p := fun i hi => h i (by omega)
theorem sat_per {w : Nat → Int} {s p : Nat} (h : Per w s p) : ∀ m : Md, PerP (Sat w m) (s + p * m.deep) p
  | .yes => fun _ _ => Iff.rfl
  | .letr x => fun i hi => by
    show w (i + p) ∈ x ↔ w i ∈ x
    rw [h i (by omega)]
  | .nt m => fun i hi => not_congr (sat_per h m i hi)
  | .an a b => fun i hi => by
    have h1 := Nat.mul_le_mul_left p (Nat.le_max_left a.deep b.deep)
    have h2 := Nat.mul_le_mul_left p (Nat.le_max_right a.deep b.deep)
    simp only [Md.deep] at hi
    exact and_congr (sat_per h a i (by omega)) (sat_per h b i (by omega))
  | .ro a b => fun i hi => by
    have h1 := Nat.mul_le_mul_left p (Nat.le_max_left a.deep b.deep)
    have h2 := Nat.mul_le_mul_left p (Nat.le_max_right a.deep b.deep)
    simp only [Md.deep] at hi
    exact or_congr (sat_per h a i (by omega)) (sat_per h b i (by omega))
  | .lt m => fun i hi => by
    simp only [Md.deep, Nat.mul_add, Nat.mul_one] at hi
    constructor
    · rintro ⟨j, h1, h2⟩; exact ⟨j, by omega, h2⟩
    · rintro ⟨j, h1, h2⟩; exact ⟨j + p, by omega, (sat_per h m j (by omega)).mpr h2⟩
  | .ah m => fun i hi => by
    simp only [Md.deep, Nat.mul_add, Nat.mul_one] at hi
    constructor
    · rintro ⟨j, h1, h2⟩
      by_cases hj : j < i
      · exact ⟨j, hj, h2⟩
      · by_cases hp : p = 0
        · exact ⟨j, by omega, h2⟩
        refine ⟨j - p, by omega, (sat_per h m (j - p) (by omega)).mp ?_⟩
        rw [show j - p + p = j by omega]; exact h2
    · rintro ⟨j, h1, h2⟩; exact ⟨j, by omega, h2⟩
theorem PerP.mul {P : Nat → Prop} {s p : Nat} (h : PerP P s p) : ∀ k i, s ≤ i → (P (i + k * p) ↔ P i)
  | 0, i, _ => by rw [Nat.zero_mul, Nat.add_zero]
  | k + 1, i, hi => by rw [Nat.succ_mul, ← Nat.add_assoc, h (i + k * p) (by omega), PerP.mul h k i hi]
/-- what holds somewhere holds at a place not far -/
theorem PerP.near {P : Nat → Prop} {s p : Nat} (h : PerP P s p) (hp : 0 < p) {j : Nat} (hj : P j) : ∃ i, i < s + p ∧ P i := by
  by_cases c : j < s
  · exact ⟨j, by omega, hj⟩
  · refine ⟨s + (j - s) % p, by have := Nat.mod_lt (j - s) hp; omega, ?_⟩
    have e : j = s + (j - s) % p + (j - s) / p * p := by
      have := Nat.mod_add_div (j - s) p
      rw [Nat.mul_comm] at this; omega
    rw [e] at hj
    exact (h.mul _ _ (by omega)).mp hj
/-- later than all -/
theorem PerP.late {P : Nat → Prop} {s p : Nat} (h : PerP P s p) (hp : 0 < p) {j n : Nat} (hj : P j) (hs : s ≤ j) : ∃ i, n < i ∧ P i :=
  ⟨j + (n + 1) * p, by have := Nat.le_mul_of_pos_right (n + 1) hp; omega, (h.mul _ _ hs).mpr hj⟩
open Classical in
noncomputable def tr (P : Prop) : Bool := decide P
theorem tr_iff {P : Prop} : tr P = true ↔ P := by
  unfold tr; exact @decide_eq_true_iff P (Classical.propDecidable P)
theorem tr_of {P : Prop} (h : P) : tr P = true := tr_iff.mpr h
theorem tr_no {P : Prop} (h : ¬ P) : tr P = false := by
  cases e : tr P with
  | false => rfl
  | true => exact absurd (tr_iff.mp e) h
theorem tr_eq {P : Prop} {b : Bool} (h : b = true ↔ P) : b = tr P := by
  cases b with
  | true => exact (tr_of (h.mp rfl)).symm
  | false => exact (tr_no fun hp => by cases h.mpr hp).symm
theorem tr_congr {P Q : Prop} (h : P ↔ Q) : tr P = tr Q := by rw [propext h]
theorem tr_not {P : Prop} : tr (¬ P) = !tr P := by
  by_cases h : P
  · rw [tr_of h, tr_no (fun z => z h)]; rfl
  · rw [tr_of h, tr_no h]; rfl
theorem tr_and {P Q : Prop} : tr (P ∧ Q) = (tr P && tr Q) := by
  by_cases h : P <;> by_cases g : Q <;> simp [tr, h, g]
theorem tr_or {P Q : Prop} : tr (P ∨ Q) = (tr P || tr Q) := by
  by_cases h : P <;> by_cases g : Q <;> simp [tr, h, g]
/-- two lists of truths tell where P holds -/
def RowOf (P : Nat → Prop) (A B : List Bool) : Prop := B ≠ [] ∧ ∀ i, wd A B i = tr (P i)
theorem RowOf.uniq {P : Nat → Prop} {A B A' B' : List Bool} (h : RowOf P A B) (h' : RowOf P A' B') : short A B = short A' B' :=
  (short_eq_iff h.1 h'.1).mpr fun i => by rw [h.2 i, h'.2 i]
theorem RowOf.congr {P Q : Nat → Prop} {A B : List Bool} (h : RowOf P A B) (e : ∀ i, P i ↔ Q i) : RowOf Q A B := ⟨h.1, fun i => by rw [h.2 i, tr_congr (e i)]⟩
/-- the first n -/
def fsts {α : Type} (f : Nat → α) (n : Nat) : List α := (List.range n).map f
theorem fsts_len {α : Type} {f : Nat → α} {n : Nat} : (fsts f n).length = n := by unfold fsts; rw [List.length_map, List.length_range]
theorem fsts_get {α : Type} {f : Nat → α} {n i : Nat} {d : α} (h : i < n) : (fsts f n).getD i d = f i := by
  unfold fsts
  rw [List.getD_eq_getElem?_getD, List.getElem?_map, List.getElem?_range h]; rfl
/-- told by its first places -/
theorem wd_fsts {α : Type} [DecidableEq α] [OfNat α 0] {f : Nat → α} {n p : Nat} (hp : 0 < p) (h : Per f n p) (i : Nat) : wd (fsts f n) (fsts (fun k => f (n + k)) p) i = f i := by
  by_cases c : i < n
  · rw [wd_lo (by rw [fsts_len]; exact c), fsts_get c]
  · rw [wd_hi (by rw [fsts_len]; omega), fsts_len]
    unfold cyc
    rw [fsts_len, fsts_get (Nat.mod_lt _ hp)]
    have e : i = n + (i - n) % p + (i - n) / p * p := by
      have := Nat.mod_add_div (i - n) p
      rw [Nat.mul_comm] at this; omega
    have := h.mul ((i - n) / p) (n + (i - n) % p) (by omega)
    rw [← e] at this
    exact this.symm
theorem fsts_congr {α : Type} {f g : Nat → α} {n : Nat} (h : ∀ i, i < n → f i = g i) : fsts f n = fsts g n := List.map_congr_left fun i hi => h i (List.mem_range.mp hi)
theorem fsts_wd {α : Type} [DecidableEq α] [OfNat α 0] {a b : List α} : fsts (wd a b) a.length = a := ext0 fsts_len fun i hi => by
  rw [fsts_len] at hi
  rw [fsts_get hi, wd_lo hi]
theorem fsts_wd2 {α : Type} [DecidableEq α] [OfNat α 0] {a b : List α} : fsts (fun k => wd a b (a.length + k)) b.length = b := ext0 fsts_len fun i hi => by
  rw [fsts_len] at hi
  rw [fsts_get hi, wd_hi (by omega), show a.length + i - a.length = i by omega, cyc_lt hi]
theorem rowOf_fsts {P : Nat → Prop} {n p : Nat} (hp : 0 < p) (h : PerP P n p) : RowOf P (fsts (fun i => tr (P i)) n) (fsts (fun k => tr (P (n + k))) p) := by
  refine ⟨fun z => ?_, fun i => ?_⟩
  · have := congrArg List.length z
    rw [fsts_len, List.length_nil] at this; omega
  · exact wd_fsts (f := fun i => tr (P i)) hp (fun i hi => tr_congr (h i hi)) i
/-- looking past g letters -/
def Md.free : Md → Bool
  | .yes => true
  | .letr _ => true
  | .nt m => m.free
  | .an a b => a.free && b.free
  | .ro a b => a.free && b.free
  | .lt m => m.free
  | .ah _ => false
theorem sat_shift {w : Nat → Int} {g : Nat} : ∀ (m : Md) (i : Nat), m.free = true → (Sat (fun k => w (k + g)) m i ↔ Sat w m (i + g))
  | .yes, _, _ => Iff.rfl
  | .letr _, _, _ => Iff.rfl
  | .nt m, i, h => not_congr (sat_shift m i h)
  | .an a b, i, h => by
    simp only [Md.free, Bool.and_eq_true] at h
    exact and_congr (sat_shift a i h.1) (sat_shift b i h.2)
  | .ro a b, i, h => by
    simp only [Md.free, Bool.and_eq_true] at h
    exact or_congr (sat_shift a i h.1) (sat_shift b i h.2)
  | .lt m, i, h => by
    constructor
    · rintro ⟨j, h1, h2⟩; exact ⟨j + g, by omega, (sat_shift m j h).mp h2⟩
    · rintro ⟨j, h1, h2⟩
      refine ⟨j - g, by omega, (sat_shift m (j - g) h).mpr ?_⟩
      rw [show j - g + g = j by omega]; exact h2
  | .ah m, _, h => by cases h
end Las
namespace F
open PySem PySem.Spec Las
/-! as data -/
def dM : Md → D
  | .yes => .tup [.str "yes"]
  | .letr s => .tup [.str "letter", tI s]
  | .nt m => .tup [.str "not", dM m]
  | .an a b => .tup [.str "and", dM a, dM b]
  | .ro a b => .tup [.str "or", dM a, dM b]
  | .lt m => .tup [.str "later", dM m]
  | .ah m => .tup [.str "ahead", dM m]
def lM : Md → D
  | .yes => .lst [.str "yes"]
  | .letr s => .lst [.str "letter", lI s]
  | .nt m => .lst [.str "not", lM m]
  | .an a b => .lst [.str "and", lM a, lM b]
  | .ro a b => .lst [.str "or", lM a, lM b]
  | .lt m => .lst [.str "later", lM m]
  | .ah m => .lst [.str "ahead", lM m]
def bL (xs : List Bool) : D := .lst (xs.map .bl)
def bT (xs : List Bool) : D := .tup (xs.map .bl)
def rowD (A B : List Bool) : D := .tup [bL A, bL B]
theorem dM_pur : ∀ m : Md, D.pur (dM m) = true
  | .yes => by simp [dM, D.pur, D.purs]
  | .letr s => by simp [dM, D.pur, D.purs]
  | .nt m => by simp [dM, D.pur, D.purs, dM_pur m]
  | .an a b => by simp [dM, D.pur, D.purs, dM_pur a, dM_pur b]
  | .ro a b => by simp [dM, D.pur, D.purs, dM_pur a, dM_pur b]
  | .lt m => by simp [dM, D.pur, D.purs, dM_pur m]
  | .ah m => by simp [dM, D.pur, D.purs, dM_pur m]
theorem zip_range {n : Nat} {f g : Nat → D} : zipD ((List.range n).map f) ((List.range n).map g) = (List.range n).map fun i => .tup [f i, g i] := by
  unfold zipD
  rw [List.zipWith_map, List.zipWith_self]
theorem zip_fsts {n : Nat} {f g : Nat → Bool} : zipD ((fsts f n).map D.bl) ((fsts g n).map D.bl) = (List.range n).map fun i => .tup [.bl (f i), .bl (g i)] := by
  unfold fsts
  rw [List.map_map, List.map_map]; exact zip_range
theorem blsOf_e : ∀ xs : List Bool, blsOf (xs.map D.bl) = some xs
  | [] => rfl
  | x :: xs => by simp only [List.map_cons, blsOf, blsOf_e xs]
@[simp] theorem b_any_b {xs : List Bool} : bAny [bL xs] = .ok (.bl (xs.any id)) := by
  unfold bL; simp only [bAny, blsOf_e]
@[simp] theorem b_any_l {xs : List Bool} : bAny [.lst (xs.map .bl)] = .ok (.bl (xs.any id)) := b_any_b
@[simp] theorem b_any_t {xs : List Bool} : bAny [bT xs] = .ok (.bl (xs.any id)) := by
  unfold bT; simp only [bAny, blsOf_e]
theorem mapO_all {α β : Type} {g : α → Option (Option β)} {f : α → β} {xs : List α} (h : ∀ x ∈ xs, g x = some (some (f x))) : mapO g xs = some (xs.map f) := by
  rw [mapO_congr rfl h]; exact mapO_some
theorem mapO_fil {α β : Type} {g : α → Option (Option β)} {f : α → β} {p : α → Bool} {xs : List α} (h : ∀ x ∈ xs, g x = if p x = true then some (some (f x)) else some none) : mapO g xs = some ((xs.filter p).map f) := by
  rw [mapO_congr rfl h, mapO_if]
  congr 2
  exact List.filter_congr fun x _ => by cases p x <;> rfl
/-- a comprehension, item by item -/
theorem lc_all {α : Type} {vs : List Nat} {t : Tg} {e : Ev} {it : Lv} {sl sl1 : Sl} [PE1 e] {ys : List α} {g f : α → D} (ht : tgIn t vs = true) (hi : it sl = .ok (ys.map g) sl1) (hn : noOwn sl1 vs = true) (h : ∀ y ∈ ys, lcO t cYes e (wipeD sl1 vs) (g y) = some (some (f y))) : dLc vs t cYes e it sl = .ok (ys.map f) sl1 := by
  rw [ev_dLc ht, hi, ev_bind_ok, if_pos hn, mapO_map, mapO_all h]; rfl
theorem lc_fil {α : Type} {vs : List Nat} {t : Tg} {c : Sl → R Bool} {e : Ev} {it : Lv} {sl sl1 : Sl} [PB1 c] [PE1 e] {ys : List α} {g f : α → D} {p : α → Bool} (ht : tgIn t vs = true) (hi : it sl = .ok (ys.map g) sl1) (hn : noOwn sl1 vs = true) (h : ∀ y ∈ ys, lcO t c e (wipeD sl1 vs) (g y) = if p y = true then some (some (f y)) else some none) : dLc vs t c e it sl = .ok ((ys.filter p).map f) sl1 := by
  rw [ev_dLc ht, hi, ev_bind_ok, if_pos hn, mapO_map, mapO_fil h]; rfl
theorem all_bls {α : Type} {xs : List α} {p : α → Bool} : bAll [.lst (xs.map fun x => D.bl (p x))] = .ok (.bl (xs.all p)) := b_all_map
theorem eq_tnil {x : D} {xs : List D} (h : D.purs (x :: xs) = true) : dEq (.tup (x :: xs)) (.tup []) = .ok (.bl false) := by
  unfold dEq shallow
  have h1 : D.pur (.tup (x :: xs)) = true := by simp only [D.pur]; exact h
  have h2 : D.pur (.tup []) = true := rfl
  have h3 : D.depth (.tup []) = 1 := rfl
  rw [h1, h2, h3, if_pos (by simp only [Bool.and_true, decide_eq_true_eq]; exact Nat.le_trans (Nat.min_le_right _ _) (by decide))]
  simp only [D.eqv, D.eqvs]
theorem ne_lnil {x : D} {xs : List D} (h : D.purs (x :: xs) = true) : dNe (.lst (x :: xs)) (.lst []) = .ok (.bl true) := by
  unfold dNe shallow
  have h1 : D.pur (.lst (x :: xs)) = true := by simp only [D.pur]; exact h
  have h2 : D.pur (.lst []) = true := rfl
  have h3 : D.depth (.lst []) = 1 := rfl
  rw [h1, h2, h3, if_pos (by simp only [Bool.and_true, decide_eq_true_eq]; exact Nat.le_trans (Nat.min_le_right _ _) (by decide))]
  simp only [D.eqv, D.eqvs]; rfl
theorem ne_lnil0 : dNe (.lst []) (.lst []) = .ok (.bl false) := rfl
theorem ev_dMut {i : Nat} {f : List D → List D → Re (D × List D)} {r : Evs} {sl : Sl} : dMut i f r sl = if isM sl i = true then (r sl).bind fun xs sl1 => mutEnd i f (asVs xs) sl1 else .bad := rfl
theorem ev_dMutL {i : Nat} {f : List D → List D → Re (D × List D)} {r : Evs} {sl : Sl} : dMutL i f r sl = if isM sl i = true then (r sl).bind fun xs sl1 => mutEnd i f (getAll sl1 xs) sl1 else .bad := rfl
theorem ev_mutEnd {i : Nat} {f : List D → List D → Re (D × List D)} {ds ys ys' : List D} {z : D} {sl : Sl} (h : sl[i]? = some (some (.m ys))) (hf : f ys ds = .ok (z, ys')) : mutEnd i f (some ds) sl = .ok (.v z) (sl.set i (some (.m ys'))) := by
  unfold mutEnd; rw [h]; dsimp only; rw [hf]
theorem mut_ok {i : Nat} {f : List D → List D → Re (D × List D)} {r : Evs} {sl sl1 : Sl} {ss : List S} {ds ys ys' : List D} {z : D} (hm : isM sl i = true) (hr : r sl = .ok ss sl1) (ha : asVs ss = some ds) (h : sl1[i]? = some (some (.m ys))) (hf : f ys ds = .ok (z, ys')) : dMut i f r sl = .ok (.v z) (sl1.set i (some (.m ys'))) := by
  rw [ev_dMut, hm, if_pos rfl, hr, ev_bind_ok, ha]; exact ev_mutEnd h hf
theorem mutL_ok {i : Nat} {f : List D → List D → Re (D × List D)} {r : Evs} {sl sl1 : Sl} {ss : List S} {ds ys ys' : List D} {z : D} (hm : isM sl i = true) (hr : r sl = .ok ss sl1) (ha : getAll sl1 ss = some ds) (h : sl1[i]? = some (some (.m ys))) (hf : f ys ds = .ok (z, ys')) : dMutL i f r sl = .ok (.v z) (sl1.set i (some (.m ys'))) := by
  rw [ev_dMutL, hm, if_pos rfl, hr, ev_bind_ok, ha]; exact ev_mutEnd h hf
theorem pop_end {xs : List D} {d : D} : mPop (xs ++ [d]) [] = .ok (d, xs) := by
  have e : (xs ++ [d])[(xs ++ [d]).length - 1]? = some d := by
    rw [List.length_append, List.length_singleton, Nat.add_sub_cancel, List.getElem?_append_right (Nat.le_refl _), Nat.sub_self]; rfl
  show (match (xs ++ [d])[(xs ++ [d]).length - 1]? with | some d' => Re.ok (d', (xs ++ [d]).dropLast) | none => Re.bad) = _
  rw [e, List.dropLast_concat]
theorem ext_end {xs ys : List D} (h : fits (xs.length + ys.length) = true) : mExtend xs [.lst ys] = .ok (.non, xs ++ ys) := by
  simp only [mExtend, h, if_true]
theorem app_end {xs : List D} {d : D} (h : xs.length < 1000) : mAppend xs [d] = .ok (.non, xs ++ [d]) := by
  simp only [mAppend, L2.small1000 (Nat.le_of_lt h), if_true]
theorem if_no {c : Ev} {m1 m2 : Sm} {sl : Sl} (h : dB c sl = .ok false sl) : mSeq (mIf c m1 mNil) m2 sl = m2 sl := by
  rw [ev_mSeq, ev_mIf, h, ev_to_ok, if_neg (by decide), ev_mNil, ev_seq_nx]
theorem if_yes {c : Ev} {m1 m2 : Sm} {sl : Sl} {s : S} {sl1 : Sl} (h : dB c sl = .ok true sl) (h1 : m1 sl = .rt s sl1) : mSeq (mIf c m1 mNil) m2 sl = .rt s sl1 := by
  rw [ev_mSeq, ev_mIf, h, ev_to_ok, if_pos rfl, h1, ev_seq_rt]
theorem if_on {c : Ev} {m1 m2 : Sm} {sl sl1 : Sl} (h : dB c sl = .ok true sl) (h1 : m1 sl = .nx sl1) : mSeq (mIf c m1 mNil) m2 sl = m2 sl1 := by
  rw [ev_mSeq, ev_mIf, h, ev_to_ok, if_pos rfl, h1, ev_seq_nx]
theorem if_go {c : Ev} {m1 m2 : Sm} {sl : Sl} (h : dB c sl = .ok true sl) : mIf c m1 m2 sl = m1 sl := by
  rw [ev_mIf, h, ev_to_ok, if_pos rfl]
theorem if_el {c : Ev} {m1 m2 : Sm} {sl : Sl} (h : dB c sl = .ok false sl) : mIf c m1 m2 sl = m2 sl := by
  rw [ev_mIf, h, ev_to_ok, if_neg (by decide)]
theorem wordB {f : D → D → Re D} {i : Nat} {u w : D} {b : Bool} {sl : Sl} (h : sl[i]? = some (some (.v u))) (e : f u w = .ok (.bl b)) : dB (dBin f (dVar i) (dC w)) sl = .ok b sl := by
  rw [ev_dB, ev_dBin, ev_dVar, h]
  dsimp only
  rw [ev_bind_ok, ev_dC, ev_bind_ok, ev_two e, ev_bind_ok, ev_asB]
theorem seq_nx {m1 m2 : Sm} {sl sl1 : Sl} (h : m1 sl = .nx sl1) : mSeq m1 m2 sl = m2 sl1 := by rw [ev_mSeq, h, ev_seq_nx]
theorem ret_ok {e : Ev} {sl sl1 : Sl} {d : D} (h : e sl = .ok (.v d) sl1) : mRet e sl = .rt (.v d) sl1 := by rw [ev_mRet, h, ev_to_ok]
theorem set_ok {i : Nat} {e : Ev} {sl sl1 : Sl} {d : D} (h : e sl = .ok (.v d) sl1) : mSet i e sl = .nx (sl1.set i (some (.v d))) := by rw [ev_mSet, h, ev_to_ok]; rfl
theorem tup2_ok {p q : Ev} {sl : Sl} {x y : D} (hp : p sl = .ok (.v x) sl) (hq : q sl = .ok (.v y) sl) : dTup (dCons p (dCons q dNil)) sl = .ok (.v (.tup [x, y])) sl := by
  rw [ev_dTup, ev_dCons, hp, ev_bind_ok, ev_dCons, hq, ev_bind_ok, ev_dNil, ev_bind_ok, ev_bind_ok, ev_bind_ok]
  rfl
theorem dL_ok {l : Lv} {sl sl1 : Sl} {ds : List D} (h : l sl = .ok ds sl1) : dL l sl = .ok (.v (.lst ds)) sl1 := by rw [ev_dL, h, ev_bind_ok]
theorem call1_ok {f : List D → Re D} {p : Ev} {sl : Sl} {x z : D} (hp : p sl = .ok (.v x) sl) (h : f [x] = .ok z) : dCall 1 f (dCons p dNil) sl = .ok (.v z) sl := by
  simp only [ev_dCall, ev_dCons, hp, ev_bind_ok, ev_dNil, ev_asVs1, ev_asVs0, ev_ari, List.length_cons, List.length_nil, h]; rfl
theorem call2_ok {f : List D → Re D} {p q : Ev} {sl : Sl} {x y z : D} (hp : p sl = .ok (.v x) sl) (hq : q sl = .ok (.v y) sl) (h : f [x, y] = .ok z) : dCall 2 f (dCons p (dCons q dNil)) sl = .ok (.v z) sl := by
  simp only [ev_dCall, ev_dCons, hp, hq, ev_bind_ok, ev_dNil, ev_asVs1, ev_asVs0, ev_ari, List.length_cons, List.length_nil, h]; rfl
theorem call3_ok {f : List D → Re D} {p q r : Ev} {sl : Sl} {x y z w : D} (hp : p sl = .ok (.v x) sl) (hq : q sl = .ok (.v y) sl) (hr : r sl = .ok (.v z) sl) (h : f [x, y, z] = .ok w) : dCall 3 f (dCons p (dCons q (dCons r dNil))) sl = .ok (.v w) sl := by
  simp only [ev_dCall, ev_dCons, hp, hq, hr, ev_bind_ok, ev_dNil, ev_asVs1, ev_asVs0, ev_ari, List.length_cons, List.length_nil, h]; rfl
theorem bin_ok {f : D → D → Re D} {p q : Ev} {sl : Sl} {x y z : D} (hp : p sl = .ok (.v x) sl) (hq : q sl = .ok (.v y) sl) (h : f x y = .ok z) : dBin f p q sl = .ok (.v z) sl := by
  rw [ev_dBin, hp, ev_bind_ok, hq, ev_bind_ok, ev_two h]
theorem cb1_ok {f : List D → Re D} {p : Ev} {sl : Sl} {x z : D} (hp : p sl = .ok (.v x) sl) (h : f [x] = .ok z) : dCB f (dCons p dNil) sl = .ok (.v z) sl := by
  simp only [ev_dCB, ev_dCons, hp, ev_bind_ok, ev_dNil, ev_getAll1, ev_getAll0, h]
theorem var_ok {i : Nat} {sl : Sl} {d : D} (h : sl[i]? = some (some (.v d))) : dVar i sl = .ok (.v d) sl := by rw [ev_dVar, h]
theorem c_ok {d : D} {sl : Sl} : dC d sl = .ok (.v d) sl := rfl
theorem run_rt {m : Sm} {sl sl1 : Sl} {d : D} (h : m sl = .rt (.v d) sl1) : fin (m sl) = .ok d := by rw [h]; rfl
theorem binL_ok {f : D → D → Re (List D)} {p q : Ev} {sl : Sl} {x y : D} {zs : List D} (hp : p sl = .ok (.v x) sl) (hq : q sl = .ok (.v y) sl) (h : f x y = .ok zs) : dBinL f p q sl = .ok zs sl := by
  unfold dBinL
  rw [hp, ev_bind_ok, hq, ev_bind_ok]
  simp only [getS, h]
theorem items0_ok {sl : Sl} : dItems dNil sl = .ok [] sl := by simp
theorem items1_ok {p : Ev} {sl : Sl} {x : D} (hp : p sl = .ok (.v x) sl) : dItems (dCons p dNil) sl = .ok [x] sl := by simp [hp]
theorem inC2 (x y : D) {sl : Sl} : dTup (dCons (dC x) (dCons (dC y) dNil)) sl = .ok (.v (.tup [x, y])) sl := tup2_ok c_ok c_ok
theorem if_pick {c p q : Ev} {sl : Sl} {b : Bool} {d : D} (h : dB c sl = .ok b sl) (h1 : b = true → p sl = .ok (.v d) sl) (h2 : b = false → q sl = .ok (.v d) sl) : dIf c p q sl = .ok (.v d) sl := by
  rw [ev_dIf]
  have : ((c sl).bind asB) = .ok b sl := h
  rw [this, ev_bind_ok]
  cases b
  · rw [if_neg (by decide)]; exact h2 rfl
  · rw [if_pos rfl]; exact h1 rfl
theorem par2_ok {i j : Nat} {p q : Ev} {sl : Sl} {x y : D} (hp : p sl = .ok (.v x) sl) (hq : q sl = .ok (.v y) sl) : mPar [i, j] [.v p, .v q] sl = .nx ((sl.set j (some (.v y))).set i (some (.v x))) := by
  simp [evCs, evC, setAll, hp, hq]
theorem par3_ok {i j k : Nat} {p r : Ev} {q : Lv} {sl : Sl} {x z : D} {ys : List D} (hp : p sl = .ok (.v x) sl) (hq : q sl = .ok ys sl) (hr : r sl = .ok (.v z) sl) : mPar [i, j, k] [.v p, .l q, .v r] sl = .nx (((sl.set k (some (.v z))).set j (some (.m ys))).set i (some (.v x))) := by
  simp [evCs, evC, setAll, hp, hq, hr]
theorem for_ok {t : Tg} {it : Lv} {m : Sm} {sl sl1 : Sl} {ds : List D} {r : Fl} (hi : it sl = .ok ds sl1) (h : forL t m ds sl1 = r) : mFor t it m sl = r := by rw [ev_mFor, hi, ev_to_ok, h]
theorem iseq_ok {e : Ev} {sl sl1 : Sl} {ds : List D} (h : e sl = .ok (.v (.lst ds)) sl1) : iSeq e sl = .ok ds sl1 := by rw [ev_iSeq, h, ev_bind_ok]
theorem run_rtM {m : Sm} {sl sl1 : Sl} {i : Nat} {xs : List D} (h : m sl = .rt (.r i) sl1) (h2 : sl1[i]? = some (some (.m xs))) : fin (m sl) = .ok (.lst xs) := by
  rw [h]
  show (match retV sl1 (.r i) with | some d => Re.ok d | none => Re.bad) = _
  unfold retV; dsimp only; rw [h2]
theorem retM_ok {i : Nat} {sl : Sl} {xs : List D} (h : sl[i]? = some (some (.m xs))) : mRet (dVar i) sl = .rt (.r i) sl := by
  rw [ev_mRet, ev_dVar, h]; rfl
theorem eq_lnil {x : D} {xs : List D} (h : D.purs (x :: xs) = true) : dEq (.lst (x :: xs)) (.lst []) = .ok (.bl false) := by
  unfold dEq shallow
  have h1 : D.pur (.lst (x :: xs)) = true := by simp only [D.pur]; exact h
  have h2 : D.pur (.lst []) = true := rfl
  have h3 : D.depth (.lst []) = 1 := rfl
  rw [h1, h2, h3, if_pos (by simp only [Bool.and_true, decide_eq_true_eq]; exact Nat.le_trans (Nat.min_le_right _ _) (by decide))]
  simp only [D.eqv, D.eqvs]
end F

set_option Elab.async false
set_option linter.all false
set_option maxRecDepth 100000
set_option maxHeartbeats 4000000
/-! instances of the text's classes: what they hold, their methods -/
namespace F
open PySem PySem.Spec PyProof.Rows L2
structure CD (G : Glue) (c : Nat) : Prop where
  cls : Cls G.K (G.oC c)
  na : ∀ f ∈ G.oF c, NoAttr G.K (G.oC c) f
  nd : (G.oF c).Nodup
theorem look_at {f : Str} {v : V} : ∀ {fs : List (Str × V)} {i : Nat}, (fs.map (·.1)).Nodup → (fs.map (·.1))[i]? = some f → (fs.map (·.2))[i]? = some v → fs.lookup f = some v
  | [], _, _, h, _ => by simp at h
  | (g, u) :: fs, 0, _, h1, h2 => by
    simp only [List.map_cons, List.getElem?_cons_zero, Option.some.injEq] at h1 h2
    subst h1; subst h2
    simp [List.lookup]
  | (g, u) :: fs, i + 1, nd, h1, h2 => by
    simp only [List.map_cons, List.getElem?_cons_succ] at h1 h2
    rw [List.map_cons, List.nodup_cons] at nd
    have ne : f ≠ g := fun z => nd.1 (z ▸ List.mem_of_getElem? h1)
    have := look_at nd.2 h1 h2
    simp only [List.lookup]
    rw [show (f == g) = false from by simpa using ne]
    exact this
theorem look_no {m : Str} : ∀ {fs : List (Str × V)}, m ∉ fs.map (·.1) → fs.lookup m = none
  | [], _ => rfl
  | (g, u) :: fs, h => by
    simp only [List.map_cons, List.mem_cons, not_or] at h
    simp only [List.lookup]
    rw [show (m == g) = false from by simpa using h.1]
    exact look_no h.2
/-- a.f of an instance of class c, f its i-th attribute -/
def dFld (c i : Nat) (a : Ev) : Ev := fun sl => (a sl).bind fun x sl1 => match getS sl1 x with
  | some (.obj c' xs) => if c' = c then match xs[i]? with | some d => .ok (.v d) sl1 | none => .bad else .bad
  | _ => .bad
section
variable {G : Glue} {W : WX} {X : Cx} {a e : Expr} {es : List Expr} {da : Ev} {ds : Evs} {T : Act} {A : Nat → Option Addr} {sl : Sl} {σ : St} {H : Hp} {pos apos : Pos}
theorem fe_fld {c i : Nat} {f : Str} (hc : CD G c) (hf : (G.oF c)[i]? = some f) (ha : FE G W X a da) (hK : X.K = G.K := by rfl) (hb : attributeBase a f X.env (eval a X.env) = eval a X.env := by rfl) : FE G W X (.Attribute a f pos) (dFld c i da) := fun T =>
  PE.plus (pe_fld (ha T) hb) fun σ H Q z h hz => by
    obtain ⟨A, sl, s, p⟩ := h hz
    refine ⟨A, sl, s, PostG.bind p fun x sl1 v H1 ex s1 k1 r1 p1 => ?_⟩
    split at p1
    · rename_i c' xs e
      split at p1
      · rename_i hcc
        subst hcc
        split at p1
        · rename_i d hd
          obtain ⟨p, dx, fs, rfl, e1, e2, e3⟩ := (Rl.of s1 r1 e).obj
          obtain ⟨u, hu, ru⟩ := e3.getD hd
          exact ⟨p, _, dx, fs, u, rfl, e1, hK ▸ hc.cls, hK ▸ hc.na f (List.mem_of_getElem? hf), look_at (by rw [e2]; exact hc.nd) (by rw [e2]; exact hf) hu, end_E s1 p1 (Same.refl _) ru⟩
        · exact p1.elim
      · exact p1.elim
    · exact p1.elim
end
section
variable {X : Cx} {k : Nat} {g C : Addr} {fd : FuncData} {ps : List Str} {sp : Sp} {E : St → XK} {x m : Str} {p pos apos : Pos} {e o : Expr} {es : List Expr} {ta : TE} {t : TA}
/-- o.m(..) of an instance, what comes out told by the slots -/
def tMetS (C : Addr) (m : Str) (sp : Sp) (E : St → XK) (ta : TE) (t : TA) : TE := fun σ H Q => ta σ H fun x H1 => ∃ a dx fs, x = .ref a ∧ H1 a = some (.ins C dx fs) ∧ fs.lookup m = none ∧ t σ H1 fun vs H2 => sp (x :: vs) H2 Q (E σ)
theorem pe_metS {CX : CXT} {pl : Sem Bool} (he : PE X o ta) (c : Cls X.K C) (hm : Meth X.K C m g) (Fo : FnOk X.prog X.w X.K X.mg X.base CX k g fd ps sp) (hr : Room k X.A) (hb : Binds X.K fd ps []) (hx : ∀ σ, PassesAt CX X σ (E σ)) (ha : PA X (e :: es) t)
    (hst : starEach (e :: es) X.env = (false, eval e X.env) :: starEach es X.env := by rfl) (hpl : (backTo pos (starEach es X.env)).any (·.1) = false := by rfl)
    (ht : eval (.Call (.Attribute o m apos) (e :: es) [] pos) X.env = (do
      let ov ← eval o X.env
      standAt apos.atName
      let (f, first) ← holding [ov] (getMethod ov m pl)
      callWith pos f first (backTo pos (starEach (e :: es) X.env)) (backToKw pos (keywordEach [] X.env))) := by rfl) :
    PE X (.Call (.Attribute o m apos) (e :: es) [] pos) (tMetS C m sp E ta t) := ⟨fun pins s σ H Q I h => by
  refine PySem.W.methodCall_KW (pl := pl) (thn (he.run pins s σ H _ I h) fun u s1 ⟨y, H1, J, rx, a, dx, fs, ey, ea, l, q⟩ => ?_) ht
  subst ey
  cases (show u = Value.ref a from rx)
  refine getmeth_ok J ea c hm l ?_
  refine PySem.W.callWith_K (first := [.ref a]) (h₀ := X.base) J.ok.mod.kin hm.kp (thn (ha.run pos pins s1 σ H1 _ J q) fun us s2 ⟨vs, H2, J2, r, q2⟩ => ⟨J2.kIn, ?_⟩) hst hpl
  exact run_fnS (us := .ref a :: us) (vs := .ref a :: vs) Fo hr hb (hx σ) J2 (.cons rfl r) q2⟩
/-- C(..): a new instance, what comes out told by the slots -/
def tMkS (C : Addr) (sp : Sp) (E : St → XK) (t : TA) : TE := fun σ H Q => t σ H fun vs H1 => ∀ x dx, H1 x = none → H1 dx = none → dx ≠ x → sp (.ref x :: vs) (upd (upd H1 dx (.own x)) x (.ins C dx [])) (fun v H2 => v = .non ∧ Q (.ref x) H2) (fun c od H2 => E σ c od H2)
theorem run_mkS {CX : CXT} {pins : List (Addr × Obj)} {σ : St} {H : Hp} {s : Shared} {Q : VK} {us : List Value} {vs : List V} (M : Mk X.K C g) (Fo : FnOk X.prog X.w X.K X.mg X.base CX k g fd ps sp) (hr : Room (k + 1) X.A) (hb : Binds X.K fd ps [])
    (hx : ∀ σ, PassesAt CX X σ (E σ)) (I : Inv X pins σ H s) (r : Vals vs us)
    (h : ∀ x dx, H x = none → H dx = none → dx ≠ x → sp (.ref x :: vs) (upd (upd H dx (.own x)) x (.ins C dx [])) (fun v H2 => v = .non ∧ Q (.ref x) H2) (E σ)) :
    wpAny (model X.prog X.w) X.A (call (.ref C) us) (EP X pins σ Q) X.xe s := by
  have q := h (s.heap.objs.size + 1) s.heap.objs.size (I.hok.fresh (Nat.le_succ _)) (I.hok.fresh (Nat.le_refl _)) (Nat.ne_of_lt (Nat.lt_succ_self _))
  have J := Inv.made (C := C) I
  have r2 : Vals (V.ref (s.heap.objs.size + 1) :: vs) (Value.ref (s.heap.objs.size + 1) :: us) := .cons rfl r
  have hl : (Value.ref (s.heap.objs.size + 1) :: us).length = ps.length := by
    rw [← r2.length, Fo.len _ _ _ _ q]
  have b := hb _ (Value.ref (s.heap.objs.size + 1) :: us) J.kIn (by rw [List.append_nil]; exact hl)
  rw [List.append_nil] at b
  refine wpAny_call (make_map (f := g) I.kIn M.makes M.init (beq_iff_eq.mp M.fn) (codeAny_mono (Fo.run _ X.stack _ _ ⟨Value.ref (s.heap.objs.size + 1) :: us, []⟩ (Value.ref (s.heap.objs.size + 1) :: us) _ _ (E σ) (hr.make C us [])
    (J.env0.make C us []) b r2 q) fun r s' hq => ?_))
  cases r with
  | error e => exact hx σ pins _ _ e s' J hq
  | ok fl =>
    cases fl with
    | ret u =>
      obtain ⟨v, H', J3, rv, ev, q3⟩ := J.after hq
      subst ev
      exact ⟨rv, ⟨V.ref (s.heap.objs.size + 1), H', J3, rfl, q3⟩⟩
    | next => exact False.elim hq
    | brk => exact False.elim hq
    | cont => exact False.elim hq
theorem pe_mkS {CX : CXT} (M : Mk X.K C g) (Fo : FnOk X.prog X.w X.K X.mg X.base CX k g fd ps sp) (hr : Room (k + 1) X.A) (hg : Gl X x) (hm : X.mg x = some (.ref C)) (hb : Binds X.K fd ps []) (hx : ∀ σ, PassesAt CX X σ (E σ))
    (ha : PA X (e :: es) t) (hdb : (x == ("__debug__" : Str)) = false := by decide) (he : starEach (e :: es) X.env = (false, eval e X.env) :: starEach es X.env := by rfl) (hpl : (backTo pos (starEach es X.env)).any (·.1) = false := by rfl) :
    PE X (.Call (.Name x p) (e :: es) [] pos) (tMkS C sp E t) := ⟨fun pins s σ H Q I h => by
  refine wpAny_Call_Name_kw (ld_glob I hg hm ?_ hdb)
  refine PySem.W.callWith_K (h₀ := X.base) I.ok.mod.kin M.kp (thn (ha.run pos pins s σ H _ I h) fun us s1 ⟨vs, H1, J, r, q⟩ => ⟨J.kIn, ?_⟩) he hpl
  exact run_mkS M Fo hr hb hx J r q⟩
end
/-- a method of the text, with its promise -/
structure CalM (P : Program) (w : World) (K : PySem.W.Frag) (mg : Str → Option Value) (base : Heap) (k : Nat) (C : Addr) (m : Str) (ps : List Str) (sp : Sp) : Prop where
  ex : ∃ (f : Addr) (fd : FuncData), Meth K C m f ∧ Binds K fd ps [] ∧ FnOk P w K mg base (L2.CX P w) k f fd ps sp
theorem CalM.mono {P : Program} {w : World} {K : PySem.W.Frag} {mg : Str → Option Value} {base : Heap} {j k : Nat} {C : Addr} {m : Str} {ps : List Str} {sp : Sp} (c : CalM P w K mg base j C m ps sp) (h : j ≤ k) : CalM P w K mg base k C m ps sp := by
  obtain ⟨f, fd, h1, h2, h3⟩ := c.ex
  exact ⟨f, fd, h1, h2, h3.mono h⟩
/-- o.m(..) of an instance of class c -/
def dMeth (c n : Nat) (f : List D → Re D) (a : Ev) (r : Evs) : Ev := fun sl => (a sl).bind fun x sl1 => match x with
  | .v (.obj c' xs) => if c' = c then (r sl1).bind fun ss sl2 => match asVs ss with
    | some ds => match ari n f (.obj c xs :: ds) with
      | .ok z => .ok (.v z) sl2
      | .ex e => .ex e sl2
      | .bad => .bad
    | none => .bad
    else .bad
  | _ => .bad
section
variable {G : Glue} {W : WX} {X : Cx} {a e : Expr} {es : List Expr} {da : Ev} {ds : Evs} {T : Act} {A : Nat → Option Addr} {sl : Sl} {σ : St} {H : Hp} {pos apos : Pos} {k n : Nat} {ps : List Str}
theorem fe_mcall {c : Nat} {m : Str} {f : List D → Re D} (hc : CD G c) (hnm : m ∉ G.oF c) (cm : CalM X.prog X.w X.K X.mg X.base k (G.oC c) m ps (spP G n f)) (tk : Takes X W) (hr : Room k X.A) (ha : FE G W X a da) (hg : FA G W X (e :: es) ds) (hK : X.K = G.K := by rfl)
    (hst : starEach (e :: es) X.env = (false, eval e X.env) :: starEach es X.env := by rfl) (hpl : (backTo pos (starEach es X.env)).any (·.1) = false := by rfl) {pl : Sem Bool}
    (ht : eval (.Call (.Attribute a m apos) (e :: es) [] pos) X.env = (do
      let ov ← eval a X.env
      standAt apos.atName
      let (f, first) ← holding [ov] (getMethod ov m pl)
      callWith pos f first (backTo pos (starEach (e :: es) X.env)) (backToKw pos (keywordEach [] X.env))) := by rfl) :
    FE G W X (.Call (.Attribute a m apos) (e :: es) [] pos) (dMeth c n f da ds) := fun T => by
  obtain ⟨fa, fd, h1, h2, h3⟩ := cm.ex
  refine PE.plus (pe_metS (pl := pl) (ha T) (hK ▸ hc.cls) h1 h3 hr h2 (fun σ => passAt tk σ) (hg T) hst hpl ht) fun σ H Q z h hz => ?_
  obtain ⟨A, sl, s, p⟩ := h hz
  refine ⟨A, sl, s, PostG.bind p fun x sl1 v H1 ex s1 k1 r1 p1 => ?_⟩
  match x, r1, p1 with
  | .v (.obj c' xs), r1, p1 =>
    dsimp only at p1
    split at p1
    · rename_i hcc
      subst hcc
      have r1' : Rv G (T.N A) H1 (.obj c' xs) v := r1
      obtain ⟨q, dx, fs, rfl, e1, e2, e3⟩ := Rl.obj (.inl r1')
      refine ⟨q, dx, fs, rfl, e1, look_no (by rw [e2]; exact hnm), fun _ => ⟨A, sl1, s1, PostG.bind p1 fun ss sl2 vs H2 exs s2 k2 r2 p2 => ?_⟩⟩
      split at p2
      · rename_i ds' e'
        have rv := asVs_rv r2 e'
        have r0 : Rv G (T.N A) H2 (.obj c' xs) (.ref q) := Rs.keep (s := .v (.obj c' xs)) k2 r1
        cases hf : ari n f (.obj c' xs :: ds') with
        | ok d =>
          rw [hf] at p2
          obtain ⟨hn, hf⟩ := ari_ok hf (by simp)
          exact ⟨T.N A, _, s2.tracked, .cons r0 rv, hn, by rw [hf]; exact fun v H' sm rv' hz' => p2 v H' (s2.grown sm hz') (.same sm) rv'⟩
        | ex e =>
          rw [hf] at p2
          obtain ⟨hn, hf⟩ := ari_ok hf (by simp)
          exact ⟨T.N A, _, s2.tracked, .cons r0 rv, hn, by rw [hf]; exact fun c od H' sm hz' x => p2 c od H' (x.anti fun a h => .inl h) (s2.grown sm hz')⟩
        | bad => rw [hf] at p2; exact p2.elim
      · exact p2.elim
    · exact p1.elim
end
/-! ### __init__ -/
/-- what __init__ promises: the instance's attributes in their order -/
def spI (G : Glue) (c n : Nat) (f : List D → Re (List D)) : Sp := fun vs H Q E => ∃ (N : Addr → Prop) (x dx : Addr) (ds : List D) (rest : List V), vs = .ref x :: rest ∧ N x ∧ (∀ p, N p → ∃ o, H p = some o) ∧ H x = some (.ins (G.oC c) dx []) ∧ Rvs G N H ds rest ∧ ds.length + 1 = n ∧
  match f ds with
  | .ok zs => ∀ H' dx' fs, (∀ b o, b ≠ x → H b = some o → H' b = some o) → H' x = some (.ins (G.oC c) dx' fs) → fs.map (·.1) = G.oF c → Rvs G N H' zs (fs.map (·.2)) → Q .non H'
  | .ex e => ∀ cl od H', (∀ b o, b ≠ x → H b = some o → H' b = some o) → HSz H' → ExR G N H' e cl od → E cl od H'
  | .bad => False
theorem spI.len {G : Glue} {c n : Nat} {f : List D → Re (List D)} {vs : List V} {H : Hp} {Q : VK} {E : XK} (h : spI G c n f vs H Q E) : vs.length = n := by
  obtain ⟨N, x, dx, ds, rest, rfl, _, _, _, r, e, _⟩ := h
  rw [List.length_cons, ← r.length]; exact e
def initI (n c : Nat) (ds : List D) : Sl := some (.o c []) :: (ds.map (fun d => some (Sv.v d)) ++ List.replicate (n - (ds.length + 1)) none)
theorem initI_get {n c : Nat} {ds : List D} {i : Nat} {x : Sv} (h : (initI n c ds)[i]? = some (some x)) : (i = 0 ∧ x = .o c []) ∨ ∃ j d, i = j + 1 ∧ ds[j]? = some d ∧ x = .v d := by
  unfold initI at h
  cases i with
  | zero => simp at h; exact .inl ⟨rfl, h.symm⟩
  | succ j =>
    rw [List.getElem?_cons_succ] at h
    by_cases hj : j < ds.length
    · rw [List.getElem?_append_left (by simpa using hj), List.getElem?_map] at h
      cases e : ds[j]? with
      | none => rw [e] at h; cases h
      | some d => rw [e] at h; cases h; exact .inr ⟨j, d, rfl, e, rfl⟩
    · rw [List.getElem?_append_right (by simpa using hj), List.getElem?_replicate] at h
      split at h <;> cases h
theorem sr_startI {G : Glue} {N : List Str} {N0 : Addr → Prop} {a dx : Addr} {c : Nat} {ds : List D} {rest : List V} {H : Hp} (na : N0 a) (tr : ∀ p, N0 p → ∃ o, H p = some o) (hb : H a = some (.ins (G.oC c) dx [])) (r : Rvs G N0 H ds rest) (z : HSz H) :
    Sr G ⟨N0, H, some a, []⟩ (fun j => if j = 0 then some a else none) (initI N.length c ds) (L2.start N (.ref a :: rest)) H := by
  have hN : ∀ b, Act.N ⟨N0, H, some a, []⟩ (fun j => if j = 0 then some a else none) b → N0 b := fun b h => by
    rcases h with h | ⟨i, h⟩
    · exact h
    · dsimp only at h
      split at h <;> cases h
      exact na
  have hA : ∀ {i : Nat} {b : Addr}, (if i = 0 then some a else none) = some b → i = 0 ∧ b = a := fun {i b} h => by
    split at h <;> cases h
    exact ⟨by assumption, rfl⟩
  refine ⟨fun i d e => ?_, fun i xs e => ?_, ?_, (fun i j b e1 e2 => by rw [(hA e1).1, (hA e2).1]), (fun i b e => ?_), (fun i b e => ?_), fun _ _ e _ => e, tr, (fun b e => ?_), (fun _ h => by cases h), z, fun i x e h => ?_⟩
  · rcases initI_get e with ⟨_, e1⟩ | ⟨j, d', rfl, e1, e2⟩
    · cases e1
    · cases e2
      obtain ⟨v, e3, e4⟩ := r.getD e1
      exact ⟨v, start_get (by simpa using e3), e4.anti hN⟩
  · rcases initI_get e with ⟨rfl, e1⟩ | ⟨j, d', rfl, e1, e2⟩
    · cases e1
    · cases e2
  · unfold initI L2.start
    simp [r.length]
  · obtain ⟨rfl, rfl⟩ := hA e
    exact .inr ⟨rfl, rfl, na⟩
  · obtain ⟨rfl, rfl⟩ := hA e
    exact ⟨_, hb, id⟩
  · cases e; exact if_pos rfl
  · rcases initI_get e with ⟨rfl, e1⟩ | ⟨j, d', rfl, e1, e2⟩
    · cases e1
      exact ⟨a, if_pos rfl, start_get (by simp), dx, [], hb, rfl, Nat.zero_le _, .nil⟩
    · cases e2; cases h
/-- the attributes, in order, once all of them (kf) are set -/
def runI (n c kf : Nat) (m : Sm) (ds : List D) : Re (List D) := match m (initI n c ds) with
  | .nx sl => match sl[0]? with
    | some (some (Sv.o c' zs)) => if c' = c ∧ zs.length = kf then .ok zs else .bad
    | some (some (Sv.od c' zs ks vs)) => if c' = c ∧ zs.length + 1 = kf then .ok (zs ++ [.dct ks vs]) else .bad
    | _ => .bad
  | .ex e _ => .ex e
  | _ => .bad
section
variable {G : Glue} {P : Program} {w : World} {mg : Str → Option Value} {base : Heap} {m : Sm}
theorem Rvs.app1 {N : Addr → Prop} {H : Hp} : ∀ {ds : List D} {vs : List V} {d : D} {v : V}, Rvs G N H ds vs → Rv G N H d v → Rvs G N H (ds ++ [d]) (vs ++ [v])
  | [], _, _, _, h, h2 => by cases h; exact .cons h2 .nil
  | _ :: _, _, _, _, h, h2 => by
    cases h with
    | cons h1 h3 => exact .cons h1 (Rvs.app1 h3 h2)
theorem fn_init {x qual : Str} {st : Stmt} {f : Addr} {fd : FuncData} {N ps : List Str} {k n c kf : Nat} (hkf : (G.oF c).length = kf) (Fu : Fun G.K x qual st f fd) (S : FnScope N ps (defScope st)) (hn : ps.length = n)
    (hbody : ∀ (cdv : Value) (A : Around) (outer : List Env) (s : Shared) (H : Hp) (E : XK), Room k (A.deeper (envOfC qual (defScope st) s.heap.objs.size f cdv)) →
      Takes (cxOf (L2.CX P w) P w G.K mg base N qual (defScope st) f cdv A outer s H E) (wOf E) →
      FSs G (wOf E) (cxOf (L2.CX P w) P w G.K mg base N qual (defScope st) f cdv A outer s H E) (defBody st) m) : FnOk P w G.K mg base (L2.CX P w) (k + 1) f fd ps (spI G c n (runI N.length c kf m)) := by
  refine Fu.okX S (fun vs H Q E h => by rw [h.len, hn]) fun cdv A outer s H vs Q E hr h => ?_
  obtain ⟨N0, a, dx, ds, rest, rfl, na, tr, hb, r, hl, h⟩ := h
  refine ⟨_, hbody cdv A outer s H E hr (takes_of rfl rfl rfl rfl) ⟨N0, H, some a, []⟩, fun hz => ⟨_, _, sr_startI na tr hb r hz, ?_⟩⟩
  have kb : ∀ {A' : Nat → Option Addr} {sl : Sl} {σ' : St} {H' : Hp}, Sr G ⟨N0, H, some a, []⟩ A' sl σ' H' → ∀ b o, b ≠ a → H b = some o → H' b = some o := fun s' b o ne e => s'.kept b o e fun q => ne (by cases q; rfl)
  unfold runI at h
  cases hm : m (initI N.length c ds) with
  | nx sl =>
    rw [hm] at h
    dsimp only at h
    intro A' σ' H' s'
    split at h
    · rename_i zs hd
      split at hd
      · rename_i c' zs' he
        split at hd
        · rename_i hc
          obtain ⟨rfl, hc⟩ := hc
          cases hd
          obtain ⟨b, h1, _, dx', fs, h2, h3, h4, h5⟩ := s'.mx 0 _ he rfl
          have e5 := s'.iot a rfl
          rw [h1] at e5; cases e5
          exact h H' dx' fs (kb s') h2 (by rw [h3, hc, ← hkf, List.take_length]) (h5.anti fun _ z => .inl z)
        · cases hd
      · rename_i c' zs' ks us he
        split at hd
        · rename_i hc
          obtain ⟨rfl, hc⟩ := hc
          cases hd
          obtain ⟨b, h1, _, dx', fs, g, q, h2, h3, h4, h5, h6, h7⟩ := s'.mx 0 _ he rfl
          have e5 := s'.iot a rfl
          rw [h1] at e5; cases e5
          have nq : ¬ N0 q := by
            rcases s'.own _ q h6 with ⟨_, z, _⟩ | ⟨_, z, _⟩
            · exact z
            · cases z
          refine h H' dx' _ (kb s') h2 ?_ ?_
          · rw [List.map_append, h3]
            have : (G.oF c').take (zs'.length + 1) = (G.oF c').take zs'.length ++ [g] := by
              rw [List.take_add_one, h4]; rfl
            rw [hc, ← hkf, List.take_length] at this
            exact this.symm
          · rw [List.map_append]
            exact Rvs.app1 (h5.anti fun _ z => .inl z) ((h7.imp (fun _ e => e) fun _ _ e => e.anti fun _ z => .inl z).rv nq)
        · cases hd
      · cases hd
    · rename_i hd
      split at hd <;> try (split at hd) <;> cases hd
      all_goals cases hd
    · exact h.elim
  | ex e sl =>
    rw [hm] at h
    exact fun A' σ' H' cl od x s' => h cl od H' (kb s') s'.sz x
  | rt x sl => rw [hm] at h; exact h.elim
  | bk sl => rw [hm] at h; exact h.elim
  | ct sl => rw [hm] at h; exact h.elim
  | bad => rw [hm] at h; exact h.elim
end
/-- a class of the text, with what its __init__ promises -/
structure CalI (P : Program) (w : World) (K : PySem.W.Frag) (mg : Str → Option Value) (base : Heap) (k : Nat) (C : Addr) (x : Str) (ps : List Str) (sp : Sp) : Prop where
  ex : ∃ (f : Addr) (fd : FuncData), mg x = some (.ref C) ∧ Mk K C f ∧ Binds K fd ps [] ∧ FnOk P w K mg base (L2.CX P w) k f fd ps sp
theorem CalI.mono {P : Program} {w : World} {K : PySem.W.Frag} {mg : Str → Option Value} {base : Heap} {j k : Nat} {C : Addr} {x : Str} {ps : List Str} {sp : Sp} (c : CalI P w K mg base j C x ps sp) (h : j ≤ k) : CalI P w K mg base k C x ps sp := by
  obtain ⟨f, fd, h0, h1, h2, h3⟩ := c.ex
  exact ⟨f, fd, h0, h1, h2, h3.mono h⟩
/-- C(..) -/
def dMake (c n : Nat) (f : List D → Re (List D)) (r : Evs) : Ev := fun sl => (r sl).bind fun ss sl1 => match asVs ss with
  | some ds => if ds.length + 1 = n then match f ds with
    | .ok zs => .ok (.v (.obj c zs)) sl1
    | .ex e => .ex e sl1
    | .bad => .bad
    else .bad
  | none => .bad
section
variable {G : Glue} {W : WX} {X : Cx} {a e : Expr} {es : List Expr} {da : Ev} {ds : Evs} {T : Act} {A : Nat → Option Addr} {sl : Sl} {σ : St} {H : Hp} {pos p : Pos} {k n : Nat} {ps : List Str}
theorem fe_make {c : Nat} {x : Str} {f : List D → Re (List D)} (cm : CalI X.prog X.w X.K X.mg X.base k (G.oC c) x ps (spI G c n f)) (tk : Takes X W) (hr : Room (k + 1) X.A) (hg : FA G W X (e :: es) ds) (hgl : Gl X x := by rfl)
    (hdb : (x == ("__debug__" : Str)) = false := by decide) (he : starEach (e :: es) X.env = (false, eval e X.env) :: starEach es X.env := by rfl) (hpl : (backTo pos (starEach es X.env)).any (·.1) = false := by rfl) :
    FE G W X (.Call (.Name x p) (e :: es) [] pos) (dMake c n f ds) := fun T => by
  obtain ⟨fa, fd, h0, h1, h2, h3⟩ := cm.ex
  refine PE.plus (pe_mkS h1 h3 hr hgl h0 h2 (fun σ => passAt tk σ) (hg T) hdb he hpl) fun σ H Q z h hz => ?_
  obtain ⟨A, sl, s, q⟩ := h hz
  refine ⟨A, sl, s, PostG.bind q fun ss sl1 vs H1 exs s1 k1 r1 p1 => fun x dx hx hdx ne => ?_⟩
  have sm : Same H1 (upd (upd H1 dx (.own x)) x (.ins (G.oC c) dx [])) := fun b o eb => by
    rw [upd_ne (fun z => by rw [z, hx] at eb; cases eb), upd_ne (fun z => by rw [z, hdx] at eb; cases eb)]; exact eb
  split at p1
  · rename_i ds' e'
    split at p1
    · rename_i hn
      have rv := asVs_rv r1 e'
      have rv2 : Rvs G (fun b => T.N A b ∨ b = x) (upd (upd H1 dx (.own x)) x (.ins (G.oC c) dx [])) ds' vs := Rvs.keep (O := fun _ => False) (.same sm) (fun _ z => z.elim) (rv.anti' fun b o eb z => z.resolve_right fun z => by rw [z, hx] at eb; cases eb)
      refine ⟨fun b => T.N A b ∨ b = x, x, dx, ds', vs, rfl, .inr rfl, fun b z => ?_, upd_same, rv2, hn, ?_⟩
      · rcases z with z | rfl
        · obtain ⟨o, eb⟩ := s1.tracked b z
          exact ⟨o, sm b o eb⟩
        · exact ⟨_, upd_same⟩
      · have sm2 : ∀ {H' : Hp}, (∀ b o, b ≠ x → upd (upd H1 dx (.own x)) x (.ins (G.oC c) dx []) b = some o → H' b = some o) → Same H1 H' := fun kb b o eb => kb b o (fun z => by rw [z, hx] at eb; cases eb) (sm b o eb)
        cases hf : f ds' with
        | ok zs =>
          rw [hf] at p1
          intro H' dx' fs kb hx' hfs rz
          refine ⟨rfl, fun hz' => p1 (.ref x) H' (s1.grown (sm2 kb) hz') (.same (sm2 kb)) (.obj hx' (s1.fresh hx) hfs (rz.anti fun _ z => .inl z))⟩
        | ex e =>
          rw [hf] at p1
          exact fun cl od H' kb hz' xr => p1 cl od H' (xr.anti fun _ z => .inl (.inl z)) (s1.grown (sm2 kb) hz')
        | bad => rw [hf] at p1; exact p1.elim
    · exact p1.elim
  · exact p1.elim
/-- self.f = e of the new instance, f its next attribute -/
def mFld (i c j : Nat) (da : Ev) : Sm := fun sl => (da sl).to fun x sl1 => match x, sl1[i]? with
  | .v d, some (some (.o c' xs)) => if c' = c ∧ xs.length = j ∧ sl1.length ≤ 1000 ∧ j < 900 then .nx (sl1.set i (some (.o c (xs ++ [d])))) else .bad
  | _, _ => .bad
theorem putF_new {f : Str} {v : V} : ∀ {fs : List (Str × V)}, f ∉ fs.map (·.1) → putF f v fs = fs ++ [(f, v)]
  | [], _ => rfl
  | (g, u) :: fs, h => by
    simp only [List.map_cons, List.mem_cons, not_or] at h
    show (if g = f then (g, v) :: fs else (g, u) :: putF f v fs) = _
    rw [if_neg (fun z => h.1 z.symm), putF_new h.2]; rfl
theorem fs_fld {i c j : Nat} {x f : Str} {p2 pos' : Pos} (hc : CD G c) (hf : (G.oF c)[j]? = some f) (hv : FE G W X a da) (hN : X.N[i]? = some x := by rfl) (hK : X.K = G.K := by rfl)
    (hvis : Vis X.env.scope x := by first | exact Or.inl rfl | exact Or.inr (Or.inl rfl) | exact Or.inr (Or.inr rfl)) (hd : (x == ("__debug__" : Str)) = false := by decide) (hcd : (x == ("__classdict__" : Str)) = false := by decide)
    (hs : swapsWith a (some (.Attribute (.Name x p2) f pos')) pos.line X.env = pure false := by rfl) : FS G W X (.Assign [.Attribute (.Name x p2) f pos'] a pos) (mFld i c j da) := fun T =>
  PS.plus (ps_fld (pe_var hN hvis hd hcd) (hv T) hs) fun D σ H z h hz => by
    obtain ⟨A, sl, s, p⟩ := h hz
    refine ⟨A, sl, s, to_post p fun x sl1 v H1 ex s1 k1 r1 p1 => ?_⟩
    split at p1
    · rename_i d c' xs e0
      split at p1
      · rename_i hcc
        obtain ⟨rfl, rfl, hl, hj⟩ := hcc
        obtain ⟨a0, g1, g2, dx, fs, g3, g4, g5, g6⟩ := s1.mx i _ e0 rfl
        have hlen : fs.length = xs.length := by rw [g6.length, List.length_map]
        have nin : f ∉ fs.map (·.1) := fun hm => by
          rw [g4] at hm
          obtain ⟨q, hq, e⟩ := List.getElem_of_mem hm
          rw [List.length_take] at hq
          rw [List.getElem_take] at e
          obtain ⟨hj2, e2⟩ := List.getElem?_eq_some_iff.mp hf
          have := (List.getElem_inj hc.nd).mp (e.trans e2.symm)
          omega
        refine ⟨_, g2, a0, _, dx, fs, rfl, g3, hK ▸ hc.cls, hK ▸ hc.na f (List.mem_of_getElem? hf), by omega, fun hz3 => ?_⟩
        rw [putF_new nin] at hz3 ⊢
        have kp : Keep (Own A) H1 (upd H1 a0 (.ins (G.oC c') dx (fs ++ [(f, v)]))) := Keep.upd g3 id ⟨i, g1⟩
        obtain ⟨s3, _⟩ := s1.writeO (i := i) (n := i) (c := a0) (x := .o c' (xs ++ [d])) (u := .ins (G.oC c') dx (fs ++ [(f, v)])) hl e0 rfl rfl (.inl rfl) g1 id hz3 fun a ha _ => by
          rw [g1] at ha; cases ha
          refine ⟨dx, _, upd_same, ?_, ?_, ?_⟩
          · rw [List.map_append, g4, List.length_append]
            show _ = (G.oF c').take (xs.length + 1)
            rw [List.take_add_one, hf]; rfl
          · rw [List.length_append]
            exact Nat.succ_le_of_lt (List.getElem?_eq_some_iff.mp hf).1
          · rw [List.map_append]
            exact Rvs.keep kp (fun _ z => .inr z) (Rvs.app1 g6 r1)
        exact p1 _ _ _ s3
      · exact p1.elim
    · exact p1.elim
/-- self.f of the new instance -/
def dFldO (i c j : Nat) : Ev := fun sl => match sl[i]? with
  | some (some (.o c' xs)) => if c' = c then match xs[j]? with | some d => .ok (.v d) sl | none => .bad else .bad
  | some (some (.od c' xs _ _)) => if c' = c then match xs[j]? with
    | some d => .ok (.v d) sl
    | none => if xs.length = j then .ok (.r (i + 1000)) sl else .bad
    else .bad
  | _ => .bad
theorem fe_fldO {i c j : Nat} {x f : Str} {p2 : Pos} (hc : CD G c) (hf : (G.oF c)[j]? = some f) (hN : X.N[i]? = some x := by rfl) (hK : X.K = G.K := by rfl)
    (hvis : Vis X.env.scope x := by first | exact Or.inl rfl | exact Or.inr (Or.inl rfl) | exact Or.inr (Or.inr rfl)) (hd : (x == ("__debug__" : Str)) = false := by decide) (hcd : (x == ("__classdict__" : Str)) = false := by decide)
    (hb : attributeBase (.Name x p2) f X.env (eval (.Name x p2) X.env) = eval (.Name x p2) X.env := by rfl) : FE G W X (.Attribute (.Name x p2) f pos) (dFldO i c j) := fun T =>
  PE.plus (pe_fld (pe_var hN hvis hd hcd) hb) fun σ H Q z h => by
    obtain ⟨A, sl, s, p⟩ := h z
    unfold dFldO at p
    split at p
    · rename_i c' xs e0
      split at p
      · rename_i hcc
        subst hcc
        split at p
        · rename_i d hdx
          obtain ⟨a0, g1, g2, dx, fs, g3, g4, g5, g6⟩ := s.mx i _ e0 rfl
          obtain ⟨u, hu, ru⟩ := g6.getD hdx
          have hj : j < xs.length := (List.getElem?_eq_some_iff.mp hdx).1
          have nd : (fs.map (·.1)).Nodup := by rw [g4]; exact List.Sublist.nodup (List.take_sublist _ _) hc.nd
          exact ⟨_, g2, a0, _, dx, fs, u, rfl, g3, hK ▸ hc.cls, hK ▸ hc.na f (List.mem_of_getElem? hf), look_at nd (by rw [g4, List.getElem?_take, if_pos hj]; exact hf) hu, end_E s p (Same.refl _) ru⟩
        · exact p.elim
      · exact p.elim
    · rename_i c' xs ks us e0
      split at p
      · rename_i hcc
        subst hcc
        split at p
        · rename_i d hdx
          obtain ⟨a0, g1, g2, dx, fs, g, b, g3, g4, g5, g6, g7, g8⟩ := s.mx i _ e0 rfl
          obtain ⟨u, hu, ru⟩ := g6.getD hdx
          have hj : j < xs.length := (List.getElem?_eq_some_iff.mp hdx).1
          have hl : fs.length = xs.length := by rw [g6.length, List.length_map]
          have keys : (fs ++ [(g, V.ref b)]).map (·.1) = (G.oF c').take (xs.length + 1) := by
            rw [List.map_append, g4, List.take_add_one, g5]; rfl
          have nd : ((fs ++ [(g, V.ref b)]).map (·.1)).Nodup := by rw [keys]; exact List.Sublist.nodup (List.take_sublist _ _) hc.nd
          exact ⟨_, g2, a0, _, dx, _, u, rfl, g3, hK ▸ hc.cls, hK ▸ hc.na f (List.mem_of_getElem? hf), look_at nd (by rw [keys, List.getElem?_take, if_pos (Nat.lt_succ_of_lt hj)]; exact hf) (by rw [List.map_append, List.getElem?_append_left (show j < (fs.map (·.2)).length by rw [List.length_map]; omega)]; exact hu), end_E s p (Same.refl _) ru⟩
        · split at p
          · rename_i hdx hj
            obtain ⟨a0, g1, g2, dx, fs, g, b, g3, g4, g5, g6, g7, g8⟩ := s.mx i _ e0 rfl
            have hl : fs.length = xs.length := by rw [g6.length, List.length_map]
            have keys : (fs ++ [(g, V.ref b)]).map (·.1) = (G.oF c').take (xs.length + 1) := by
              rw [List.map_append, g4, List.take_add_one, g5]; rfl
            have nd : ((fs ++ [(g, V.ref b)]).map (·.1)).Nodup := by rw [keys]; exact List.Sublist.nodup (List.take_sublist _ _) hc.nd
            subst hj
            exact ⟨_, g2, a0, _, dx, _, _, rfl, g3, hK ▸ hc.cls, hK ▸ hc.na f (List.mem_of_getElem? hf), look_at (i := xs.length) (v := V.ref b) nd (by rw [keys, List.getElem?_take, if_pos (Nat.lt_succ_self _)]; exact hf) (by rw [List.map_append, List.getElem?_append_right (by rw [List.length_map, hl]; exact Nat.le_refl _), List.length_map, hl, Nat.sub_self]; rfl), fun _ => p (.ref b) H s .refl ⟨b, g7, rfl⟩⟩
          · exact p.elim
      · exact p.elim
    · exact p.elim
end
end F
namespace F
open PySem PySem.Spec PyProof.Rows L2
theorem calM_mk {P : Program} {w : World} {K : PySem.W.Frag} {mg : Str → Option Value} {base : Heap} {k : Nat} {C : Addr} {m : Str} {ps : List Str} {sp : Sp} {f : Addr} {fd : FuncData} (a : PySem.W.findIn K (.ref C) m = some (some (.ref f))) (i : PySem.W.isFn K (.ref f) = true)
    (kp : PySem.W.keepIn K (.ref f) = true) (b : Binds K fd ps []) (ok : FnOk P w K mg base (L2.CX P w) k f fd ps sp) : CalM P w K mg base k C m ps sp := ⟨⟨f, fd, ⟨a, i, kp⟩, b, ok⟩⟩
theorem calI_mk {P : Program} {w : World} {K : PySem.W.Frag} {mg : Str → Option Value} {base h : Heap} {k : Nat} {C : Addr} {x : Str} {ps : List Str} {sp : Sp} {f : Addr} {fd : FuncData} (X : K.In h) (Gn : h.Ns mainGlobals mg) (g : PySem.W.nsIn K mainGlobals x = some (some (.ref C)))
    (mk : PySem.W.makesIn K C = true) (a : PySem.W.findIn K (.ref C) "__init__" = some (some (.ref f))) (i : PySem.W.isFn K (.ref f) = true) (kc : PySem.W.keepIn K (.ref C) = true) (b : Binds K fd ps []) (ok : FnOk P w K mg base (L2.CX P w) k f fd ps sp) : CalI P w K mg base k C x ps sp :=
  ⟨⟨f, fd, PySem.W.mg_of X Gn g, ⟨mk, a, i, kc⟩, b, ok⟩⟩
end F

set_option Elab.async false
set_option linter.all false
set_option maxRecDepth 100000
set_option maxHeartbeats 4000000
/-! sorted(xs) of alike data, nested too -/
namespace F
open PySem PySem.Spec PyProof.Rows L2 PySem.W
def leD (d e : D) : Bool := dataLe false toPy d e
def insD (d : D) : List D → List D
  | [] => [d]
  | e :: es => if leD d e = true then d :: e :: es else e :: insD d es
def sortD : List D → List D
  | [] => []
  | d :: ds => insD d (sortD ds)
theorem leD_tot : TotalLe leD := sortLe_total (listOrd itemOrd) false fun b => keyToks (toPy b)
theorem ins_split {d : D} : ∀ {l1 l2 : List D}, (∀ b ∈ l1, (!leD d b) = true) → (∀ b ∈ l2, leD d b = true) → insD d (l1 ++ l2) = l1 ++ d :: l2
  | [], [], _, _ => rfl
  | [], b :: l2, _, h => by
    show (if leD d b = true then _ else _) = _
    rw [if_pos (h b (by simp))]; rfl
  | a :: l1, l2, h1, h2 => by
    have ha := h1 a (by simp)
    rw [Bool.not_eq_true'] at ha
    show (if leD d a = true then _ else _) = _
    rw [if_neg (by rw [ha]; decide)]
    show a :: insD d (l1 ++ l2) = _
    rw [ins_split (fun b hb => h1 b (by simp [hb])) h2]; rfl
theorem sortD_merge : ∀ ds : List D, ds.mergeSort leD = sortD ds
  | [] => by simp [sortD]
  | d :: ds => by
    have tr := leD_tot.trans
    have tt : ∀ a b, (leD a b || leD b a) = true := fun a b => by rcases leD_tot.total a b with h | h <;> simp [h]
    obtain ⟨l1, l2, h1, h2, h3⟩ := List.mergeSort_cons tr tt d ds
    have sorted := List.pairwise_mergeSort tr tt (d :: ds)
    rw [h1] at sorted
    have h4 : ∀ b ∈ l2, leD d b = true := by
      have := (List.pairwise_append.mp sorted).2.1
      exact (List.pairwise_cons.mp this).1
    show _ = insD d (sortD ds)
    rw [← sortD_merge ds, h2, h1, ins_split h3 h4]
end F
namespace F
open PySem PySem.Spec PyProof.Rows L2 PySem.W
section
variable {X : Cx}
/-- sorted(xs): a new list -/
def rSortD (K : PySem.W.Frag) (un : Nat) : List V → Hp → VK → Prop := fun xs H Q => ∃ (a : Addr) (vs : List V) (ds : List D), xs = [.ref a] ∧ SqL K H a vs ∧ DpAll K H vs (ds.map toPy) ∧ AllAlike (ds.map toPy) ∧ Sortable (ds.map toPy) ∧ (∀ d ∈ ds, un + 2 + (toPy d).depth < cLine) ∧ vs.length ≤ sizeLine ∧
  ∀ q, H q = none → Q (.ref q) (upd H q (.lst (((vs.zip ds).mergeSort (dataLe false fun p => toPy p.2)).map (·.1))))
theorem dpAll_len {K : PySem.W.Frag} {H : Hp} : ∀ {vs : List V} {ds : List PyData}, DpAll K H vs ds → vs.length = ds.length
  | _, _, .nil => rfl
  | _, _, .cons _ h => by rw [List.length_cons, List.length_cons, dpAll_len h]
theorem each_pair {us : List Value} : ∀ {vs : List V} {ds : List D}, Vals vs us → vs.length = ds.length → EachIs (fun u (p : V × D) => RelV p.1 u) us (vs.zip ds) := by
  induction us with
  | nil =>
    intro vs ds h _
    cases h
    exact .nil
  | cons u us ih =>
    intro vs ds h hl
    cases h with
    | cons h1 h2 =>
      cases ds with
      | nil => simp at hl
      | cons d ds => exact .cons h1 (ih h2 (by simpa using hl))
theorem each_vals {us : List Value} {ps : List (V × D)} (h : EachIs (fun u (p : V × D) => RelV p.1 u) us ps) : Vals (ps.map (·.1)) us := by
  induction h with
  | nil => exact .nil
  | cons h1 _ ih => exact .cons h1 ih
theorem cr_sortD : CallR X (.builtin "sorted") (rSortD X.K X.A.units) := by
  intro pins s σ H xs us Q I r h
  obtain ⟨a, vs, ds, rfl, hs, hd, hal, hk, hu, hz, q⟩ := h
  obtain ⟨its, rv, hl, _⟩ := I.list hs
  rw [Vals.ref1 r]
  have hlen : vs.length = ds.length := by rw [dpAll_len hd, List.length_map]
  obtain ⟨as, hr⟩ := Dp.readsAll I (ds.map toPy) vs its hd rv
  have e1 := each_pair (ds := ds) rv hlen
  have zs : (vs.zip ds).map (fun p => toPy p.2) = ds.map toPy := by
    show (vs.zip ds).map (toPy ∘ Prod.snd) = _
    rw [← List.map_map, List.map_snd_zip (Nat.le_of_eq hlen.symm)]
  have er := readsAll_each (h := s.heap) (fun p : V × D => toPy p.2) (vs := its) (bs := vs.zip ds) (as := as) (by rw [zs]; exact hr)
  have zl : (vs.zip ds).length = vs.length := by rw [List.length_zip]; omega
  refine sorted_data (enc := fun p : V × D => toPy p.2) hl.isList e1 er (by rw [zs]; exact hal) (by rw [zs]; exact hk) (by rw [zl]; exact hz) (fun p hp => hu p.2 (List.of_mem_zip hp).2) fun out hol eo => ?_
  have ev := each_vals eo
  obtain ⟨ep, he⟩ := PyProof.Rows.sortedAll_at s.heap its out.toArray
  have ol : out.length ≤ sizeLine := by rw [hol, zl]; exact hz
  exact ⟨.ref _, upd H (s.heap.objs.size + 1) (.lst (((vs.zip ds).mergeSort (dataLe false fun p => toPy p.2)).map (·.1))), I.laid (t' := s.toks) (fun _ _ => PyProof.Rows.sortedAll_old) (Nat.le_succ _) ⟨by rw [ev.length]; exact ol, out, ep, ev, he⟩, rfl, q _ (I.hok.fresh (Nat.le_succ _))⟩
end
end F

set_option Elab.async false
set_option linter.all false
set_option maxRecDepth 100000
set_option maxHeartbeats 4000000
/-! data of which each two can be told apart by < : the first places that differ are of one kind -/
namespace F
open PySem PySem.Spec PyProof.Rows L2 PySem.W PySem.SeqAt
open AutoSeq1 (wpAny_loadPart')
open MeetsSeq MeetsSeq2 MeetsSeq3 SeqRoads2
mutual
def lax : PyData → PyData → Bool
  | .none, .none => true
  | .bool _, .bool _ => true
  | .int _, .int _ => true
  | .str _, .str _ => true
  | .tuple xs, .tuple ys => laxs xs ys
  | _, _ => false
def laxs : List PyData → List PyData → Bool
  | x :: xs, y :: ys => lax x y && (!PyData.eqv x y || laxs xs ys)
  | [], _ => true
  | _ :: _, [] => true
end
theorem laxs_cons {x y : PyData} {xs ys : List PyData} (h : laxs (x :: xs) (y :: ys) = true) : lax x y = true ∧ (PyData.eqv x y = true → laxs xs ys = true) := by
  rw [laxs, Bool.and_eq_true, Bool.or_eq_true, Bool.not_eq_true'] at h
  refine ⟨h.1, fun e => h.2.resolve_left fun z => ?_⟩
  rw [e] at z; cases z
mutual
theorem lax_toks : ∀ (x y : PyData), lax x y = true → (PyData.eqv x y = true → keyToks x = keyToks y) ∧ (PyData.eqv x y = false → ∀ l m, PyProof.Rows.lexLt itemOrd (keyToks x ++ l) (keyToks y ++ m) = PyProof.Rows.lexLt itemOrd (keyToks x) (keyToks y))
  | .none, y, h => by cases y <;> first | exact toks_eqv _ _ rfl | exact Bool.noConfusion (show false = true from h)
  | .bool a, y, h => by cases y <;> first | exact toks_eqv _ _ rfl | exact Bool.noConfusion (show false = true from h)
  | .int a, y, h => by cases y <;> first | exact toks_eqv _ _ rfl | exact Bool.noConfusion (show false = true from h)
  | .str a, y, h => by cases y <;> first | exact toks_eqv _ _ rfl | exact Bool.noConfusion (show false = true from h)
  | .list _, y, h => absurd h (by cases y <;> simp [lax])
  | .dict _, y, h => absurd h (by cases y <;> simp [lax])
  | .tuple xs, y, h => by
    cases y with
    | tuple ys =>
      have t := laxs_toks xs ys (by rw [lax] at h; exact h)
      simp only [keyToks, PyData.eqv]
      exact t
    | _ => exact absurd h (by simp [lax])
theorem laxs_toks : ∀ (xs ys : List PyData), laxs xs ys = true → (PyData.eqvAll xs ys = true → keyToksAll xs = keyToksAll ys) ∧ (PyData.eqvAll xs ys = false → ∀ l m, PyProof.Rows.lexLt itemOrd (keyToksAll xs ++ l) (keyToksAll ys ++ m) = PyProof.Rows.lexLt itemOrd (keyToksAll xs) (keyToksAll ys))
  | [], ys, _ => toksAll_eqv [] ys (by cases ys <;> simp [alikeAll])
  | x :: xs, [], _ => toksAll_eqv (x :: xs) [] (by simp [alikeAll])
  | x :: xs, y :: ys, h => by
    obtain ⟨h1, h2⟩ := laxs_cons h
    obtain ⟨a1, a2⟩ := lax_toks x y h1
    rw [eqv_all_cons, toks_all_cons, toks_all_cons]
    cases hx : PyData.eqv x y with
    | true =>
      obtain ⟨b1, b2⟩ := laxs_toks xs ys (h2 hx)
      rw [a1 hx, Bool.true_and]
      refine ⟨fun e => by rw [b1 e], fun e l m => ?_⟩
      rw [List.cons_append, List.cons_append, List.append_assoc, List.append_assoc]
      have q1 := fun p q => (lex_self (O := itemOrd) (Sum.inl 1) (keyToks y ++ p) (keyToks y ++ q)).trans (lex_pre (keyToks y) p q)
      rw [q1, q1]; exact b2 e l m
    | false =>
      rw [Bool.false_and]
      refine ⟨fun e => (nomatch e), fun _ l m => ?_⟩
      rw [List.cons_append, List.cons_append, List.append_assoc, List.append_assoc]
      have q1 := fun p q => lex_self (O := itemOrd) (Sum.inl 1) p q
      rw [q1, q1, a2 hx, a2 hx]
end
theorem lax_all_yes {x y : PyData} {xs ys : List PyData} (h : lax x y = true) (e : PyData.eqv x y = true) : PyProof.Rows.lexLt itemOrd (keyToksAll (x :: xs)) (keyToksAll (y :: ys)) = PyProof.Rows.lexLt itemOrd (keyToksAll xs) (keyToksAll ys) := by
  rw [toks_all_cons, toks_all_cons, (lax_toks x y h).1 e]
  have q1 := fun p q => (lex_self (O := itemOrd) (Sum.inl 1) (keyToks y ++ p) (keyToks y ++ q)).trans (lex_pre (keyToks y) p q)
  exact q1 _ _
theorem lax_all_no {x y : PyData} {xs ys : List PyData} (h : lax x y = true) (e : PyData.eqv x y = false) : PyProof.Rows.lexLt itemOrd (keyToksAll (x :: xs)) (keyToksAll (y :: ys)) = dataLt x y := by
  rw [toks_all_cons, toks_all_cons]
  have q1 := fun p q => lex_self (O := itemOrd) (Sum.inl 1) p q
  rw [q1, (lax_toks x y h).2 e]; rfl
theorem lax_first : ∀ (xs ys : List PyData), laxs xs ys = true →
    firstLt (pairEq xs ys) (fun j => dataLt (xs.getD j .none) (ys.getD j .none)) (decide (xs.length < ys.length)) (List.range (min xs.length ys.length)) = PyProof.Rows.lexLt itemOrd (keyToksAll xs) (keyToksAll ys)
  | [], ys, _ => firstLt_toks [] ys (by cases ys <;> simp [alikeAll])
  | x :: xs, [], _ => firstLt_toks (x :: xs) [] (by simp [alikeAll])
  | x :: xs, y :: ys, h => by
    obtain ⟨h1, h2⟩ := laxs_cons h
    have em : min (x :: xs).length (y :: ys).length = min xs.length ys.length + 1 := by
      rw [List.length_cons, List.length_cons]; omega
    have ed : decide ((x :: xs).length < (y :: ys).length) = decide (xs.length < ys.length) := by
      rw [List.length_cons, List.length_cons]; exact decide_eq_decide.mpr (by omega)
    rw [em, ed, List.range_succ_eq_map]
    cases hx : PyData.eqv x y with
    | true =>
      have ih := lax_first xs ys (h2 hx)
      have p0 : pairEq (x :: xs) (y :: ys) 0 = true := hx
      rw [firstLt_yes p0, firstLt_map, lax_all_yes h1 hx, ← ih]; rfl
    | false =>
      have p0 : pairEq (x :: xs) (y :: ys) 0 = false := hx
      rw [firstLt_no p0, lax_all_no h1 hx]; rfl
/-- at the first place that differs the two are lax -/
theorem laxs_at : ∀ {xs ys : List PyData} {j : Nat}, laxs xs ys = true → (∀ i, i < j → pairEq xs ys i = true) → j < xs.length → j < ys.length → lax (xs.getD j .none) (ys.getD j .none) = true
  | [], _, _, _, _, h, _ => absurd h (Nat.not_lt_zero _)
  | _ :: _, [], _, _, _, _, h => absurd h (Nat.not_lt_zero _)
  | x :: xs, y :: ys, 0, h, _, _, _ => (laxs_cons h).1
  | x :: xs, y :: ys, j + 1, h, e, h1, h2 => laxs_at (j := j) ((laxs_cons h).2 (e 0 (Nat.succ_pos _))) (fun i hi => e (i + 1) (Nat.succ_lt_succ hi)) (Nat.lt_of_succ_lt_succ h1) (Nat.lt_of_succ_lt_succ h2)
/-- both of two tuples' items: told equal up to j, less at j -/
def TupCmp (A : Around) (s : Shared) (xs ys : Array Value) (e r : Nat → Bool) : Prop := ∀ j (h1 : j < xs.size) (h2 : j < ys.size), EqAt A s xs[j] ys[j] (e j) ∧ ((∀ i, i < j → e i = true) → e j = false → RcLt A s xs[j] ys[j] (r j))

theorem tup_lt_meets (a b : Addr) (xs ys : Array Value) (n m : Nat) (da db : Option Addr) (sa sb : Array (Option Value)) (e r : Nat → Bool) :
    Meets (Builtin.«tuple.__lt__» ⟨[.ref a, .ref b], []⟩) (fun A R s => s.heap.get? a = some { cls := .type "tuple", dict := da, data := .seq xs n, slots := sa } ∧ s.heap.get? b = some { cls := .type "tuple", dict := db, data := .seq ys m, slots := sb } ∧
        TupCmp A.in1 s xs ys e r ∧ R (.ok (.ret (.bool (firstLt e r (decide (xs.size < ys.size)) (List.range (min xs.size ys.size)))))) s) :=
  .of_wp fun prog w A R s h => by
    obtain ⟨hp, g, d, tk, os⟩ := s
    obtain ⟨ha, hb, hc, hR⟩ := h
    have f2 := AutoSeq1.sub_tuple_tuple
    have hZ : (xs.toList.zip ys.toList).length = min xs.size ys.size := by simp
    wp_walk using wpAny_loadPart' ha, wpAny_loadPart' hb, wpAny_forIn_list _ (fun rest q s' => q.1 = none ∧ s' = ⟨hp, g, d, tk, os⟩ ∧ ∃ i, rest = (xs.toList.zip ys.toList).drop i ∧ (∀ k, k < i → e k = true) ∧
      R (.ok (.ret (.bool (firstLt e r (decide (xs.size < ys.size)) ((List.range (min xs.size ys.size)).drop i))))) ⟨hp, g, d, tk, os⟩) _
    case turn =>
      rintro ⟨u, v⟩ rest q s' ⟨hq, rfl, i, hz, hpre, hR⟩
      have hlt : i < (xs.toList.zip ys.toList).length := by
        rcases Nat.lt_or_ge i (xs.toList.zip ys.toList).length with z | z
        · exact z
        · rw [List.drop_of_length_le z] at hz; cases hz
      have hm : i < min xs.size ys.size := hZ ▸ hlt
      obtain ⟨h1, h2⟩ := Nat.lt_min.mp hm
      rw [List.drop_eq_getElem_cons hlt] at hz
      injection hz with hyx hrest
      obtain rfl : u = xs[i] := by simpa using congrArg Prod.fst hyx
      obtain rfl : v = ys[i] := by simpa using congrArg Prod.snd hyx
      have hd : (List.range (min xs.size ys.size)).drop i = i :: (List.range (min xs.size ys.size)).drop (i + 1) := by simp [List.drop_eq_getElem_cons, hm]
      rw [hd] at hR
      refine wpAny_bind ((hc i h1 h2).1 prog w _ _ ?_)
      cases hy : e i with
      | true =>
        rw [firstLt_yes hy] at hR
        wp_walk
        exact ⟨rfl, rfl, i + 1, hrest, fun k hk => (Nat.lt_succ_iff_lt_or_eq.mp hk).elim (hpre k) (fun z => z ▸ hy), hR⟩
      | false =>
        rw [firstLt_no hy] at hR
        rw [if_pos (show (!false) = true from rfl)]
        refine wpAny_bind (wpAny_rule ?_)
        refine wpAny_bind ((hc i h1 h2).2 hpre hy prog w _ _ ?_)
        wp_walk
        exact ⟨_, rfl, hR⟩
    case fin =>
      rintro ⟨q1, q2⟩ s' ⟨hq, rfl, i, hz, hpre, hR⟩
      dsimp only at hq
      subst hq
      have hge : min xs.size ys.size ≤ i := by
        rcases Nat.lt_or_ge i (xs.toList.zip ys.toList).length with z | z
        · rw [List.drop_eq_getElem_cons z] at hz; cases hz
        · exact hZ ▸ z
      rw [List.drop_of_length_le (by simpa using hge)] at hR
      wp_walk
      exact ⟨_, rfl, by simpa [Builtin.Tuple.tupleCompareSizes, firstLt] using hR⟩
    case h => exact ⟨rfl, rfl, 0, rfl, fun k hk => absurd hk (Nat.not_lt_zero _), by simpa using hR⟩
section
variable {A : Around} {s : Shared}
theorem rcLt_tup {a b : Addr} {xs ys : Array Value} {e r : Nat → Bool} (ha : s.heap.IsTuple a xs) (hb : s.heap.IsTuple b ys) (hu : A.units < cLine) (hc : TupCmp A.in1 s xs ys e r) :
    RcLt A s (.ref a) (.ref b) (firstLt e r (decide (xs.size < ys.size)) (List.range (min xs.size ys.size))) := fun prog w E Q h => by
  obtain ⟨⟨c1, d1, t1, s1⟩, h1, h2, n, h3⟩ := id ha
  obtain ⟨⟨c2, d2, t2, s2⟩, k1, k2, m, k3⟩ := id hb
  dsimp only at h2 h3 k2 k3
  subst h2 h3 k2 k3
  exact richCompare_meets_room (op := .Lt) ⟨_, h1, rfl⟩ ⟨_, k1, rfl⟩ F.slot_tuple_lt F.entry_tuple_lt (F.args_tuple_lt_2 _ _) (tup_lt_meets a b xs ys n m d1 d2 s1 s2 e r) ⟨h1, k1, hc, ⟨(nofun : Value.bool _ ≠ Value.notImplemented), h⟩⟩ hu
end
end F
namespace F
open PySem PySem.Spec PyProof.Rows L2 PySem.W PySem.SeqAt MeetsSeq
theorem lax_ne_none {x y : PyData} (h : lax x y = true) (e : PyData.eqv x y = false) : x ≠ .none := by
  rintro rfl
  cases y <;> first | exact Bool.noConfusion (show false = true from h) | exact absurd e (by simp [PyData.eqv])
mutual
theorem rcLt_lax : ∀ (da db : PyData) (A : Around) (s : Shared) (a b : Value) (as bs : List Addr), Reads s.heap a da as → Reads s.heap b db bs → da.plain = true → db.plain = true → lax da db = true → da ≠ .none → A.units + min da.depth db.depth < cLine → RcLt A s a b (dataLt da db)
  | .none, _, _, _, _, _, _, _, _, _, _, _, _, hn, _ => absurd rfl hn
  | .bool x, db, A, s, a, b, as, bs, ra, rb, _, _, h, e, hu => by
    cases db <;> first | exact rcLt_alike _ _ A s a b as bs ra rb rfl e hu | exact Bool.noConfusion (show false = true from h)
  | .int x, db, A, s, a, b, as, bs, ra, rb, _, _, h, e, hu => by
    cases db <;> first | exact rcLt_alike _ _ A s a b as bs ra rb rfl e hu | exact Bool.noConfusion (show false = true from h)
  | .str x, db, A, s, a, b, as, bs, ra, rb, _, _, h, e, hu => by
    cases db <;> first | exact rcLt_alike _ _ A s a b as bs ra rb rfl e hu | exact Bool.noConfusion (show false = true from h)
  | .list _, db, _, _, _, _, _, _, _, _, _, _, h, _, _ => absurd h (by cases db <;> simp [lax])
  | .dict _, db, _, _, _, _, _, _, _, _, _, _, h, _, _ => absurd h (by cases db <;> simp [lax])
  | .tuple xs, db, A, s, a, b, as, bs, ra, rb, pa, pb, h, e, hu => by
    cases db with
    | tuple ys =>
      have hal : laxs xs ys = true := by rw [lax] at h; exact h
      cases ra with
      | @tuple _ _ vs _ _ _ h1 h2 h3 h4 =>
        cases rb with
        | @tuple _ _ ws _ _ _ k1 k2 k3 k4 =>
          have n1 : vs.size = xs.length := by simpa using ReadsAll.length _ _ _ h4
          have n2 : ws.size = ys.length := by simpa using ReadsAll.length _ _ _ k4
          have q := lax_first xs ys hal
          rw [← n1, ← n2] at q
          rw [dataLt_tuple, ← q]
          have c := cmp_lax xs ys A.in1 s vs.toList ws.toList _ _ h4 k4 pa pb hal (room_in hu)
          exact rcLt_tup ⟨_, h1, h2, _, h3⟩ ⟨_, k1, k2, _, k3⟩ (room_here hu) fun j j1 j2 => by
            have q := c j (by simpa using j1) (by simpa using j2)
            rw [Array.getElem_toList, Array.getElem_toList] at q
            exact q
    | _ => exact Bool.noConfusion (show false = true from h)
theorem cmp_lax : ∀ (xs ys : List PyData) (A : Around) (s : Shared) (vs ws : List Value) (as bs : List Addr), ReadsAll s.heap vs xs as → ReadsAll s.heap ws ys bs → PyData.plainAll xs = true → PyData.plainAll ys = true → laxs xs ys = true →
    A.units + min (PyData.depthAll xs) (PyData.depthAll ys) < cLine → ∀ j (h1 : j < vs.length) (h2 : j < ws.length), EqAt A s vs[j] ws[j] (pairEq xs ys j) ∧ ((∀ i, i < j → pairEq xs ys i = true) → pairEq xs ys j = false → RcLt A s vs[j] ws[j] (dataLt (xs.getD j .none) (ys.getD j .none)))
  | [], _, _, _, _, _, _, _, ra, _, _, _, _, _, j, h1, _ => by cases ra; exact absurd h1 (Nat.not_lt_zero _)
  | _ :: _, [], _, _, _, _, _, _, _, rb, _, _, _, _, j, _, h2 => by cases rb; exact absurd h2 (Nat.not_lt_zero _)
  | x :: xs, y :: ys, A, s, _, _, _, _, ra, rb, pa, pb, h, hu, j, h1, h2 => by
    have pa' : x.plain = true ∧ PyData.plainAll xs = true := by simpa [PyData.plainAll] using pa
    have pb' : y.plain = true ∧ PyData.plainAll ys = true := by simpa [PyData.plainAll] using pb
    refine ⟨eqAt_plainAll (x :: xs) (y :: ys) A s _ _ _ _ ra rb pa pb hu j h1 h2, fun pre hj => ?_⟩
    cases ra with
    | cons r rs =>
      cases rb with
      | cons r' rs' =>
        cases j with
        | zero => exact rcLt_lax x y A s _ _ _ _ r r' pa'.1 pb'.1 (laxs_cons h).1 (lax_ne_none (laxs_cons h).1 hj) (room_head hu)
        | succ j =>
          have h' := (laxs_cons h).2 (pre 0 (Nat.succ_pos _))
          exact (cmp_lax xs ys A s _ _ _ _ rs rs' pa'.2 pb'.2 h' (room_tail hu) j (Nat.lt_of_succ_lt_succ h1) (Nat.lt_of_succ_lt_succ h2)).2 (fun i hi => pre (i + 1) (Nat.succ_lt_succ hi)) hj
end
/-- of one kind -/
def kindOf : PyData → Nat
  | .none => 0
  | .bool _ => 1
  | .int _ => 2
  | .str _ => 3
  | .list _ => 4
  | .tuple _ => 5
  | .dict _ => 6
theorem lax_kind {x y : PyData} (h : lax x y = true) : kindOf x = kindOf y := by
  cases x <;> cases y <;> first | rfl | exact Bool.noConfusion (show false = true from h) | exact absurd h (by simp [lax])
theorem type_kind {x y : PyData} (h : kindOf x = kindOf y) : dataType x = dataType y := by
  cases x <;> cases y <;> first | rfl | exact absurd h (by simp [kindOf])
section
variable {prog : Program} {w : World} {A : Around} {E : Value → Shared → Prop} {s : Shared}
theorem oneLt_lax {f : Bool} {da db : PyData} {a b : Value} {as bs : List Addr} {Q : Bool → Shared → Prop} (hf : f = true → ∀ xs, da ≠ .tuple xs) (ra : Reads s.heap a da as) (rb : Reads s.heap b db bs) (pa : da.plain = true) (pb : db.plain = true) (h : lax da db = true) (hn : da ≠ .none)
    (hu : A.units + min da.depth db.depth < cLine) (hq : Q (dataLt da db) s) : wpAny (model prog w) A (oneLt' f a b) Q E s := by
  by_cases t : ∃ xs, da = .tuple xs
  · obtain ⟨xs, rfl⟩ := t
    cases f with
    | true => exact absurd rfl (hf rfl xs)
    | false =>
      rw [oneLt'_eq, if_neg Bool.false_ne_true]
      refine wpAny_bind (rcLt_lax _ db A s a b as bs ra rb pa pb h hn hu prog w E _ ?_)
      exact wpAny_truthy_bool hq
  · refine oneLt_alike hf ra rb ?_ hn hu hq
    cases da <;> cases db <;> first | rfl | exact Bool.noConfusion (show false = true from h) | exact absurd ⟨_, rfl⟩ t | exact absurd h (by simp [lax])
theorem katLex_lax {b fin : Bool} {Q : Bool → Shared → Prop} : ∀ (xs ys : List PyData) (i : Nat) (vs ws : List Value) (as bs : List Addr), ReadsAll s.heap vs xs as → ReadsAll s.heap ws ys bs → PyData.plainAll xs = true → PyData.plainAll ys = true → laxs xs ys = true →
    A.units + min (PyData.depthAll xs) (PyData.depthAll ys) < cLine → (b = true → i = 0 → ∀ x r t, xs = x :: r → x ≠ .tuple t) → fin = decide (xs.length < ys.length) → Q (PyProof.Rows.lexLt itemOrd (keyToksAll xs) (keyToksAll ys)) s → KatLex prog w A b fin Q (vs.zip ws) i s
  | [], ys, i, vs, ws, as, bs, ra, rb, _, _, _, hu, hf, hl, hq => katLex_alike [] ys i vs ws as bs ra rb (by cases ys <;> simp [alikeAll]) hu hf hl hq
  | x :: xs, [], i, vs, ws, as, bs, ra, rb, _, _, _, hu, hf, hl, hq => katLex_alike (x :: xs) [] i vs ws as bs ra rb (by simp [alikeAll]) hu hf hl hq
  | x :: xs, y :: ys, i, _, _, _, _, ra, rb, pa, pb, h, hu, hb, hf, hq => by
    have pa' : x.plain = true ∧ PyData.plainAll xs = true := by simpa [PyData.plainAll] using pa
    have pb' : y.plain = true ∧ PyData.plainAll ys = true := by simpa [PyData.plainAll] using pb
    obtain ⟨h1, h2⟩ := laxs_cons h
    have hf' : fin = decide (xs.length < ys.length) := by rw [hf]; simp only [List.length_cons, Nat.add_lt_add_iff_right]
    cases ra with
    | cons r rs =>
      cases rb with
      | cons r' rs' =>
        rw [List.zip_cons_cons]
        refine kat_cons (eqAt_plain x y A s _ _ _ _ r r' pa'.1 pb'.1 (room_head hu) prog w _ _ ?_)
        cases hx : PyData.eqv x y with
        | true =>
          rw [lax_all_yes h1 hx] at hq
          refine kat_yes (katLex_lax xs ys (i + 1) _ _ _ _ rs rs' pa'.2 pb'.2 (h2 hx) (room_tail hu) ?_ hf' hq)
          exact fun _ hi => absurd hi (Nat.succ_ne_zero i)
        | false =>
          rw [lax_all_no h1 hx] at hq
          refine kat_no (oneLt_lax (fun hbi t => ?_) r r' pa'.1 pb'.1 h1 (lax_ne_none h1 hx) (room_head hu) hq)
          rw [Bool.and_eq_true] at hbi
          exact hb hbi.1 (by simpa using hbi.2) x xs t rfl
/-- tuples with an item, told apart by < -/
def TupsOk (ds : List PyData) : Prop := (∀ d ∈ ds, d.plain = true ∧ ∃ x r, d = .tuple (x :: r)) ∧ ∀ d ∈ ds, ∀ d' ∈ ds, lax d d' = true
theorem kind_reads {ds : List PyData} (hp : ∀ d ∈ ds, d.plain = true) {h : Heap} {v : Value} {d : PyData} {as : List Addr} (hd : d ∈ ds) (r : Reads h v d as) : (dataKind h ds).keyOf v = some (keyToks d) := by
  have q : ∃ d, d ∈ ds ∧ ∃ as, Reads h v d as := ⟨d, hd, as, r⟩
  have e : (dataKind h ds).keyOf v = some (keyToks q.choose) := dif_pos q
  obtain ⟨h1, as', h2⟩ := q.choose_spec
  rw [e, plain_unique _ _ _ _ _ (hp _ h1) h2 r]
theorem sorts_lax {vs : List Value} {ds : List PyData} (e : EachIs (fun v d => ∃ as, Reads s.heap v d as) vs ds) (ht : TupsOk ds) (hu : ∀ d, d ∈ ds → A.units + d.depth < cLine) : SortsAt prog w A s (dataKind s.heap ds) vs := by
  obtain ⟨htu, hlx⟩ := ht
  have room : ∀ {d d' : PyData}, d ∈ ds → A.units + min d.depth d'.depth < cLine := fun {d d'} hd => Nat.lt_of_le_of_lt (Nat.add_le_add_left (Nat.min_le_left _ _) _) (hu d hd)
  refine ⟨fun v hv => ?_, ?_⟩
  · obtain ⟨d, hd, as, r⟩ := e.left v hv
    exact ⟨_, kind_reads (fun d h => (htu d h).1) hd r⟩
  cases ds with
  | nil =>
    cases e
    exact ⟨general', fun E x y a b Q ha _ _ => (by
      obtain ⟨d, _, hd, _⟩ := dataKind_inv ha
      cases hd), fun h2 => absurd h2 (by simp)⟩
  | cons d0 ds0 =>
    obtain ⟨x0, r0, e0⟩ := (htu d0 (by simp)).2
    have hk : ∀ x r, PyData.tuple (x :: r) ∈ d0 :: ds0 → dataType x = dataType x0 := fun x r hm => by
      have q := hlx _ hm d0 (by simp)
      rw [e0, lax] at q
      exact type_kind (lax_kind (laxs_cons q).1)
    refine ⟨tuples' (dataType x0 != Value.type "tuple"), fun E x y a b Q ha hb hq => ?_, fun h2 E Q hq => ?_⟩
    · obtain ⟨d, as, hd, ra, rfl⟩ := dataKind_inv ha
      obtain ⟨d', as', hd', rb, rfl⟩ := dataKind_inv hb
      have hdd := hlx d hd d' hd'
      have hroom := room (d' := d') hd
      obtain ⟨p1, x1, r1, rfl⟩ := htu d hd
      obtain ⟨p2, x2, r2, rfl⟩ := htu d' hd'
      have hq' : Q (dataLt (.tuple (x1 :: r1)) (.tuple (x2 :: r2))) s := hq
      rw [dataLt_tuple] at hq'
      rw [lax] at hdd
      cases ra with
      | @tuple l o xs n _ _ h1 h2 h3 h4 =>
        cases rb with
        | @tuple l' o' ys n' _ _ k1 k2 k3 k4 =>
          have n1 : xs.size = (x1 :: r1).length := by simpa using SeqAt.ReadsAll.length _ _ _ h4
          have n2 : ys.size = (x2 :: r2).length := by simpa using SeqAt.ReadsAll.length _ _ _ k4
          refine kat_lt h1 h3 k1 k3 (katLex_lax (x1 :: r1) (x2 :: r2) 0 _ _ _ _ h4 k4 p1 p2 hdd (by have q := SeqAt.room_in hroom; omega) (fun hb _ x r t ex => ?_) (by rw [n1, n2]) hq')
          obtain ⟨rfl, rfl⟩ := List.cons.inj ex
          rw [← hk _ _ hd] at hb
          exact dataType_tuple hb t
    · obtain ⟨fs, t1, t2, t3⟩ := each_katTups e fun d hd => (htu d hd).2
      refine kat_kind (T := dataType x0) t1 (by omega) (fun f hf => ?_) (beq_self_eq_true _) hq
      obtain ⟨x, r, as, m1, m2⟩ := t3 f hf
      rw [← hk x r m1]
      exact looks_reads m2
end
end F

set_option Elab.async false
set_option linter.all false
set_option maxRecDepth 100000
set_option maxHeartbeats 4000000
/-! sorted(xs), on the D layer -/
namespace F
open PySem PySem.Spec PyProof.Rows L2 PySem.W PySem.SeqAt MeetsSeq
/-- what can be sorted: tuples (with an item, if there are two) told apart by <, ints, truths -/
def isTupD : D → Bool
  | .tup _ => true
  | _ => false
def isTup1D : D → Bool
  | .tup (_ :: _) => true
  | _ => false
def isIntD : D → Bool
  | .int _ => true
  | _ => false
def isBlD : D → Bool
  | .bl _ => true
  | _ => false
def laxD (d e : D) : Bool := lax (toPy d) (toPy e)
def laxAll (xs : List D) : Bool := xs.all fun d => xs.all fun e => laxD d e
def sortOk (xs : List D) : Bool := (xs.all isIntD || xs.all isBlD || (xs.all isTupD && (decide (xs.length < 2) || xs.all isTup1D) && laxAll xs)) && D.purs xs && decide (D.depths xs ≤ 100)
def bSort : List D → Re (List D)
  | [.lst xs] => if sortOk xs = true then .ok (sortD xs) else .bad
  | _ => .bad
section
variable {prog : Program} {w : World} {A : Around} {E : Value → Shared → Prop} {s : Shared}
/-- one tuple alone -/
theorem sorts_few {vs : List Value} {ds : List PyData} (e : EachIs (fun v d => ∃ as, Reads s.heap v d as) vs ds) (hl : ds.length < 2) (htu : ∀ d ∈ ds, d.plain = true ∧ ∃ r, d = .tuple r) (hlx : ∀ d ∈ ds, ∀ d' ∈ ds, lax d d' = true) (hu : ∀ d, d ∈ ds → A.units + d.depth < cLine) : SortsAt prog w A s (dataKind s.heap ds) vs := by
  refine ⟨fun v hv => ?_, ?_⟩
  · obtain ⟨d, hd, as, r⟩ := e.left v hv
    exact ⟨_, kind_reads (fun d h => (htu d h).1) hd r⟩
  · refine ⟨tuples' false, fun E x y a b Q ha hb hq => ?_, fun h2 => absurd h2 (by rw [e.length]; omega)⟩
    obtain ⟨d, as, hd, ra, rfl⟩ := dataKind_inv ha
    obtain ⟨d', as', hd', rb, rfl⟩ := dataKind_inv hb
    have hdd := hlx d hd d' hd'
    have hroom : A.units + min d.depth d'.depth < cLine := Nat.lt_of_le_of_lt (Nat.add_le_add_left (Nat.min_le_left _ _) _) (hu d hd)
    obtain ⟨p1, r1, rfl⟩ := htu d hd
    obtain ⟨p2, r2, rfl⟩ := htu d' hd'
    have hq' : Q (dataLt (.tuple r1) (.tuple r2)) s := hq
    rw [dataLt_tuple] at hq'
    rw [lax] at hdd
    cases ra with
    | @tuple l o xs n _ _ h1 h2 h3 h4 =>
      cases rb with
      | @tuple l' o' ys n' _ _ k1 k2 k3 k4 =>
        have n1 : xs.size = r1.length := by simpa using SeqAt.ReadsAll.length _ _ _ h4
        have n2 : ys.size = r2.length := by simpa using SeqAt.ReadsAll.length _ _ _ k4
        exact kat_lt h1 h3 k1 k3 (katLex_lax r1 r2 0 _ _ _ _ h4 k4 p1 p2 hdd (by have q := SeqAt.room_in hroom; omega) (fun hb => nomatch hb) (by rw [n1, n2]) hq')
end
/-- can be sorted by the machine -/
def SortsD (ds : List PyData) : Prop := ∀ (prog : Program) (w : World) (A : Around) (s : Shared) (vs : List Value), EachIs (fun v d => ∃ as, Reads s.heap v d as) vs ds → (∀ d, d ∈ ds → A.units + d.depth < cLine) → SortsAt prog w A s (dataKind s.heap ds) vs
mutual
theorem plain_pur : ∀ d : D, d.pur = true → (toPy d).plain = true
  | .non, _ => rfl
  | .bl _, _ => rfl
  | .int _, _ => rfl
  | .str _, _ => rfl
  | .tup xs, h => by rw [toPy, PyData.plain]; exact plains_pur xs (by rw [D.pur] at h; exact h)
  | .lst xs, h => by rw [toPy, PyData.plain]; exact plains_pur xs (by rw [D.pur] at h; exact h)
  | .scr xs, h => by rw [toPy, PyData.plain]; exact plains_pur xs (by rw [D.pur] at h; exact h)
  | .tpn xs, h => by rw [toPy, PyData.plain]; exact plains_pur xs (by rw [D.pur] at h; exact h)
  | .obj _ _, h => by rw [D.pur] at h; cases h
  | .dct _ _, h => by rw [D.pur] at h; cases h
  | .fix _, h => by rw [D.pur] at h; cases h
theorem plains_pur : ∀ xs : List D, D.purs xs = true → PyData.plainAll (toPys xs) = true
  | [], _ => rfl
  | x :: xs, h => by
    rw [D.purs, Bool.and_eq_true] at h
    rw [toPys, PyData.plainAll, plain_pur x h.1, plains_pur xs h.2]; rfl
end
theorem purs_mem : ∀ {xs : List D}, D.purs xs = true → ∀ d ∈ xs, d.pur = true
  | [], _, _, h => nomatch h
  | x :: xs, h, d, hd => by
    rw [D.purs, Bool.and_eq_true] at h
    rcases List.mem_cons.mp hd with rfl | hd
    · exact h.1
    · exact purs_mem h.2 d hd
theorem depths_mem : ∀ {xs : List D}, ∀ d ∈ xs, d.depth ≤ D.depths xs
  | [], _, h => nomatch h
  | x :: xs, d, hd => by
    rw [D.depths]
    rcases List.mem_cons.mp hd with rfl | hd
    · exact Nat.le_max_left _ _
    · exact Nat.le_trans (depths_mem d hd) (Nat.le_max_right _ _)
theorem sortOk_sorts {xs : List D} (h : sortOk xs = true) : SortsD (xs.map toPy) := by
  unfold sortOk at h
  simp only [Bool.and_eq_true, Bool.or_eq_true, decide_eq_true_eq] at h
  obtain ⟨⟨h, hp⟩, hd⟩ := h
  intro prog w A s vs e hu
  rcases h with (h | h) | h
  · refine SortsAt.data e (fun d hd' d' hd2 => ?_) (.inr fun d hd' => ?_) hu
    · obtain ⟨x, hx, rfl⟩ := List.mem_map.mp hd'
      obtain ⟨y, hy, rfl⟩ := List.mem_map.mp hd2
      have a := List.all_eq_true.mp h x hx
      have b := List.all_eq_true.mp h y hy
      cases x <;> try exact Bool.noConfusion (show false = true from a)
      cases y <;> try exact Bool.noConfusion (show false = true from b)
      rfl
    · obtain ⟨x, hx, rfl⟩ := List.mem_map.mp hd'
      have a := List.all_eq_true.mp h x hx
      cases x <;> try exact Bool.noConfusion (show false = true from a)
      exact ⟨by simp [toPy], by simp [toPy]⟩
  · refine SortsAt.data e (fun d hd' d' hd2 => ?_) (.inr fun d hd' => ?_) hu
    · obtain ⟨x, hx, rfl⟩ := List.mem_map.mp hd'
      obtain ⟨y, hy, rfl⟩ := List.mem_map.mp hd2
      have a := List.all_eq_true.mp h x hx
      have b := List.all_eq_true.mp h y hy
      cases x <;> try exact Bool.noConfusion (show false = true from a)
      cases y <;> try exact Bool.noConfusion (show false = true from b)
      rfl
    · obtain ⟨x, hx, rfl⟩ := List.mem_map.mp hd'
      have a := List.all_eq_true.mp h x hx
      cases x <;> try exact Bool.noConfusion (show false = true from a)
      exact ⟨by simp [toPy], by simp [toPy]⟩
  · obtain ⟨⟨h1, h2⟩, h3⟩ := h
    have pl : ∀ d ∈ xs.map toPy, d.plain = true := fun d hd' => by
      obtain ⟨x, hx, rfl⟩ := List.mem_map.mp hd'
      exact plain_pur x (purs_mem hp x hx)
    have lx : ∀ d ∈ xs.map toPy, ∀ d' ∈ xs.map toPy, lax d d' = true := fun d hd' d' hd2 => by
      obtain ⟨x, hx, rfl⟩ := List.mem_map.mp hd'
      obtain ⟨y, hy, rfl⟩ := List.mem_map.mp hd2
      exact List.all_eq_true.mp (List.all_eq_true.mp h3 x hx) y hy
    rcases h2 with h2 | h2
    · refine sorts_few e (by rw [List.length_map]; exact h2) (fun d hd' => ⟨pl d hd', ?_⟩) lx hu
      obtain ⟨x, hx, rfl⟩ := List.mem_map.mp hd'
      have a := List.all_eq_true.mp h1 x hx
      cases x <;> try exact Bool.noConfusion (show false = true from a)
      exact ⟨_, by rw [toPy]⟩
    · refine sorts_lax e ⟨fun d hd' => ⟨pl d hd', ?_⟩, lx⟩ hu
      obtain ⟨x, hx, rfl⟩ := List.mem_map.mp hd'
      have a := List.all_eq_true.mp h2 x hx
      cases x with
      | tup ys =>
        cases ys with
        | nil => exact Bool.noConfusion (show false = true from a)
        | cons y ys => exact ⟨_, _, by rw [toPy, toPys]⟩
      | _ => exact Bool.noConfusion (show false = true from a)
section
variable {X : Cx}
/-- sorted(xs): a new list -/
def rSortX (K : PySem.W.Frag) (un : Nat) : List V → Hp → VK → Prop := fun xs H Q => ∃ (a : Addr) (vs : List V) (ds : List D), xs = [.ref a] ∧ SqL K H a vs ∧ DpAll K H vs (ds.map toPy) ∧ SortsD (ds.map toPy) ∧ (∀ d ∈ ds, d.pur = true) ∧ (∀ d ∈ ds, un + 2 + (toPy d).depth < cLine) ∧ vs.length ≤ sizeLine ∧
  ∀ q, H q = none → Q (.ref q) (upd H q (.lst (((vs.zip ds).mergeSort (dataLe false fun p => toPy p.2)).map (·.1))))
theorem cr_sortX : CallR X (.builtin "sorted") (rSortX X.K X.A.units) := by
  intro pins s σ H xs us Q I r h
  obtain ⟨a, vs, ds, rfl, hs, hd, hk, hpl, hu, hz, q⟩ := h
  obtain ⟨its, rv, hl, _⟩ := I.list hs
  rw [Vals.ref1 r]
  have hlen : vs.length = ds.length := by rw [dpAll_len hd, List.length_map]
  obtain ⟨as, hr⟩ := Dp.readsAll I (ds.map toPy) vs its hd rv
  have e1 := each_pair (ds := ds) rv hlen
  have zs : (vs.zip ds).map (fun p => toPy p.2) = ds.map toPy := by
    show (vs.zip ds).map (toPy ∘ Prod.snd) = _
    rw [← List.map_map, List.map_snd_zip (Nat.le_of_eq hlen.symm)]
  have er := readsAll_each (h := s.heap) (fun p : V × D => toPy p.2) (vs := its) (bs := vs.zip ds) (as := as) (by rw [zs]; exact hr)
  have zl : (vs.zip ds).length = vs.length := by rw [List.length_zip]; omega
  have hp' : ∀ d ∈ (vs.zip ds).map (fun p => toPy p.2), d.plain = true := fun d hd' => by
    rw [zs] at hd'
    obtain ⟨x, hx, rfl⟩ := List.mem_map.mp hd'
    exact plain_pur x (hpl x hx)
  have er' : EachIs (fun v (p : V × D) => ∃ as, Reads (sortingHeap (copyHeap s.heap its) (s.heap.objs.size + 1) its) v (toPy p.2) as) its (vs.zip ds) := er.mono fun _ _ ⟨as, r⟩ => ⟨as, PyProof.Rows.Reads.keeps (fun _ _ => sorting_copy_old) r⟩
  have er2 := each_map (R := fun v d => ∃ as, Reads (sortingHeap (copyHeap s.heap its) (s.heap.objs.size + 1) its) v d as) (fun p : V × D => toPy p.2) er'
  have iz : its.length = vs.length := rv.length.symm
  refine sorted_vals (κ := dataKind (sortingHeap (copyHeap s.heap its) (s.heap.objs.size + 1) its) ((vs.zip ds).map fun p => toPy p.2)) hl.isList (by
    rw [zs]
    rw [zs] at er2
    exact hk _ _ _ { s with heap := sortingHeap (copyHeap s.heap its) (s.heap.objs.size + 1) its } _ er2 fun d hd' => by
      obtain ⟨x, hx, rfl⟩ := List.mem_map.mp hd'
      exact hu x hx) (by rw [iz]; exact hz) ?_
  have eo : EachIs (fun u (p : V × D) => RelV p.1 u) (sortVals (dataKind (sortingHeap (copyHeap s.heap its) (s.heap.objs.size + 1) its) ((vs.zip ds).map fun p => toPy p.2)) false its its) ((vs.zip ds).mergeSort (dataLe false fun p => toPy p.2)) :=
    sortVals_each (κ := dataKind (sortingHeap (copyHeap s.heap its) (s.heap.objs.size + 1) its) ((vs.zip ds).map fun p => toPy p.2)) (fun p : V × D => keyToks (toPy p.2)) e1 (each_of_map (fun p : V × D => toPy p.2) (R := fun v d => (dataKind (sortingHeap (copyHeap s.heap its) (s.heap.objs.size + 1) its) ((vs.zip ds).map fun p => toPy p.2)).keyOf v = some (keyToks d)) ((each_mem er2).mono fun v d ⟨⟨as, r⟩, hd'⟩ => kind_reads hp' hd' r))
  have ev := each_vals eo
  obtain ⟨ep, he⟩ := PyProof.Rows.sortedAll_at s.heap its (sortVals (dataKind (sortingHeap (copyHeap s.heap its) (s.heap.objs.size + 1) its) ((vs.zip ds).map fun p => toPy p.2)) false its its).toArray
  have ol := sortVals_length (κ := dataKind (sortingHeap (copyHeap s.heap its) (s.heap.objs.size + 1) its) ((vs.zip ds).map fun p => toPy p.2)) false (ks := its) (vs := its) rfl
  exact ⟨.ref _, upd H (s.heap.objs.size + 1) (.lst (((vs.zip ds).mergeSort (dataLe false fun p => toPy p.2)).map (·.1))), I.laid (t' := s.toks) (fun _ _ => PyProof.Rows.sortedAll_old) (Nat.le_succ _) ⟨by rw [ev.length, ol, iz]; exact hz, _, ep, ev, he⟩, rfl, q _ (I.hok.fresh (Nat.le_succ _))⟩
end
theorem rvs_unzip {G : Glue} {N : Addr → Prop} {H : Hp} : ∀ {ps : List (V × D)}, (∀ p ∈ ps, Rv G N H p.2 p.1) → Rvs G N H (ps.map (·.2)) (ps.map (·.1))
  | [], _ => .nil
  | p :: ps, h => .cons (h p (by simp)) (rvs_unzip fun q hq => h q (by simp [hq]))
theorem rvs_zip {G : Glue} {N : Addr → Prop} {H : Hp} : ∀ {ds : List D} {vs : List V}, Rvs G N H ds vs → ∀ p ∈ vs.zip ds, Rv G N H p.2 p.1
  | [], _, h, p, hp => by simp at hp
  | d :: ds, _, h, p, hp => by
    cases h with
    | cons h1 h2 =>
      rw [List.zip_cons_cons] at hp
      rcases List.mem_cons.mp hp with rfl | hp
      · exact h1
      · exact rvs_zip h2 p hp
theorem rvs_sort {G : Glue} {N : Addr → Prop} {H : Hp} {ds : List D} {vs : List V} (r : Rvs G N H ds vs) : Rvs G N H (sortD ds) (((vs.zip ds).mergeSort (dataLe false fun p => toPy p.2)).map (·.1)) := by
  have e : ((vs.zip ds).mergeSort (dataLe false fun p : V × D => toPy p.2)).map (·.2) = sortD ds := by
    have m := List.map_mergeSort (r := dataLe false fun p : V × D => toPy p.2) (s := leD) (f := Prod.snd) (l := vs.zip ds) (fun a _ b _ => rfl)
    rw [List.map_snd_zip (Nat.le_of_eq r.length)] at m
    rw [← sortD_merge]; exact m
  have h := rvs_unzip (G := G) (N := N) (H := H) (ps := (vs.zip ds).mergeSort (dataLe false fun p => toPy p.2)) fun p hp => rvs_zip r p ((List.mergeSort_perm _ _).mem_iff.mp hp)
  rw [e] at h
  exact h
theorem toPys_map : ∀ xs : List D, toPys xs = xs.map toPy
  | [] => rfl
  | x :: xs => by rw [toPys, toPys_map xs]; rfl
section
variable {G : Glue} {X : Cx}
theorem c_sorted (hu : X.A.units + 130 < cLine) (hK : X.K = G.K := by rfl) : CallL G X (.builtin "sorted") bSort := by
  refine ⟨_, cr_sortX, fun N H xs ds z Q hz hn r h k => ?_⟩
  unfold bSort at h
  split at h
  · rename_i ys
    obtain ⟨v, rfl, q⟩ := r.one
    split at h
    · rename_i ok
      cases h
      obtain ⟨a, vs, rfl, e1, rv⟩ := q.lst
      have ok' := ok
      unfold sortOk at ok'
      simp only [Bool.and_eq_true, decide_eq_true_eq] at ok'
      have dp := Rvs.dp ok'.1.2 rv
      refine ⟨a, vs, ys, rfl, SqL.of e1, ?_, sortOk_sorts ok, purs_mem ok'.1.2, fun d hd => ?_, ?_, fun q hq => ?_⟩
      · rw [hK, ← toPys_map]; exact dp
      · have h1 := depth_py d
        have h2 := depths_mem d hd
        have h3 := ok'.2
        rw [h1]; omega
      · exact hz a vs (.inl (.inl e1))
      · exact k _ H (Same.refl H) (rvs_sort rv) q hq
    · cases h
  · cases h
end
end F

set_option Elab.async false
set_option linter.all false
set_option maxRecDepth 100000
set_option maxHeartbeats 4000000
/-! data told equal by a test that the kernel can run -/
namespace F
open PySem PySem.Spec
mutual
def D.same : D → D → Bool
  | .non, .non => true
  | .bl a, .bl b => a == b
  | .int a, .int b => decide (a = b)
  | .str a, .str b => decide (a = b)
  | .tup xs, .tup ys => D.sames xs ys
  | .lst xs, .lst ys => D.sames xs ys
  | .scr xs, .scr ys => D.sames xs ys
  | .tpn xs, .tpn ys => D.sames xs ys
  | _, _ => false
def D.sames : List D → List D → Bool
  | [], [] => true
  | x :: xs, y :: ys => D.same x y && D.sames xs ys
  | _, _ => false
end
mutual
theorem same_eq : ∀ (d e : D), D.same d e = true → d = e
  | .non, e, h => by cases e <;> first | rfl | exact Bool.noConfusion (show false = true from h)
  | .bl a, e, h => by
    cases e with
    | bl b => rw [D.same] at h; rw [eq_of_beq h]
    | _ => exact Bool.noConfusion (show false = true from h)
  | .int a, e, h => by
    cases e with
    | int b => rw [D.same] at h; rw [of_decide_eq_true h]
    | _ => exact Bool.noConfusion (show false = true from h)
  | .str a, e, h => by
    cases e with
    | str b => rw [D.same] at h; rw [of_decide_eq_true h]
    | _ => exact Bool.noConfusion (show false = true from h)
  | .tup xs, e, h => by
    cases e with
    | tup ys => rw [D.same] at h; rw [sames_eq xs ys h]
    | _ => exact Bool.noConfusion (show false = true from h)
  | .lst xs, e, h => by
    cases e with
    | lst ys => rw [D.same] at h; rw [sames_eq xs ys h]
    | _ => exact Bool.noConfusion (show false = true from h)
  | .scr xs, e, h => by
    cases e with
    | scr ys => rw [D.same] at h; rw [sames_eq xs ys h]
    | _ => exact Bool.noConfusion (show false = true from h)
  | .tpn xs, e, h => by
    cases e with
    | tpn ys => rw [D.same] at h; rw [sames_eq xs ys h]
    | _ => exact Bool.noConfusion (show false = true from h)
  | .obj _ _, e, h => by cases e <;> exact Bool.noConfusion (show false = true from h)
  | .dct _ _, e, h => by cases e <;> exact Bool.noConfusion (show false = true from h)
  | .fix _, e, h => by cases e <;> exact Bool.noConfusion (show false = true from h)
theorem sames_eq : ∀ (xs ys : List D), D.sames xs ys = true → xs = ys
  | [], [], _ => rfl
  | [], _ :: _, h => Bool.noConfusion (show false = true from h)
  | _ :: _, [], h => Bool.noConfusion (show false = true from h)
  | x :: xs, y :: ys, h => by
    rw [D.sames, Bool.and_eq_true] at h
    rw [same_eq x y h.1, sames_eq xs ys h.2]
end
/-- gives just this -/
def isOk (r : Re D) (d : D) : Bool := match r with
  | .ok e => D.same e d
  | _ => false
theorem isOk_eq {r : Re D} {d : D} (h : isOk r d = true) : r = .ok d := by
  cases r with
  | ok e => rw [same_eq e d h]
  | _ => exact Bool.noConfusion (show false = true from h)
theorem forN {n : Nat} {p : Nat → Bool} (h : (List.range n).all p = true) {k : Nat} (hk : k < n) : p k = true := List.all_eq_true.mp h k (List.mem_range.mpr hk)
theorem forD {ds : List D} {p : D → Bool} (h : ds.all p = true) {d : D} (hd : d ∈ ds) : p d = true := List.all_eq_true.mp h d hd
theorem lt_nat {v : Int} {n : Nat} (h0 : 0 ≤ v) (h1 : v < n) : ∃ k : Nat, v = k ∧ k < n := ⟨v.toNat, by omega, by omega⟩
end F

set_option Elab.async false
set_option linter.all false
set_option maxRecDepth 100000
set_option maxHeartbeats 4000000
/-! dicts walked: their keys, their pairs -/
namespace F
open PySem PySem.Spec PyProof.Rows L2 PySem.W
abbrev Ent := NestedKey × Addr × Value
/-- what the heap has of a dict -/
theorem dic_get {P : Program} {w : World} {H : Hp} {h : Heap} {a : Addr} {o : Obj} {es : List Ent} (hok : HOk P w H h) {P' : Program} {w' : World} (e : H a = some (dicO P' w' a o es)) :
    ∃ arr ep, h.get? a = some o ∧ o.ExactDict ∧ o.data = .dict arr ep ∧ arr.toList = es.map (entryOfKey (nestedKind P' w')) ∧ (a == sysModules) = false ∧ es.length ≤ sizeLine := by
  obtain ⟨⟨⟨arr, ep, e1, e2, e3, e4⟩, _, e6, e7⟩, _, _⟩ := hok a _ e
  exact ⟨arr, ep, e1, e2, e3, e4, e6, e7⟩
theorem ent_at {P : Program} {w : World} {arr : Array DictEntry} {es : List Ent} (h : arr.toList = es.map (entryOfKey (nestedKind P w))) {i : Nat} {e : Ent} (hi : es[i]? = some e) : ∃ hl : i < arr.size, arr[i].key = .ref e.2.1 ∧ arr[i].val = e.2.2 := by
  have hs : arr.size = es.length := by rw [← Array.length_toList, h, List.length_map]
  have hl : i < arr.size := by rw [hs]; exact (List.getElem?_eq_some_iff.mp hi).1
  have q : arr.toList[i]? = some (entryOfKey (nestedKind P w) e) := by rw [h, List.getElem?_map, hi]; rfl
  rw [Array.getElem?_toList, Array.getElem?_eq_getElem hl] at q
  refine ⟨hl, ?_, ?_⟩ <;> rw [Option.some.inj q] <;> rfl
theorem ent_size {P : Program} {w : World} {arr : Array DictEntry} {es : List Ent} (h : arr.toList = es.map (entryOfKey (nestedKind P w))) : arr.size = es.length := by rw [← Array.length_toList, h, List.length_map]
/-- the keys, in order -/
def ItK (G : Glue) (a : Addr) (o : Obj) (es : List Ent) : It :=
  ⟨fun i H => H a = some (dicO G.P G.w a o es) ∧ i < es.length, fun i H x H' => H' = H ∧ ∃ e, es[i]? = some e ∧ x = .ref e.2.1, fun i H => H a = some (dicO G.P G.w a o es) ∧ es.length ≤ i⟩
/-- the pairs, each a new tuple -/
def ItP (G : Glue) (a : Addr) (o : Obj) (es : List Ent) (vv : List V) : It :=
  ⟨fun i H => H a = some (dicO G.P G.w a o es) ∧ i < es.length, fun i H x H' => ∃ T e v, es[i]? = some e ∧ vv[i]? = some v ∧ x = .ref T ∧ H T = none ∧ H' = upd H T (.tup [.ref e.2.1, v]), fun i H => H a = some (dicO G.P G.w a o es) ∧ es.length ≤ i⟩
section
variable {P : Program} {w : World} {K : PySem.W.Frag} {tg : Expr} {G : Glue} {a : Addr} {o : Obj} {es : List Ent} {arr : Array DictEntry} {ep : Nat}
theorem turn_K (it : Addr) (hod : o.data = .dict arr ep) : Turn P w K tg (ItK G a o es) [it] it (fun i h => h.IsKeyIter it a i es.length ep) where
  mem := List.mem_singleton.mpr rfl
  obj := fun i h st b hb => by
    obtain rfl := List.mem_singleton.mp hb
    obtain ⟨oi, e, c, dd⟩ := st
    exact ⟨oi, e, fun v z => by rw [dd] at z; cases z⟩
  keep := fun i h h' st k => Heap.IsKeyIter.at st fun oi e => k it (List.mem_singleton.mpr rfl) oi e
  item := by
    intro X hP hw hK hc i pins s σ H E I hf st hg
    subst hP hw hK
    obtain ⟨hd, hi⟩ := hg
    obtain ⟨f0, f1, f2, f3, f4, f5⟩ := hf it (List.mem_singleton.mpr rfl)
    obtain ⟨arr', ep', e1, e2, e3, e4, e5, e6⟩ := dic_get I.hok hd
    obtain ⟨rfl, rfl⟩ := dict_ep hod e3
    obtain ⟨e, he⟩ : ∃ e, es[i]? = some e := ⟨_, List.getElem?_eq_getElem hi⟩
    obtain ⟨hl, k1, k2⟩ := ent_at e4 he
    rw [← ent_size e4] at st
    refine wpAny_pyNext_keys_item_raw st ⟨o, e1, e2, e3⟩ hl fun h' st' sb => ?_
    have I1 : Inv X pins σ H { s with heap := h' } := I.turned (t' := s.toks) (fun b ob hb q => (sb.2 b hb).trans q) f0 f1 f3 f4 f5
    obtain ⟨oi, q, c, dd⟩ := id st'
    refine ⟨_, rfl, go_of (s := { s with heap := h' }) q c dd (by decide) ⟨.ref e.2.1, H, I1, by rw [k1]; exact rfl, ⟨rfl, e, he, rfl⟩, ?_, fun b hb => (hf b hb).1⟩⟩
    rw [← ent_size e4]; exact st'
  done := by
    intro X hP hw hK hc i pins s σ H E I hf st hg
    subst hP hw hK
    obtain ⟨hd, hi⟩ := hg
    obtain ⟨f0, f1, f2, f3, f4, f5⟩ := hf it (List.mem_singleton.mpr rfl)
    obtain ⟨arr', ep', e1, e2, e3, e4, e5, e6⟩ := dic_get I.hok hd
    obtain ⟨rfl, rfl⟩ := dict_ep hod e3
    rw [← ent_size e4] at st
    exact wpAny_pyNext_keys_end_raw (I.ok.hd hc) st ⟨o, e1, e2, e3⟩ (by rw [ent_size e4]; exact hi) fun h' eb => ⟨rfl, I.turned (t' := s.toks) (fun b ob hb q => eb b ob hb q) f0 f1 f3 f4 f5⟩
  self := fun A i s Q E st h => wpAny_pyIter_keyiter st h
theorem turn_P {elts : List Expr} {kk : Nat} {tpos : Pos} {vv : List V} (it : Addr) (hod : o.data = .dict arr ep) (hvv : Vals vv (es.map (·.2.2))) : Turn P w K (.Tuple elts kk tpos) (ItP G a o es vv) [it] it (fun i h => ∃ ok ov, IsItemIter h it a i es.length ep ok ov) where
  mem := List.mem_singleton.mpr rfl
  obj := fun i h st b hb => by
    obtain rfl := List.mem_singleton.mp hb
    obtain ⟨ok, ov, e⟩ := st
    exact ⟨_, e, fun v z => nomatch z⟩
  keep := fun i h h' st k => by
    obtain ⟨ok, ov, e⟩ := st
    exact ⟨ok, ov, k it (List.mem_singleton.mpr rfl) _ e⟩
  item := by
    intro X hP hw hK hc i pins s σ H E I hf st hg
    subst hP hw hK
    obtain ⟨hd, hi⟩ := hg
    obtain ⟨arr', ep', e1, e2, e3, e4, e5, e6⟩ := dic_get I.hok hd
    obtain ⟨rfl, rfl⟩ := dict_ep hod e3
    obtain ⟨e, he⟩ : ∃ e, es[i]? = some e := ⟨_, List.getElem?_eq_getElem hi⟩
    obtain ⟨hl, k1, k2⟩ := ent_at e4 he
    obtain ⟨ky, hky⟩ : ∃ ky, ky = arr'[i] := ⟨_, rfl⟩
    rw [← hky] at k1 k2
    obtain ⟨ok, ov, st⟩ := st
    rw [← ent_size e4] at st
    have hlt : it < s.heap.objs.size := Heap.lt_size st
    obtain ⟨v, hv, rv⟩ : ∃ v, vv[i]? = some v ∧ RelV v e.2.2 := by
      have hlv : i < vv.length := by rw [hvv.length, List.length_map]; exact hi
      obtain ⟨u, q1, q2⟩ := hvv.get (List.getElem?_eq_getElem hlv)
      rw [List.getElem?_map, he] at q1
      cases q1
      exact ⟨_, List.getElem?_eq_getElem hlv, q2⟩
    refine wpAny_pyNext_items_item_raw st ⟨o, e1, e2, e3⟩ hl fun h' ho hT hz hk => ?_
    rw [← hky] at ho hT
    refine ⟨_, rfl, wpAny_letOwnedTupleGo_items (s := { s with heap := h' }) ho fun h2 he2 sb => ?_⟩
    have hT2 : h2.get? s.heap.objs.size = some { cls := .type "tuple", data := .seq #[ky.key, ky.val] } := (sb.2 _ (Nat.ne_of_gt hlt)).trans hT
    have new : ObjOk X.prog X.w (upd H s.heap.objs.size (.tup [.ref e.2.1, v])) h2 s.heap.objs.size (.tup [.ref e.2.1, v]) :=
      ⟨by show 2 ≤ sizeLine; decide, [ky.key, ky.val], .cons (by rw [k1]; exact rfl) (.cons (by rw [k2]; exact rv) .nil), ⟨_, hT2, rfl, _, rfl⟩⟩
    have I1 : Inv X pins σ (upd H s.heap.objs.size (.tup [.ref e.2.1, v])) { s with heap := h2 } :=
      I.turnedNew (t' := s.toks) (ch := [it]) (fun b ob hb q => (sb.2 b fun z => hb (List.mem_singleton.mpr z)).trans (hk b ob (fun z => hb (List.mem_singleton.mpr z)) q)) hf (Nat.le_refl _) new
    refine ⟨.ref s.heap.objs.size, _, I1, rfl, ⟨_, e, v, he, hv, rfl, I.hok.fresh (Nat.le_refl _), rfl⟩, ⟨ky.key, ky.val, ?_⟩, fun b hb => ?_⟩
    · rw [← ent_size e4]; exact he2
    · obtain rfl := List.mem_singleton.mp hb
      rw [upd_ne (Nat.ne_of_lt hlt)]
      exact (hf b (List.mem_singleton.mpr rfl)).1
  done := by
    intro X hP hw hK hc i pins s σ H E I hf st hg
    subst hP hw hK
    obtain ⟨hd, hi⟩ := hg
    obtain ⟨f0, f1, f2, f3, f4, f5⟩ := hf it (List.mem_singleton.mpr rfl)
    obtain ⟨arr', ep', e1, e2, e3, e4, e5, e6⟩ := dic_get I.hok hd
    obtain ⟨rfl, rfl⟩ := dict_ep hod e3
    obtain ⟨ok, ov, st⟩ := st
    rw [← ent_size e4] at st
    exact wpAny_pyNext_items_end_raw (I.ok.hd hc) st ⟨o, e1, e2, e3⟩ (by rw [ent_size e4]; exact hi) fun h' eb => ⟨rfl, I.turned (t' := s.toks) (fun b ob hb q => eb b ob hb q) f0 f1 f3 f4 f5⟩
  self := fun A i s Q E st h => by
    obtain ⟨_, _, e⟩ := st
    exact wpAny_pyIter_itemiter e h
end
end F
namespace F
open PySem PySem.Spec PyProof.Rows L2 PySem.W
section
variable {G : Glue} {a : Addr} {o : Obj} {es : List Ent} {ks vs : List D} {kv vv : List V}
theorem fix_inv {N : Addr → Prop} {H : Hp} {u : HO} (h : Rv G N H (.fix u) (.ref a)) : H a = some u := by
  cases h with
  | fix h _ => exact h
theorem zip_mem {α β : Type} : ∀ {xs : List α} {ys : List β} {i : Nat} {x : α} {y : β}, xs[i]? = some x → ys[i]? = some y → (x, y) ∈ xs.zip ys
  | [], _, _, _, _, h, _ => by simp at h
  | _ :: _, [], _, _, _, _, h => by simp at h
  | x :: xs, y :: ys, 0, _, _, h1, h2 => by
    simp only [List.getElem?_cons_zero, Option.some.injEq] at h1 h2
    subst h1; subst h2; simp
  | x :: xs, y :: ys, i + 1, _, _, h1, h2 => by
    simp only [List.getElem?_cons_succ] at h1 h2
    rw [List.zip_cons_cons]
    exact List.mem_cons_of_mem _ (zip_mem h1 h2)
abbrev hvD (G : Glue) (a : Addr) (o : Obj) (es : List Ent) (ks vs : List D) (kv vv : List V) : List (D × V) := (.fix (dicO G.P G.w a o es), .ref a) :: (ks.zip kv ++ vs.zip vv)
theorem wk_K (hk : kv = es.map fun e => V.ref e.2.1) (hl : ks.length = kv.length) : WkD G (hvD G a o es ks vs kv vv) (ItK G a o es) ks := by
  have le : ks.length = es.length := by rw [hl, hk, List.length_map]
  refine ⟨fun H => H a = some (dicO G.P G.w a o es), fun N H h => fix_inv (h _ List.mem_cons_self), fun i H hi e => ⟨e, by rw [← le]; exact hi⟩, fun H e => ⟨e, Nat.le_of_eq le.symm⟩, fun i H x H' hi _ y => ?_⟩
  obtain ⟨rfl, e, he, rfl⟩ := y
  refine ⟨Same.refl _, fun N' _ hh => ?_⟩
  have hd : ks[i]? = some ks[i] := List.getElem?_eq_getElem hi
  have hkv : kv[i]? = some (V.ref e.2.1) := by rw [hk, List.getElem?_map, he]; rfl
  exact ⟨ks[i], hd, hh (ks[i], V.ref e.2.1) (List.mem_cons_of_mem _ (List.mem_append_left _ (zip_mem hd hkv)))⟩
theorem wk_P (hk : kv = es.map fun e => V.ref e.2.1) (hl : ks.length = kv.length) (hv : vs.length = vv.length) (he : vv.length = es.length) : WkD G (hvD G a o es ks vs kv vv) (ItP G a o es vv) (zipD ks vs) := by
  have le : ks.length = es.length := by rw [hl, hk, List.length_map]
  have lz : (zipD ks vs).length = es.length := by rw [zip_len]; omega
  refine ⟨fun H => H a = some (dicO G.P G.w a o es), fun N H h => fix_inv (h _ List.mem_cons_self), fun i H hi e => ⟨e, by rw [← lz]; exact hi⟩, fun H e => ⟨e, Nat.le_of_eq lz.symm⟩, fun i H x H' hi _ y => ?_⟩
  obtain ⟨T, e, v, he', hv', rfl, hT, rfl⟩ := y
  refine ⟨same_fresh hT _, fun N' _ hh => ?_⟩
  rw [lz] at hi
  have hd : ks[i]? = some (ks[i]'(by omega)) := List.getElem?_eq_getElem _
  have hw : vs[i]? = some (vs[i]'(by omega)) := List.getElem?_eq_getElem _
  have hkv : kv[i]? = some (V.ref e.2.1) := by rw [hk, List.getElem?_map, he']; rfl
  exact ⟨.tup [ks[i]'(by omega), vs[i]'(by omega)], by rw [zip_get, hd, hw], rv_pair hT (hh _ (List.mem_cons_of_mem _ (List.mem_append_left _ (zip_mem hd hkv)))) (hh _ (List.mem_cons_of_mem _ (List.mem_append_right _ (zip_mem hw hv'))))⟩
end
def iKeyD (G : Glue) (td : TE) : TI := fun σ H R => td σ H fun x H1 => ∃ a o es, x = .ref a ∧ H1 a = some (dicO G.P G.w a o es) ∧ R (ItK G a o es) H1
def iPairD (G : Glue) (td : TE) : TI := fun σ H R => td σ H fun x H1 => ∃ a o es vv, x = .ref a ∧ H1 a = some (dicO G.P G.w a o es) ∧ Vals vv (es.map (·.2.2)) ∧ R (ItP G a o es vv) H1
section
variable {G : Glue} {X : Cx} {tg e : Expr} {td : TE} {apos cpos tpos : Pos} {elts : List Expr} {kk : Nat}
theorem pi_keyD (he : PE X e td) : PI X tg e (iKeyD G td) := by
  refine ⟨fun pins s σ H R I h => ?_⟩
  refine thn (he.run pins s σ H _ I h) fun u s1 ⟨x, H1, I1, rx, d, o, es, ex, hd, q⟩ => ?_
  subst ex
  obtain rfl : u = Value.ref d := rx
  obtain ⟨arr, ep, e1, e2, e3, e4, e5, e6⟩ := dic_get I1.hok hd
  refine wpAny_pyIter_dict_raw e5 ⟨o, e1, e2, e3⟩ (pi_one (tk := s1.toks) I1 _ (turn_K _ e3) ⟨_, Heap.get?_push_size _ rfl, rfl, ?_⟩ q)
  rw [← ent_size e4]; rfl
theorem pi_pairD (he : PE X e td) (hbase : attributeBase e "items" X.env (eval e X.env) = eval e X.env := by rfl) (hline : (apos.endLine == cpos.line) = true := by rfl) :
    PI X (.Tuple elts kk tpos) (.Call (.Attribute e "items" apos) [] [] cpos) (iPairD G td) := by
  refine ⟨fun pins s σ H R I h => ?_⟩
  refine wpAny_Call_method (T := "dict") (id := "dict.items") hbase rfl hline F.plainAttrs_dict F.slot_dict_items F.type_dict_items (thn (he.run pins s σ H _ I h) fun u s1 ⟨x, H1, I1, rx, d, o, es, vv, ex, hd, hvv, q⟩ => ?_)
  subst ex
  obtain rfl : u = Value.ref d := rx
  obtain ⟨arr, ep, e1, e2, e3, e4, e5, e6⟩ := dic_get I1.hok hd
  have raw : s1.heap.DictRaw d arr ep := ⟨o, e1, e2, e3⟩
  refine ⟨raw.typeIs, fun a' ea => by cases ea; exact ⟨o, e1, e2.2.1⟩, ?_⟩
  have raw2 : (s1.heap.push { cls := .type "dict_items", data := .fields #[.ref d] }).DictRaw d arr ep := raw.at fun ob q => Heap.get?_push_of_some _ q
  have I2 : Inv X pins σ H1 { s1 with heap := s1.heap.push { cls := .type "dict_items", data := .fields #[.ref d] } } := I1.kept (t' := s1.toks) fun b ob q => Heap.get?_push_of_some _ q
  have fin : wpAny (model X.prog X.w) X.A (pyIter (.ref s1.heap.objs.size)) (PIE X pins σ (.Tuple elts kk tpos) R) X.xe { s1 with heap := s1.heap.push { cls := .type "dict_items", data := .fields #[.ref d] } } := by
    refine wpAny_pyIter_items_raw (d := d) ⟨_, Heap.get?_push_size _ rfl, rfl, rfl⟩ raw2 (pi_one (tk := s1.toks) I2 _ (turn_P _ e3 hvv) ⟨.none, .none, ?_⟩ q)
    rw [← ent_size e4]
    exact Heap.get?_push_size _ rfl
  show wpAny _ _ (callWith cpos (.builtin "dict.items") [.ref d] [] []) _ X.xe s1
  exact method_meetsIn F.slot_dict_items F.entry_dict_items rfl (PySem.evalArgs_none ⟨rfl, raw.typeIs, F.args_dict_items_1 _, _, meets_dict_items_raw d e5, ⟨⟨arr, ep, raw⟩, fin⟩⟩)
end
/-- for k in d; for k, v in d.items() -/
def iKeys' (a : Ev) : Lv := fun sl => (a sl).bind fun x sl1 => match x with
  | .v (.dct ks vs) => if fits ks.length = true then .ok ks sl1 else .bad
  | _ => .bad
def iItems' (a : Ev) : Lv := fun sl => (a sl).bind fun x sl1 => match x with
  | .v (.dct ks vs) => if fits ks.length = true then .ok (zipD ks vs) sl1 else .bad
  | _ => .bad
section
variable {G : Glue} {W : WX} {X : Cx} {tg a : Expr} {da : Ev} {apos cpos tpos : Pos} {elts : List Expr} {kk : Nat}
theorem dct_all {N : Addr → Prop} {H : Hp} {ks vs : List D} {v : V} (h : Rv G N H (.dct ks vs) v) : ∃ a o es kv vv, v = .ref a ∧ H a = some (dicO G.P G.w a o es) ∧ kv = es.map (fun e => V.ref e.2.1) ∧ Vals vv (es.map (·.2.2)) ∧ ks.length = kv.length ∧ vs.length = vv.length ∧ (∀ p ∈ hvD G a o es ks vs kv vv, Rv G N H p.1 p.2) := by
  cases h with
  | dct h1 n h2 h3 h4 h5 h6 =>
    refine ⟨_, _, _, _, _, rfl, h1, h3, h4, h5.length, h6.length, fun p hp => ?_⟩
    rcases List.mem_cons.mp hp with rfl | hp
    · exact .fix h1 n
    rcases List.mem_append.mp hp with hp | hp
    · exact Rvs.zip h5 p hp
    · exact Rvs.zip h6 p hp
theorem fi_keys (ha : FE G W X a da) : FI G W X tg a (iKeys' da) := fun T => PI.imp (pi_keyD (G := G) (ha T)) fun σ H R h hz => by
  obtain ⟨A, sl, s, p⟩ := h hz
  refine ⟨A, sl, s, PostG.bind p fun x sl1 v H1 _ s1 k1 r1 p1 => ?_⟩
  match x, r1, p1 with
  | .v (.dct ks vs), r1, p1 =>
    obtain ⟨a0, o, es, kv, vv, rfl, e1, e2, e3, e4, e5, e6⟩ := dct_all r1
    dsimp only at p1
    split at p1
    · rename_i hf
      exact ⟨a0, o, es, rfl, e1, p1 (ItK G a0 o es, hvD G a0 o es ks vs kv vv) H1 s1 .refl ⟨wk_K e2 e4, e6, of_decide_eq_true hf⟩⟩
    · exact p1.elim
theorem fi_items (ha : FE G W X a da) (hbase : attributeBase a "items" X.env (eval a X.env) = eval a X.env := by rfl) (hline : (apos.endLine == cpos.line) = true := by rfl) : FI G W X (.Tuple elts kk tpos) (.Call (.Attribute a "items" apos) [] [] cpos) (iItems' da) := fun T => PI.imp (pi_pairD (G := G) (ha T) hbase hline) fun σ H R h hz => by
  obtain ⟨A, sl, s, p⟩ := h hz
  refine ⟨A, sl, s, PostG.bind p fun x sl1 v H1 _ s1 k1 r1 p1 => ?_⟩
  match x, r1, p1 with
  | .v (.dct ks vs), r1, p1 =>
    obtain ⟨a0, o, es, kv, vv, rfl, e1, e2, e3, e4, e5, e6⟩ := dct_all r1
    have l2 : vv.length = es.length := by rw [e3.length, List.length_map]
    dsimp only at p1
    split at p1
    · rename_i hf
      have hf := of_decide_eq_true hf
      exact ⟨a0, o, es, vv, rfl, e1, e3, p1 (ItP G a0 o es vv, hvD G a0 o es ks vs kv vv) H1 s1 .refl ⟨wk_P e2 e4 e5 l2, e6, by rw [zip_len]; exact Nat.le_trans (Nat.min_le_left _ _) hf⟩⟩
    · exact p1.elim
end
end F

set_option Elab.async false
set_option linter.all false
set_option maxRecDepth 100000
set_option maxHeartbeats 4000000
/-! sorted(d): the keys of a dict -/
namespace F
open PySem PySem.Spec PyProof.Rows L2 PySem.W PySem.SeqAt MeetsSeq PySem.Calls PyProof.V
section
variable {prog : Program} {w : World} {A : Around} {E : Value → Shared → Prop} {s : Shared} {d : Addr} {arr : Array DictEntry} {ep : Nat}
theorem dict_collect {R : List Value → Shared → Prop} (lo : (d == sysModules) = false) (hh : A.handled = none) (hm : s.heap.DictRaw d arr ep) (hn : arr.size ≤ sizeLine)
    (h : ∀ (h' : Heap) (tk : Nat) (acc : Array Value), (∀ b o, s.heap.get? b = some o → h'.get? b = some o) → s.heap.objs.size < h'.objs.size → ItemsOf (fun i v => ∃ hi : i < arr.size, v = arr[i].key) acc arr.size → R acc.toList { s with heap := h', toks := tk }) :
    wpAny (model prog w) A (collect (.ref d)) R E s := by
  have K : KdlSrc prog w "dict" d d arr.size (fun i v => ∃ hi : i < arr.size, v = arr[i].key) (fun h => h.DictRaw d arr ep) := KdlSrc.rawDict lo
  have hlt := K.there _ hm
  unfold collect
  refine wpAny_bind (wpAny_runValue (codeAny_builtin entry_proto_collect' ?_))
  rw [Around.under_plainId PySem.F.plain_proto_collect _]
  show wpAny _ A.in1 (do let l ← newList []; again (.builtin "list.__iadd__" ⟨[l, .ref d], []⟩)) _ _ s
  refine wpAny_bind (wpAny_newObj_type (wpAny_pure ⟨plainId_quiet PySem.F.plain_list_iadd _, codeAny_builtin entry_list_iadd' ?_⟩))
  rw [Around.under_plainId PySem.F.plain_list_iadd _]
  obtain ⟨S, hS⟩ : ∃ S, S = s.heap.objs.size := ⟨_, rfl⟩
  rw [← hS] at hlt
  have new : (s.heap.push { cls := .type "list", data := .seq ([] : List Value).toArray }).get? S = some { cls := .type "list", data := .seq #[] } := by rw [hS]; exact Heap.get?_push_size _ rfl
  have ext := kdl_extend (A := A) (s := { s with heap := s.heap.push { cls := .type "list", data := .seq ([] : List Value).toArray } })
    (R := fun (q : Result) (s' : Shared) => q = .ok (.ret (.ref S)) ∧ ∃ (h' : Heap) (tk : Nat) (acc : Array Value) (c : Nat), s' = { s with heap := h', toks := tk } ∧ (∀ b o, s.heap.get? b = some o → h'.get? b = some o) ∧
      h'.get? S = some { cls := .type "list", dict := none, data := .seq acc c, slots := #[] } ∧ ItemsOf (fun i v => ∃ hi : i < arr.size, v = arr[i].key) acc arr.size)
    K hh (K.keep _ _ hm fun b _ o e => Heap.get?_push_of_some _ e) S (Nat.ne_of_gt hlt.1) (Nat.ne_of_gt hlt.2) (.ref S) 0 new
    (fun h' tk acc c hk hc hi => ⟨rfl, h', tk, acc, c, rfl, fun b o e => hk b o (by rw [hS]; exact Nat.ne_of_lt (Heap.lt_size e)) (Heap.get?_push_of_some _ e), hc, hi⟩) hn
  have last : ∀ (h' : Heap) (tk : Nat) (acc : Array Value) (c : Nat), (∀ b o, s.heap.get? b = some o → h'.get? b = some o) → h'.get? S = some { cls := .type "list", dict := none, data := .seq acc c, slots := #[] } →
      ItemsOf (fun i v => ∃ hi : i < arr.size, v = arr[i].key) acc arr.size → R acc.toList { s with heap := h', toks := tk } := fun h' tk acc c hk hc hi => h h' tk acc hk (by rw [← hS]; exact Heap.lt_size hc) hi
  rw [← hS]
  show wpAny _ A.in1 (Builtin.List.listExtendWith (.ref S) (.ref d) (.ref S)) _ _ _
  refine wpAny_mono ext (fun fin s' x => ?_) fun e s' x => nomatch x.1
  cases fin with
  | done f =>
    obtain ⟨e, h', tk, acc, c, rfl, hk, hc, hi⟩ := x
    cases e
    show wpAny _ A (load S >>= _) _ _ _
    exact wpAny_bind (wpAny_load hc (wpAny_pure (last h' tk acc c hk hc hi)))
  | again c1 =>
    refine ⟨x.1, codeAny_mono x.2 fun q s2 y => ?_⟩
    obtain ⟨rfl, h', tk, acc, c, rfl, hk, hc, hi⟩ := y
    show wpAny _ A (load S >>= _) _ _ _
    exact wpAny_bind (wpAny_load hc (wpAny_pure (last h' tk acc c hk hc hi)))
theorem sorted_dict {Q : Value → Shared → Prop} (lo : (d == sysModules) = false) (hh : A.in1.handled = none) (hm : s.heap.DictRaw d arr ep) (hn : arr.size ≤ sizeLine)
    (hs : ∀ h' tk, (∀ b o, s.heap.get? b = some o → h'.get? b = some o) → ∃ κ, SortsAt prog w A.in1.in1 { s with heap := h', toks := tk } κ (arr.toList.map (·.key)) ∧
      ∀ h2 tk2 p c, (∀ b o, s.heap.get? b = some o → h2.get? b = some o) → s.heap.objs.size ≤ p → h2.get? p = some (seqObj "list" (sortVals κ false (arr.toList.map (·.key)) (arr.toList.map (·.key))).toArray c) → Q (.ref p) { s with heap := h2, toks := tk2 }) :
    wpAny (model prog w) A (call (.builtin "sorted") [.ref d] []) Q E s := by
  refine call_function_entry_kw kind_sorted plain_sorted entry_sorted (args_sorted1 _) ?_
  unfold Builtin.«sorted»
  refine wpAny_bind (m := checkCount "sorted" 1 1 _) (wpAny_pure ?_)
  refine wpAny_bind (dict_collect lo hh hm hn fun h1 tk acc hk hsz hi => ?_)
  have ev : acc.toList = arr.toList.map (·.key) := by
    refine List.ext_getElem? fun i => ?_
    by_cases hl : i < arr.size
    · have hl2 : i < acc.size := by rw [hi.1]; exact hl
      obtain ⟨_, q⟩ := hi.2 i acc[i] (Array.getElem?_eq_getElem hl2)
      rw [Array.getElem?_toList, Array.getElem?_eq_getElem hl2, q, List.getElem?_map, Array.getElem?_toList, Array.getElem?_eq_getElem hl]; rfl
    · rw [Array.getElem?_toList, Array.getElem?_eq_none (by rw [hi.1]; omega), List.getElem?_map, Array.getElem?_toList, Array.getElem?_eq_none (by omega)]; rfl
  rw [ev]
  have hL : (arr.toList.map (·.key)).length ≤ sizeLine := by rw [List.length_map, Array.length_toList]; exact hn
  refine wpAny_bind (wpAny_newList ?_ hL)
  have at1 : (h1.push (seqObj "list" (arr.toList.map (·.key)).toArray 0)).get? h1.objs.size = some (seqObj "list" (arr.toList.map (·.key)).toArray 0) := Heap.get?_push_size _ rfl
  have keep2 : ∀ b o, s.heap.get? b = some o → (h1.push (seqObj "list" (arr.toList.map (·.key)).toArray 0)).get? b = some o := fun b o e => Heap.get?_push_of_some _ (hk b o e)
  have ne : ∀ b o, s.heap.get? b = some o → b ≠ h1.objs.size := fun b o e => Nat.ne_of_lt (Nat.lt_trans (Heap.lt_size e) hsz)
  obtain ⟨κ, sa, h⟩ := hs (sortingHeap (h1.push (seqObj "list" (arr.toList.map (·.key)).toArray 0)) h1.objs.size (arr.toList.map (·.key))) tk fun b o e => sortingHeap_old (ne b o e) (keep2 b o e)
  refine wpAny_bind (wpAny_holding (wpAny_call_entry_kw slot_list_sort ⟨_, at1, rfl⟩ entry_list_sort ?body (args_list_sort _)))
  case body =>
    show wpAny (model prog w) A.in1.in1 (Builtin.«list.sort» ⟨[.ref h1.objs.size], []⟩) _ _ _
    refine list_sort_vals (κ := κ) at1 sa hL ?_
    obtain ⟨c, hc⟩ := sortedHeap_at (vs := arr.toList.map (·.key)) (out := (sortVals κ false (arr.toList.map (·.key)) (arr.toList.map (·.key))).toArray) at1
    refine ⟨_, rfl, wpAny_pure ⟨_, rfl, h _ _ h1.objs.size c (fun b o e => ?_) (Nat.le_of_lt hsz) hc⟩⟩
    rw [sortedHeap_old (ne b o e) (Heap.lt_size (keep2 b o e))]
    exact keep2 b o e
end
end F

namespace F
open PySem PySem.Spec PyProof.Rows L2 PySem.W PySem.SeqAt MeetsSeq PySem.Calls PyProof.V
section
variable {G : Glue} {X : Cx}
/-- sorted(d), d a dict: a new list of its keys -/
def rSortK (G : Glue) (un : Nat) : List V → Hp → VK → Prop := fun xs H Q => ∃ (a : Addr) (o : Obj) (es : List Ent) (kv : List V) (ds : List D), xs = [.ref a] ∧ H a = some (dicO G.P G.w a o es) ∧ kv = es.map (fun e => V.ref e.2.1) ∧ DpAll G.K H kv (ds.map toPy) ∧ SortsD (ds.map toPy) ∧ (∀ d ∈ ds, d.pur = true) ∧
  (∀ d ∈ ds, un + 2 + (toPy d).depth < cLine) ∧ ∀ q, H q = none → Q (.ref q) (upd H q (.lst (((kv.zip ds).mergeSort (dataLe false fun p => toPy p.2)).map (·.1))))
theorem vals_keys : ∀ es : List Ent, Vals (es.map fun e => V.ref e.2.1) (es.map fun e => Value.ref e.2.1)
  | [] => .nil
  | _ :: es => .cons rfl (vals_keys es)
theorem cr_sortK (hc : X.calm = true) (hK : X.K = G.K) : CallR X (.builtin "sorted") (rSortK G X.A.units) := by
  intro pins s σ H xs us Q I r h
  obtain ⟨a, o, es, kv, ds, rfl, hd, hkv, hdp, hk, hpl, hu, q⟩ := h
  rw [Vals.ref1 r]
  obtain ⟨arr, ep, e1, e2, e3, e4, e5, e6⟩ := dic_get I.hok hd
  have hv : arr.toList.map (·.key) = es.map fun e => Value.ref e.2.1 := by
    rw [e4, List.map_map]; rfl
  have rv : Vals kv (arr.toList.map (·.key)) := by rw [hv, hkv]; exact vals_keys es
  have hlen : kv.length = ds.length := by rw [dpAll_len hdp, List.length_map]
  rw [← hK] at hdp
  obtain ⟨as, hr⟩ := Dp.readsAll I (ds.map toPy) kv _ hdp rv
  have ee := each_pair (ds := ds) rv hlen
  have zs : (kv.zip ds).map (fun p => toPy p.2) = ds.map toPy := by
    show (kv.zip ds).map (toPy ∘ Prod.snd) = _
    rw [← List.map_map, List.map_snd_zip (Nat.le_of_eq hlen.symm)]
  have er := readsAll_each (h := s.heap) (fun p : V × D => toPy p.2) (vs := arr.toList.map (·.key)) (bs := kv.zip ds) (as := as) (by rw [zs]; exact hr)
  have hp' : ∀ d ∈ (kv.zip ds).map (fun p => toPy p.2), d.plain = true := fun d hd' => by
    rw [zs] at hd'
    obtain ⟨x, hx, rfl⟩ := List.mem_map.mp hd'
    exact plain_pur x (hpl x hx)
  refine sorted_dict e5 (I.ok.hd hc) ⟨o, e1, e2, e3⟩ (by rw [ent_size e4]; exact e6) fun h' tk hkp => ⟨dataKind h' ((kv.zip ds).map fun p => toPy p.2), ?_, fun h2 tk2 p c hk2 hsz hget => ?_⟩
  · have er' : EachIs (fun v (p : V × D) => ∃ as, Reads h' v (toPy p.2) as) (arr.toList.map (·.key)) (kv.zip ds) := er.mono fun _ _ ⟨as, r⟩ => ⟨as, PyProof.Rows.Reads.keeps hkp r⟩
    have er2 := each_map (R := fun v d => ∃ as, Reads h' v d as) (fun p : V × D => toPy p.2) er'
    rw [zs] at er2
    rw [zs]
    exact hk _ _ _ { s with heap := h', toks := tk } _ er2 fun d hd' => by
      obtain ⟨x, hx, rfl⟩ := List.mem_map.mp hd'
      exact hu x hx
  · have er' : EachIs (fun v (p : V × D) => ∃ as, Reads h' v (toPy p.2) as) (arr.toList.map (·.key)) (kv.zip ds) := er.mono fun _ _ ⟨as, r⟩ => ⟨as, PyProof.Rows.Reads.keeps hkp r⟩
    have er2 := each_map (R := fun v d => ∃ as, Reads h' v d as) (fun p : V × D => toPy p.2) er'
    have eo : EachIs (fun u (p : V × D) => RelV p.1 u) (sortVals (dataKind h' ((kv.zip ds).map fun p => toPy p.2)) false (arr.toList.map (·.key)) (arr.toList.map (·.key))) ((kv.zip ds).mergeSort (dataLe false fun p => toPy p.2)) :=
      sortVals_each (κ := dataKind h' ((kv.zip ds).map fun p => toPy p.2)) (fun p : V × D => keyToks (toPy p.2)) ee (each_of_map (fun p : V × D => toPy p.2) (R := fun v d => (dataKind h' ((kv.zip ds).map fun p => toPy p.2)).keyOf v = some (keyToks d)) ((each_mem er2).mono fun v d ⟨⟨as, r⟩, hd'⟩ => kind_reads hp' hd' r))
    have ev := each_vals eo
    have ol := sortVals_length (κ := dataKind h' ((kv.zip ds).map fun p => toPy p.2)) false (ks := arr.toList.map (·.key)) (vs := arr.toList.map (·.key)) rfl
    exact ⟨.ref p, upd H p (.lst (((kv.zip ds).mergeSort (dataLe false fun p => toPy p.2)).map (·.1))), I.laid (t' := tk2) hk2 hsz ⟨by rw [ev.length, ol, hv, List.length_map]; exact e6, _, c, ev, hget⟩, rfl, q _ (I.hok.fresh hsz)⟩
/-- sorted of a list, of a dict -/
def bSortK : List D → Re (List D)
  | [.dct ks _] => if sortOk ks = true then .ok (sortD ks) else .bad
  | _ => .bad
theorem c_sortedK (hu : X.A.units + 130 < cLine) (hc : X.calm = true := by rfl) (hK : X.K = G.K := by rfl) : CallL G X (.builtin "sorted") bSortK := by
  refine ⟨_, cr_sortK (G := G) hc hK, fun N H xs ds z Q hz hn r h k => ?_⟩
  unfold bSortK at h
  split at h
  · rename_i ys vs0
    obtain ⟨v, rfl, q⟩ := r.one
    split at h
    · rename_i ok
      cases h
      obtain ⟨a, rfl, hd⟩ := q.dct
      obtain ⟨o, es, kv, vv, h1, h2, h3, h4, h5, h6⟩ := hd
      have ok' := ok
      unfold sortOk at ok'
      simp only [Bool.and_eq_true, decide_eq_true_eq] at ok'
      have dp := Rvs.dp ok'.1.2 h5
      refine ⟨a, o, es, kv, ys, rfl, h1, h3, by rw [← toPys_map]; exact dp, sortOk_sorts ok, purs_mem ok'.1.2, fun d hd => ?_, fun q hq => k _ H (Same.refl H) (rvs_sort h5) q hq⟩
      have g1 := depth_py d
      have g2 := depths_mem d hd
      have g3 := ok'.2
      rw [g1]; omega
    · cases h
  · cases h
end
end F

set_option Elab.async false
set_option linter.all false
set_option maxRecDepth 100000
set_option maxHeartbeats 4000000
/-! comprehensions with two clauses -/
namespace F
open PySem PySem.Spec PyProof.Rows L2
def lc2L (vs vs1 : List Nat) (t : Tg) (c : Sl → R Bool) (it1 : Lv) (t1 : Tg) (c1 : Sl → R Bool) (e : Ev) : List D → Sl → Option (List D × Sl)
  | [], sl => some ([], sl)
  | d :: ds, sl => match bindT t d (wipeD sl vs) with
    | none => none
    | some sl1 => match c sl1 with
      | .ok true sl2 => match it1 sl2 with
        | .ok ds1 sl3 => match lcL vs1 t1 c1 e ds1 sl3 with
          | some (ys, sl4) => match lc2L vs vs1 t c it1 t1 c1 e ds sl4 with
            | some (zs, sl5) => some (ys ++ zs, sl5)
            | none => none
          | none => none
        | _ => none
      | .ok false sl2 => lc2L vs vs1 t c it1 t1 c1 e ds sl2
      | _ => none
def dLc2 (vs vs1 : List Nat) (t : Tg) (c : Sl → R Bool) (it1 : Lv) (t1 : Tg) (c1 : Sl → R Bool) (e : Ev) (it : Lv) : Lv := fun sl => (it sl).bind fun ds sl1 => if noOwn sl1 vs then match lc2L vs vs1 t c it1 t1 c1 e ds sl1 with
  | some (ys, slw) => if fits ys.length = true then .ok ys (merge sl1 slw vs) else .bad
  | none => .bad
  else .bad
section
variable {J : It} {n : Nat} {Gd : Hp → Prop} {Y : Nat → Hp → V → Hp → Prop}
/-- a walk from any heap on, whatever is done at each turn -/
theorem walk_go (w : Walk J n Gd Y) {B : (Hp → Prop) → V → Hp → Prop} {H0 : Hp} {Qd : Hp → Prop} (Pv : Nat → Hp → Prop) (h0 : Pv 0 H0) (hG : ∀ i H, i ≤ n → Pv i H → Gd H)
    (turn : ∀ i x H H', i < n → Pv i H → Y i H x H' → B (Pv (i + 1)) x H') (end_ : ∀ H, Pv n H → Qd H) :
    ∃ Wk : Nat → Nat → Hp → Prop, (∃ m, Wk 0 m H0) ∧ ∀ i m H, Wk i m H → (J.stop i H ∧ Qd H) ∨ (J.go i H ∧ ∃ Nx : Hp → Prop, (∀ H', Nx H' → ∃ m', m' < m ∧ Wk (i + 1) m' H') ∧ ∀ x H', J.yld i H x H' → B Nx x H') := by
  refine ⟨fun i m H => m + i = n ∧ Pv i H, ⟨n, rfl, h0⟩, fun i m H ⟨hm, p⟩ => ?_⟩
  have q := hG i H (by omega) p
  cases m with
  | zero =>
    obtain rfl : i = n := by omega
    exact .inl ⟨w.stops H q, end_ H p⟩
  | succ m =>
    have hi : i < n := by omega
    exact .inr ⟨w.goes i H hi q, Pv (i + 1), fun H' p' => ⟨m, Nat.lt_succ_self m, by omega, p'⟩, fun x H' y => turn i x H H' hi p (w.yields i H x H' hi q y)⟩
end
theorem wipe_sub {σ : St} {vs vs1 : List Nat} (hs : ∀ n ∈ vs1, n ∈ vs) : wipe (wipe σ vs1) vs = wipe σ vs := by
  apply List.ext_getElem?
  intro i
  rw [wipe_get, wipe_get, wipe_length, wipe_get]
  by_cases q : i ∈ vs
  · rw [if_pos q, if_pos q]
  · rw [if_neg q, if_neg q, if_neg fun z => q (hs i z)]
theorem wipeD_sub {sl : Sl} {vs vs1 : List Nat} (hs : ∀ n ∈ vs1, n ∈ vs) : wipeD (wipeD sl vs1) vs = wipeD sl vs := by
  apply List.ext_getElem?
  intro i
  rw [wipeD_get, wipeD_get, wipeD_len, wipeD_get]
  by_cases q : i ∈ vs
  · rw [if_pos q, if_pos q]
  · rw [if_neg q, if_neg q, if_neg fun z => q (hs i z)]
theorem Sr.grow2 {G : Glue} {T : Act} {A : Nat → Option Addr} {sl : Sl} {σ : St} {H : Hp} {Dd : Addr} {us ws : List V} (r : Sr G T A sl σ H) (n : T.N0 Dd) (nO : ¬ Own A Dd) (h0 : T.H0 Dd = none) (hD : H Dd = some (.lst us)) (hl : ws.length ≤ sizeLine) : Sr G T A sl σ (L2.upd H Dd (.lst ws)) := r.grow n nO h0 hD hl
theorem lc2_read {G : Glue} {W : WX} {X : Cx} {T : Act} {t t1 : Tg} {it it1 : Lv} {c c1 : Sl → R Bool} {e : Ev} {vs vs1 : List Nat} {σ : St} {H : Hp} {Q : VK} (hs : ∀ n ∈ t.slots, n ∈ vs) (hs1 : ∀ n ∈ t1.slots, n ∈ vs1) (hv1 : ∀ n ∈ vs1, n ∈ vs)
    (h : tNew G W T (dLc2 vs vs1 t c it1 t1 c1 e it) σ H Q) :
    tLc2 (tIt G W T it) (fun v σ H Q => ∃ T, tTg G T t v σ H Q) (fun σ H Q => ∃ T, HSz H → ∃ A sl, Sr G T A sl σ H ∧ PostB G noW T A σ H (c sl) Q) (fun σ H R => ∃ T, tIt G noW T it1 σ H R)
      (fun v σ H Q => ∃ T, tTg G T t1 v σ H Q) (fun σ H Q => ∃ T, HSz H → ∃ A sl, Sr G T A sl σ H ∧ PostB G noW T A σ H (c1 sl) Q) (fun σ H Q => ∃ T, tEv G noW T e σ H Q) vs vs1 σ H Q := fun hz => by
  obtain ⟨A, sl, s, p⟩ := h hz
  refine ⟨A, sl, s, PostG.bind p fun ds sl1 q H1 _ s1 k1 r1 p1 => ?_⟩
  obtain ⟨J, hv⟩ := q
  obtain ⟨⟨Gd, hG, wk⟩, hh, hle⟩ := r1
  dsimp only at hG wk hh p1
  split at p1
  · rename_i no
    split at p1
    · rename_i Y SLW hY
      split at p1
      · rename_i hfit
        have hfit : Y.length ≤ sizeLine := of_decide_eq_true hfit
        intro Dd hD
        obtain ⟨Tw, eTw⟩ : ∃ Tw, Tw = Act.away { T with hd := hv ++ T.hd } Dd := ⟨_, rfl⟩
        have sb : Sr G Tw A (wipeD sl1 vs) (wipe σ vs) (upd H1 Dd (.lst [])) := eTw ▸ ((s1.holds hh).block hD (vs := []) (Nat.zero_le _)).wiped vs
        have nO : ¬ Own A Dd := fun ⟨i, z⟩ => s1.fresh hD (.inr ⟨i, z⟩)
        have h0D : Tw.H0 Dd = none := by rw [eTw]; exact s1.fresh0 hD
        have nD : Tw.N0 Dd := by rw [eTw]; exact .inr rfl
        have hhd : Tw.hd = hv ++ T.hd := by rw [eTw]
        refine walk_go wk (Qd := fun H => Q (.ref Dd) H)
          (fun i H => ∃ slc accD accV, Sr G Tw A (wipeD slc vs) (wipe σ vs) H ∧ H Dd = some (.lst accV) ∧ Rvs G (Tw.N A) H accD accV ∧ Keep (Own A) H1 H ∧ ∃ ys, lc2L vs vs1 t c it1 t1 c1 e (ds.drop i) slc = some (ys, SLW) ∧ accD ++ ys = Y)
          ⟨sl1, [], [], sb, upd_same, .nil, .same (same_fresh hD _), Y, by rw [List.drop_zero]; exact hY, rfl⟩
          (fun i H _ ⟨slc, accD, accV, sr, _⟩ => hG _ H fun p hp => sr.held p (by rw [hhd]; exact List.mem_append_left _ hp)) (fun i x H H' hi ⟨slc, accD, accV, sr, hDD, ra, kk, ys, hl, hY'⟩ y => ?_) fun H ⟨slc, accD, accV, sr, hDD, ra, kk, ys, hl, hY'⟩ => ?_
        · obtain ⟨sm, y⟩ := y
          obtain ⟨d, hd, rd⟩ := y _ (fun p h => sr.fresh h) fun p hp => sr.held p (by rw [hhd]; exact List.mem_append_left _ hp)
          have ed : ds.drop i = d :: ds.drop (i + 1) := by
            obtain ⟨hl, e⟩ := List.getElem?_eq_some_iff.mp hd
            rw [List.drop_eq_getElem_cons hl, e]
          rw [ed] at hl
          unfold lc2L at hl
          split at hl
          · cases hl
          · rename_i slb hb
            refine ⟨_, fun hz' => ⟨A, _, d, slb, sr.grown sm hz', rd, hb, fun σ2 al s2 => ?_⟩⟩
            have e2 : wipe σ2 vs = wipe σ vs := by rw [wipe_alike al hs, wipe_wipe]
            refine ⟨e2, _, fun hz2 => ⟨A, slb, s2, ?_⟩⟩
            have keepD : ∀ {H3 : Hp}, Keep (Own A) H' H3 → H3 Dd = some (.lst accV) := fun k => k _ _ (sm _ _ hDD) fun z => absurd z nO
            split at hl
            · rename_i sl2 hc
              rw [hc]
              intro b H3 s3 k3 eb
              subst eb
              rw [if_pos rfl]
              split at hl
              · rename_i ds1 sl3 hi1
                refine ⟨Tw, fun hz3 => ⟨A, sl2, s3, ?_⟩⟩
                rw [hi1]
                intro q H4 s4 k4 r4
                obtain ⟨J1, hv1'⟩ := q
                obtain ⟨⟨Gd1, hG1, wk1⟩, hh1, hle1⟩ := r4
                dsimp only at hG1 wk1 hh1
                split at hl
                · rename_i ys1 sl4 hin
                  split at hl
                  · rename_i zs sl5 hrec
                    cases hl
                    obtain ⟨T1, eT1⟩ : ∃ T1, T1 = { Tw with hd := hv1' ++ Tw.hd } := ⟨_, rfl⟩
                    have sw : Sr G T1 A (wipeD sl3 vs1) (wipe σ2 vs1) H4 := eT1 ▸ (s4.holds hh1).wiped vs1
                    have h1hd : T1.hd = hv1' ++ Tw.hd := by rw [eT1]
                    have h1N : T1.N A = Tw.N A := by rw [eT1]
                    have h1D : T1.H0 Dd = none := by rw [eT1]; exact h0D
                    have n1D : T1.N0 Dd := by rw [eT1]; exact nD
                    have kt : Keep (Own A) H H4 := (Keep.same sm).trans (k3.trans k4)
                    refine walk_go wk1
                      (fun j H => ∃ slc accD accV, Sr G T1 A (wipeD slc vs1) (wipe σ2 vs1) H ∧ H Dd = some (.lst accV) ∧ Rvs G (Tw.N A) H accD accV ∧ Keep (Own A) H1 H ∧ ∃ ys, lcL vs1 t1 c1 e (ds1.drop j) slc = some (ys, sl4) ∧ accD ++ (ys ++ zs) = Y)
                      ⟨sl3, accD, accV, sw, keepD (k3.trans k4), Rvs.keep kt (fun _ z => .inr z) ra, kk.trans kt, ys1, by rw [List.drop_zero]; exact hin, hY'⟩
                      (fun j H _ ⟨slc, accD, accV, sr, _⟩ => hG1 _ H fun p hp => sr.held p (by rw [h1hd]; exact List.mem_append_left _ hp)) (fun j x H H' hj ⟨slc, accD, accV, sr, hDD, ra, kk, ys, hl, hY'⟩ y => ?_) fun H ⟨slc, accD, accV, sr, hDD, ra, kk, ys, hl, hY'⟩ => ?_
                    · obtain ⟨sm, y⟩ := y
                      obtain ⟨d, hd, rd⟩ := y _ (fun p h => sr.fresh h) fun p hp => sr.held p (by rw [h1hd]; exact List.mem_append_left _ hp)
                      have ed : ds1.drop j = d :: ds1.drop (j + 1) := by
                        obtain ⟨hl, e⟩ := List.getElem?_eq_some_iff.mp hd
                        rw [List.drop_eq_getElem_cons hl, e]
                      rw [ed] at hl
                      unfold lcL at hl
                      split at hl
                      · cases hl
                      · rename_i slb1 hb1
                        refine ⟨_, fun hz' => ⟨A, _, d, slb1, sr.grown sm hz', rd, hb1, fun σ3 al1 s5 => ?_⟩⟩
                        have e3 : wipe σ3 vs1 = wipe σ2 vs1 := by rw [wipe_alike al1 hs1, wipe_wipe]
                        refine ⟨e3, _, fun hz2 => ⟨A, slb1, s5, ?_⟩⟩
                        have nxt : ∀ {slc' : Sl} {H3 : Hp}, Sr G T1 A slc' σ3 H3 → Sr G T1 A (wipeD slc' vs1) (wipe σ2 vs1) H3 := fun s3 => by
                          have := s3.wiped vs1
                          rw [e3] at this; exact this
                        have keepD : ∀ {H3 : Hp}, Keep (Own A) H' H3 → H3 Dd = some (.lst accV) := fun k => k _ _ (sm _ _ hDD) fun z => absurd z nO
                        split at hl
                        · rename_i sl6 hc1
                          rw [hc1]
                          intro b H5 s6 k5 eb
                          subst eb
                          rw [if_pos rfl]
                          split at hl
                          · rename_i x' sl7 he
                            split at hl
                            · rename_i ys' sl8 hrec1
                              cases hl
                              refine ⟨_, fun hz3 => ⟨A, sl6, s6, ?_⟩⟩
                              rw [he]
                              intro v H6 s7 k6 r6
                              have kt : Keep (Own A) H H6 := (Keep.same sm).trans (k5.trans k6)
                              have hD4 : H6 Dd = some (.lst accV) := keepD (k5.trans k6)
                              have lt : accD.length < sizeLine := by
                                have := congrArg List.length hY'
                                rw [List.length_append, List.length_append, List.length_cons] at this
                                omega
                              have ra4 := Rvs.keep kt (fun _ z => .inr z) ra
                              have la := ra.length
                              have kD : Keep (fun a => a = Dd) H6 (L2.upd H6 Dd (.lst (accV ++ [v]))) := Keep.upd hD4 (fun z => z) rfl
                              refine ⟨accV, hD4, by omega, sl7, accD ++ [x'], accV ++ [v], (nxt s7).grow n1D nO h1D hD4 (by rw [List.length_append]; show _ + 1 ≤ _; omega), upd_same, ?_, ?_, ys', hrec1, by rw [List.append_assoc]; exact hY'⟩
                              · have r6 : Rv G (T1.N A) H6 x' v := r6
                                rw [h1N] at r6
                                exact Rvs.keep kD (fun a z => .inl (by rw [z]; exact nD)) (ra4.append (.cons r6 .nil))
                              · intro b o e f
                                rw [upd_ne fun z => by rw [z, hD] at e; cases e]
                                exact (kk.trans kt) b o e f
                            · cases hl
                          · cases hl
                        · rename_i sl6 hc1
                          rw [hc1]
                          intro b H5 s6 k5 eb
                          subst eb
                          rw [if_neg (by simp)]
                          have kt : Keep (Own A) H H5 := (Keep.same sm).trans k5
                          exact ⟨sl6, accD, accV, nxt s6, keepD k5, Rvs.keep kt (fun _ z => .inr z) ra, kk.trans kt, ys, hl, hY'⟩
                        · cases hl
                    · rw [List.drop_length] at hl
                      unfold lcL at hl
                      cases hl
                      rw [List.nil_append] at hY'
                      refine ⟨sl4, accD, accV, ?_, hDD, ra, kk, zs, hrec, hY'⟩
                      have w1 := sr.wiped vs
                      rw [wipeD_sub hv1, wipe_sub hv1, e2] at w1
                      rw [eT1] at w1
                      exact Sr.unhold (T := Tw) (T' := { Tw with hd := hv1' ++ Tw.hd }) rfl rfl rfl (fun q hq => List.mem_append_right _ hq) w1
                  · cases hl
                · cases hl
              · cases hl
            · rename_i sl2 hc
              rw [hc]
              intro b H3 s3 k3 eb
              subst eb
              rw [if_neg (by simp)]
              have kt : Keep (Own A) H H3 := (Keep.same sm).trans k3
              have w1 := s3.wiped vs
              rw [e2] at w1
              exact ⟨sl2, accD, accV, w1, keepD k3, Rvs.keep kt (fun _ z => .inr z) ra, kk.trans kt, ys, hl, hY'⟩
            · cases hl
        · rw [List.drop_length] at hl
          unfold lc2L at hl
          cases hl
          rw [List.append_nil] at hY'
          subst hY'
          rw [eTw] at sr
          obtain ⟨sr', kr⟩ := Sr.unblock (T' := Act.away { T with hd := hv ++ T.hd } Dd) s1 rfl rfl rfl sr kk hD hDD no
          have eH : H = L2.upd (L2.del H Dd) Dd (.lst accV) := by
            funext a
            by_cases z : a = Dd
            · subst z; rw [upd_same]; exact hDD
            · rw [upd_ne z, L2.del_ne z]
          rw [eTw] at ra
          have := p1 accV (L2.del H Dd) sr' kr (Rvs.del hDD (.inl (.inr rfl)) (fun a z => by
            rcases z with z | z
            · exact .inl (.inl z)
            · exact .inr z) ra) Dd L2.del_same
          rw [← eH] at this
          exact this
      · exact p1.elim
    · exact p1.elim
  · exact p1.elim
section
variable {G : Glue} {W : WX} {X : Cx} {tg iter tg1 iter1 elt : Expr} {ifs ifs1 : List Expr} {scope : Scope} {own : List (Str × Nat)} {pos spos : Pos} {t t1 : Tg} {it it1 : Lv} {c c1 : Sl → R Bool} {e : Ev} {vs vs1 : List Nat}
theorem fl_lc2 (hN : X.N.Nodup) (ok : BlkOk X.N X.env.scope scope own) (hi : FI G W X tg iter it)
    (hg : ∀ (s : Shared) (H : Hp) (C : Addr) (cl : List (Str × Addr)) (fp : List Addr), FG G (X.blk s H scope (compEnvC scope cl C X.env) fp) tg t)
    (ht : ∀ (s : Shared) (H : Hp) (C : Addr) (cl : List (Str × Addr)) (fp : List Addr), FTs G (X.blk s H scope (compEnvC scope cl C X.env) fp) ifs c)
    (hi1 : ∀ (s : Shared) (H : Hp) (C : Addr) (cl : List (Str × Addr)) (fp : List Addr), FI G noW (X.blk s H scope (compEnvC scope cl C X.env) fp) tg1 iter1 it1)
    (hg1 : ∀ (s : Shared) (H : Hp) (C : Addr) (cl : List (Str × Addr)) (fp : List Addr), FG G (X.blk s H scope (compEnvC scope cl C X.env) fp) tg1 t1)
    (ht1 : ∀ (s : Shared) (H : Hp) (C : Addr) (cl : List (Str × Addr)) (fp : List Addr), FTs G (X.blk s H scope (compEnvC scope cl C X.env) fp) ifs1 c1)
    (he : ∀ (s : Shared) (H : Hp) (C : Addr) (cl : List (Str × Addr)) (fp : List Addr), FE G noW (X.blk s H scope (compEnvC scope cl C X.env) fp) elt e)
    (hv : own.map (·.2) = vs := by rfl) (hsl : ∀ n ∈ t.slots, n ∈ vs := by decide) (hsl1 : ∀ n ∈ t1.slots, n ∈ vs1 := by decide) (hv1 : ∀ n ∈ vs1, n ∈ vs := by decide) (hc : X.calm = true := by rfl)
    (hs : ∀ x, foldedSetIterable iter X.env x = pure x := by intro _; rfl) (hs1 : ∀ env x, foldedSetIterable iter1 env x = pure x := by intro _ _; rfl) :
    FL G W X (.ListComp elt [⟨tg, iter, ifs, 0⟩, ⟨tg1, iter1, ifs1, 0⟩] scope pos) (dLc2 vs vs1 t c it1 t1 c1 e it) := fun T => by
  subst hv
  exact PE.imp (pe_lc2 hc hN (hi T) ok hv1 (fun s H C cl fp => PG.any (hg s H C cl fp)) (fun s H C cl fp => PTs.any (ht s H C cl fp)) (fun s H C cl fp => PI.any (hi1 s H C cl fp)) (fun s H C cl fp => PG.any (hg1 s H C cl fp)) (fun s H C cl fp => PTs.any (ht1 s H C cl fp)) (fun s H C cl fp => PE.any (he s H C cl fp)) hs hs1)
    fun σ H Q h => lc2_read (X := X) hsl hsl1 hv1 h
end
end F

set_option Elab.async false
set_option linter.all false
set_option maxRecDepth 100000
set_option maxHeartbeats 4000000
/-! a new instance with a dict of its own -/
namespace F
open PySem PySem.Spec PyProof.Rows L2
section
variable {G : Glue} {W : WX} {X : Cx} {a b c : Expr} {da db dc : Ev} {pos pos' : Pos} {T : Act} {A : Nat → Option Addr} {sl : Sl} {σ : St} {H : Hp}
/-- the new dict, just made at p, becomes the last attribute of the new instance at slot i -/
theorem Sr.setOd (r : Sr G T A sl σ H) {i c : Nat} {p a0 : Addr} {xs : List D} {dx : Addr} {fs : List (Str × V)} {f : Str} {o : Obj} (hl : sl.length ≤ 1000) (hs : sl[i]? = some (some (.o c xs))) (ha : A i = some a0) (hp : H p = none) (hf : (G.oF c)[xs.length]? = some f)
    (g3 : H a0 = some (.ins (G.oC c) dx fs)) (g4 : fs.map (·.1) = (G.oF c).take xs.length) (g6 : Rvs G (T.N A) H xs (fs.map (·.2))) (z : HSz (upd (upd H p (dicO G.P G.w p o [])) a0 (.ins (G.oC c) dx (fs ++ [(f, .ref p)])))) :
    Sr G T (fun j => if j = i + 1000 then some p else A j) (sl.set i (some (.od c xs [] []))) σ (upd (upd H p (dicO G.P G.w p o [])) a0 (.ins (G.oC c) dx (fs ++ [(f, .ref p)]))) := by
  have npa : p ≠ a0 := (ne_of_none g3 hp).symm
  have hil : i < sl.length := (List.getElem?_eq_some_iff.mp hs).1
  have sm : Same H (upd H p (dicO G.P G.w p o [])) := same_fresh hp _
  have np : ∀ b o', H b = some o' → b ≠ p := fun b o' e => ne_of_none e hp
  have nA : ∀ j, A j ≠ some p := fun j e => by
    obtain ⟨o', q, _⟩ := r.alive j p e
    rw [hp] at q; cases q
  have npA : ∀ b o', H b = some o' → T.N (fun j => if j = i + 1000 then some p else A j) b → T.N A b := fun b o' e h => by
    rcases h with h | ⟨j, h⟩
    · exact .inl h
    · dsimp only at h
      split at h
      · cases h; exact absurd rfl (np _ o' e)
      · exact .inr ⟨j, h⟩
  have own0 : T.N (fun j => if j = i + 1000 then some p else A j) a0 := .inr ⟨i, by dsimp only; rw [if_neg (by omega)]; exact ha⟩
  have kb : ∀ b o', b ≠ a0 → H b = some o' → (upd (upd H p (dicO G.P G.w p o [])) a0 (.ins (G.oC c) dx (fs ++ [(f, .ref p)]))) b = some o' := fun b o' ne e => by
    rw [upd_ne ne]; exact sm _ _ e
  have k : Keep (fun a => a = a0) H (upd (upd H p (dicO G.P G.w p o [])) a0 (.ins (G.oC c) dx (fs ++ [(f, .ref p)]))) := fun b o' e fx => by
    by_cases hb : b = a0
    · subst hb; rw [g3] at e; cases e; exact absurd (fx rfl) id
    · exact kb b o' hb e
  have lift : ∀ {d : D} {v : V}, Rv G (T.N A) H d v → Rv G (T.N fun j => if j = i + 1000 then some p else A j) (upd (upd H p (dicO G.P G.w p o [])) a0 (.ins (G.oC c) dx (fs ++ [(f, .ref p)]))) d v := fun h =>
    Rv.keep k (fun a z => z ▸ own0) (Rv.anti' npA h)
  have lifts : ∀ {d : List D} {v : List V}, Rvs G (T.N A) H d v → Rvs G (T.N fun j => if j = i + 1000 then some p else A j) (upd (upd H p (dicO G.P G.w p o [])) a0 (.ins (G.oC c) dx (fs ++ [(f, .ref p)]))) d v := fun h =>
    Rvs.keep k (fun a z => z ▸ own0) (Rvs.anti' npA h)
  have low : ∀ {j : Nat} {s : Option Sv}, sl[j]? = some s → j < 1000 := fun {j s} e => Nat.lt_of_lt_of_le (List.getElem?_eq_some_iff.mp e).1 hl
  have iA : ∀ {j : Nat}, j < 1000 → (if j = i + 1000 then some p else A j) = A j := fun {j} h => if_neg (by omega)
  refine ⟨fun j d e => ?_, fun j ys e => ?_, by simpa using r.len, fun j l b q1 q2 => ?_, fun j b e => ?_, fun j b e => ?_, fun b o' e n => ?_, fun b e => ?_, fun b e => ?_, fun q hq => lift (r.held q hq), z, fun j y e h => ?_⟩
  · by_cases hj : i = j
    · subst hj; rw [List.getElem?_set_self hil] at e; cases e
    · rw [List.getElem?_set_ne hj] at e
      obtain ⟨v, q1, q2⟩ := r.val j d e
      exact ⟨v, q1, lift q2⟩
  · by_cases hj : i = j
    · subst hj; rw [List.getElem?_set_self hil] at e; cases e
    · rw [List.getElem?_set_ne hj] at e
      obtain ⟨b, vs', q1, q2, q3, q4⟩ := r.mu j ys e
      exact ⟨b, vs', by rw [iA (low e)]; exact q1, q2, kb _ _ (fun w => hj (r.inj i j a0 ha (w ▸ q1))) q3, lifts q4⟩
  · by_cases h1 : j = i + 1000
    · by_cases h2 : l = i + 1000
      · rw [h1, h2]
      · rw [if_pos h1] at q1; rw [if_neg h2] at q2; cases q1; exact absurd q2 (nA l)
    · by_cases h2 : l = i + 1000
      · rw [if_neg h1] at q1; rw [if_pos h2] at q2; cases q2; exact absurd q1 (nA j)
      · rw [if_neg h1] at q1; rw [if_neg h2] at q2; exact r.inj j l b q1 q2
  · by_cases h1 : j = i + 1000
    · rw [if_pos h1] at e; cases e
      exact .inl ⟨r.fresh0 hp, fun q => r.fresh hp (.inl q), fun q => r.fresh hp (.inr ⟨0, r.iot p q⟩)⟩
    · rw [if_neg h1] at e; exact r.own j b e
  · by_cases h1 : j = i + 1000
    · rw [if_pos h1] at e; cases e
      exact ⟨_, by rw [upd_ne npa]; exact upd_same, id⟩
    · rw [if_neg h1] at e
      by_cases hb : b = a0
      · subst hb; exact ⟨_, upd_same, id⟩
      · obtain ⟨o', q, m⟩ := r.alive j b e; exact ⟨o', kb _ _ hb q, m⟩
  · refine kb b o' (fun w => ?_) (r.kept b o' e n)
    subst w
    rcases r.own i b ha with ⟨q, _⟩ | ⟨q, _⟩
    · rw [q] at e; cases e
    · exact n q
  · by_cases hb : b = a0
    · subst hb; exact ⟨_, upd_same⟩
    · obtain ⟨o', q⟩ := r.trk b e; exact ⟨o', kb _ _ hb q⟩
  · rw [if_neg (by omega)]; exact r.iot b e
  · by_cases hj : i = j
    · subst hj
      rw [List.getElem?_set_self hil] at e
      cases e
      obtain ⟨b, q1, q2, _⟩ := r.mx i _ hs rfl
      rw [ha] at q1; cases q1
      refine ⟨a0, by rw [iA (by omega)]; exact ha, q2, dx, fs, f, p, upd_same, g4, hf, lifts g6, if_pos rfl, o, [], [], [], ?_, .nil, rfl, .nil, .nil, .nil⟩
      rw [upd_ne npa]; exact upd_same
    · rw [List.getElem?_set_ne hj] at e
      obtain ⟨b, q1, q2, q3⟩ := r.mx j y e h
      have hjl := low e
      refine ⟨b, by rw [iA hjl]; exact q1, q2, q3.imp (fun b' o' w q => kb _ _ (fun w2 => ?_) q) (fun b' q => by rw [if_neg (by omega)]; exact q) fun _ _ q => lifts q⟩
      rcases w with w | ⟨w, _⟩
      · exact hj (r.inj i j a0 ha (by rw [← w2, w]; exact q1))
      · have := r.inj i (j + 1000) a0 ha (w2 ▸ w)
        omega
/-- self.f = {} of the new instance -/
def mFldE (i c j : Nat) : Sm := fun sl => match sl[i]? with
  | some (some (.o c' xs)) => if c' = c ∧ xs.length = j ∧ sl.length ≤ 1000 ∧ j < 900 then .nx (sl.set i (some (.od c xs [] []))) else .bad
  | _ => .bad
theorem fs_fldE {i c j : Nat} {x f : Str} {p2 p3 pos' : Pos} (hP : X.prog = G.P) (hw : X.w = G.w) (hc : CD G c) (hf : (G.oF c)[j]? = some f) (hN : X.N[i]? = some x := by rfl) (hK : X.K = G.K := by rfl)
    (hvis : Vis X.env.scope x := by first | exact Or.inl rfl | exact Or.inr (Or.inl rfl) | exact Or.inr (Or.inr rfl)) (hd : (x == ("__debug__" : Str)) = false := by decide) (hcd : (x == ("__classdict__" : Str)) = false := by decide)
    (hs : swapsWith (.Dict [] [] p3) (some (.Attribute (.Name x p2) f pos')) pos.line X.env = pure false := by rfl) : FS G W X (.Assign [.Attribute (.Name x p2) f pos'] (.Dict [] [] p3) pos) (mFldE i c j) := fun T =>
  PS.plus (ps_fld (pe_var hN hvis hd hcd) (pe_newN hP hw) hs) fun D σ H z h p o hp => by
    obtain ⟨A, sl, s, q⟩ := h z
    unfold mFldE at q
    split at q
    · rename_i c' xs e0
      split at q
      · rename_i hcc
        obtain ⟨rfl, rfl, hl, hj⟩ := hcc
        obtain ⟨a0, g1, g2, dx, fs, g3, g4, g5, g6⟩ := s.mx i _ e0 rfl
        have hlen : fs.length = xs.length := by rw [g6.length, List.length_map]
        have npa : p ≠ a0 := (ne_of_none g3 hp).symm
        have nin : f ∉ fs.map (·.1) := fun hm => by
          rw [g4] at hm
          obtain ⟨q, hq, e⟩ := List.getElem_of_mem hm
          rw [List.length_take] at hq
          rw [List.getElem_take] at e
          obtain ⟨hj2, e2⟩ := List.getElem?_eq_some_iff.mp hf
          have := (List.getElem_inj hc.nd).mp (e.trans e2.symm)
          omega
        refine ⟨_, g2, a0, _, dx, fs, rfl, by rw [upd_ne (Ne.symm npa)]; exact g3, hK ▸ hc.cls, hK ▸ hc.na f (List.mem_of_getElem? hf), by omega, fun hz3 => ?_⟩
        rw [putF_new nin] at hz3 ⊢
        exact q _ _ _ (s.setOd hl e0 g1 hp hf g3 g4 g6 hz3)
      · exact q.elim
    · exact q.elim
/-- self.f[k] = v of the new instance, f its dict -/
def mPutO (i c j : Nat) (dv dk : Ev) : Sm := fun sl => (dv sl).to fun x sl1 => match sl1[i]? with
  | some (some (.od c' xs0 _ _)) => if c' = c ∧ xs0.length = j then (dk sl1).to fun y sl2 => match x, sl2[i]?, y with
    | .v z, some (some (.od c2 xs ks vs)), .v d => if c2 = c ∧ xs.length = j ∧ keyOk d = true ∧ sl2.length ≤ 1000 ∧ ks.length < sizeLine then .nx (sl2.set i (some (.od c xs (dput ks vs d z).1 (dput ks vs d z).2))) else .bad
    | _, _, _ => .bad
    else .bad
  | _ => .bad
theorem od_look {i c j : Nat} {f : Str} (hc : CD G c) (hf : (G.oF c)[j]? = some f) (s : Sr G T A sl σ H) {xs ks vs : List D} (e0 : sl[i]? = some (some (.od c xs ks vs))) (hj : xs.length = j) :
    ∃ a0 dx fs b, A i = some a0 ∧ σ[i]? = some (some (.ref a0)) ∧ H a0 = some (.ins (G.oC c) dx fs) ∧ fs.lookup f = some (.ref b) ∧ A (i + 1000) = some b ∧ Dic G (T.N A) H b ks vs := by
  obtain ⟨a0, g1, g2, dx, fs, g, b, g3, g4, g5, g6, g7, g8⟩ := s.mx i _ e0 rfl
  subst hj
  rw [hf] at g5; cases g5
  have hl : fs.length = xs.length := by rw [g6.length, List.length_map]
  have keys : (fs ++ [(f, V.ref b)]).map (·.1) = (G.oF c).take (xs.length + 1) := by
    rw [List.map_append, g4, List.take_add_one, hf]; rfl
  have nd : ((fs ++ [(f, V.ref b)]).map (·.1)).Nodup := by rw [keys]; exact List.Sublist.nodup (List.take_sublist _ _) hc.nd
  exact ⟨a0, dx, _, b, g1, g2, g3, look_at (i := xs.length) nd (by rw [keys, List.getElem?_take, if_pos (Nat.lt_succ_self _)]; exact hf) (by rw [List.map_append, List.getElem?_append_right (by rw [List.length_map, hl]; exact Nat.le_refl _), List.length_map, hl, Nat.sub_self]; rfl), g7, g8⟩
theorem fs_putO {i c j : Nat} {x f : Str} {p2 p3 : Pos} (hu : X.A.units + 130 < cLine) (hP : X.prog = G.P) (hw : X.w = G.w) (hc : CD G c) (hf : (G.oF c)[j]? = some f) (hv : FE G W X a da) (hi : FE G W X b db) (hN : X.N[i]? = some x := by rfl) (hK : X.K = G.K := by rfl)
    (hvis : Vis X.env.scope x := by first | exact Or.inl rfl | exact Or.inr (Or.inl rfl) | exact Or.inr (Or.inr rfl)) (hd : (x == ("__debug__" : Str)) = false := by decide) (hcd : (x == ("__classdict__" : Str)) = false := by decide)
    (hb : attributeBase (.Name x p2) f X.env (eval (.Name x p2) X.env) = eval (.Name x p2) X.env := by rfl)
    (hs : swapsWith a (some (.Subscript (.Attribute (.Name x p2) f p3) b pos')) pos.line X.env = pure false := by rfl) : FS G W X (.Assign [.Subscript (.Attribute (.Name x p2) f p3) b pos'] a pos) (mPutO i c j da db) := fun T =>
  PS.plus (ps_putN (G := G) hu hK hP hw (pe_fld (pe_var hN hvis hd hcd) hb) (hi T) (hv T) hs) fun D σ H z h hz => by
    obtain ⟨A, sl, s, p⟩ := h hz
    refine ⟨A, sl, s, to_post p fun x sl1 v H1 ex s1 k1 r1 p1 => ?_⟩
    split at p1
    · rename_i c' xs0 ks0 vs0 e0
      split at p1
      · rename_i hcc
        obtain ⟨rfl, hj⟩ := hcc
        obtain ⟨a0, dx, fs, b0, g1, g2, g3, g4, g5, g6⟩ := od_look hc hf s1 e0 hj
        refine ⟨_, g2, a0, _, dx, fs, _, rfl, g3, hK ▸ hc.cls, hK ▸ hc.na f (List.mem_of_getElem? hf), g4, fun hz2 => ⟨A, sl1, s1, to_post p1 fun y sl2 u H2 ey s2 k2 r2 p2 => ?_⟩⟩
        split at p2
        · rename_i z' c2 xs ks vs d e1
          split at p2
          · rename_i hcc
            obtain ⟨rfl, hj2, hk1, hl, hks⟩ := hcc
            obtain ⟨kk, hk⟩ := keyOk_spec hk1
            obtain ⟨b', rfl, rd⟩ := Rl.keyRef (.inl r2) hk
            obtain ⟨a1, w1, w2, dx2, fs2, f2, b1, w3, w4, w5, w6, w7, o0, es, kv, vv, f3, f4, f5, f6, f7, f8⟩ := s2.mx i _ e1 rfl
            rw [g5] at w7; cases w7
            subst f5
            have rz := Rs.keep k2 r1
            refine ⟨_, kk, d, ks, b0, b', o0, es, rfl, rfl, hk, rd, f3, f4, f7, hks, fun u' o' ru hz3 => ?_⟩
            obtain ⟨n1, n2, vv', n3, n4⟩ := dput_dic hk rd rz ru f4 f7 f6 f8
            have kp : Keep (Own A) H2 (upd H2 b0 (dicO G.P G.w b0 o' (storedH es kk b' u'))) := Keep.upd f3 id ⟨i + 1000, g5⟩
            have nab : a1 ≠ b0 := fun q => by
              have := s2.inj i (i + 1000) a1 w1 (q ▸ g5)
              omega
            obtain ⟨s3, _⟩ := s2.writeO (i := i) (n := i + 1000) (c := b0) (x := .od c2 xs (dput ks vs d z').1 (dput ks vs d z').2) (u := dicO G.P G.w b0 o' (storedH es kk b' u')) hl e1 rfl rfl (.inr rfl) g5 id hz3 fun a ha _ => by
              rw [w1] at ha; cases ha
              refine ⟨dx2, fs2, f2, b0, by rw [upd_ne nab]; exact w3, w4, w5, Rvs.keep kp (fun _ z => .inr z) w6, g5, ?_⟩
              exact ⟨_, _, _, _, upd_same, n1, rfl, n3, Rvs.keep kp (fun _ z => .inr z) n2, Rvs.keep kp (fun _ z => .inr z) n4⟩
            exact p2 _ _ _ s3
          · exact p2.elim
        · exact p2.elim
      · exact p1.elim
    · exact p1.elim
end
end F

set_option Elab.async false
set_option linter.all false
set_option maxRecDepth 100000
set_option maxHeartbeats 4000000
/-! a, b = x, y where names are cells -/
namespace F
open PySem PySem.Spec PyProof.Rows L2
section
variable {G : Glue} {W : WX} {X : Cx} {a b c : Expr} {cs : List Cm} {px py pz pt pt2 pos : Pos} {kt k2 : Nat} {x y z : Str}
theorem fs_parC2 {i j : Nat} (hN : X.N.Nodup) (ha : FC G W X [a, b] cs) (hcs : cs.length = 2) (h0 : okC [i, j] cs = true) (hij : i ≠ j) (hi : X.N[i]? = some x := by rfl) (hj : X.N[j]? = some y := by rfl)
    (hx : Loc X.env.scope x := by first | exact Or.inl rfl | exact Or.inr rfl) (hf : X.fn x = true ∨ X.env.scope.names.lookup x = some .local := by first | exact .inl rfl | exact .inr rfl | assumption)
    (hy : Loc X.env.scope y := by first | exact Or.inl rfl | exact Or.inr rfl) (hg : X.fn y = true ∨ X.env.scope.names.lookup y = some .local := by first | exact .inl rfl | exact .inr rfl | assumption) (hc : X.calm = true := by rfl)
    (hw : swappedStores [.Tuple [.Name x px, .Name y py] kt pt] (.Tuple [a, b] k2 pt2) X.env = pure none := by rfl)
    (hs : swapsWithSole [.Tuple [.Name x px, .Name y py] kt pt] (.Tuple [a, b] k2 pt2) pos.line X.env = pure false := by rfl)
    (h1 : (assignEach [.Tuple [.Name x px, .Name y py] kt pt] X.env).map (·.2) = [assign (.Tuple [.Name x px, .Name y py] kt pt) X.env] := by rfl)
    (hu : (assignEach [.Name x px, .Name y py] X.env).map (·.2) = assign (.Name x px) X.env :: (assignEach [.Name y py] X.env).map (·.2) := by rfl) (hu2 : (assignEach [.Name y py] X.env).map (·.2) = assign (.Name y py) X.env :: (assignEach [] X.env).map (·.2) := by rfl)
    (hn : (assignEach [.Name x px, .Name y py] X.env).length = 2 := by rfl) (hst : (assignEach [.Name x px, .Name y py] X.env).findIdx? (·.1) = none := by rfl) :
    FS G W X (.Assign [.Tuple [.Name x px, .Name y py] kt pt] (.Tuple [a, b] k2 pt2) pos) (mPar [i, j] cs) := fun T =>
  PS.plus (ps_asg (pe_tup (ha T)) (pg_tup hc (pgs_cons (pg_name hN hi hx hf) (pgs_cons (pg_name hN hj hy hg) pgs_nil hu2) hu) hn hst) hs hw h1) fun D σ H z h hz => by
    obtain ⟨A, sl, s, p⟩ := h hz
    refine ⟨A, sl, s, ?_⟩
    unfold mPar at p
    cases hd : evCs cs sl with
    | bad => rw [hd] at p; exact p
    | ex e sl1 => rw [hd] at p; exact fun c od H' x s' => p A σ H' c od x s'
    | ok xs sl1 =>
      rw [hd] at p
      intro vs T' H' kk pe s'
      have hlx := evCs_len _ _ _ _ hd
      have hlv := pend_len pe
      obtain ⟨A', s2⟩ := pe.bound (is := [i, j]) (by rw [hlx, hcs]; rfl) (evCs_ok _ _ _ _ _ hd h0) s'
      match vs, hlv, s2 with
      | [v, w], _, s2 =>
        refine ⟨by show 2 ≤ sizeLine; decide, fun q hq => ⟨q, [v, w], rfl, SqT.of upd_same, rfl, v, [w], rfl, w, [], rfl, rfl, fun hz2 => ?_⟩⟩
        have s3 := s2.grown (same_fresh hq _) hz2
        rw [← setAll_two hij]
        exact p A' _ _ s3
      | [], hlv, _ => rw [hlx, hcs] at hlv; cases hlv
      | [_], hlv, _ => rw [hlx, hcs] at hlv; cases hlv
      | _ :: _ :: _ :: _, hlv, _ => rw [hlx, hcs] at hlv; simp at hlv
theorem fs_parC3 {i j l : Nat} (hN : X.N.Nodup) (ha : FC G W X [a, b, c] cs) (hcs : cs.length = 3) (h0 : okC [i, j, l] cs = true) (hij : i ≠ j) (hil : i ≠ l) (hjl : j ≠ l) (hi : X.N[i]? = some x := by rfl) (hj : X.N[j]? = some y := by rfl) (hl : X.N[l]? = some z := by rfl)
    (hx : Loc X.env.scope x := by first | exact Or.inl rfl | exact Or.inr rfl) (hf : X.fn x = true ∨ X.env.scope.names.lookup x = some .local := by first | exact .inl rfl | exact .inr rfl | assumption)
    (hy : Loc X.env.scope y := by first | exact Or.inl rfl | exact Or.inr rfl) (hg : X.fn y = true ∨ X.env.scope.names.lookup y = some .local := by first | exact .inl rfl | exact .inr rfl | assumption) 
    (hzz : Loc X.env.scope z := by first | exact Or.inl rfl | exact Or.inr rfl) (hk : X.fn z = true ∨ X.env.scope.names.lookup z = some .local := by first | exact .inl rfl | exact .inr rfl | assumption) (hc : X.calm = true := by rfl)
    (hw : swappedStores [.Tuple [.Name x px, .Name y py, .Name z pz] kt pt] (.Tuple [a, b, c] k2 pt2) X.env = pure none := by rfl)
    (hs : swapsWithSole [.Tuple [.Name x px, .Name y py, .Name z pz] kt pt] (.Tuple [a, b, c] k2 pt2) pos.line X.env = pure false := by rfl)
    (h1 : (assignEach [.Tuple [.Name x px, .Name y py, .Name z pz] kt pt] X.env).map (·.2) = [assign (.Tuple [.Name x px, .Name y py, .Name z pz] kt pt) X.env] := by rfl)
    (hu : (assignEach [.Name x px, .Name y py, .Name z pz] X.env).map (·.2) = assign (.Name x px) X.env :: (assignEach [.Name y py, .Name z pz] X.env).map (·.2) := by rfl) (hu2 : (assignEach [.Name y py, .Name z pz] X.env).map (·.2) = assign (.Name y py) X.env :: (assignEach [.Name z pz] X.env).map (·.2) := by rfl) (hu3 : (assignEach [.Name z pz] X.env).map (·.2) = assign (.Name z pz) X.env :: (assignEach [] X.env).map (·.2) := by rfl)
    (hn : (assignEach [.Name x px, .Name y py, .Name z pz] X.env).length = 3 := by rfl) (hst : (assignEach [.Name x px, .Name y py, .Name z pz] X.env).findIdx? (·.1) = none := by rfl) :
    FS G W X (.Assign [.Tuple [.Name x px, .Name y py, .Name z pz] kt pt] (.Tuple [a, b, c] k2 pt2) pos) (mPar [i, j, l] cs) := fun T =>
  PS.plus (ps_asg (pe_tup (ha T)) (pg_tup hc (pgs_cons (pg_name hN hi hx hf) (pgs_cons (pg_name hN hj hy hg) (pgs_cons (pg_name hN hl hzz hk) pgs_nil hu3) hu2) hu) hn hst) hs hw h1) fun D σ H zz h hz => by
    obtain ⟨A, sl, s, p⟩ := h hz
    refine ⟨A, sl, s, ?_⟩
    unfold mPar at p
    cases hd : evCs cs sl with
    | bad => rw [hd] at p; exact p
    | ex e sl1 => rw [hd] at p; exact fun c od H' x s' => p A σ H' c od x s'
    | ok xs sl1 =>
      rw [hd] at p
      intro vs T' H' kk pe s'
      have hlx := evCs_len _ _ _ _ hd
      have hlv := pend_len pe
      obtain ⟨A', s2⟩ := pe.bound (is := [i, j, l]) (by rw [hlx, hcs]; rfl) (evCs_ok _ _ _ _ _ hd h0) s'
      match vs, hlv, s2 with
      | [v, w, u], _, s2 =>
        refine ⟨by show 3 ≤ sizeLine; decide, fun q hq => ⟨q, [v, w, u], rfl, SqT.of upd_same, rfl, v, [w, u], rfl, w, [u], rfl, u, [], rfl, rfl, fun hz2 => ?_⟩⟩
        have s3 := s2.grown (same_fresh hq _) hz2
        rw [← setAll_three hij hil hjl]
        exact p A' _ _ s3
      | [], hlv, _ => rw [hlx, hcs] at hlv; cases hlv
      | [_], hlv, _ => rw [hlx, hcs] at hlv; cases hlv
      | [_, _], hlv, _ => rw [hlx, hcs] at hlv; cases hlv
      | _ :: _ :: _ :: _ :: _, hlv, _ => rw [hlx, hcs] at hlv; simp at hlv
end
end F

set_option Elab.async false
set_option linter.all false
set_option maxRecDepth 100000
set_option maxHeartbeats 4000000
/-! what is never come to -/
namespace F
open PySem PySem.Spec PyProof.Rows L2
def mBad : Sm := fun _ => .bad
def dBad : Ev := fun _ => .bad
section
variable {G : Glue} {W : WX} {X : Cx}
theorem fs_bad {st : Stmt} : FS G W X st mBad := fun T => ⟨fun pins s σ H D I h => by
  obtain ⟨A, sl, _, p⟩ := h (Inv.hsz I)
  exact p.elim⟩
theorem fe_bad {e : Expr} : FE G W X e dBad := fun T => ⟨fun pins s σ H Q I h => by
  obtain ⟨A, sl, _, p⟩ := h (Inv.hsz I)
  exact p.elim⟩
end
end F

set_option Elab.async false
set_option linter.all false
set_option maxRecDepth 100000
set_option maxHeartbeats 4000000
/-! t < u of tuples of numbers -/
namespace F
open PySem PySem.Spec PyProof.Rows L2
def dLtX : D → D → Re D
  | .int i, .int j => .ok (.bl (decide (i < j)))
  | .tup xs, .tup ys => match intsOf xs, intsOf ys with
    | some ns, some ms => .ok (.bl (HT.lexLt ns ms))
    | _, _ => .bad
  | _, _ => .bad
section
variable {G : Glue} {X : Cx}
theorem o_ltX (hu : X.A.units + 130 < cLine) (hK : X.K = G.K := by rfl) : Op2 G X (compareOp .Lt) dLtX := by
  refine ⟨_, op_lt.or (op_ltT (by omega)), fun N H x y d e z Q hz hn rx ry h k => ?_⟩
  unfold dLtX at h
  split at h
  · cases h
    exact .inl ⟨_, _, rx.int, ry.int, k _ H (Same.refl H) (.bl _)⟩
  · rename_i a b
    split at h
    · rename_i ns ms e1 e2
      cases h
      obtain ⟨p, vs, f1, s1, r1⟩ := tupK hK rx
      obtain ⟨q, ws, f2, s2, r2⟩ := tupK hK ry
      have v1 := ints_rv r1 e1
      have v2 := ints_rv r2 e2
      subst v1 v2
      exact .inr ⟨p, q, ns, ms, f1, f2, s1, s2, k _ H (Same.refl H) (.bl _)⟩
    · cases h
  · cases h
end
end F

set_option Elab.async false
set_option linter.all false
set_option maxRecDepth 100000
set_option maxHeartbeats 0
namespace W
open PySem PySem.Spec PyProof.Rows L2 F
def top (i : Nat) : Stmt := PySem.Challenge.pw_endlessfingers_k47_endless_pieces_by_han.main.body.getD i (.Pass ⟨0, 0, 0, 0⟩)
def inC (i j : Nat) : Stmt := L2.inClass (top i) j
structure Tx (G : Glue) (mg : Str → Option Value) : Prop where
  z_abs : mg "abs" = none
  z_all : mg "all" = none
  z_any : mg "any" = none
  z_bool : mg "bool" = none
  z_enumerate : mg "enumerate" = none
  z_int : mg "int" = none
  z_isinstance : mg "isinstance" = none
  z_len : mg "len" = none
  z_list : mg "list" = none
  z_range : mg "range" = none
  z_set : mg "set" = none
  z_sorted : mg "sorted" = none
  z_str : mg "str" = none
  z_sum : mg "sum" = none
  z_tuple : mg "tuple" = none
  z_zip : mg "zip" = none
  v_AHEAD : GlobD G mg "AHEAD" (.str "ahead")
  v_LATER : GlobD G mg "LATER" (.str "later")
  v_MOST_GAPS : GlobD G mg "MOST_GAPS" (.int 600)
  v_MOST_LETTERS : GlobD G mg "MOST_LETTERS" (.int 8)
  v_MOST_NEEDS : GlobD G mg "MOST_NEEDS" (.int 6)
  v_MOST_PIECES : GlobD G mg "MOST_PIECES" (.int 2000)
  v_MOST_WATCHED : GlobD G mg "MOST_WATCHED" (.int 6)
  v_MOST_WIDE : GlobD G mg "MOST_WIDE" (.int 3)
  v_YES : GlobD G mg "YES" (.tup [(.str "yes")])
  e_CanNot : ExC G mg "CanNot" 0 [.type "ValueError", .type "Exception", .type "BaseException", .type "object"] "ValueError.__new__"
  e_TooMuch : ExC G mg "TooMuch" 1 [.type "ValueError", .type "Exception", .type "BaseException", .type "object"] "ValueError.__new__"
  e_Unfit : ExC G mg "Unfit" 2 [.type "ValueError", .type "Exception", .type "BaseException", .type "object"] "ValueError.__new__"
  cd_Going : CD G 1
  kf_Going : (G.oF 1).length = 5
  fl_Going_0 : (G.oF 1)[0]? = some ("wide" : Str)
  fl_Going_1 : (G.oF 1)[1]? = some ("demand" : Str)
  fl_Going_2 : (G.oF 1)[2]? = some ("stands" : Str)
  fl_Going_3 : (G.oF 1)[3]? = some ("starts" : Str)
  fl_Going_4 : (G.oF 1)[4]? = some ("rows" : Str)
  cd_Stands : CD G 0
  kf_Stands : (G.oF 0).length = 1
  fl_Stands_0 : (G.oF 0)[0]? = some ("watched" : Str)
  no_Stands_hits : ("hits" : Str) ∉ G.oF 0
  no_Stands_starts : ("starts" : Str) ∉ G.oF 0
  no_Stands_steps : ("steps" : Str) ∉ G.oF 0
  no_Stands_told : ("told" : Str) ∉ G.oF 0
  x : ∀ n ∈ ([0, 1, 2] : List Nat), ∀ m ∈ ([0, 1, 2] : List Nat), PySem.W.exmOne G.K (.ref (G.exA n)) (.ref (G.exA m)) = some (decide (n = m))
section
variable {G : Glue} {P : Program} {w : World} {mg : Str → Option Value} {base : Heap}
/-! is_number -/
abbrev s_is_number : Stmt := top 5
theorem sc_is_number : FnScope ["thing"] ["thing"] (defScope s_is_number) := ⟨rfl, rfl, rfl, by decide +kernel, rfl, by decide +kernel, by decide +kernel⟩
def m_is_number : Sm := (mRet (dAnd (dIsi ["int"] (dVar 0)) (dNot (dIsi ["bool"] (dVar 0)))))
def M_is_number : List D → Re D := runP 1 m_is_number
theorem fn_is_number {f : Addr} {fd : FuncData} {k : Nat} (T : Tx G mg) (F : Fun G.K "is_number" "is_number" s_is_number f fd) (hP : P = G.P) (hw : w = G.w) : FnOk P w G.K mg base (L2.CX P w) (k + 1) f fd ["thing"] (spP G 1 (runP 1 m_is_number)) :=
  fn_pure (N := ["thing"]) F sc_is_number rfl  fun cdv A outer s H E hr tk => by
    have hu : _ := hu130 hr
    have hN := sc_is_number.nd
    exact (fss_one (fs_ret (fe_and (fe_isi1 asked_int bb_int T.z_isinstance T.z_int (fe_var (i := 0))) (fe_one (fe_not (fe_isi1 asked_bool bb_bool T.z_isinstance T.z_bool (fe_var (i := 0))))))))

/-! tuple_of -/
abbrev s_tuple_of : Stmt := top 6
theorem sc_tuple_of : FnScope ["thing", "part"] ["thing"] (defScope s_tuple_of) := ⟨rfl, rfl, rfl, by decide +kernel, rfl, by decide +kernel, by decide +kernel⟩
def m_tuple_of (r : List D → Re D) : Sm := (mSeq (mIf (dIsi ["list", "tuple"] (dVar 0)) (mRet (dCB bTuple (dCons (dL (dLc [1] (.nm 1) cYes (dCall 1 r (dCons (dVar 1) dNil)) (iSeq (dVar 0)))) dNil))) mNil)
    (mRet (dVar 0)))
def M_tuple_of : Nat → List D → Re D
  | 0 => fun _ => .bad
  | j + 1 => runP 2 (m_tuple_of (M_tuple_of j))
theorem fn_tuple_of {f : Addr} {fd : FuncData} {k : Nat} {r : List D → Re D} (T : Tx G mg) (F : Fun G.K "tuple_of" "tuple_of" s_tuple_of f fd) (hP : P = G.P) (hw : w = G.w) (c_tuple_of : Cal P w G.K mg base k "tuple_of" ["thing"] (spP G 1 r)) : FnOk P w G.K mg base (L2.CX P w) (k + 1) f fd ["thing"] (spP G 1 (runP 2 (m_tuple_of r))) :=
  fn_pure (N := ["thing", "part"]) F sc_tuple_of rfl  fun cdv A outer s H E hr tk => by
    have hu : _ := hu130 hr
    have hN := sc_tuple_of.nd
    exact (fss_cons (fs_if (fb_val (fe_isi2 asked_list asked_tuple bb_list bb_tuple T.z_isinstance T.z_list T.z_tuple (fe_var (i := 0)))) (fss_one (fs_ret (fe_callTy c_tuple bb_tuple T.z_tuple (fa_cons (fe_new (fl_lc (own := [("part", 1)]) hN (blkOk_by (by rfl)) (fi_seq (fe_var (i := 0))) (fun _ _ _ _ _ => (fg_name (i := 1) hN)) (fun _ _ _ _ _ => fts_nil) (fun _ _ _ _ _ => (fe_call c_tuple_of L2.takes0 hr (fa_cons (fe_var (i := 1)) fa_nil))))) fa_nil)))) fss_nil)
    (fss_one (fs_ret (fe_var (i := 0)))))

/-! is_tuple_of -/
abbrev s_is_tuple_of : Stmt := top 7
theorem sc_is_tuple_of : FnScope ["thing", "many"] ["thing", "many"] (defScope s_is_tuple_of) := ⟨rfl, rfl, rfl, by decide +kernel, rfl, by decide +kernel, by decide +kernel⟩
def m_is_tuple_of : Sm := (mRet (dAnd (dIsi ["tuple"] (dVar 0)) (dBin dEq (dCB bLen (dCons (dVar 0) dNil)) (dVar 1))))
def M_is_tuple_of : List D → Re D := runP 2 m_is_tuple_of
theorem fn_is_tuple_of {f : Addr} {fd : FuncData} {k : Nat} (T : Tx G mg) (F : Fun G.K "is_tuple_of" "is_tuple_of" s_is_tuple_of f fd) (hP : P = G.P) (hw : w = G.w) : FnOk P w G.K mg base (L2.CX P w) (k + 1) f fd ["thing", "many"] (spP G 2 (runP 2 m_is_tuple_of)) :=
  fn_pure (N := ["thing", "many"]) F sc_is_tuple_of rfl  fun cdv A outer s H E hr tk => by
    have hu : _ := hu130 hr
    have hN := sc_is_tuple_of.nd
    exact (fss_one (fs_ret (fe_and (fe_isi1 asked_tuple bb_tuple T.z_isinstance T.z_tuple (fe_var (i := 0))) (fe_one (fe_cmp (o_eq hu) (fe_callB c_len bb_len T.z_len (fa_cons (fe_var (i := 0)) fa_nil)) (fe_var (i := 1)))))))

/-! is_letter_set -/
abbrev s_is_letter_set : Stmt := top 11
theorem sc_is_letter_set : FnScope ["wide", "thing", "near", "far", "own"] ["wide", "thing"] (defScope s_is_letter_set) := ⟨rfl, rfl, rfl, by decide +kernel, rfl, by decide +kernel, by decide +kernel⟩
def m_is_letter_set : Sm := (mSeq (mIf (dOr (dNot (dIsi ["tuple"] (dVar 1))) (dNot (dCB bAll (dCons (dL (dLc [4] (.nm 4) cYes (dAnd (dCall 1 M_is_number (dCons (dVar 4) dNil)) (dChain dLe dLe (dC (.int 1)) (dVar 4) (dVar 0))) (iSeq (dVar 1)))) dNil)))) (mRet (dC (.bl false))) mNil)
    (mRet (dCB bAll (dCons (dL (dLc [2, 3] (.tp [(.nm 2), (.nm 3)]) cYes (dBin dLt (dVar 2) (dVar 3)) (iZip (dVar 1) (dSl (dVar 1) (dPart (dC (.int 1))) dNoPart)))) dNil))))
def M_is_letter_set : List D → Re D := runP 5 m_is_letter_set
theorem fn_is_letter_set {f : Addr} {fd : FuncData} {k : Nat} (T : Tx G mg) (F : Fun G.K "is_letter_set" "is_letter_set" s_is_letter_set f fd) (hP : P = G.P) (hw : w = G.w) (c_is_number : Cal P w G.K mg base k "is_number" ["thing"] (spP G 1 M_is_number)) : FnOk P w G.K mg base (L2.CX P w) (k + 1) f fd ["wide", "thing"] (spP G 2 (runP 5 m_is_letter_set)) :=
  fn_pure (N := ["wide", "thing", "near", "far", "own"]) F sc_is_letter_set rfl  fun cdv A outer s H E hr tk => by
    have hu : _ := hu130 hr
    have hN := sc_is_letter_set.nd
    exact (fss_cons (fs_if (fb_w (fw_or (fb_not (fb_val (fe_isi1 asked_tuple bb_tuple T.z_isinstance T.z_tuple (fe_var (i := 1))))) (fw_one_or (fb_not (fb_val (fe_callB c_all bb_all T.z_all (fa_cons (fe_new (fl_lc (own := [("own", 4)]) hN (blkOk_by (by rfl)) (fi_seq (fe_var (i := 1))) (fun _ _ _ _ _ => (fg_name (i := 4) hN)) (fun _ _ _ _ _ => fts_nil) (fun _ _ _ _ _ => (fe_and (fe_call c_is_number L2.takes0 hr (fa_cons (fe_var (i := 4)) fa_nil)) (fe_one (fe_chain o_le o_le fe_int (fe_var (i := 4)) (fe_var (i := 0)))))))) fa_nil))))))) (fss_one (fs_ret fe_bl)) fss_nil)
    (fss_one (fs_ret (fe_callB c_all bb_all T.z_all (fa_cons (fe_new (fl_lc (own := [("near", 2), ("far", 3)]) hN (blkOk_by (by rfl)) (fi_zip (fe_var (i := 1)) (fe_sl (fe_var (i := 1)) (fo_some fe_int) fo_none) T.z_zip) (fun _ _ _ _ _ => (fg_tup (fgs_cons (fg_name (i := 2) hN) (fgs_cons (fg_name (i := 3) hN) fgs_nil)) rfl)) (fun _ _ _ _ _ => fts_nil) (fun _ _ _ _ _ => (fe_cmp o_lt (fe_var (i := 2)) (fe_var (i := 3)))))) fa_nil)))))

/-! parts_of_mood -/
abbrev s_parts_of_mood : Stmt := top 15
theorem sc_parts_of_mood : FnScope ["wide", "thing", "word"] ["wide", "thing"] (defScope s_parts_of_mood) := ⟨rfl, rfl, rfl, by decide +kernel, rfl, by decide +kernel, by decide +kernel⟩
def m_parts_of_mood : Sm := (mSeq (mIf (dOr (dNot (dIsi ["tuple"] (dVar 1))) (dOr (dBin dEq (dVar 1) (dTup dNil)) (dNot (dIsi ["str"] (dBin dIx (dVar 1) (dC (.int 0))))))) (mRet (dC .non)) mNil)
    (mSeq (mSet 2 (dBin dIx (dVar 1) (dC (.int 0))))
    (mSeq (mIf (dBin dEq (dVar 2) (dC (.str "yes"))) (mRet (dIf (dBin dEq (dCB bLen (dCons (dVar 1) dNil)) (dC (.int 1))) (dL (dItems dNil)) (dC .non))) mNil)
    (mSeq (mIf (dBin dEq (dVar 2) (dC (.str "letter"))) (mRet (dIf (dAnd (dCall 2 M_is_tuple_of (dCons (dVar 1) (dCons (dC (.int 2)) dNil))) (dCall 2 M_is_letter_set (dCons (dVar 0) (dCons (dBin dIx (dVar 1) (dC (.int 1))) dNil)))) (dL (dItems dNil)) (dC .non))) mNil)
    (mSeq (mIf (dBin (dIn false) (dVar 2) (dTup (dCons (dC (.str "not")) (dCons (dC (.str "later")) (dCons (dC (.str "ahead")) dNil))))) (mRet (dIf (dBin dEq (dCB bLen (dCons (dVar 1) dNil)) (dC (.int 2))) (dL (dItems (dCons (dBin dIx (dVar 1) (dC (.int 1))) dNil))) (dC .non))) mNil)
    (mSeq (mIf (dBin (dIn false) (dVar 2) (dTup (dCons (dC (.str "and")) (dCons (dC (.str "or")) dNil)))) (mRet (dIf (dBin dEq (dCB bLen (dCons (dVar 1) dNil)) (dC (.int 3))) (dL (dCL bList (dCons (dSl (dVar 1) (dPart (dC (.int 1))) dNoPart) dNil))) (dC .non))) mNil)
    (mRet (dC .non))))))))
def M_parts_of_mood : List D → Re D := runP 3 m_parts_of_mood
theorem fn_parts_of_mood {f : Addr} {fd : FuncData} {k : Nat} (T : Tx G mg) (F : Fun G.K "parts_of_mood" "parts_of_mood" s_parts_of_mood f fd) (hP : P = G.P) (hw : w = G.w) (c_is_tuple_of : Cal P w G.K mg base k "is_tuple_of" ["thing", "many"] (spP G 2 M_is_tuple_of)) (c_is_letter_set : Cal P w G.K mg base k "is_letter_set" ["wide", "thing"] (spP G 2 M_is_letter_set)) : FnOk P w G.K mg base (L2.CX P w) (k + 1) f fd ["wide", "thing"] (spP G 2 (runP 3 m_parts_of_mood)) :=
  fn_pure (N := ["wide", "thing", "word"]) F sc_parts_of_mood rfl  fun cdv A outer s H E hr tk => by
    have hu : _ := hu130 hr
    have hN := sc_parts_of_mood.nd
    exact (fss_cons (fs_if (fb_w (fw_or (fb_not (fb_val (fe_isi1 asked_tuple bb_tuple T.z_isinstance T.z_tuple (fe_var (i := 1))))) (fw_or (fb_cmp (o_eq hu) (fe_var (i := 1)) (fe_tup fa_nil)) (fw_one_or (fb_not (fb_val (fe_isi1 asked_str bb_str T.z_isinstance T.z_str (fe_ix hu hP hw (fe_var (i := 1)) fe_int)))))))) (fss_one (fs_ret fe_non)) fss_nil)
    (fss_cons (fs_set (i := 2) hN (fe_ix hu hP hw (fe_var (i := 1)) fe_int))
    (fss_cons (fs_if (fb_cmp (o_eq hu) (fe_var (i := 2)) fe_str) (fss_one (fs_ret (fe_if (fb_cmp (o_eq hu) (fe_callB c_len bb_len T.z_len (fa_cons (fe_var (i := 1)) fa_nil)) fe_int) (fe_new (fl_lst fa_nil)) fe_non))) fss_nil)
    (fss_cons (fs_if (fb_cmp (o_eq hu) (fe_var (i := 2)) fe_str) (fss_one (fs_ret (fe_if (fb_w (fw_and (fb_val (fe_call c_is_tuple_of tk hr (fa_cons (fe_var (i := 1)) (fa_cons fe_int fa_nil)))) (fw_one_and (fb_val (fe_call c_is_letter_set tk hr (fa_cons (fe_var (i := 0)) (fa_cons (fe_ix hu hP hw (fe_var (i := 1)) fe_int) fa_nil))))))) (fe_new (fl_lst fa_nil)) fe_non))) fss_nil)
    (fss_cons (fs_if (fb_cmp (o_in hu hP hw) (fe_var (i := 2)) (fe_tup (fa_cons fe_str (fa_cons T.v_LATER.fe (fa_cons T.v_AHEAD.fe fa_nil))))) (fss_one (fs_ret (fe_if (fb_cmp (o_eq hu) (fe_callB c_len bb_len T.z_len (fa_cons (fe_var (i := 1)) fa_nil)) fe_int) (fe_new (fl_lst (fa_cons (fe_ix hu hP hw (fe_var (i := 1)) fe_int) fa_nil))) fe_non))) fss_nil)
    (fss_cons (fs_if (fb_cmp (o_in hu hP hw) (fe_var (i := 2)) (fe_tup (fa_cons fe_str (fa_cons fe_str fa_nil)))) (fss_one (fs_ret (fe_if (fb_cmp (o_eq hu) (fe_callB c_len bb_len T.z_len (fa_cons (fe_var (i := 1)) fa_nil)) fe_int) (fe_new (fl_callTy c_list bb_list T.z_list (fa_cons (fe_sl (fe_var (i := 1)) (fo_some fe_int) fo_none) fa_nil))) fe_non))) fss_nil)
    (fss_one (fs_ret fe_non))))))))

/-! is_mood -/
abbrev s_is_mood : Stmt := top 16
theorem sc_is_mood : FnScope ["wide", "thing", "line", "parts"] ["wide", "thing"] (defScope s_is_mood) := ⟨rfl, rfl, rfl, by decide +kernel, rfl, by decide +kernel, by decide +kernel⟩
def m_is_mood : Sm := (mSeq (mNew 2 (dItems (dCons (dVar 1) dNil)))
    (mSeq (mWhile 100000 (dBin dNe (dVar 2) (dL (dItems dNil))) (mSeq (mSet 3 (dCall 2 M_parts_of_mood (dCons (dVar 0) (dCons (dMut 2 mPop dNil) dNil))))
    (mSeq (mIf (dBin (dIs false) (dVar 3) (dC .non)) (mRet (dC (.bl false))) mNil)
    (mDrop (dMutL 2 mExtend (dCons (dVar 3) dNil))))))
    (mRet (dC (.bl true)))))
def M_is_mood : List D → Re D := runP 4 m_is_mood
theorem fn_is_mood {f : Addr} {fd : FuncData} {k : Nat} (T : Tx G mg) (F : Fun G.K "is_mood" "is_mood" s_is_mood f fd) (hP : P = G.P) (hw : w = G.w) (c_parts_of_mood : Cal P w G.K mg base k "parts_of_mood" ["wide", "thing"] (spP G 2 M_parts_of_mood)) : FnOk P w G.K mg base (L2.CX P w) (k + 1) f fd ["wide", "thing"] (spP G 2 (runP 4 m_is_mood)) :=
  fn_pure (N := ["wide", "thing", "line", "parts"]) F sc_is_mood rfl  fun cdv A outer s H E hr tk => by
    have hu : _ := hu130 hr
    have hN := sc_is_mood.nd
    exact (fss_cons (fs_new (i := 1) hN (fl_lst (fa_cons (fe_var (i := 1)) fa_nil)))
    (fss_cons (fs_while (L2.passes_of rfl) (fb_cmp (o_ne hu) (fe_var (i := 2)) (fe_new (fl_lst fa_nil))) (fss_cons (fs_set (i := 3) hN (fe_call c_parts_of_mood tk hr (fa_cons (fe_var (i := 0)) (fa_cons (fe_pop (i := 2)) fa_nil))))
    (fss_cons (fs_if (fb_cmp o_is (fe_var (i := 3)) fe_non) (fss_one (fs_ret fe_bl)) fss_nil)
    (fss_one (fs_expr (fe_extend (i := 2) (fa_cons (fe_var (i := 3)) fa_nil)))))))
    (fss_one (fs_ret fe_bl))))

/-! inner_moods -/
abbrev s_inner_moods : Stmt := top 17
theorem sc_inner_moods : FnScope ["own"] ["own"] (defScope s_inner_moods) := ⟨rfl, rfl, rfl, by decide +kernel, rfl, by decide +kernel, by decide +kernel⟩
def m_inner_moods : Sm := (mRet (dIf (dBin (dIn false) (dBin dIx (dVar 0) (dC (.int 0))) (dTup (dCons (dC (.str "yes")) (dCons (dC (.str "letter")) dNil)))) (dTup dNil) (dSl (dVar 0) (dPart (dC (.int 1))) dNoPart)))
def M_inner_moods : List D → Re D := runP 1 m_inner_moods
theorem fn_inner_moods {f : Addr} {fd : FuncData} {k : Nat} (T : Tx G mg) (F : Fun G.K "inner_moods" "inner_moods" s_inner_moods f fd) (hP : P = G.P) (hw : w = G.w) : FnOk P w G.K mg base (L2.CX P w) (k + 1) f fd ["own"] (spP G 1 (runP 1 m_inner_moods)) :=
  fn_pure (N := ["own"]) F sc_inner_moods rfl  fun cdv A outer s H E hr tk => by
    have hu : _ := hu130 hr
    have hN := sc_inner_moods.nd
    exact (fss_one (fs_ret (fe_if (fb_cmp (o_in hu hP hw) (fe_ix hu hP hw (fe_var (i := 0)) fe_int) (fe_tup (fa_cons fe_str (fa_cons fe_str fa_nil)))) (fe_tup fa_nil) (fe_sl (fe_var (i := 0)) (fo_some fe_int) fo_none))))

/-! mood_size_in -/
abbrev s_mood_size_in : Stmt := top 18
theorem sc_mood_size_in : FnScope ["own", "part"] ["own"] (defScope s_mood_size_in) := ⟨rfl, rfl, rfl, by decide +kernel, rfl, by decide +kernel, by decide +kernel⟩
def m_mood_size_in (r : List D → Re D) : Sm := (mRet (dBin dAdd (dC (.int 1)) (dCB bSum (dCons (dL (dLc [1] (.nm 1) cYes (dCall 1 r (dCons (dVar 1) dNil)) (iSeq (dCall 1 M_inner_moods (dCons (dVar 0) dNil))))) dNil))))
def M_mood_size_in : Nat → List D → Re D
  | 0 => fun _ => .bad
  | j + 1 => runP 2 (m_mood_size_in (M_mood_size_in j))
theorem fn_mood_size_in {f : Addr} {fd : FuncData} {k : Nat} {r : List D → Re D} (T : Tx G mg) (F : Fun G.K "mood_size_in" "mood_size_in" s_mood_size_in f fd) (hP : P = G.P) (hw : w = G.w) (c_mood_size_in : Cal P w G.K mg base k "mood_size_in" ["own"] (spP G 1 r)) (c_inner_moods : Cal P w G.K mg base k "inner_moods" ["own"] (spP G 1 M_inner_moods)) : FnOk P w G.K mg base (L2.CX P w) (k + 1) f fd ["own"] (spP G 1 (runP 2 (m_mood_size_in r))) :=
  fn_pure (N := ["own", "part"]) F sc_mood_size_in rfl  fun cdv A outer s H E hr tk => by
    have hu : _ := hu130 hr
    have hN := sc_mood_size_in.nd
    exact (fss_one (fs_ret (fe_op o_add fe_int (fe_callB c_sum bb_sum T.z_sum (fa_cons (fe_new (fl_lc (own := [("part", 1)]) hN (blkOk_by (by rfl)) (fi_seq (fe_call c_inner_moods tk hr (fa_cons (fe_var (i := 0)) fa_nil))) (fun _ _ _ _ _ => (fg_name (i := 1) hN)) (fun _ _ _ _ _ => fts_nil) (fun _ _ _ _ _ => (fe_call c_mood_size_in L2.takes0 hr (fa_cons (fe_var (i := 1)) fa_nil))))) fa_nil)))))

/-! is_letter -/
abbrev s_is_letter : Stmt := top 20
theorem sc_is_letter : FnScope ["wide", "thing"] ["wide", "thing"] (defScope s_is_letter) := ⟨rfl, rfl, rfl, by decide +kernel, rfl, by decide +kernel, by decide +kernel⟩
def m_is_letter : Sm := (mRet (dAnd (dCall 1 M_is_number (dCons (dVar 1) dNil)) (dChain dLe dLe (dC (.int 1)) (dVar 1) (dVar 0))))
def M_is_letter : List D → Re D := runP 2 m_is_letter
theorem fn_is_letter {f : Addr} {fd : FuncData} {k : Nat} (T : Tx G mg) (F : Fun G.K "is_letter" "is_letter" s_is_letter f fd) (hP : P = G.P) (hw : w = G.w) (c_is_number : Cal P w G.K mg base k "is_number" ["thing"] (spP G 1 M_is_number)) : FnOk P w G.K mg base (L2.CX P w) (k + 1) f fd ["wide", "thing"] (spP G 2 (runP 2 m_is_letter)) :=
  fn_pure (N := ["wide", "thing"]) F sc_is_letter rfl  fun cdv A outer s H E hr tk => by
    have hu : _ := hu130 hr
    have hN := sc_is_letter.nd
    exact (fss_one (fs_ret (fe_and (fe_call c_is_number tk hr (fa_cons (fe_var (i := 1)) fa_nil)) (fe_one (fe_chain o_le o_le fe_int (fe_var (i := 1)) (fe_var (i := 0)))))))

/-! is_text -/
abbrev s_is_text : Stmt := top 21
theorem sc_is_text : FnScope ["wide", "thing", "own"] ["wide", "thing"] (defScope s_is_text) := ⟨rfl, rfl, rfl, by decide +kernel, rfl, by decide +kernel, by decide +kernel⟩
def m_is_text : Sm := (mRet (dAnd (dIsi ["tuple"] (dVar 1)) (dCB bAll (dCons (dL (dLc [2] (.nm 2) cYes (dCall 2 M_is_letter (dCons (dVar 0) (dCons (dVar 2) dNil))) (iSeq (dVar 1)))) dNil))))
def M_is_text : List D → Re D := runP 3 m_is_text
theorem fn_is_text {f : Addr} {fd : FuncData} {k : Nat} (T : Tx G mg) (F : Fun G.K "is_text" "is_text" s_is_text f fd) (hP : P = G.P) (hw : w = G.w) (c_is_letter : Cal P w G.K mg base k "is_letter" ["wide", "thing"] (spP G 2 M_is_letter)) : FnOk P w G.K mg base (L2.CX P w) (k + 1) f fd ["wide", "thing"] (spP G 2 (runP 3 m_is_text)) :=
  fn_pure (N := ["wide", "thing", "own"]) F sc_is_text rfl  fun cdv A outer s H E hr tk => by
    have hu : _ := hu130 hr
    have hN := sc_is_text.nd
    exact (fss_one (fs_ret (fe_and (fe_isi1 asked_tuple bb_tuple T.z_isinstance T.z_tuple (fe_var (i := 1))) (fe_one (fe_callB c_all bb_all T.z_all (fa_cons (fe_new (fl_lc (own := [("own", 2)]) hN (blkOk_by (by rfl)) (fi_seq (fe_var (i := 1))) (fun _ _ _ _ _ => (fg_name (i := 2) hN)) (fun _ _ _ _ _ => fts_nil) (fun _ _ _ _ _ => (fe_call c_is_letter L2.takes0 hr (fa_cons (fe_var (i := 0)) (fa_cons (fe_var (i := 2)) fa_nil)))))) fa_nil))))))

/-! sure_wide_of -/
abbrev s_sure_wide_of : Stmt := top 23
theorem sc_sure_wide_of : FnScope ["wide"] ["wide"] (defScope s_sure_wide_of) := ⟨rfl, rfl, rfl, by decide +kernel, rfl, by decide +kernel, by decide +kernel⟩
def m_sure_wide_of : Sm := (mIf (dOr (dNot (dCall 1 M_is_number (dCons (dVar 0) dNil))) (dNot (dChain dLe dLe (dC (.int 1)) (dVar 0) (dC (.int 3))))) (mRaise 2) mNil)
def M_sure_wide_of : List D → Re D := runP 1 m_sure_wide_of
theorem fn_sure_wide_of {f : Addr} {fd : FuncData} {k : Nat} (T : Tx G mg) (F : Fun G.K "sure_wide_of" "sure_wide_of" s_sure_wide_of f fd) (hP : P = G.P) (hw : w = G.w) (c_is_number : Cal P w G.K mg base k "is_number" ["thing"] (spP G 1 M_is_number)) : FnOk P w G.K mg base (L2.CX P w) (k + 1) f fd ["wide"] (spP G 1 (runP 1 m_sure_wide_of)) :=
  fn_pure (N := ["wide"]) F sc_sure_wide_of rfl  fun cdv A outer s H E hr tk => by
    have hu : _ := hu130 hr
    have hN := sc_sure_wide_of.nd
    exact (fss_one (fs_if (fb_w (fw_or (fb_not (fb_val (fe_call c_is_number tk hr (fa_cons (fe_var (i := 0)) fa_nil)))) (fw_one_or (fb_not (fb_chain o_le o_le fe_int (fe_var (i := 0)) T.v_MOST_WIDE.fe))))) (fss_one (fs_raise0 PySem.F.excBase_ValueError T.e_Unfit tk)) fss_nil))

/-! is_lasso_form -/
abbrev s_is_lasso_form : Stmt := top 24
theorem sc_is_lasso_form : FnScope ["wide", "thing", "own"] ["wide", "thing"] (defScope s_is_lasso_form) := ⟨rfl, rfl, rfl, by decide +kernel, rfl, by decide +kernel, by decide +kernel⟩
def m_is_lasso_form : Sm := (mRet (dAnd (dCall 2 M_is_tuple_of (dCons (dVar 1) (dCons (dC (.int 2)) dNil))) (dAnd (dCB bAll (dCons (dL (dLc [2] (.nm 2) cYes (dCall 2 M_is_text (dCons (dVar 0) (dCons (dVar 2) dNil))) (iSeq (dVar 1)))) dNil)) (dBin dNe (dBin dIx (dVar 1) (dC (.int 1))) (dTup dNil)))))
def M_is_lasso_form : List D → Re D := runP 3 m_is_lasso_form
theorem fn_is_lasso_form {f : Addr} {fd : FuncData} {k : Nat} (T : Tx G mg) (F : Fun G.K "is_lasso_form" "is_lasso_form" s_is_lasso_form f fd) (hP : P = G.P) (hw : w = G.w) (c_is_tuple_of : Cal P w G.K mg base k "is_tuple_of" ["thing", "many"] (spP G 2 M_is_tuple_of)) (c_is_text : Cal P w G.K mg base k "is_text" ["wide", "thing"] (spP G 2 M_is_text)) : FnOk P w G.K mg base (L2.CX P w) (k + 1) f fd ["wide", "thing"] (spP G 2 (runP 3 m_is_lasso_form)) :=
  fn_pure (N := ["wide", "thing", "own"]) F sc_is_lasso_form rfl  fun cdv A outer s H E hr tk => by
    have hu : _ := hu130 hr
    have hN := sc_is_lasso_form.nd
    exact (fss_one (fs_ret (fe_and (fe_call c_is_tuple_of tk hr (fa_cons (fe_var (i := 1)) (fa_cons fe_int fa_nil))) (fe_and (fe_callB c_all bb_all T.z_all (fa_cons (fe_new (fl_lc (own := [("own", 2)]) hN (blkOk_by (by rfl)) (fi_seq (fe_var (i := 1))) (fun _ _ _ _ _ => (fg_name (i := 2) hN)) (fun _ _ _ _ _ => fts_nil) (fun _ _ _ _ _ => (fe_call c_is_text L2.takes0 hr (fa_cons (fe_var (i := 0)) (fa_cons (fe_var (i := 2)) fa_nil)))))) fa_nil)) (fe_one (fe_cmp (o_ne hu) (fe_ix hu hP hw (fe_var (i := 1)) fe_int) (fe_tup fa_nil)))))))

/-! sure_lasso -/
abbrev s_sure_lasso : Stmt := top 25
theorem sc_sure_lasso : FnScope ["wide", "lasso", "own"] ["wide", "lasso"] (defScope s_sure_lasso) := ⟨rfl, rfl, rfl, by decide +kernel, rfl, by decide +kernel, by decide +kernel⟩
def m_sure_lasso : Sm := (mSeq (mDrop (dCall 1 M_sure_wide_of (dCons (dVar 0) dNil)))
    (mSeq (mSet 2 (dCall 1 (M_tuple_of 20) (dCons (dVar 1) dNil)))
    (mSeq (mIf (dNot (dCall 2 M_is_lasso_form (dCons (dVar 0) (dCons (dVar 2) dNil)))) (mRaise 2) mNil)
    (mRet (dVar 2)))))
def M_sure_lasso : List D → Re D := runP 3 m_sure_lasso
theorem fn_sure_lasso {f : Addr} {fd : FuncData} {k : Nat} (T : Tx G mg) (F : Fun G.K "sure_lasso" "sure_lasso" s_sure_lasso f fd) (hP : P = G.P) (hw : w = G.w) (c_sure_wide_of : Cal P w G.K mg base k "sure_wide_of" ["wide"] (spP G 1 M_sure_wide_of)) (c_tuple_of : Cal P w G.K mg base k "tuple_of" ["thing"] (spP G 1 (M_tuple_of 20))) (c_is_lasso_form : Cal P w G.K mg base k "is_lasso_form" ["wide", "thing"] (spP G 2 M_is_lasso_form)) : FnOk P w G.K mg base (L2.CX P w) (k + 1) f fd ["wide", "lasso"] (spP G 2 (runP 3 m_sure_lasso)) :=
  fn_pure (N := ["wide", "lasso", "own"]) F sc_sure_lasso rfl  fun cdv A outer s H E hr tk => by
    have hu : _ := hu130 hr
    have hN := sc_sure_lasso.nd
    exact (fss_cons (fs_expr (fe_call c_sure_wide_of tk hr (fa_cons (fe_var (i := 0)) fa_nil)))
    (fss_cons (fs_set (i := 2) hN (fe_call c_tuple_of tk hr (fa_cons (fe_var (i := 1)) fa_nil)))
    (fss_cons (fs_if (fb_not (fb_val (fe_call c_is_lasso_form tk hr (fa_cons (fe_var (i := 0)) (fa_cons (fe_var (i := 2)) fa_nil))))) (fss_one (fs_raise0 PySem.F.excBase_ValueError T.e_Unfit tk)) fss_nil)
    (fss_one (fs_ret (fe_var (i := 2)))))))

/-! shortest_round -/
abbrev s_shortest_round : Stmt := top 26
theorem sc_shortest_round : FnScope ["round_so", "many"] ["round_so"] (defScope s_shortest_round) := ⟨rfl, rfl, rfl, by decide +kernel, rfl, by decide +kernel, by decide +kernel⟩
def m_shortest_round : Sm := (mSeq (mFor (.nm 1) (iRange2 (dC (.int 1)) (dBin dAdd (dCB bLen (dCons (dVar 0) dNil)) (dC (.int 1)))) (mIf (dAnd (dBin dEq (dBin dMod (dCB bLen (dCons (dVar 0) dNil)) (dVar 1)) (dC (.int 0))) (dBin dEq (dBin dMulT (dSl (dVar 0) dNoPart (dPart (dVar 1))) (dBin dDiv (dCB bLen (dCons (dVar 0) dNil)) (dVar 1))) (dVar 0))) (mRet (dSl (dVar 0) dNoPart (dPart (dVar 1)))) mNil))
    (mRet (dVar 0)))
def M_shortest_round : List D → Re D := runP 2 m_shortest_round
theorem fn_shortest_round {f : Addr} {fd : FuncData} {k : Nat} (T : Tx G mg) (F : Fun G.K "shortest_round" "shortest_round" s_shortest_round f fd) (hP : P = G.P) (hw : w = G.w) : FnOk P w G.K mg base (L2.CX P w) (k + 1) f fd ["round_so"] (spP G 1 (runP 2 m_shortest_round)) :=
  fn_pure (N := ["round_so", "many"]) F sc_shortest_round rfl  fun cdv A outer s H E hr tk => by
    have hu : _ := hu130 hr
    have hN := sc_shortest_round.nd
    exact (fss_cons (fs_for (L2.passes_of rfl) (fi_range2 fe_int (fe_op o_add (fe_callB c_len bb_len T.z_len (fa_cons (fe_var (i := 0)) fa_nil)) fe_int) T.z_range) (fg_name (i := 1) hN) (fss_one (fs_if (fb_w (fw_and (fb_cmp (o_eq hu) (fe_op o_mod (fe_callB c_len bb_len T.z_len (fa_cons (fe_var (i := 0)) fa_nil)) (fe_var (i := 1))) fe_int) (fw_one_and (fb_cmp (o_eq hu) (fe_op o_mulT (fe_sl (fe_var (i := 0)) fo_none (fo_some (fe_var (i := 1)))) (fe_op o_div (fe_callB c_len bb_len T.z_len (fa_cons (fe_var (i := 0)) fa_nil)) (fe_var (i := 1)))) (fe_var (i := 0)))))) (fss_one (fs_ret (fe_sl (fe_var (i := 0)) fo_none (fo_some (fe_var (i := 1)))))) fss_nil)))
    (fss_one (fs_ret (fe_var (i := 0)))))

/-! short_in -/
abbrev s_short_in : Stmt := top 27
theorem sc_short_in : FnScope ["ahead", "round_so", "front", "back"] ["ahead", "round_so"] (defScope s_short_in) := ⟨rfl, rfl, rfl, by decide +kernel, rfl, by decide +kernel, by decide +kernel⟩
def m_short_in : Sm := (mSeq (mPar [2, 3] [.v (dVar 0), .v (dCall 1 M_shortest_round (dCons (dVar 1) dNil))])
    (mSeq (mWhile 100000 (dAnd (dBin dNe (dVar 2) (dTup dNil)) (dBin dEq (dBin dIx (dVar 2) (dUn dNeg (dC (.int 1)))) (dBin dIx (dVar 3) (dUn dNeg (dC (.int 1)))))) (mPar [2, 3] [.v (dSl (dVar 2) dNoPart (dPart (dUn dNeg (dC (.int 1))))), .v (dTup (dCons (dBin dIx (dVar 3) (dUn dNeg (dC (.int 1)))) (dStar (dSl (dVar 3) dNoPart (dPart (dUn dNeg (dC (.int 1))))) dNil)))]))
    (mRet (dTup (dCons (dVar 2) (dCons (dVar 3) dNil))))))
def M_short_in : List D → Re D := runP 4 m_short_in
theorem fn_short_in {f : Addr} {fd : FuncData} {k : Nat} (T : Tx G mg) (F : Fun G.K "short_in" "short_in" s_short_in f fd) (hP : P = G.P) (hw : w = G.w) (c_shortest_round : Cal P w G.K mg base k "shortest_round" ["round_so"] (spP G 1 M_shortest_round)) : FnOk P w G.K mg base (L2.CX P w) (k + 1) f fd ["ahead", "round_so"] (spP G 2 (runP 4 m_short_in)) :=
  fn_pure (N := ["ahead", "round_so", "front", "back"]) F sc_short_in rfl  fun cdv A outer s H E hr tk => by
    have hu : _ := hu130 hr
    have hN := sc_short_in.nd
    exact (fss_cons (fs_par2 (i := 2) (j := 3) hN (fc_v (fe_var (i := 0)) (fc_v (fe_call c_shortest_round tk hr (fa_cons (fe_var (i := 1)) fa_nil)) fc_nil)) rfl rfl (by decide))
    (fss_cons (fs_while (L2.passes_of rfl) (fb_w (fw_and (fb_cmp (o_ne hu) (fe_var (i := 2)) (fe_tup fa_nil)) (fw_one_and (fb_cmp (o_eq hu) (fe_ix hu hP hw (fe_var (i := 2)) (fe_neg fe_int)) (fe_ix hu hP hw (fe_var (i := 3)) (fe_neg fe_int)))))) (fss_one (fs_par2 (i := 2) (j := 3) hN (fc_v (fe_sl (fe_var (i := 2)) fo_none (fo_some (fe_neg fe_int))) (fc_v (fe_tup (fa_cons (fe_ix hu hP hw (fe_var (i := 3)) (fe_neg fe_int)) (fa_star (fe_sl (fe_var (i := 3)) fo_none (fo_some (fe_neg fe_int))) fa_nil))) fc_nil)) rfl rfl (by decide))))
    (fss_one (fs_ret (fe_tup (fa_cons (fe_var (i := 2)) (fa_cons (fe_var (i := 3)) fa_nil)))))))

/-! entry_at -/
abbrev s_entry_at : Stmt := top 28
theorem sc_entry_at : FnScope ["ahead", "round_so", "place"] ["ahead", "round_so", "place"] (defScope s_entry_at) := ⟨rfl, rfl, rfl, by decide +kernel, rfl, by decide +kernel, by decide +kernel⟩
def m_entry_at : Sm := (mSeq (mIf (dBin dLe (dVar 2) (dCB bLen (dCons (dVar 0) dNil))) (mRet (dBin dIx (dVar 0) (dBin dSub (dVar 2) (dC (.int 1))))) mNil)
    (mRet (dBin dIx (dVar 1) (dBin dMod (dBin dSub (dBin dSub (dVar 2) (dCB bLen (dCons (dVar 0) dNil))) (dC (.int 1))) (dCB bLen (dCons (dVar 1) dNil))))))
def M_entry_at : List D → Re D := runP 3 m_entry_at
theorem fn_entry_at {f : Addr} {fd : FuncData} {k : Nat} (T : Tx G mg) (F : Fun G.K "entry_at" "entry_at" s_entry_at f fd) (hP : P = G.P) (hw : w = G.w) : FnOk P w G.K mg base (L2.CX P w) (k + 1) f fd ["ahead", "round_so", "place"] (spP G 3 (runP 3 m_entry_at)) :=
  fn_pure (N := ["ahead", "round_so", "place"]) F sc_entry_at rfl  fun cdv A outer s H E hr tk => by
    have hu : _ := hu130 hr
    have hN := sc_entry_at.nd
    exact (fss_cons (fs_if (fb_cmp o_le (fe_var (i := 2)) (fe_callB c_len bb_len T.z_len (fa_cons (fe_var (i := 0)) fa_nil))) (fss_one (fs_ret (fe_ix hu hP hw (fe_var (i := 0)) (fe_op o_sub (fe_var (i := 2)) fe_int)))) fss_nil)
    (fss_one (fs_ret (fe_ix hu hP hw (fe_var (i := 1)) (fe_op o_mod (fe_op o_sub (fe_op o_sub (fe_var (i := 2)) (fe_callB c_len bb_len T.z_len (fa_cons (fe_var (i := 0)) fa_nil))) fe_int) (fe_callB c_len bb_len T.z_len (fa_cons (fe_var (i := 1)) fa_nil)))))))

/-! first_letters -/
abbrev s_first_letters : Stmt := top 29
theorem sc_first_letters : FnScope ["own", "many", "place"] ["own", "many"] (defScope s_first_letters) := ⟨rfl, rfl, rfl, by decide +kernel, rfl, by decide +kernel, by decide +kernel⟩
def m_first_letters : Sm := (mRet (dCB bTuple (dCons (dL (dLc [2] (.nm 2) cYes (dCall 3 M_entry_at (dCons (dBin dIx (dVar 0) (dC (.int 0))) (dCons (dBin dIx (dVar 0) (dC (.int 1))) (dCons (dVar 2) dNil)))) (iRange2 (dC (.int 1)) (dBin dAdd (dVar 1) (dC (.int 1)))))) dNil)))
def M_first_letters : List D → Re D := runP 3 m_first_letters
theorem fn_first_letters {f : Addr} {fd : FuncData} {k : Nat} (T : Tx G mg) (F : Fun G.K "first_letters" "first_letters" s_first_letters f fd) (hP : P = G.P) (hw : w = G.w) (c_entry_at : Cal P w G.K mg base k "entry_at" ["ahead", "round_so", "place"] (spP G 3 M_entry_at)) : FnOk P w G.K mg base (L2.CX P w) (k + 1) f fd ["own", "many"] (spP G 2 (runP 3 m_first_letters)) :=
  fn_pure (N := ["own", "many", "place"]) F sc_first_letters rfl  fun cdv A outer s H E hr tk => by
    have hu : _ := hu130 hr
    have hN := sc_first_letters.nd
    exact (fss_one (fs_ret (fe_callTy c_tuple bb_tuple T.z_tuple (fa_cons (fe_new (fl_lc (own := [("place", 2)]) hN (blkOk_by (by rfl)) (fi_range2 fe_int (fe_op o_add (fe_var (i := 1)) fe_int) T.z_range) (fun _ _ _ _ _ => (fg_name (i := 2) hN)) (fun _ _ _ _ _ => fts_nil) (fun _ _ _ _ _ => (fe_call c_entry_at L2.takes0 hr (fa_cons (fe_ix hu hP hw (fe_var (i := 0)) fe_int) (fa_cons (fe_ix hu hP hw (fe_var (i := 0)) fe_int) (fa_cons (fe_var (i := 2)) fa_nil))))))) fa_nil))))

/-! watched_in -/
abbrev s_watched_in : Stmt := top 33
theorem sc_watched_in : FnScope ["moods", "line", "found", "ranked", "own", "_"] ["moods"] (defScope s_watched_in) := ⟨rfl, rfl, rfl, by decide +kernel, rfl, by decide +kernel, by decide +kernel⟩
def m_watched_in : Sm := (mSeq (mPar [1, 2] [.l (dCL bList (dCons (dVar 0) dNil)), .l (dItems dNil)])
    (mSeq (mWhile 100000 (dBin dNe (dVar 1) (dL (dItems dNil))) (mSeq (mSet 4 (dMut 1 mPop dNil))
    (mSeq (mIf (dAnd (dBin (dIn false) (dBin dIx (dVar 4) (dC (.int 0))) (dTup (dCons (dC (.str "later")) (dCons (dC (.str "ahead")) dNil)))) (dBin (dIn true) (dVar 4) (dVar 2))) (mDrop (dMut 2 mAppend (dCons (dVar 4) dNil))) mNil)
    (mDrop (dMutL 1 mExtend (dCons (dL (dCL bList (dCons (dCall 1 M_inner_moods (dCons (dVar 4) dNil)) dNil))) dNil))))))
    (mSeq (mFrz 2 (mSet 3 (dL (dCL bSort (dCons (dL (dLc [4] (.nm 4) cYes (dTup (dCons (dCall 1 (M_mood_size_in 20) (dCons (dVar 4) dNil)) (dCons (dVar 4) dNil))) (iSeq (dVar 2)))) dNil)))))
    (mRet (dCB bTupN (dCons (dL (dLc [5, 4] (.tp [(.nm 5), (.nm 4)]) cYes (dVar 4) (iSeq (dVar 3)))) dNil))))))
def M_watched_in : List D → Re D := runP 6 m_watched_in
theorem fn_watched_in {f : Addr} {fd : FuncData} {k : Nat} (T : Tx G mg) (F : Fun G.K "watched_in" "watched_in" s_watched_in f fd) (hP : P = G.P) (hw : w = G.w) (c_inner_moods : Cal P w G.K mg base k "inner_moods" ["own"] (spP G 1 M_inner_moods)) (c_mood_size_in : Cal P w G.K mg base k "mood_size_in" ["own"] (spP G 1 (M_mood_size_in 20))) : FnOk P w G.K mg base (L2.CX P w) (k + 1) f fd ["moods"] (spP G 1 (runP 6 m_watched_in)) :=
  fn_pure (N := ["moods", "line", "found", "ranked", "own", "_"]) F sc_watched_in rfl  fun cdv A outer s H E hr tk => by
    have hu : _ := hu130 hr
    have hN := sc_watched_in.nd
    exact (fss_cons (fs_par2 (i := 1) (j := 2) hN (fc_l (fl_callTy c_list bb_list T.z_list (fa_cons (fe_var (i := 0)) fa_nil)) (fc_l (fl_lst fa_nil) fc_nil)) rfl rfl (by decide))
    (fss_cons (fs_while (L2.passes_of rfl) (fb_cmp (o_ne hu) (fe_var (i := 1)) (fe_new (fl_lst fa_nil))) (fss_cons (fs_set (i := 4) hN (fe_pop (i := 1)))
    (fss_cons (fs_if (fb_w (fw_and (fb_cmp (o_in hu hP hw) (fe_ix hu hP hw (fe_var (i := 4)) fe_int) (fe_tup (fa_cons T.v_LATER.fe (fa_cons T.v_AHEAD.fe fa_nil)))) (fw_one_and (fb_cmp (o_notIn hu hP hw) (fe_var (i := 4)) (fe_var (i := 2)))))) (fss_one (fs_expr (fe_append (i := 2) (fa_cons (fe_var (i := 4)) fa_nil)))) fss_nil)
    (fss_one (fs_expr (fe_extend (i := 1) (fa_cons (fe_new (fl_callTy c_list bb_list T.z_list (fa_cons (fe_call c_inner_moods tk hr (fa_cons (fe_var (i := 4)) fa_nil)) fa_nil))) fa_nil)))))))
    (fss_cons (fs_frz 1 (fs_set (i := 3) hN (fe_new (fl_callB (c_sorted hu) bb_sorted T.z_sorted (fa_cons (fe_new (fl_lc (own := [("own", 4)]) hN (blkOk_by (by rfl)) (fi_seq (fe_var (i := 2))) (fun _ _ _ _ _ => (fg_name (i := 4) hN)) (fun _ _ _ _ _ => fts_nil) (fun _ _ _ _ _ => (fe_tup (fa_cons (fe_call c_mood_size_in L2.takes0 hr (fa_cons (fe_var (i := 4)) fa_nil)) (fa_cons (fe_var (i := 4)) fa_nil)))))) fa_nil)))))
    (fss_one (fs_ret (fe_callTy c_tupN bb_tuple T.z_tuple (fa_cons (fe_new (fl_lc (own := [("_", 5), ("own", 4)]) hN (blkOk_by (by rfl)) (fi_seq (fe_var (i := 3))) (fun _ _ _ _ _ => (fg_tup (fgs_cons (fg_name (i := 5) hN) (fgs_cons (fg_name (i := 4) hN) fgs_nil)) rfl)) (fun _ _ _ _ _ => fts_nil) (fun _ _ _ _ _ => (fe_var (i := 4))))) fa_nil)))))))

/-! Stands___init__ -/
abbrev s_Stands___init__ : Stmt := inC 34 0
theorem sc_Stands___init__ : FnScope ["self", "moods"] ["self", "moods"] (defScope s_Stands___init__) := ⟨rfl, rfl, rfl, by decide +kernel, rfl, by decide +kernel, by decide +kernel⟩
def m_Stands___init__ : Sm := (mSeq (mFld 0 0 0 (dCall 1 M_watched_in (dCons (dVar 1) dNil)))
    (mIf (dBin dGt (dCB bLen (dCons (dFldO 0 0 0) dNil)) (dC (.int 6))) (mRaise 1) mNil))
def M_Stands___init__ : List D → Re (List D) := runI 2 0 1 m_Stands___init__
theorem fn_Stands___init__ {f : Addr} {fd : FuncData} {k : Nat} (T : Tx G mg) (F : Fun G.K "__init__" "Stands.__init__" s_Stands___init__ f fd) (hP : P = G.P) (hw : w = G.w) (c_watched_in : Cal P w G.K mg base k "watched_in" ["moods"] (spP G 1 M_watched_in)) : FnOk P w G.K mg base (L2.CX P w) (k + 1) f fd ["self", "moods"] (spI G 0 2 (runI 2 0 1 m_Stands___init__)) :=
  fn_init (N := ["self", "moods"]) T.kf_Stands F sc_Stands___init__ rfl fun cdv A outer s H E hr tk => by
    have hu : _ := hu130 hr
    have hN := sc_Stands___init__.nd
    exact (fss_cons (fs_fld (i := 0) T.cd_Stands T.fl_Stands_0 (fe_call c_watched_in tk hr (fa_cons (fe_var (i := 1)) fa_nil)))
    (fss_one (fs_if (fb_cmp o_gt (fe_callB c_len bb_len T.z_len (fa_cons (fe_fldO (i := 0) T.cd_Stands T.fl_Stands_0) fa_nil)) T.v_MOST_WATCHED.fe) (fss_one (fs_raise0 PySem.F.excBase_ValueError T.e_TooMuch tk)) fss_nil)))

/-! Stands_told -/
abbrev s_Stands_told : Stmt := inC 34 1
theorem sc_Stands_told : FnScope ["self", "own", "letter", "before", "beyond", "word"] ["self", "own", "letter", "before", "beyond"] (defScope s_Stands_told) := ⟨rfl, rfl, rfl, by decide +kernel, rfl, by decide +kernel, by decide +kernel⟩
def m_Stands_told (r : List D → Re D) : Sm := (mSeq (mSet 5 (dBin dIx (dVar 1) (dC (.int 0))))
    (mSeq (mIf (dBin dEq (dVar 5) (dC (.str "yes"))) (mRet (dC (.bl true))) mNil)
    (mSeq (mIf (dBin dEq (dVar 5) (dC (.str "letter"))) (mRet (dBin (dIn false) (dVar 2) (dBin dIx (dVar 1) (dC (.int 1))))) mNil)
    (mSeq (mIf (dBin dEq (dVar 5) (dC (.str "not"))) (mRet (dNot (dMeth 0 5 r (dVar 0) (dCons (dBin dIx (dVar 1) (dC (.int 1))) (dCons (dVar 2) (dCons (dVar 3) (dCons (dVar 4) dNil))))))) mNil)
    (mSeq (mIf (dBin dEq (dVar 5) (dC (.str "and"))) (mRet (dAnd (dMeth 0 5 r (dVar 0) (dCons (dBin dIx (dVar 1) (dC (.int 1))) (dCons (dVar 2) (dCons (dVar 3) (dCons (dVar 4) dNil))))) (dMeth 0 5 r (dVar 0) (dCons (dBin dIx (dVar 1) (dC (.int 2))) (dCons (dVar 2) (dCons (dVar 3) (dCons (dVar 4) dNil))))))) mNil)
    (mSeq (mIf (dBin dEq (dVar 5) (dC (.str "or"))) (mRet (dOr (dMeth 0 5 r (dVar 0) (dCons (dBin dIx (dVar 1) (dC (.int 1))) (dCons (dVar 2) (dCons (dVar 3) (dCons (dVar 4) dNil))))) (dMeth 0 5 r (dVar 0) (dCons (dBin dIx (dVar 1) (dC (.int 2))) (dCons (dVar 2) (dCons (dVar 3) (dCons (dVar 4) dNil))))))) mNil)
    (mRet (dBin (dIn false) (dMethT "tuple" mIndex (dFld 0 0 (dVar 0)) (dCons (dVar 1) dNil)) (dIf (dBin dEq (dVar 5) (dC (.str "ahead"))) (dVar 3) (dVar 4))))))))))
def M_Stands_told : Nat → List D → Re D
  | 0 => fun _ => .bad
  | j + 1 => runP 6 (m_Stands_told (M_Stands_told j))
theorem fn_Stands_told {f : Addr} {fd : FuncData} {k : Nat} {r : List D → Re D} (T : Tx G mg) (F : Fun G.K "told" "Stands.told" s_Stands_told f fd) (hP : P = G.P) (hw : w = G.w) (c_Stands_told : CalM P w G.K mg base k (G.oC 0) "told" ["self", "own", "letter", "before", "beyond"] (spP G 5 r)) : FnOk P w G.K mg base (L2.CX P w) (k + 1) f fd ["self", "own", "letter", "before", "beyond"] (spP G 5 (runP 6 (m_Stands_told r))) :=
  fn_pure (N := ["self", "own", "letter", "before", "beyond", "word"]) F sc_Stands_told rfl  fun cdv A outer s H E hr tk => by
    have hu : _ := hu130 hr
    have hN := sc_Stands_told.nd
    exact (fss_cons (fs_set (i := 5) hN (fe_ix hu hP hw (fe_var (i := 1)) fe_int))
    (fss_cons (fs_if (fb_cmp (o_eq hu) (fe_var (i := 5)) fe_str) (fss_one (fs_ret fe_bl)) fss_nil)
    (fss_cons (fs_if (fb_cmp (o_eq hu) (fe_var (i := 5)) fe_str) (fss_one (fs_ret (fe_cmp (o_in hu hP hw) (fe_var (i := 2)) (fe_ix hu hP hw (fe_var (i := 1)) fe_int)))) fss_nil)
    (fss_cons (fs_if (fb_cmp (o_eq hu) (fe_var (i := 5)) fe_str) (fss_one (fs_ret (fe_not (fe_mcall T.cd_Stands T.no_Stands_told c_Stands_told tk hr (fe_var (i := 0)) (fa_cons (fe_ix hu hP hw (fe_var (i := 1)) fe_int) (fa_cons (fe_var (i := 2)) (fa_cons (fe_var (i := 3)) (fa_cons (fe_var (i := 4)) fa_nil)))))))) fss_nil)
    (fss_cons (fs_if (fb_cmp (o_eq hu) (fe_var (i := 5)) fe_str) (fss_one (fs_ret (fe_and (fe_mcall T.cd_Stands T.no_Stands_told c_Stands_told tk hr (fe_var (i := 0)) (fa_cons (fe_ix hu hP hw (fe_var (i := 1)) fe_int) (fa_cons (fe_var (i := 2)) (fa_cons (fe_var (i := 3)) (fa_cons (fe_var (i := 4)) fa_nil))))) (fe_one (fe_mcall T.cd_Stands T.no_Stands_told c_Stands_told tk hr (fe_var (i := 0)) (fa_cons (fe_ix hu hP hw (fe_var (i := 1)) fe_int) (fa_cons (fe_var (i := 2)) (fa_cons (fe_var (i := 3)) (fa_cons (fe_var (i := 4)) fa_nil))))))))) fss_nil)
    (fss_cons (fs_if (fb_cmp (o_eq hu) (fe_var (i := 5)) fe_str) (fss_one (fs_ret (fe_or (fe_mcall T.cd_Stands T.no_Stands_told c_Stands_told tk hr (fe_var (i := 0)) (fa_cons (fe_ix hu hP hw (fe_var (i := 1)) fe_int) (fa_cons (fe_var (i := 2)) (fa_cons (fe_var (i := 3)) (fa_cons (fe_var (i := 4)) fa_nil))))) (fe_one (fe_mcall T.cd_Stands T.no_Stands_told c_Stands_told tk hr (fe_var (i := 0)) (fa_cons (fe_ix hu hP hw (fe_var (i := 1)) fe_int) (fa_cons (fe_var (i := 2)) (fa_cons (fe_var (i := 3)) (fa_cons (fe_var (i := 4)) fa_nil))))))))) fss_nil)
    (fss_one (fs_ret (fe_cmp (o_in hu hP hw) (fe_meth (mth_indexT hu) (by decide) PySem.F.plainAttrs_tuple PySem.F.slot_tuple_index PySem.F.type_tuple_index (fe_fld T.cd_Stands T.fl_Stands_0 (fe_var (i := 0))) (fa_cons (fe_var (i := 1)) fa_nil)) (fe_if (fb_cmp (o_eq hu) (fe_var (i := 5)) T.v_AHEAD.fe) (fe_var (i := 3)) (fe_var (i := 4))))))))))))

/-! Stands_hits -/
abbrev s_Stands_hits : Stmt := inC 34 2
theorem sc_Stands_hits : FnScope ["self", "word", "letter", "before", "beyond", "place", "own"] ["self", "word", "letter", "before", "beyond"] (defScope s_Stands_hits) := ⟨rfl, rfl, rfl, by decide +kernel, rfl, by decide +kernel, by decide +kernel⟩
def m_Stands_hits : Sm := (mRet (dCB bTuple (dCons (dL (dLc [5, 6] (.tp [(.nm 5), (.nm 6)]) (dB (dAnd (dBin dEq (dBin dIx (dVar 6) (dC (.int 0))) (dVar 1)) (dMeth 0 5 (M_Stands_told 20) (dVar 0) (dCons (dBin dIx (dVar 6) (dC (.int 1))) (dCons (dVar 2) (dCons (dVar 3) (dCons (dVar 4) dNil))))))) (dVar 5) (iEnumL (dFld 0 0 (dVar 0))))) dNil)))
def M_Stands_hits : List D → Re D := runP 7 m_Stands_hits
theorem fn_Stands_hits {f : Addr} {fd : FuncData} {k : Nat} (T : Tx G mg) (F : Fun G.K "hits" "Stands.hits" s_Stands_hits f fd) (hP : P = G.P) (hw : w = G.w) (c_Stands_told : CalM P w G.K mg base k (G.oC 0) "told" ["self", "own", "letter", "before", "beyond"] (spP G 5 (M_Stands_told 20))) : FnOk P w G.K mg base (L2.CX P w) (k + 1) f fd ["self", "word", "letter", "before", "beyond"] (spP G 5 (runP 7 m_Stands_hits)) :=
  fn_pure (N := ["self", "word", "letter", "before", "beyond", "place", "own"]) F sc_Stands_hits rfl  fun cdv A outer s H E hr tk => by
    have hu : _ := hu130 hr
    have hN := sc_Stands_hits.nd
    exact (fss_one (fs_ret (fe_callTy c_tuple bb_tuple T.z_tuple (fa_cons (fe_new (fl_lc (own := [("place", 5), ("own", 6)]) hN (blkOk_by (by rfl)) (fi_enumL (fe_fld T.cd_Stands T.fl_Stands_0 (fe_var (i := 0))) T.z_enumerate) (fun _ _ _ _ _ => (fg_tup (fgs_cons (fg_name (i := 5) hN) (fgs_cons (fg_name (i := 6) hN) fgs_nil)) rfl)) (fun _ _ _ _ _ => (fts_one (fb_w (fw_and (fb_cmp (o_eq hu) (fe_ix hu hP hw (fe_var (i := 6)) fe_int) (fe_var (i := 1))) (fw_one_and (fb_val (fe_mcall T.cd_Stands T.no_Stands_told c_Stands_told L2.takes0 hr (fe_var (i := 0)) (fa_cons (fe_ix hu hP hw (fe_var (i := 6)) fe_int) (fa_cons (fe_var (i := 2)) (fa_cons (fe_var (i := 3)) (fa_cons (fe_var (i := 4)) fa_nil))))))))))) (fun _ _ _ _ _ => (fe_var (i := 5))))) fa_nil))))

/-! subsets -/
abbrev s_subsets : Stmt := top 36
theorem sc_subsets : FnScope ["some", "found", "own", "one"] ["some"] (defScope s_subsets) := ⟨rfl, rfl, rfl, by decide +kernel, rfl, by decide +kernel, by decide +kernel⟩
def m_subsets : Sm := (mSeq (mSet 1 (dL (dItems (dCons (dTup dNil) dNil))))
    (mSeq (mFor (.nm 2) (iSeq (dVar 0)) (mSet 1 (dBin dAdd (dVar 1) (dL (dLc [3] (.nm 3) cYes (dTup (dStar (dVar 3) (dCons (dVar 2) dNil))) (iSeq (dVar 1)))))))
    (mRet (dVar 1))))
def M_subsets : List D → Re D := runP 4 m_subsets
theorem fn_subsets {f : Addr} {fd : FuncData} {k : Nat} (T : Tx G mg) (F : Fun G.K "subsets" "subsets" s_subsets f fd) (hP : P = G.P) (hw : w = G.w) : FnOk P w G.K mg base (L2.CX P w) (k + 1) f fd ["some"] (spP G 1 (runP 4 m_subsets)) :=
  fn_pure (N := ["some", "found", "own", "one"]) F sc_subsets rfl  fun cdv A outer s H E hr tk => by
    have hu : _ := hu130 hr
    have hN := sc_subsets.nd
    exact (fss_cons (fs_set (i := 1) hN (fe_new (fl_lst (fa_cons (fe_tup fa_nil) fa_nil))))
    (fss_cons (fs_for (L2.passes_of rfl) (fi_seq (fe_var (i := 0))) (fg_name (i := 2) hN) (fss_one (fs_set (i := 1) hN (fe_op o_add (fe_var (i := 1)) (fe_new (fl_lc (own := [("one", 3)]) hN (blkOk_by (by rfl)) (fi_seq (fe_var (i := 1))) (fun _ _ _ _ _ => (fg_name (i := 3) hN)) (fun _ _ _ _ _ => fts_nil) (fun _ _ _ _ _ => (fe_tup (fa_star (fe_var (i := 3)) (fa_cons (fe_var (i := 2)) fa_nil))))))))))
    (fss_one (fs_ret (fe_var (i := 1))))))

/-! joined -/
abbrev s_joined : Stmt := top 35
theorem sc_joined : FnScope ["one", "other"] ["one", "other"] (defScope s_joined) := ⟨rfl, rfl, rfl, by decide +kernel, rfl, by decide +kernel, by decide +kernel⟩
def m_joined : Sm := (mRet (dCB bTuple (dCons (dL (dSortSet (dBin dAdd (dVar 0) (dVar 1)))) dNil)))
def M_joined : List D → Re D := runP 2 m_joined
theorem fn_joined {f : Addr} {fd : FuncData} {k : Nat} (T : Tx G mg) (F : Fun G.K "joined" "joined" s_joined f fd) (hP : P = G.P) (hw : w = G.w) : FnOk P w G.K mg base (L2.CX P w) (k + 1) f fd ["one", "other"] (spP G 2 (runP 2 m_joined)) :=
  fn_pure (N := ["one", "other"]) F sc_joined rfl  fun cdv A outer s H E hr tk => by
    have hu : _ := hu130 hr
    have hN := sc_joined.nd
    exact (fss_one (fs_ret (fe_callTy c_tuple bb_tuple T.z_tuple (fa_cons (fe_new (fl_sortSet (fe_op o_add (fe_var (i := 0)) (fe_var (i := 1))) T.z_sorted T.z_set)) fa_nil))))

/-! Stands_steps -/
abbrev s_Stands_steps : Stmt := inC 34 3
theorem sc_Stands_steps : FnScope ["self", "gap", "letter", "before", "beyond", "found", "left"] ["self", "gap", "letter"] (defScope s_Stands_steps) := ⟨rfl, rfl, rfl, by decide +kernel, rfl, by decide +kernel, by decide +kernel⟩
def m_Stands_steps : Sm := (mSeq (mAsg (.tp [(.nm 3), (.nm 4)]) (dVar 1))
    (mSeq (mNew 5 (dItems dNil))
    (mSeq (mFor (.nm 6) (iSeq (dCall 1 M_subsets (dCons (dVar 4) dNil))) (mIf (dBin dEq (dCall 2 M_joined (dCons (dVar 6) (dCons (dMeth 0 5 M_Stands_hits (dVar 0) (dCons (dC (.str "later")) (dCons (dVar 2) (dCons (dVar 3) (dCons (dVar 6) dNil))))) dNil))) (dVar 4)) (mDrop (dMut 5 mAppend (dCons (dTup (dCons (dCall 2 M_joined (dCons (dVar 3) (dCons (dMeth 0 5 M_Stands_hits (dVar 0) (dCons (dC (.str "ahead")) (dCons (dVar 2) (dCons (dVar 3) (dCons (dVar 6) dNil))))) dNil))) (dCons (dVar 6) dNil))) dNil))) mNil))
    (mRet (dCB bTuple (dCons (dL (dCL bSort (dCons (dVar 5) dNil))) dNil))))))
def M_Stands_steps : List D → Re D := runP 7 m_Stands_steps
theorem fn_Stands_steps {f : Addr} {fd : FuncData} {k : Nat} (T : Tx G mg) (F : Fun G.K "steps" "Stands.steps" s_Stands_steps f fd) (hP : P = G.P) (hw : w = G.w) (c_subsets : Cal P w G.K mg base k "subsets" ["some"] (spP G 1 M_subsets)) (c_joined : Cal P w G.K mg base k "joined" ["one", "other"] (spP G 2 M_joined)) (c_Stands_hits : CalM P w G.K mg base k (G.oC 0) "hits" ["self", "word", "letter", "before", "beyond"] (spP G 5 M_Stands_hits)) : FnOk P w G.K mg base (L2.CX P w) (k + 1) f fd ["self", "gap", "letter"] (spP G 3 (runP 7 m_Stands_steps)) :=
  fn_pure (N := ["self", "gap", "letter", "before", "beyond", "found", "left"]) F sc_Stands_steps rfl  fun cdv A outer s H E hr tk => by
    have hu : _ := hu130 hr
    have hN := sc_Stands_steps.nd
    exact (fss_cons (fs_asg (fe_var (i := 1)) (fg_tup (fgs_cons (fg_name (i := 3) hN) (fgs_cons (fg_name (i := 4) hN) fgs_nil)) rfl))
    (fss_cons (fs_new (i := 4) hN (fl_lst fa_nil))
    (fss_cons (fs_for (L2.passes_of rfl) (fi_seq (fe_call c_subsets tk hr (fa_cons (fe_var (i := 4)) fa_nil))) (fg_name (i := 6) hN) (fss_one (fs_if (fb_cmp (o_eq hu) (fe_call c_joined tk hr (fa_cons (fe_var (i := 6)) (fa_cons (fe_mcall T.cd_Stands T.no_Stands_hits c_Stands_hits tk hr (fe_var (i := 0)) (fa_cons T.v_LATER.fe (fa_cons (fe_var (i := 2)) (fa_cons (fe_var (i := 3)) (fa_cons (fe_var (i := 6)) fa_nil))))) fa_nil))) (fe_var (i := 4))) (fss_one (fs_expr (fe_append (i := 5) (fa_cons (fe_tup (fa_cons (fe_call c_joined tk hr (fa_cons (fe_var (i := 3)) (fa_cons (fe_mcall T.cd_Stands T.no_Stands_hits c_Stands_hits tk hr (fe_var (i := 0)) (fa_cons T.v_AHEAD.fe (fa_cons (fe_var (i := 2)) (fa_cons (fe_var (i := 3)) (fa_cons (fe_var (i := 6)) fa_nil))))) fa_nil))) (fa_cons (fe_var (i := 6)) fa_nil))) fa_nil)))) fss_nil)))
    (fss_one (fs_ret (fe_callTy c_tuple bb_tuple T.z_tuple (fa_cons (fe_new (fl_callB (c_sorted hu) bb_sorted T.z_sorted (fa_cons (fe_var (i := 5)) fa_nil))) fa_nil)))))))

/-! Stands_starts -/
abbrev s_Stands_starts : Stmt := inC 34 4
theorem sc_Stands_starts : FnScope ["self", "mood", "later", "place", "own"] ["self", "mood"] (defScope s_Stands_starts) := ⟨rfl, rfl, rfl, by decide +kernel, rfl, by decide +kernel, by decide +kernel⟩
def m_Stands_starts : Sm := (mSeq (mSet 2 (dCB bTuple (dCons (dL (dLc [3, 4] (.tp [(.nm 3), (.nm 4)]) (dB (dBin dEq (dBin dIx (dVar 4) (dC (.int 0))) (dC (.str "later")))) (dVar 3) (iEnumL (dFld 0 0 (dVar 0))))) dNil)))
    (mRet (dCB bTuple (dCons (dL (dCL bSort (dCons (dL (dLc [4] (.nm 4) (dB (dMeth 0 5 (M_Stands_told 20) (dVar 0) (dCons (dVar 1) (dCons (dC (.int 0)) (dCons (dTup dNil) (dCons (dVar 4) dNil)))))) (dTup (dCons (dTup dNil) (dCons (dVar 4) dNil))) (iSeq (dCall 1 M_subsets (dCons (dVar 2) dNil))))) dNil))) dNil))))
def M_Stands_starts : List D → Re D := runP 5 m_Stands_starts
theorem fn_Stands_starts {f : Addr} {fd : FuncData} {k : Nat} (T : Tx G mg) (F : Fun G.K "starts" "Stands.starts" s_Stands_starts f fd) (hP : P = G.P) (hw : w = G.w) (c_subsets : Cal P w G.K mg base k "subsets" ["some"] (spP G 1 M_subsets)) (c_Stands_told : CalM P w G.K mg base k (G.oC 0) "told" ["self", "own", "letter", "before", "beyond"] (spP G 5 (M_Stands_told 20))) : FnOk P w G.K mg base (L2.CX P w) (k + 1) f fd ["self", "mood"] (spP G 2 (runP 5 m_Stands_starts)) :=
  fn_pure (N := ["self", "mood", "later", "place", "own"]) F sc_Stands_starts rfl  fun cdv A outer s H E hr tk => by
    have hu : _ := hu130 hr
    have hN := sc_Stands_starts.nd
    exact (fss_cons (fs_set (i := 2) hN (fe_callTy c_tuple bb_tuple T.z_tuple (fa_cons (fe_new (fl_lc (own := [("place", 3), ("own", 4)]) hN (blkOk_by (by rfl)) (fi_enumL (fe_fld T.cd_Stands T.fl_Stands_0 (fe_var (i := 0))) T.z_enumerate) (fun _ _ _ _ _ => (fg_tup (fgs_cons (fg_name (i := 3) hN) (fgs_cons (fg_name (i := 4) hN) fgs_nil)) rfl)) (fun _ _ _ _ _ => (fts_one (fb_cmp (o_eq hu) (fe_ix hu hP hw (fe_var (i := 4)) fe_int) T.v_LATER.fe))) (fun _ _ _ _ _ => (fe_var (i := 3))))) fa_nil)))
    (fss_one (fs_ret (fe_callTy c_tuple bb_tuple T.z_tuple (fa_cons (fe_new (fl_callB (c_sorted hu) bb_sorted T.z_sorted (fa_cons (fe_new (fl_lc (own := [("own", 4)]) hN (blkOk_by (by rfl)) (fi_seq (fe_call c_subsets tk hr (fa_cons (fe_var (i := 2)) fa_nil))) (fun _ _ _ _ _ => (fg_name (i := 4) hN)) (fun _ _ _ _ _ => (fts_one (fb_val (fe_mcall T.cd_Stands T.no_Stands_told c_Stands_told L2.takes0 hr (fe_var (i := 0)) (fa_cons (fe_var (i := 1)) (fa_cons fe_int (fa_cons (fe_tup fa_nil) (fa_cons (fe_var (i := 4)) fa_nil)))))))) (fun _ _ _ _ _ => (fe_tup (fa_cons (fe_tup fa_nil) (fa_cons (fe_var (i := 4)) fa_nil)))))) fa_nil))) fa_nil)))))

/-! Going___init__ -/
abbrev s_Going___init__ : Stmt := inC 37 0
theorem sc_Going___init__ : FnScope ["self", "wide", "demand", "line", "gap", "goals", "letter"] ["self", "wide", "demand"] (defScope s_Going___init__) := ⟨rfl, rfl, rfl, by decide +kernel, rfl, by decide +kernel, by decide +kernel⟩
def m_Going___init__ : Sm := (mSeq (mFld 0 1 0 (dVar 1))
    (mSeq (mFld 0 1 1 (dVar 2))
    (mSeq (mFld 0 1 2 (dMake 0 2 M_Stands___init__ (dCons (dVar 2) dNil)))
    (mSeq (mFld 0 1 3 (dMeth 0 2 M_Stands_starts (dFldO 0 1 2) (dCons (dBin dIx (dVar 2) (dC (.int 0))) dNil)))
    (mSeq (mFldE 0 1 4)
    (mSeq (mNew 3 (dCL bList (dCons (dFldO 0 1 3) dNil)))
    (mWhile 100000 (dBin dNe (dVar 3) (dL (dItems dNil))) (mSeq (mSet 4 (dMut 3 mPop dNil))
    (mIf (dBin (dIn true) (dVar 4) (dFldO 0 1 4)) (mSeq (mPutO 0 1 4 (dL (dLc [6] (.nm 6) cYes (dMeth 0 3 M_Stands_steps (dFldO 0 1 2) (dCons (dVar 4) (dCons (dVar 6) dNil))) (iRange2 (dC (.int 1)) (dBin dAdd (dVar 1) (dC (.int 1)))))) (dVar 4))
    (mSeq (mFor (.nm 5) (iSeq (dBin dIx (dFldO 0 1 4) (dVar 4))) (mDrop (dMutL 3 mExtend (dCons (dL (dCL bList (dCons (dVar 5) dNil))) dNil))))
    (mIf (dBin dGt (dCB bLen (dCons (dFldO 0 1 4) dNil)) (dC (.int 600))) (mRaise 1) mNil))) mNil)))))))))
def M_Going___init__ : List D → Re (List D) := runI 7 1 5 m_Going___init__
theorem fn_Going___init__ {f : Addr} {fd : FuncData} {k : Nat} {ki : Nat} (hki : ki + 1 ≤ k) (T : Tx G mg) (F : Fun G.K "__init__" "Going.__init__" s_Going___init__ f fd) (hP : P = G.P) (hw : w = G.w) (c_Stands___init__ : CalI P w G.K mg base ki (G.oC 0) "Stands" ["self", "moods"] (spI G 0 2 M_Stands___init__)) (c_Stands_starts : CalM P w G.K mg base k (G.oC 0) "starts" ["self", "mood"] (spP G 2 M_Stands_starts)) (c_Stands_steps : CalM P w G.K mg base k (G.oC 0) "steps" ["self", "gap", "letter"] (spP G 3 M_Stands_steps)) : FnOk P w G.K mg base (L2.CX P w) (k + 1) f fd ["self", "wide", "demand"] (spI G 1 3 (runI 7 1 5 m_Going___init__)) :=
  fn_init (N := ["self", "wide", "demand", "line", "gap", "goals", "letter"]) T.kf_Going F sc_Going___init__ rfl fun cdv A outer s H E hr tk => by
    have hu : _ := hu130 hr
    have hN := sc_Going___init__.nd
    exact (fss_cons (fs_fld (i := 0) T.cd_Going T.fl_Going_0 (fe_var (i := 1)))
    (fss_cons (fs_fld (i := 0) T.cd_Going T.fl_Going_1 (fe_var (i := 2)))
    (fss_cons (fs_fld (i := 0) T.cd_Going T.fl_Going_2 (fe_make c_Stands___init__ tk (hr.mono hki) (fa_cons (fe_var (i := 2)) fa_nil)))
    (fss_cons (fs_fld (i := 0) T.cd_Going T.fl_Going_3 (fe_mcall T.cd_Stands T.no_Stands_starts c_Stands_starts tk hr (fe_fldO (i := 0) T.cd_Going T.fl_Going_2) (fa_cons (fe_ix hu hP hw (fe_var (i := 2)) fe_int) fa_nil)))
    (fss_cons (fs_fldE (i := 0) hP hw T.cd_Going T.fl_Going_4)
    (fss_cons (fs_new (i := 2) hN (fl_callTy c_list bb_list T.z_list (fa_cons (fe_fldO (i := 0) T.cd_Going T.fl_Going_3) fa_nil)))
    (fss_one (fs_while (L2.passes_of rfl) (fb_cmp (o_ne hu) (fe_var (i := 3)) (fe_new (fl_lst fa_nil))) (fss_cons (fs_set (i := 4) hN (fe_pop (i := 3)))
    (fss_one (fs_if (fb_cmp (o_notIn hu hP hw) (fe_var (i := 4)) (fe_fldO (i := 0) T.cd_Going T.fl_Going_4)) (fss_cons (fs_putO (i := 0) hu hP hw T.cd_Going T.fl_Going_4 (fe_new (fl_lc (own := [("letter", 6)]) hN (blkOk_by (by rfl)) (fi_range2 fe_int (fe_op o_add (fe_var (i := 1)) fe_int) T.z_range) (fun _ _ _ _ _ => (fg_name (i := 6) hN)) (fun _ _ _ _ _ => fts_nil) (fun _ _ _ _ _ => (fe_mcall T.cd_Stands T.no_Stands_steps c_Stands_steps L2.takes0 hr (fe_fldO (i := 0) T.cd_Going T.fl_Going_2) (fa_cons (fe_var (i := 4)) (fa_cons (fe_var (i := 6)) fa_nil)))))) (fe_var (i := 4)))
    (fss_cons (fs_for (L2.passes_of rfl) (fi_seq (fe_ix hu hP hw (fe_fldO (i := 0) T.cd_Going T.fl_Going_4) (fe_var (i := 4)))) (fg_name (i := 5) hN) (fss_one (fs_expr (fe_extend (i := 3) (fa_cons (fe_new (fl_callTy c_list bb_list T.z_list (fa_cons (fe_var (i := 5)) fa_nil))) fa_nil)))))
    (fss_one (fs_if (fb_cmp o_gt (fe_callB c_len bb_len T.z_len (fa_cons (fe_fldO (i := 0) T.cd_Going T.fl_Going_4) fa_nil)) T.v_MOST_GAPS.fe) (fss_one (fs_raise0 PySem.F.excBase_ValueError T.e_TooMuch tk)) fss_nil)))) fss_nil)))))))))))

/-! sure_mood_of -/
abbrev s_sure_mood_of : Stmt := top 39
theorem sc_sure_mood_of : FnScope ["wide", "mood", "own"] ["wide", "mood"] (defScope s_sure_mood_of) := ⟨rfl, rfl, rfl, by decide +kernel, rfl, by decide +kernel, by decide +kernel⟩
def m_sure_mood_of : Sm := (mSeq (mDrop (dCall 1 M_sure_wide_of (dCons (dVar 0) dNil)))
    (mSeq (mSet 2 (dCall 1 (M_tuple_of 20) (dCons (dVar 1) dNil)))
    (mSeq (mIf (dNot (dCall 2 M_is_mood (dCons (dVar 0) (dCons (dVar 2) dNil)))) (mRaise 2) mNil)
    (mRet (dVar 2)))))
def M_sure_mood_of : List D → Re D := runP 3 m_sure_mood_of
theorem fn_sure_mood_of {f : Addr} {fd : FuncData} {k : Nat} (T : Tx G mg) (F : Fun G.K "sure_mood_of" "sure_mood_of" s_sure_mood_of f fd) (hP : P = G.P) (hw : w = G.w) (c_sure_wide_of : Cal P w G.K mg base k "sure_wide_of" ["wide"] (spP G 1 M_sure_wide_of)) (c_tuple_of : Cal P w G.K mg base k "tuple_of" ["thing"] (spP G 1 (M_tuple_of 20))) (c_is_mood : Cal P w G.K mg base k "is_mood" ["wide", "thing"] (spP G 2 M_is_mood)) : FnOk P w G.K mg base (L2.CX P w) (k + 1) f fd ["wide", "mood"] (spP G 2 (runP 3 m_sure_mood_of)) :=
  fn_pure (N := ["wide", "mood", "own"]) F sc_sure_mood_of rfl  fun cdv A outer s H E hr tk => by
    have hu : _ := hu130 hr
    have hN := sc_sure_mood_of.nd
    exact (fss_cons (fs_expr (fe_call c_sure_wide_of tk hr (fa_cons (fe_var (i := 0)) fa_nil)))
    (fss_cons (fs_set (i := 2) hN (fe_call c_tuple_of tk hr (fa_cons (fe_var (i := 1)) fa_nil)))
    (fss_cons (fs_if (fb_not (fb_val (fe_call c_is_mood tk hr (fa_cons (fe_var (i := 0)) (fa_cons (fe_var (i := 2)) fa_nil))))) (fss_one (fs_raise0 PySem.F.excBase_ValueError T.e_Unfit tk)) fss_nil)
    (fss_one (fs_ret (fe_var (i := 2)))))))

/-! loops_at -/
abbrev s_loops_at : Stmt := top 40
theorem sc_loops_at : FnScope ["stands", "wide", "gap", "letter"] ["stands", "wide", "gap"] (defScope s_loops_at) := ⟨rfl, rfl, rfl, by decide +kernel, rfl, by decide +kernel, by decide +kernel⟩
def m_loops_at : Sm := (mRet (dCB bTuple (dCons (dL (dLc [3] (.nm 3) (dB (dBin (dIn false) (dVar 2) (dMeth 0 3 M_Stands_steps (dVar 0) (dCons (dVar 2) (dCons (dVar 3) dNil))))) (dVar 3) (iRange2 (dC (.int 1)) (dBin dAdd (dVar 1) (dC (.int 1)))))) dNil)))
def M_loops_at : List D → Re D := runP 4 m_loops_at
theorem fn_loops_at {f : Addr} {fd : FuncData} {k : Nat} (T : Tx G mg) (F : Fun G.K "loops_at" "loops_at" s_loops_at f fd) (hP : P = G.P) (hw : w = G.w) (c_Stands_steps : CalM P w G.K mg base k (G.oC 0) "steps" ["self", "gap", "letter"] (spP G 3 M_Stands_steps)) : FnOk P w G.K mg base (L2.CX P w) (k + 1) f fd ["stands", "wide", "gap"] (spP G 3 (runP 4 m_loops_at)) :=
  fn_pure (N := ["stands", "wide", "gap", "letter"]) F sc_loops_at rfl  fun cdv A outer s H E hr tk => by
    have hu : _ := hu130 hr
    have hN := sc_loops_at.nd
    exact (fss_one (fs_ret (fe_callTy c_tuple bb_tuple T.z_tuple (fa_cons (fe_new (fl_lc (own := [("letter", 3)]) hN (blkOk_by (by rfl)) (fi_range2 fe_int (fe_op o_add (fe_var (i := 1)) fe_int) T.z_range) (fun _ _ _ _ _ => (fg_name (i := 3) hN)) (fun _ _ _ _ _ => (fts_one (fb_cmp (o_in hu hP hw) (fe_var (i := 2)) (fe_mcall T.cd_Stands T.no_Stands_steps c_Stands_steps L2.takes0 hr (fe_var (i := 0)) (fa_cons (fe_var (i := 2)) (fa_cons (fe_var (i := 3)) fa_nil)))))) (fun _ _ _ _ _ => (fe_var (i := 3))))) fa_nil))))

/-! hits_at -/
abbrev s_hits_at : Stmt := top 41
theorem sc_hits_at : FnScope ["stands", "gap", "letter"] ["stands", "gap", "letter"] (defScope s_hits_at) := ⟨rfl, rfl, rfl, by decide +kernel, rfl, by decide +kernel, by decide +kernel⟩
def m_hits_at : Sm := (mRet (dMeth 0 5 M_Stands_hits (dVar 0) (dCons (dC (.str "later")) (dCons (dVar 2) (dCons (dBin dIx (dVar 1) (dC (.int 0))) (dCons (dBin dIx (dVar 1) (dC (.int 1))) dNil))))))
def M_hits_at : List D → Re D := runP 3 m_hits_at
theorem fn_hits_at {f : Addr} {fd : FuncData} {k : Nat} (T : Tx G mg) (F : Fun G.K "hits_at" "hits_at" s_hits_at f fd) (hP : P = G.P) (hw : w = G.w) (c_Stands_hits : CalM P w G.K mg base k (G.oC 0) "hits" ["self", "word", "letter", "before", "beyond"] (spP G 5 M_Stands_hits)) : FnOk P w G.K mg base (L2.CX P w) (k + 1) f fd ["stands", "gap", "letter"] (spP G 3 (runP 3 m_hits_at)) :=
  fn_pure (N := ["stands", "gap", "letter"]) F sc_hits_at rfl  fun cdv A outer s H E hr tk => by
    have hu : _ := hu130 hr
    have hN := sc_hits_at.nd
    exact (fss_one (fs_ret (fe_mcall T.cd_Stands T.no_Stands_hits c_Stands_hits tk hr (fe_var (i := 0)) (fa_cons T.v_LATER.fe (fa_cons (fe_var (i := 2)) (fa_cons (fe_ix hu hP hw (fe_var (i := 1)) fe_int) (fa_cons (fe_ix hu hP hw (fe_var (i := 1)) fe_int) fa_nil)))))))

/-! is_all_hit -/
abbrev s_is_all_hit : Stmt := top 42
theorem sc_is_all_hit : FnScope ["stands", "gap", "letters", "own", "letter"] ["stands", "gap", "letters"] (defScope s_is_all_hit) := ⟨rfl, rfl, rfl, by decide +kernel, rfl, by decide +kernel, by decide +kernel⟩
def m_is_all_hit : Sm := (mRet (dCB bAll (dCons (dL (dLc [3] (.nm 3) cYes (dCB bAny (dCons (dL (dLc [4] (.nm 4) cYes (dBin (dIn false) (dVar 3) (dCall 3 M_hits_at (dCons (dVar 0) (dCons (dVar 1) (dCons (dVar 4) dNil))))) (iSeq (dVar 2)))) dNil)) (iSeq (dBin dIx (dVar 1) (dC (.int 1)))))) dNil)))
def M_is_all_hit : List D → Re D := runP 5 m_is_all_hit
theorem fn_is_all_hit {f : Addr} {fd : FuncData} {k : Nat} (T : Tx G mg) (F : Fun G.K "is_all_hit" "is_all_hit" s_is_all_hit f fd) (hP : P = G.P) (hw : w = G.w) (c_hits_at : Cal P w G.K mg base k "hits_at" ["stands", "gap", "letter"] (spP G 3 M_hits_at)) : FnOk P w G.K mg base (L2.CX P w) (k + 1) f fd ["stands", "gap", "letters"] (spP G 3 (runP 5 m_is_all_hit)) :=
  fn_pure (N := ["stands", "gap", "letters", "own", "letter"]) F sc_is_all_hit rfl  fun cdv A outer s H E hr tk => by
    have hu : _ := hu130 hr
    have hN := sc_is_all_hit.nd
    exact (fss_one (fs_ret (fe_callB c_all bb_all T.z_all (fa_cons (fe_new (fl_lc (own := [("own", 3)]) hN (blkOk_by (by rfl)) (fi_seq (fe_ix hu hP hw (fe_var (i := 1)) fe_int)) (fun _ _ _ _ _ => (fg_name (i := 3) hN)) (fun _ _ _ _ _ => fts_nil) (fun _ _ _ _ _ => (fe_callB c_any bb_any T.z_any (fa_cons (fe_new (fl_lc (own := [("letter", 4)]) hN (blkOk_by (by rfl)) (fi_seq (fe_var (i := 2))) (fun _ _ _ _ _ => (fg_name (i := 4) hN)) (fun _ _ _ _ _ => fts_nil) (fun _ _ _ _ _ => (fe_cmp (o_in hu hP hw) (fe_var (i := 3)) (fe_call c_hits_at L2.takes0 hr (fa_cons (fe_var (i := 0)) (fa_cons (fe_var (i := 1)) (fa_cons (fe_var (i := 4)) fa_nil)))))))) fa_nil))))) fa_nil))))

/-! lasts_by -/
abbrev s_lasts_by : Stmt := top 43
theorem sc_lasts_by : FnScope ["stands", "wide", "gap", "letters", "loops", "letter"] ["stands", "wide", "gap", "letters"] (defScope s_lasts_by) := ⟨rfl, rfl, rfl, by decide +kernel, rfl, by decide +kernel, by decide +kernel⟩
def m_lasts_by : Sm := (mSeq (mSet 4 (dCall 3 M_loops_at (dCons (dVar 0) (dCons (dVar 1) (dCons (dVar 2) dNil)))))
    (mRet (dAnd (dBin dNe (dVar 3) (dTup dNil)) (dAnd (dCB bAll (dCons (dL (dLc [5] (.nm 5) cYes (dBin (dIn false) (dVar 5) (dVar 4)) (iSeq (dVar 3)))) dNil)) (dCall 3 M_is_all_hit (dCons (dVar 0) (dCons (dVar 2) (dCons (dVar 3) dNil))))))))
def M_lasts_by : List D → Re D := runP 6 m_lasts_by
theorem fn_lasts_by {f : Addr} {fd : FuncData} {k : Nat} (T : Tx G mg) (F : Fun G.K "lasts_by" "lasts_by" s_lasts_by f fd) (hP : P = G.P) (hw : w = G.w) (c_loops_at : Cal P w G.K mg base k "loops_at" ["stands", "wide", "gap"] (spP G 3 M_loops_at)) (c_is_all_hit : Cal P w G.K mg base k "is_all_hit" ["stands", "gap", "letters"] (spP G 3 M_is_all_hit)) : FnOk P w G.K mg base (L2.CX P w) (k + 1) f fd ["stands", "wide", "gap", "letters"] (spP G 4 (runP 6 m_lasts_by)) :=
  fn_pure (N := ["stands", "wide", "gap", "letters", "loops", "letter"]) F sc_lasts_by rfl  fun cdv A outer s H E hr tk => by
    have hu : _ := hu130 hr
    have hN := sc_lasts_by.nd
    exact (fss_cons (fs_set (i := 4) hN (fe_call c_loops_at tk hr (fa_cons (fe_var (i := 0)) (fa_cons (fe_var (i := 1)) (fa_cons (fe_var (i := 2)) fa_nil)))))
    (fss_one (fs_ret (fe_and (fe_cmp (o_ne hu) (fe_var (i := 3)) (fe_tup fa_nil)) (fe_and (fe_callB c_all bb_all T.z_all (fa_cons (fe_new (fl_lc (own := [("letter", 5)]) hN (blkOk_by (by rfl)) (fi_seq (fe_var (i := 3))) (fun _ _ _ _ _ => (fg_name (i := 5) hN)) (fun _ _ _ _ _ => fts_nil) (fun _ _ _ _ _ => (fe_cmp (o_in hu hP hw) (fe_var (i := 5)) (fe_var (i := 4)))))) fa_nil)) (fe_one (fe_call c_is_all_hit tk hr (fa_cons (fe_var (i := 0)) (fa_cons (fe_var (i := 2)) (fa_cons (fe_var (i := 3)) fa_nil))))))))))

/-! is_lasting_in -/
abbrev s_is_lasting_in : Stmt := top 44
theorem sc_is_lasting_in : FnScope ["stands", "wide", "gap"] ["stands", "wide", "gap"] (defScope s_is_lasting_in) := ⟨rfl, rfl, rfl, by decide +kernel, rfl, by decide +kernel, by decide +kernel⟩
def m_is_lasting_in : Sm := (mRet (dCall 4 M_lasts_by (dCons (dVar 0) (dCons (dVar 1) (dCons (dVar 2) (dCons (dCall 3 M_loops_at (dCons (dVar 0) (dCons (dVar 1) (dCons (dVar 2) dNil)))) dNil))))))
def M_is_lasting_in : List D → Re D := runP 3 m_is_lasting_in
theorem fn_is_lasting_in {f : Addr} {fd : FuncData} {k : Nat} (T : Tx G mg) (F : Fun G.K "is_lasting_in" "is_lasting_in" s_is_lasting_in f fd) (hP : P = G.P) (hw : w = G.w) (c_lasts_by : Cal P w G.K mg base k "lasts_by" ["stands", "wide", "gap", "letters"] (spP G 4 M_lasts_by)) (c_loops_at : Cal P w G.K mg base k "loops_at" ["stands", "wide", "gap"] (spP G 3 M_loops_at)) : FnOk P w G.K mg base (L2.CX P w) (k + 1) f fd ["stands", "wide", "gap"] (spP G 3 (runP 3 m_is_lasting_in)) :=
  fn_pure (N := ["stands", "wide", "gap"]) F sc_is_lasting_in rfl  fun cdv A outer s H E hr tk => by
    have hu : _ := hu130 hr
    have hN := sc_is_lasting_in.nd
    exact (fss_one (fs_ret (fe_call c_lasts_by tk hr (fa_cons (fe_var (i := 0)) (fa_cons (fe_var (i := 1)) (fa_cons (fe_var (i := 2)) (fa_cons (fe_call c_loops_at tk hr (fa_cons (fe_var (i := 0)) (fa_cons (fe_var (i := 1)) (fa_cons (fe_var (i := 2)) fa_nil)))) fa_nil)))))))

/-! going_of -/
abbrev s_going_of : Stmt := top 46
theorem sc_going_of : FnScope ["wide", "mood"] ["wide", "mood"] (defScope s_going_of) := ⟨rfl, rfl, rfl, by decide +kernel, rfl, by decide +kernel, by decide +kernel⟩
def m_going_of : Sm := (mRet (dMake 1 3 M_Going___init__ (dCons (dVar 0) (dCons (dTup (dCons (dVar 1) (dCons (dC (.tup [(.str "yes")])) dNil))) dNil))))
def M_going_of : List D → Re D := runP 2 m_going_of
theorem fn_going_of {f : Addr} {fd : FuncData} {k : Nat} {ki : Nat} (hki : ki + 1 ≤ k) (T : Tx G mg) (F : Fun G.K "going_of" "going_of" s_going_of f fd) (hP : P = G.P) (hw : w = G.w) (c_Going___init__ : CalI P w G.K mg base ki (G.oC 1) "Going" ["self", "wide", "demand"] (spI G 1 3 M_Going___init__)) : FnOk P w G.K mg base (L2.CX P w) (k + 1) f fd ["wide", "mood"] (spP G 2 (runP 2 m_going_of)) :=
  fn_pure (N := ["wide", "mood"]) F sc_going_of rfl  fun cdv A outer s H E hr tk => by
    have hu : _ := hu130 hr
    have hN := sc_going_of.nd
    exact (fss_one (fs_ret (fe_make c_Going___init__ tk (hr.mono hki) (fa_cons (fe_var (i := 0)) (fa_cons (fe_tup (fa_cons (fe_var (i := 1)) (fa_cons T.v_YES.fe fa_nil))) fa_nil)))))

/-! is_ascending -/
abbrev s_is_ascending : Stmt := top 51
theorem sc_is_ascending : FnScope ["thing", "near", "far"] ["thing"] (defScope s_is_ascending) := ⟨rfl, rfl, rfl, by decide +kernel, rfl, by decide +kernel, by decide +kernel⟩
def m_is_ascending : Sm := (mRet (dCB bAll (dCons (dL (dLc [1, 2] (.tp [(.nm 1), (.nm 2)]) cYes (dBin dLtX (dVar 1) (dVar 2)) (iZip (dVar 0) (dSl (dVar 0) (dPart (dC (.int 1))) dNoPart)))) dNil)))
def M_is_ascending : List D → Re D := runP 3 m_is_ascending
theorem fn_is_ascending {f : Addr} {fd : FuncData} {k : Nat} (T : Tx G mg) (F : Fun G.K "is_ascending" "is_ascending" s_is_ascending f fd) (hP : P = G.P) (hw : w = G.w) : FnOk P w G.K mg base (L2.CX P w) (k + 1) f fd ["thing"] (spP G 1 (runP 3 m_is_ascending)) :=
  fn_pure (N := ["thing", "near", "far"]) F sc_is_ascending rfl  fun cdv A outer s H E hr tk => by
    have hu : _ := hu130 hr
    have hN := sc_is_ascending.nd
    exact (fss_one (fs_ret (fe_callB c_all bb_all T.z_all (fa_cons (fe_new (fl_lc (own := [("near", 1), ("far", 2)]) hN (blkOk_by (by rfl)) (fi_zip (fe_var (i := 0)) (fe_sl (fe_var (i := 0)) (fo_some fe_int) fo_none) T.z_zip) (fun _ _ _ _ _ => (fg_tup (fgs_cons (fg_name (i := 1) hN) (fgs_cons (fg_name (i := 2) hN) fgs_nil)) rfl)) (fun _ _ _ _ _ => fts_nil) (fun _ _ _ _ _ => (fe_cmp (o_ltX hu) (fe_var (i := 1)) (fe_var (i := 2)))))) fa_nil))))

/-! is_set_of -/
abbrev s_is_set_of : Stmt := top 52
theorem sc_is_set_of : FnScope ["wide", "thing"] ["wide", "thing"] (defScope s_is_set_of) := ⟨rfl, rfl, rfl, by decide +kernel, rfl, by decide +kernel, by decide +kernel⟩
def m_is_set_of : Sm := (mRet (dAnd (dCall 2 M_is_text (dCons (dVar 0) (dCons (dVar 1) dNil))) (dCall 1 M_is_ascending (dCons (dVar 1) dNil))))
def M_is_set_of : List D → Re D := runP 2 m_is_set_of
theorem fn_is_set_of {f : Addr} {fd : FuncData} {k : Nat} (T : Tx G mg) (F : Fun G.K "is_set_of" "is_set_of" s_is_set_of f fd) (hP : P = G.P) (hw : w = G.w) (c_is_text : Cal P w G.K mg base k "is_text" ["wide", "thing"] (spP G 2 M_is_text)) (c_is_ascending : Cal P w G.K mg base k "is_ascending" ["thing"] (spP G 1 M_is_ascending)) : FnOk P w G.K mg base (L2.CX P w) (k + 1) f fd ["wide", "thing"] (spP G 2 (runP 2 m_is_set_of)) :=
  fn_pure (N := ["wide", "thing"]) F sc_is_set_of rfl  fun cdv A outer s H E hr tk => by
    have hu : _ := hu130 hr
    have hN := sc_is_set_of.nd
    exact (fss_one (fs_ret (fe_and (fe_call c_is_text tk hr (fa_cons (fe_var (i := 0)) (fa_cons (fe_var (i := 1)) fa_nil))) (fe_one (fe_call c_is_ascending tk hr (fa_cons (fe_var (i := 1)) fa_nil))))))

/-! is_endpiece_form -/
abbrev s_is_endpiece_form : Stmt := top 53
theorem sc_is_endpiece_form : FnScope ["wide", "thing", "own", "letter"] ["wide", "thing"] (defScope s_is_endpiece_form) := ⟨rfl, rfl, rfl, by decide +kernel, rfl, by decide +kernel, by decide +kernel⟩
def m_is_endpiece_form : Sm := (mSeq (mIf (dOr (dNot (dCall 2 M_is_tuple_of (dCons (dVar 1) (dCons (dC (.int 3)) dNil)))) (dOr (dNot (dCall 2 M_is_text (dCons (dVar 0) (dCons (dBin dIx (dVar 1) (dC (.int 1))) dNil)))) (dBin dGt (dCB bLen (dCons (dBin dIx (dVar 1) (dC (.int 1))) dNil)) (dC (.int 8))))) (mRet (dC (.bl false))) mNil)
    (mSeq (mIf (dOr (dNot (dCall 2 M_is_tuple_of (dCons (dBin dIx (dVar 1) (dC (.int 0))) (dCons (dBin dAdd (dCB bLen (dCons (dBin dIx (dVar 1) (dC (.int 1))) dNil)) (dC (.int 1))) dNil)))) (dNot (dCB bAll (dCons (dL (dLc [2] (.nm 2) cYes (dCall 2 M_is_set_of (dCons (dVar 0) (dCons (dVar 2) dNil))) (iSeq (dBin dIx (dVar 1) (dC (.int 0)))))) dNil)))) (mRet (dC (.bl false))) mNil)
    (mSeq (mIf (dOr (dBin dEq (dBin dIx (dBin dIx (dVar 1) (dC (.int 0))) (dUn dNeg (dC (.int 1)))) (dTup dNil)) (dOr (dNot (dIsi ["tuple"] (dBin dIx (dVar 1) (dC (.int 2))))) (dBin dGt (dCB bLen (dCons (dBin dIx (dVar 1) (dC (.int 2))) dNil)) (dC (.int 6))))) (mRet (dC (.bl false))) mNil)
    (mSeq (mIf (dOr (dNot (dCB bAll (dCons (dL (dLc [2] (.nm 2) cYes (dAnd (dCall 2 M_is_set_of (dCons (dVar 0) (dCons (dVar 2) dNil))) (dBin dNe (dVar 2) (dTup dNil))) (iSeq (dBin dIx (dVar 1) (dC (.int 2)))))) dNil))) (dNot (dCall 1 M_is_ascending (dCons (dBin dIx (dVar 1) (dC (.int 2))) dNil)))) (mRet (dC (.bl false))) mNil)
    (mRet (dCB bAll (dCons (dL (dLc2 [2, 3] [3] (.nm 2) cYes (iSeq (dVar 2)) (.nm 3) cYes (dBin (dIn false) (dVar 3) (dBin dIx (dBin dIx (dVar 1) (dC (.int 0))) (dUn dNeg (dC (.int 1))))) (iSeq (dBin dIx (dVar 1) (dC (.int 2)))))) dNil)))))))
def M_is_endpiece_form : List D → Re D := runP 4 m_is_endpiece_form
theorem fn_is_endpiece_form {f : Addr} {fd : FuncData} {k : Nat} (T : Tx G mg) (F : Fun G.K "is_endpiece_form" "is_endpiece_form" s_is_endpiece_form f fd) (hP : P = G.P) (hw : w = G.w) (c_is_tuple_of : Cal P w G.K mg base k "is_tuple_of" ["thing", "many"] (spP G 2 M_is_tuple_of)) (c_is_text : Cal P w G.K mg base k "is_text" ["wide", "thing"] (spP G 2 M_is_text)) (c_is_ascending : Cal P w G.K mg base k "is_ascending" ["thing"] (spP G 1 M_is_ascending)) (c_is_set_of : Cal P w G.K mg base k "is_set_of" ["wide", "thing"] (spP G 2 M_is_set_of)) : FnOk P w G.K mg base (L2.CX P w) (k + 1) f fd ["wide", "thing"] (spP G 2 (runP 4 m_is_endpiece_form)) :=
  fn_pure (N := ["wide", "thing", "own", "letter"]) F sc_is_endpiece_form rfl  fun cdv A outer s H E hr tk => by
    have hu : _ := hu130 hr
    have hN := sc_is_endpiece_form.nd
    exact (fss_cons (fs_if (fb_w (fw_or (fb_not (fb_val (fe_call c_is_tuple_of tk hr (fa_cons (fe_var (i := 1)) (fa_cons fe_int fa_nil))))) (fw_or (fb_not (fb_val (fe_call c_is_text tk hr (fa_cons (fe_var (i := 0)) (fa_cons (fe_ix hu hP hw (fe_var (i := 1)) fe_int) fa_nil))))) (fw_one_or (fb_cmp o_gt (fe_callB c_len bb_len T.z_len (fa_cons (fe_ix hu hP hw (fe_var (i := 1)) fe_int) fa_nil)) T.v_MOST_LETTERS.fe))))) (fss_one (fs_ret fe_bl)) fss_nil)
    (fss_cons (fs_if (fb_w (fw_or (fb_not (fb_val (fe_call c_is_tuple_of tk hr (fa_cons (fe_ix hu hP hw (fe_var (i := 1)) fe_int) (fa_cons (fe_op o_add (fe_callB c_len bb_len T.z_len (fa_cons (fe_ix hu hP hw (fe_var (i := 1)) fe_int) fa_nil)) fe_int) fa_nil))))) (fw_one_or (fb_not (fb_val (fe_callB c_all bb_all T.z_all (fa_cons (fe_new (fl_lc (own := [("own", 2)]) hN (blkOk_by (by rfl)) (fi_seq (fe_ix hu hP hw (fe_var (i := 1)) fe_int)) (fun _ _ _ _ _ => (fg_name (i := 2) hN)) (fun _ _ _ _ _ => fts_nil) (fun _ _ _ _ _ => (fe_call c_is_set_of L2.takes0 hr (fa_cons (fe_var (i := 0)) (fa_cons (fe_var (i := 2)) fa_nil)))))) fa_nil))))))) (fss_one (fs_ret fe_bl)) fss_nil)
    (fss_cons (fs_if (fb_w (fw_or (fb_cmp (o_eq hu) (fe_ix hu hP hw (fe_ix hu hP hw (fe_var (i := 1)) fe_int) (fe_neg fe_int)) (fe_tup fa_nil)) (fw_or (fb_not (fb_val (fe_isi1 asked_tuple bb_tuple T.z_isinstance T.z_tuple (fe_ix hu hP hw (fe_var (i := 1)) fe_int)))) (fw_one_or (fb_cmp o_gt (fe_callB c_len bb_len T.z_len (fa_cons (fe_ix hu hP hw (fe_var (i := 1)) fe_int) fa_nil)) T.v_MOST_NEEDS.fe))))) (fss_one (fs_ret fe_bl)) fss_nil)
    (fss_cons (fs_if (fb_w (fw_or (fb_not (fb_val (fe_callB c_all bb_all T.z_all (fa_cons (fe_new (fl_lc (own := [("own", 2)]) hN (blkOk_by (by rfl)) (fi_seq (fe_ix hu hP hw (fe_var (i := 1)) fe_int)) (fun _ _ _ _ _ => (fg_name (i := 2) hN)) (fun _ _ _ _ _ => fts_nil) (fun _ _ _ _ _ => (fe_and (fe_call c_is_set_of L2.takes0 hr (fa_cons (fe_var (i := 0)) (fa_cons (fe_var (i := 2)) fa_nil))) (fe_one (fe_cmp (o_ne hu) (fe_var (i := 2)) (fe_tup fa_nil))))))) fa_nil)))) (fw_one_or (fb_not (fb_val (fe_call c_is_ascending tk hr (fa_cons (fe_ix hu hP hw (fe_var (i := 1)) fe_int) fa_nil))))))) (fss_one (fs_ret fe_bl)) fss_nil)
    (fss_one (fs_ret (fe_callB c_all bb_all T.z_all (fa_cons (fe_new (fl_lc2 (own := [("own", 2), ("letter", 3)]) hN (blkOk_by (by rfl)) (fi_seq (fe_ix hu hP hw (fe_var (i := 1)) fe_int)) (fun _ _ _ _ _ => (fg_name (i := 2) hN)) (fun _ _ _ _ _ => fts_nil) (fun _ _ _ _ _ => (fi_seq (fe_var (i := 2)))) (fun _ _ _ _ _ => (fg_name (i := 3) hN)) (fun _ _ _ _ _ => fts_nil) (fun _ _ _ _ _ => (fe_cmp (o_in hu hP hw) (fe_var (i := 3)) (fe_ix hu hP hw (fe_ix hu hP hw (fe_var (i := 1)) fe_int) (fe_neg fe_int)))))) fa_nil))))))))

/-! is_endpiece -/
abbrev s_is_endpiece : Stmt := top 54
theorem sc_is_endpiece : FnScope ["wide", "thing"] ["wide", "thing"] (defScope s_is_endpiece) := ⟨rfl, rfl, rfl, by decide +kernel, rfl, by decide +kernel, by decide +kernel⟩
def m_is_endpiece : Sm := (mSeq (mDrop (dCall 1 M_sure_wide_of (dCons (dVar 0) dNil)))
    (mRet (dCall 2 M_is_endpiece_form (dCons (dVar 0) (dCons (dVar 1) dNil)))))
def M_is_endpiece : List D → Re D := runP 2 m_is_endpiece
theorem fn_is_endpiece {f : Addr} {fd : FuncData} {k : Nat} (T : Tx G mg) (F : Fun G.K "is_endpiece" "is_endpiece" s_is_endpiece f fd) (hP : P = G.P) (hw : w = G.w) (c_sure_wide_of : Cal P w G.K mg base k "sure_wide_of" ["wide"] (spP G 1 M_sure_wide_of)) (c_is_endpiece_form : Cal P w G.K mg base k "is_endpiece_form" ["wide", "thing"] (spP G 2 M_is_endpiece_form)) : FnOk P w G.K mg base (L2.CX P w) (k + 1) f fd ["wide", "thing"] (spP G 2 (runP 2 m_is_endpiece)) :=
  fn_pure (N := ["wide", "thing"]) F sc_is_endpiece rfl  fun cdv A outer s H E hr tk => by
    have hu : _ := hu130 hr
    have hN := sc_is_endpiece.nd
    exact (fss_cons (fs_expr (fe_call c_sure_wide_of tk hr (fa_cons (fe_var (i := 0)) fa_nil)))
    (fss_one (fs_ret (fe_call c_is_endpiece_form tk hr (fa_cons (fe_var (i := 0)) (fa_cons (fe_var (i := 1)) fa_nil))))))

/-! sure_endpiece -/
abbrev s_sure_endpiece : Stmt := top 55
theorem sc_sure_endpiece : FnScope ["piece", "own"] ["piece"] (defScope s_sure_endpiece) := ⟨rfl, rfl, rfl, by decide +kernel, rfl, by decide +kernel, by decide +kernel⟩
def m_sure_endpiece : Sm := (mSeq (mSet 1 (dCall 1 (M_tuple_of 20) (dCons (dVar 0) dNil)))
    (mSeq (mIf (dNot (dCall 2 M_is_endpiece_form (dCons (dC (.int 3)) (dCons (dVar 1) dNil)))) (mRaise 2) mNil)
    (mRet (dVar 1))))
def M_sure_endpiece : List D → Re D := runP 2 m_sure_endpiece
theorem fn_sure_endpiece {f : Addr} {fd : FuncData} {k : Nat} (T : Tx G mg) (F : Fun G.K "sure_endpiece" "sure_endpiece" s_sure_endpiece f fd) (hP : P = G.P) (hw : w = G.w) (c_tuple_of : Cal P w G.K mg base k "tuple_of" ["thing"] (spP G 1 (M_tuple_of 20))) (c_is_endpiece_form : Cal P w G.K mg base k "is_endpiece_form" ["wide", "thing"] (spP G 2 M_is_endpiece_form)) : FnOk P w G.K mg base (L2.CX P w) (k + 1) f fd ["piece"] (spP G 1 (runP 2 m_sure_endpiece)) :=
  fn_pure (N := ["piece", "own"]) F sc_sure_endpiece rfl  fun cdv A outer s H E hr tk => by
    have hu : _ := hu130 hr
    have hN := sc_sure_endpiece.nd
    exact (fss_cons (fs_set (i := 1) hN (fe_call c_tuple_of tk hr (fa_cons (fe_var (i := 0)) fa_nil)))
    (fss_cons (fs_if (fb_not (fb_val (fe_call c_is_endpiece_form tk hr (fa_cons T.v_MOST_WIDE.fe (fa_cons (fe_var (i := 1)) fa_nil))))) (fss_one (fs_raise0 PySem.F.excBase_ValueError T.e_Unfit tk)) fss_nil)
    (fss_one (fs_ret (fe_var (i := 1))))))

/-! readings_in -/
abbrev s_readings_in : Stmt := top 56
theorem sc_readings_in : FnScope ["piece", "lasso", "sets", "letters", "needs", "many", "rows", "place", "letter", "good", "later", "mark", "told", "own"] ["piece", "lasso"] (defScope s_readings_in) := ⟨rfl, rfl, rfl, by decide +kernel, rfl, by decide +kernel, by decide +kernel⟩
def m_readings_in : Sm := (mSeq (mAsg (.tp [(.nm 2), (.nm 3), (.nm 4)]) (dVar 0))
    (mSeq (mIf (dNot (dCB bAll (dCons (dL (dLc [13] (.nm 13) cYes (dCB bAny (dCons (dL (dLc [8] (.nm 8) cYes (dBin (dIn false) (dVar 8) (dVar 13)) (iSeq (dBin dIx (dVar 1) (dC (.int 1)))))) dNil)) (iSeq (dVar 4)))) dNil))) (mRet (dL (dItems dNil))) mNil)
    (mSeq (mSet 5 (dBin dAdd (dCB bLen (dCons (dBin dIx (dVar 1) (dC (.int 0))) dNil)) (dBin dMulT (dCB bLen (dCons (dBin dIx (dVar 1) (dC (.int 1))) dNil)) (dBin dAdd (dCB bLen (dCons (dVar 3) dNil)) (dC (.int 1))))))
    (mSeq (mSet 6 (dL (dItems (dCons (dTup (dCons (dC (.int 0)) (dCons (dTup dNil) dNil))) dNil))))
    (mSeq (mFor (.tp [(.nm 7), (.nm 8)]) (iEnumL (dCall 2 M_first_letters (dCons (dVar 1) (dCons (dVar 5) dNil)))) (mSeq (mNew 10 (dLc [11, 12] (.tp [(.nm 11), (.nm 12)]) (dB (dBin (dIn false) (dVar 8) (dBin dIx (dVar 2) (dVar 11)))) (dTup (dCons (dVar 11) (dCons (dVar 12) dNil))) (iSeq (dVar 6))))
    (mSeq (mDrop (dMutL 10 mExtend (dCons (dL (dLc [11, 12] (.tp [(.nm 11), (.nm 12)]) (dB (dAnd (dBin dLt (dVar 11) (dCB bLen (dCons (dVar 3) dNil))) (dBin dEq (dBin dIx (dVar 3) (dVar 11)) (dVar 8)))) (dTup (dCons (dBin dAdd (dVar 11) (dC (.int 1))) (dCons (dTup (dStar (dVar 12) (dCons (dBin dAdd (dVar 7) (dC (.int 1))) dNil))) dNil))) (iSeq (dVar 6)))) dNil)))
    (mFrz 10 (mSet 6 (dVar 10))))))
    (mSeq (mSet 9 (dCB bAll (dCons (dL (dLc [8] (.nm 8) cYes (dBin (dIn false) (dVar 8) (dBin dIx (dVar 2) (dUn dNeg (dC (.int 1))))) (iSeq (dBin dIx (dVar 1) (dC (.int 1)))))) dNil)))
    (mRet (dIf (dVar 9) (dL (dCL bSort (dCons (dL (dLc [11, 12] (.tp [(.nm 11), (.nm 12)]) (dB (dBin dEq (dVar 11) (dCB bLen (dCons (dVar 3) dNil)))) (dVar 12) (iSeq (dVar 6)))) dNil))) (dL (dItems dNil))))))))))
def M_readings_in : List D → Re D := runP 14 m_readings_in
theorem fn_readings_in {f : Addr} {fd : FuncData} {k : Nat} (T : Tx G mg) (F : Fun G.K "readings_in" "readings_in" s_readings_in f fd) (hP : P = G.P) (hw : w = G.w) (c_first_letters : Cal P w G.K mg base k "first_letters" ["own", "many"] (spP G 2 M_first_letters)) : FnOk P w G.K mg base (L2.CX P w) (k + 1) f fd ["piece", "lasso"] (spP G 2 (runP 14 m_readings_in)) :=
  fn_pure (N := ["piece", "lasso", "sets", "letters", "needs", "many", "rows", "place", "letter", "good", "later", "mark", "told", "own"]) F sc_readings_in rfl  fun cdv A outer s H E hr tk => by
    have hu : _ := hu130 hr
    have hN := sc_readings_in.nd
    exact (fss_cons (fs_asg (fe_var (i := 0)) (fg_tup (fgs_cons (fg_name (i := 2) hN) (fgs_cons (fg_name (i := 3) hN) (fgs_cons (fg_name (i := 4) hN) fgs_nil))) rfl))
    (fss_cons (fs_if (fb_not (fb_val (fe_callB c_all bb_all T.z_all (fa_cons (fe_new (fl_lc (own := [("own", 13)]) hN (blkOk_by (by rfl)) (fi_seq (fe_var (i := 4))) (fun _ _ _ _ _ => (fg_name (i := 13) hN)) (fun _ _ _ _ _ => fts_nil) (fun _ _ _ _ _ => (fe_callB c_any bb_any T.z_any (fa_cons (fe_new (fl_lc (own := [("letter", 8)]) hN (blkOk_by (by rfl)) (fi_seq (fe_ix hu hP hw (fe_var (i := 1)) fe_int)) (fun _ _ _ _ _ => (fg_name (i := 8) hN)) (fun _ _ _ _ _ => fts_nil) (fun _ _ _ _ _ => (fe_cmp (o_in hu hP hw) (fe_var (i := 8)) (fe_var (i := 13)))))) fa_nil))))) fa_nil)))) (fss_one (fs_ret (fe_new (fl_lst fa_nil)))) fss_nil)
    (fss_cons (fs_set (i := 5) hN (fe_op o_add (fe_callB c_len bb_len T.z_len (fa_cons (fe_ix hu hP hw (fe_var (i := 1)) fe_int) fa_nil)) (fe_op o_mulT (fe_callB c_len bb_len T.z_len (fa_cons (fe_ix hu hP hw (fe_var (i := 1)) fe_int) fa_nil)) (fe_op o_add (fe_callB c_len bb_len T.z_len (fa_cons (fe_var (i := 3)) fa_nil)) fe_int))))
    (fss_cons (fs_set (i := 6) hN (fe_new (fl_lst (fa_cons (fe_tup (fa_cons fe_int (fa_cons (fe_tup fa_nil) fa_nil))) fa_nil))))
    (fss_cons (fs_for (L2.passes_of rfl) (fi_enumL (fe_call c_first_letters tk hr (fa_cons (fe_var (i := 1)) (fa_cons (fe_var (i := 5)) fa_nil))) T.z_enumerate) (fg_tup (fgs_cons (fg_name (i := 7) hN) (fgs_cons (fg_name (i := 8) hN) fgs_nil)) rfl) (fss_cons (fs_newLc (i := 9) (own := [("mark", 11), ("told", 12)]) hN (blkOk_by (by rfl)) (fi_seq (fe_var (i := 6))) (fun _ _ _ _ _ => (fg_tup (fgs_cons (fg_name (i := 11) hN) (fgs_cons (fg_name (i := 12) hN) fgs_nil)) rfl)) (fun _ _ _ _ _ => (fts_one (fb_cmp (o_in hu hP hw) (fe_var (i := 8)) (fe_ix hu hP hw (fe_var (i := 2)) (fe_var (i := 11)))))) (fun _ _ _ _ _ => (fe_tup (fa_cons (fe_var (i := 11)) (fa_cons (fe_var (i := 12)) fa_nil)))) (L2.sw_true rfl rfl rfl (by decide +kernel)))
    (fss_cons (fs_expr (fe_extend (i := 10) (fa_cons (fe_new (fl_lc (own := [("mark", 11), ("told", 12)]) hN (blkOk_by (by rfl)) (fi_seq (fe_var (i := 6))) (fun _ _ _ _ _ => (fg_tup (fgs_cons (fg_name (i := 11) hN) (fgs_cons (fg_name (i := 12) hN) fgs_nil)) rfl)) (fun _ _ _ _ _ => (fts_one (fb_w (fw_and (fb_cmp o_lt (fe_var (i := 11)) (fe_callB c_len bb_len T.z_len (fa_cons (fe_var (i := 3)) fa_nil))) (fw_one_and (fb_cmp (o_eq hu) (fe_ix hu hP hw (fe_var (i := 3)) (fe_var (i := 11))) (fe_var (i := 8)))))))) (fun _ _ _ _ _ => (fe_tup (fa_cons (fe_op o_add (fe_var (i := 11)) fe_int) (fa_cons (fe_tup (fa_star (fe_var (i := 12)) (fa_cons (fe_op o_add (fe_var (i := 7)) fe_int) fa_nil))) fa_nil)))))) fa_nil)))
    (fss_one (fs_frz 9 (fs_set (i := 6) hN (fe_var (i := 10))))))))
    (fss_cons (fs_set (i := 9) hN (fe_callB c_all bb_all T.z_all (fa_cons (fe_new (fl_lc (own := [("letter", 8)]) hN (blkOk_by (by rfl)) (fi_seq (fe_ix hu hP hw (fe_var (i := 1)) fe_int)) (fun _ _ _ _ _ => (fg_name (i := 8) hN)) (fun _ _ _ _ _ => fts_nil) (fun _ _ _ _ _ => (fe_cmp (o_in hu hP hw) (fe_var (i := 8)) (fe_ix hu hP hw (fe_var (i := 2)) (fe_neg fe_int)))))) fa_nil)))
    (fss_one (fs_ret (fe_if (fb_val (fe_var (i := 9))) (fe_new (fl_callB (c_sorted hu) bb_sorted T.z_sorted (fa_cons (fe_new (fl_lc (own := [("mark", 11), ("told", 12)]) hN (blkOk_by (by rfl)) (fi_seq (fe_var (i := 6))) (fun _ _ _ _ _ => (fg_tup (fgs_cons (fg_name (i := 11) hN) (fgs_cons (fg_name (i := 12) hN) fgs_nil)) rfl)) (fun _ _ _ _ _ => (fts_one (fb_cmp (o_eq hu) (fe_var (i := 11)) (fe_callB c_len bb_len T.z_len (fa_cons (fe_var (i := 3)) fa_nil))))) (fun _ _ _ _ _ => (fe_var (i := 12))))) fa_nil))) (fe_new (fl_lst fa_nil)))))))))))

/-! endpiece_has -/
abbrev s_endpiece_has : Stmt := top 57
theorem sc_endpiece_has : FnScope ["piece", "lasso", "own", "told"] ["piece", "lasso"] (defScope s_endpiece_has) := ⟨rfl, rfl, rfl, by decide +kernel, rfl, by decide +kernel, by decide +kernel⟩
def m_endpiece_has : Sm := (mSeq (mPar [2, 3] [.v (dCall 1 M_sure_endpiece (dCons (dVar 0) dNil)), .v (dCall 2 M_sure_lasso (dCons (dC (.int 3)) (dCons (dVar 1) dNil)))])
    (mRet (dBin dNe (dCall 2 M_readings_in (dCons (dVar 2) (dCons (dVar 3) dNil))) (dL (dItems dNil)))))
def M_endpiece_has : List D → Re D := runP 4 m_endpiece_has
theorem fn_endpiece_has {f : Addr} {fd : FuncData} {k : Nat} (T : Tx G mg) (F : Fun G.K "endpiece_has" "endpiece_has" s_endpiece_has f fd) (hP : P = G.P) (hw : w = G.w) (c_sure_endpiece : Cal P w G.K mg base k "sure_endpiece" ["piece"] (spP G 1 M_sure_endpiece)) (c_sure_lasso : Cal P w G.K mg base k "sure_lasso" ["wide", "lasso"] (spP G 2 M_sure_lasso)) (c_readings_in : Cal P w G.K mg base k "readings_in" ["piece", "lasso"] (spP G 2 M_readings_in)) : FnOk P w G.K mg base (L2.CX P w) (k + 1) f fd ["piece", "lasso"] (spP G 2 (runP 4 m_endpiece_has)) :=
  fn_pure (N := ["piece", "lasso", "own", "told"]) F sc_endpiece_has rfl  fun cdv A outer s H E hr tk => by
    have hu : _ := hu130 hr
    have hN := sc_endpiece_has.nd
    exact (fss_cons (fs_par2 (i := 2) (j := 3) hN (fc_v (fe_call c_sure_endpiece tk hr (fa_cons (fe_var (i := 0)) fa_nil)) (fc_v (fe_call c_sure_lasso tk hr (fa_cons T.v_MOST_WIDE.fe (fa_cons (fe_var (i := 1)) fa_nil))) fc_nil)) rfl rfl (by decide))
    (fss_one (fs_ret (fe_cmp (o_ne hu) (fe_call c_readings_in tk hr (fa_cons (fe_var (i := 2)) (fa_cons (fe_var (i := 3)) fa_nil))) (fe_new (fl_lst fa_nil))))))

/-! endpiece_reading -/
abbrev s_endpiece_reading : Stmt := top 58
theorem sc_endpiece_reading : FnScope ["piece", "lasso", "own", "told", "found"] ["piece", "lasso"] (defScope s_endpiece_reading) := ⟨rfl, rfl, rfl, by decide +kernel, rfl, by decide +kernel, by decide +kernel⟩
def m_endpiece_reading : Sm := (mSeq (mPar [2, 3] [.v (dCall 1 M_sure_endpiece (dCons (dVar 0) dNil)), .v (dCall 2 M_sure_lasso (dCons (dC (.int 3)) (dCons (dVar 1) dNil)))])
    (mSeq (mSet 4 (dCall 2 M_readings_in (dCons (dVar 2) (dCons (dVar 3) dNil))))
    (mRet (dIf (dBin dNe (dVar 4) (dL (dItems dNil))) (dBin dIx (dVar 4) (dC (.int 0))) (dC .non)))))
def M_endpiece_reading : List D → Re D := runP 5 m_endpiece_reading
theorem fn_endpiece_reading {f : Addr} {fd : FuncData} {k : Nat} (T : Tx G mg) (F : Fun G.K "endpiece_reading" "endpiece_reading" s_endpiece_reading f fd) (hP : P = G.P) (hw : w = G.w) (c_readings_in : Cal P w G.K mg base k "readings_in" ["piece", "lasso"] (spP G 2 M_readings_in)) (c_sure_endpiece : Cal P w G.K mg base k "sure_endpiece" ["piece"] (spP G 1 M_sure_endpiece)) (c_sure_lasso : Cal P w G.K mg base k "sure_lasso" ["wide", "lasso"] (spP G 2 M_sure_lasso)) : FnOk P w G.K mg base (L2.CX P w) (k + 1) f fd ["piece", "lasso"] (spP G 2 (runP 5 m_endpiece_reading)) :=
  fn_pure (N := ["piece", "lasso", "own", "told", "found"]) F sc_endpiece_reading rfl  fun cdv A outer s H E hr tk => by
    have hu : _ := hu130 hr
    have hN := sc_endpiece_reading.nd
    exact (fss_cons (fs_par2 (i := 2) (j := 3) hN (fc_v (fe_call c_sure_endpiece tk hr (fa_cons (fe_var (i := 0)) fa_nil)) (fc_v (fe_call c_sure_lasso tk hr (fa_cons T.v_MOST_WIDE.fe (fa_cons (fe_var (i := 1)) fa_nil))) fc_nil)) rfl rfl (by decide))
    (fss_cons (fs_set (i := 4) hN (fe_call c_readings_in tk hr (fa_cons (fe_var (i := 2)) (fa_cons (fe_var (i := 3)) fa_nil))))
    (fss_one (fs_ret (fe_if (fb_cmp (o_ne hu) (fe_var (i := 4)) (fe_new (fl_lst fa_nil))) (fe_ix hu hP hw (fe_var (i := 4)) fe_int) fe_non)))))

/-! endpiece_text -/
abbrev s_endpiece_text : Stmt := top 59
theorem sc_endpiece_text : FnScope ["piece", "own", "round_so", "need"] ["piece"] (defScope s_endpiece_text) := ⟨rfl, rfl, rfl, by decide +kernel, rfl, by decide +kernel, by decide +kernel⟩
def m_endpiece_text : Sm := (mSeq (mSet 1 (dCall 1 M_sure_endpiece (dCons (dVar 0) dNil)))
    (mSeq (mSet 2 (dCB bTuple (dCons (dL (dLc [3] (.nm 3) cYes (dBin dIx (dVar 3) (dC (.int 0))) (iSeq (dBin dIx (dVar 1) (dC (.int 2)))))) dNil)))
    (mRet (dCall 2 M_short_in (dCons (dBin dIx (dVar 1) (dC (.int 1))) (dCons (dIf (dBin dNe (dVar 2) (dTup dNil)) (dVar 2) (dSl (dBin dIx (dBin dIx (dVar 1) (dC (.int 0))) (dUn dNeg (dC (.int 1)))) dNoPart (dPart (dC (.int 1))))) dNil))))))
def M_endpiece_text : List D → Re D := runP 4 m_endpiece_text
theorem fn_endpiece_text {f : Addr} {fd : FuncData} {k : Nat} (T : Tx G mg) (F : Fun G.K "endpiece_text" "endpiece_text" s_endpiece_text f fd) (hP : P = G.P) (hw : w = G.w) (c_sure_endpiece : Cal P w G.K mg base k "sure_endpiece" ["piece"] (spP G 1 M_sure_endpiece)) (c_short_in : Cal P w G.K mg base k "short_in" ["ahead", "round_so"] (spP G 2 M_short_in)) : FnOk P w G.K mg base (L2.CX P w) (k + 1) f fd ["piece"] (spP G 1 (runP 4 m_endpiece_text)) :=
  fn_pure (N := ["piece", "own", "round_so", "need"]) F sc_endpiece_text rfl  fun cdv A outer s H E hr tk => by
    have hu : _ := hu130 hr
    have hN := sc_endpiece_text.nd
    exact (fss_cons (fs_set (i := 1) hN (fe_call c_sure_endpiece tk hr (fa_cons (fe_var (i := 0)) fa_nil)))
    (fss_cons (fs_set (i := 2) hN (fe_callTy c_tuple bb_tuple T.z_tuple (fa_cons (fe_new (fl_lc (own := [("need", 3)]) hN (blkOk_by (by rfl)) (fi_seq (fe_ix hu hP hw (fe_var (i := 1)) fe_int)) (fun _ _ _ _ _ => (fg_name (i := 3) hN)) (fun _ _ _ _ _ => fts_nil) (fun _ _ _ _ _ => (fe_ix hu hP hw (fe_var (i := 3)) fe_int)))) fa_nil)))
    (fss_one (fs_ret (fe_call c_short_in tk hr (fa_cons (fe_ix hu hP hw (fe_var (i := 1)) fe_int) (fa_cons (fe_if (fb_cmp (o_ne hu) (fe_var (i := 2)) (fe_tup fa_nil)) (fe_var (i := 2)) (fe_sl (fe_ix hu hP hw (fe_ix hu hP hw (fe_var (i := 1)) fe_int) (fe_neg fe_int)) fo_none (fo_some fe_int))) fa_nil)))))))

/-! needs_at -/
abbrev s_needs_at : Stmt := top 60
theorem sc_needs_at : FnScope ["stands", "wide", "gap", "loops", "found", "own", "need", "letter"] ["stands", "wide", "gap"] (defScope s_needs_at) := ⟨rfl, rfl, rfl, by decide +kernel, rfl, by decide +kernel, by decide +kernel⟩
def m_needs_at : Sm := (mSeq (mPar [3, 4] [.v (dCall 3 M_loops_at (dCons (dVar 0) (dCons (dVar 1) (dCons (dVar 2) dNil)))), .l (dItems dNil)])
    (mSeq (mFor (.nm 5) (iSeq (dBin dIx (dVar 2) (dC (.int 1)))) (mSeq (mSet 6 (dCB bTuple (dCons (dL (dLc [7] (.nm 7) (dB (dBin (dIn false) (dVar 5) (dCall 3 M_hits_at (dCons (dVar 0) (dCons (dVar 2) (dCons (dVar 7) dNil)))))) (dVar 7) (iSeq (dVar 3)))) dNil)))
    (mIf (dBin (dIn true) (dVar 6) (dVar 4)) (mDrop (dMut 4 mAppend (dCons (dVar 6) dNil))) mNil)))
    (mRet (dCB bTuple (dCons (dL (dCL bSort (dCons (dVar 4) dNil))) dNil)))))
def M_needs_at : List D → Re D := runP 8 m_needs_at
theorem fn_needs_at {f : Addr} {fd : FuncData} {k : Nat} (T : Tx G mg) (F : Fun G.K "needs_at" "needs_at" s_needs_at f fd) (hP : P = G.P) (hw : w = G.w) (c_loops_at : Cal P w G.K mg base k "loops_at" ["stands", "wide", "gap"] (spP G 3 M_loops_at)) (c_hits_at : Cal P w G.K mg base k "hits_at" ["stands", "gap", "letter"] (spP G 3 M_hits_at)) : FnOk P w G.K mg base (L2.CX P w) (k + 1) f fd ["stands", "wide", "gap"] (spP G 3 (runP 8 m_needs_at)) :=
  fn_pure (N := ["stands", "wide", "gap", "loops", "found", "own", "need", "letter"]) F sc_needs_at rfl  fun cdv A outer s H E hr tk => by
    have hu : _ := hu130 hr
    have hN := sc_needs_at.nd
    exact (fss_cons (fs_par2 (i := 3) (j := 4) hN (fc_v (fe_call c_loops_at tk hr (fa_cons (fe_var (i := 0)) (fa_cons (fe_var (i := 1)) (fa_cons (fe_var (i := 2)) fa_nil)))) (fc_l (fl_lst fa_nil) fc_nil)) rfl rfl (by decide))
    (fss_cons (fs_for (L2.passes_of rfl) (fi_seq (fe_ix hu hP hw (fe_var (i := 2)) fe_int)) (fg_name (i := 5) hN) (fss_cons (fs_set (i := 6) hN (fe_callTy c_tuple bb_tuple T.z_tuple (fa_cons (fe_new (fl_lc (own := [("letter", 7)]) hN (blkOk_by (by rfl)) (fi_seq (fe_var (i := 3))) (fun _ _ _ _ _ => (fg_name (i := 7) hN)) (fun _ _ _ _ _ => (fts_one (fb_cmp (o_in hu hP hw) (fe_var (i := 5)) (fe_call c_hits_at L2.takes0 hr (fa_cons (fe_var (i := 0)) (fa_cons (fe_var (i := 2)) (fa_cons (fe_var (i := 7)) fa_nil))))))) (fun _ _ _ _ _ => (fe_var (i := 7))))) fa_nil)))
    (fss_one (fs_if (fb_cmp (o_notIn hu hP hw) (fe_var (i := 6)) (fe_var (i := 4))) (fss_one (fs_expr (fe_append (i := 4) (fa_cons (fe_var (i := 6)) fa_nil)))) fss_nil))))
    (fss_one (fs_ret (fe_callTy c_tuple bb_tuple T.z_tuple (fa_cons (fe_new (fl_callB (c_sorted hu) bb_sorted T.z_sorted (fa_cons (fe_var (i := 4)) fa_nil))) fa_nil))))))

/-! live_gaps -/
abbrev s_live_gaps : Stmt := top 61
theorem sc_live_gaps : FnScope ["going", "wide", "found", "many", "gap", "row", "goals", "goal"] ["going", "wide"] (defScope s_live_gaps) := ⟨rfl, rfl, rfl, by decide +kernel, rfl, by decide +kernel, by decide +kernel⟩
def m_live_gaps : Sm := (mSeq (mNew 2 (dLc [4] (.nm 4) (dB (dCall 3 M_is_lasting_in (dCons (dFld 1 2 (dVar 0)) (dCons (dVar 1) (dCons (dVar 4) dNil))))) (dVar 4) (iKeys' (dFld 1 4 (dVar 0)))))
    (mSeq (mSet 3 (dUn dNeg (dC (.int 1))))
    (mSeq (mWhile 100000 (dBin dLt (dVar 3) (dCB bLen (dCons (dVar 2) dNil))) (mSeq (mSet 3 (dCB bLen (dCons (dVar 2) dNil)))
    (mFor (.tp [(.nm 4), (.nm 5)]) (iItems' (dFld 1 4 (dVar 0))) (mIf (dAnd (dBin (dIn true) (dVar 4) (dVar 2)) (dCB bAny (dCons (dL (dLc2 [6, 7] [7] (.nm 6) cYes (iSeq (dVar 6)) (.nm 7) cYes (dBin (dIn false) (dVar 7) (dVar 2)) (iSeq (dVar 5)))) dNil))) (mDrop (dMut 2 mAppend (dCons (dVar 4) dNil))) mNil))))
    (mRet (dVar 2)))))
def M_live_gaps : List D → Re D := runP 8 m_live_gaps
theorem fn_live_gaps {f : Addr} {fd : FuncData} {k : Nat} (T : Tx G mg) (F : Fun G.K "live_gaps" "live_gaps" s_live_gaps f fd) (hP : P = G.P) (hw : w = G.w) (c_is_lasting_in : Cal P w G.K mg base k "is_lasting_in" ["stands", "wide", "gap"] (spP G 3 M_is_lasting_in)) : FnOk P w G.K mg base (L2.CX P w) (k + 1) f fd ["going", "wide"] (spP G 2 (runP 8 m_live_gaps)) :=
  fn_pure (N := ["going", "wide", "found", "many", "gap", "row", "goals", "goal"]) F sc_live_gaps rfl  fun cdv A outer s H E hr tk => by
    have hu : _ := hu130 hr
    have hN := sc_live_gaps.nd
    exact (fss_cons (fs_new (i := 1) hN (fl_lc (own := [("gap", 4)]) hN (blkOk_by (by rfl)) (fi_keys (fe_fld T.cd_Going T.fl_Going_4 (fe_var (i := 0)))) (fun _ _ _ _ _ => (fg_name (i := 4) hN)) (fun _ _ _ _ _ => (fts_one (fb_val (fe_call c_is_lasting_in L2.takes0 hr (fa_cons (fe_fld T.cd_Going T.fl_Going_2 (fe_var (i := 0))) (fa_cons (fe_var (i := 1)) (fa_cons (fe_var (i := 4)) fa_nil))))))) (fun _ _ _ _ _ => (fe_var (i := 4)))))
    (fss_cons (fs_set (i := 3) hN (fe_neg fe_int))
    (fss_cons (fs_while (L2.passes_of rfl) (fb_cmp o_lt (fe_var (i := 3)) (fe_callB c_len bb_len T.z_len (fa_cons (fe_var (i := 2)) fa_nil))) (fss_cons (fs_set (i := 3) hN (fe_callB c_len bb_len T.z_len (fa_cons (fe_var (i := 2)) fa_nil)))
    (fss_one (fs_for (L2.passes_of rfl) (fi_items (fe_fld T.cd_Going T.fl_Going_4 (fe_var (i := 0)))) (fg_tup (fgs_cons (fg_name (i := 4) hN) (fgs_cons (fg_name (i := 5) hN) fgs_nil)) rfl) (fss_one (fs_if (fb_w (fw_and (fb_cmp (o_notIn hu hP hw) (fe_var (i := 4)) (fe_var (i := 2))) (fw_one_and (fb_val (fe_callB c_any bb_any T.z_any (fa_cons (fe_new (fl_lc2 (own := [("goals", 6), ("goal", 7)]) hN (blkOk_by (by rfl)) (fi_seq (fe_var (i := 5))) (fun _ _ _ _ _ => (fg_name (i := 6) hN)) (fun _ _ _ _ _ => fts_nil) (fun _ _ _ _ _ => (fi_seq (fe_var (i := 6)))) (fun _ _ _ _ _ => (fg_name (i := 7) hN)) (fun _ _ _ _ _ => fts_nil) (fun _ _ _ _ _ => (fe_cmp (o_in hu hP hw) (fe_var (i := 7)) (fe_var (i := 2)))))) fa_nil)))))) (fss_one (fs_expr (fe_append (i := 2) (fa_cons (fe_var (i := 4)) fa_nil)))) fss_nil))))))
    (fss_one (fs_ret (fe_var (i := 2)))))))

/-! onward_of -/
abbrev s_onward_of : Stmt := top 62
theorem sc_onward_of : FnScope ["going", "gap", "some", "place", "goals", "goal"] ["going", "gap", "some"] (defScope s_onward_of) := ⟨rfl, rfl, rfl, by decide +kernel, rfl, by decide +kernel, by decide +kernel⟩
def m_onward_of : Sm := (mRet (dL (dLc2 [3, 4, 5] [5] (.tp [(.nm 3), (.nm 4)]) cYes (iSeq (dVar 4)) (.nm 5) (dB (dAnd (dBin (dIn false) (dVar 5) (dVar 2)) (dBin dNe (dVar 5) (dVar 1)))) (dTup (dCons (dBin dAdd (dVar 3) (dC (.int 1))) (dCons (dVar 5) dNil))) (iEnumL (dBin dIx (dFld 1 4 (dVar 0)) (dVar 1))))))
def M_onward_of : List D → Re D := runP 6 m_onward_of
theorem fn_onward_of {f : Addr} {fd : FuncData} {k : Nat} (T : Tx G mg) (F : Fun G.K "onward_of" "onward_of" s_onward_of f fd) (hP : P = G.P) (hw : w = G.w) : FnOk P w G.K mg base (L2.CX P w) (k + 1) f fd ["going", "gap", "some"] (spP G 3 (runP 6 m_onward_of)) :=
  fn_pure (N := ["going", "gap", "some", "place", "goals", "goal"]) F sc_onward_of rfl  fun cdv A outer s H E hr tk => by
    have hu : _ := hu130 hr
    have hN := sc_onward_of.nd
    exact (fss_one (fs_ret (fe_new (fl_lc2 (own := [("place", 3), ("goals", 4), ("goal", 5)]) hN (blkOk_by (by rfl)) (fi_enumL (fe_ix hu hP hw (fe_fld T.cd_Going T.fl_Going_4 (fe_var (i := 0))) (fe_var (i := 1))) T.z_enumerate) (fun _ _ _ _ _ => (fg_tup (fgs_cons (fg_name (i := 3) hN) (fgs_cons (fg_name (i := 4) hN) fgs_nil)) rfl)) (fun _ _ _ _ _ => fts_nil) (fun _ _ _ _ _ => (fi_seq (fe_var (i := 4)))) (fun _ _ _ _ _ => (fg_name (i := 5) hN)) (fun _ _ _ _ _ => (fts_one (fb_w (fw_and (fb_cmp (o_in hu hP hw) (fe_var (i := 5)) (fe_var (i := 2))) (fw_one_and (fb_cmp (o_ne hu) (fe_var (i := 5)) (fe_var (i := 1)))))))) (fun _ _ _ _ _ => (fe_tup (fa_cons (fe_op o_add (fe_var (i := 3)) fe_int) (fa_cons (fe_var (i := 5)) fa_nil))))))))

/-! endcut_in -/
abbrev s_endcut_in : Stmt := top 63
theorem sc_endcut_in : FnScope ["wide", "mood", "going", "some", "found", "line", "gap", "sets", "letters", "letter", "goal", "_", "needs"] ["wide", "mood"] (defScope s_endcut_in) := ⟨rfl, rfl, rfl, by decide +kernel, rfl, by decide +kernel, by decide +kernel⟩
def m_endcut_in : Sm := (mSeq (mSet 2 (dCall 2 M_going_of (dCons (dVar 0) (dCons (dVar 1) dNil))))
    (mSeq (mPar [3, 4] [.v (dCall 2 M_live_gaps (dCons (dVar 2) (dCons (dVar 0) dNil))), .l (dItems dNil)])
    (mSeq (mNew 5 (dLc [6] (.nm 6) (dB (dBin (dIn false) (dVar 6) (dVar 3))) (dTup (dCons (dVar 6) (dCons (dTup (dCons (dCall 3 M_loops_at (dCons (dFld 1 2 (dVar 2)) (dCons (dVar 0) (dCons (dVar 6) dNil)))) dNil)) (dCons (dTup dNil) dNil)))) (iSeq (dFld 1 3 (dVar 2)))))
    (mSeq (mWhile 100000 (dBin dNe (dVar 5) (dL (dItems dNil))) (mSeq (mAsg (.tp [(.nm 6), (.nm 7), (.nm 8)]) (dMut 5 mPop dNil))
    (mSeq (mIf (dCall 3 M_is_lasting_in (dCons (dFld 1 2 (dVar 2)) (dCons (dVar 0) (dCons (dVar 6) dNil)))) (mSeq (mDrop (dMut 4 mAppend (dCons (dTup (dCons (dCB bLen (dCons (dVar 8) dNil)) (dCons (dVar 8) (dCons (dVar 7) (dCons (dCall 3 M_needs_at (dCons (dFld 1 2 (dVar 2)) (dCons (dVar 0) (dCons (dVar 6) dNil)))) dNil))))) dNil)))
    (mIf (dBin dGt (dCB bLen (dCons (dVar 4) dNil)) (dC (.int 2000))) (mRaise 1) mNil)) mNil)
    (mFor (.tp [(.nm 9), (.nm 10)]) (iSeq (dCall 3 M_onward_of (dCons (dVar 2) (dCons (dVar 6) (dCons (dVar 3) dNil))))) (mDrop (dMut 5 mAppend (dCons (dTup (dCons (dVar 10) (dCons (dTup (dStar (dVar 7) (dCons (dCall 3 M_loops_at (dCons (dFld 1 2 (dVar 2)) (dCons (dVar 0) (dCons (dVar 10) dNil)))) dNil))) (dCons (dTup (dStar (dVar 8) (dCons (dVar 9) dNil))) dNil)))) dNil)))))))
    (mRet (dCB bTuple (dCons (dL (dLc [11, 8, 7, 12] (.tp [(.nm 11), (.nm 8), (.nm 7), (.nm 12)]) cYes (dTup (dCons (dVar 7) (dCons (dVar 8) (dCons (dVar 12) dNil)))) (iSeq (dL (dCL bSort (dCons (dVar 4) dNil)))))) dNil)))))))
def M_endcut_in : List D → Re D := runP 13 m_endcut_in
theorem fn_endcut_in {f : Addr} {fd : FuncData} {k : Nat} (T : Tx G mg) (F : Fun G.K "endcut_in" "endcut_in" s_endcut_in f fd) (hP : P = G.P) (hw : w = G.w) (c_going_of : Cal P w G.K mg base k "going_of" ["wide", "mood"] (spP G 2 M_going_of)) (c_live_gaps : Cal P w G.K mg base k "live_gaps" ["going", "wide"] (spP G 2 M_live_gaps)) (c_is_lasting_in : Cal P w G.K mg base k "is_lasting_in" ["stands", "wide", "gap"] (spP G 3 M_is_lasting_in)) (c_onward_of : Cal P w G.K mg base k "onward_of" ["going", "gap", "some"] (spP G 3 M_onward_of)) (c_loops_at : Cal P w G.K mg base k "loops_at" ["stands", "wide", "gap"] (spP G 3 M_loops_at)) (c_needs_at : Cal P w G.K mg base k "needs_at" ["stands", "wide", "gap"] (spP G 3 M_needs_at)) : FnOk P w G.K mg base (L2.CX P w) (k + 1) f fd ["wide", "mood"] (spP G 2 (runP 13 m_endcut_in)) :=
  fn_pure (N := ["wide", "mood", "going", "some", "found", "line", "gap", "sets", "letters", "letter", "goal", "_", "needs"]) F sc_endcut_in rfl  fun cdv A outer s H E hr tk => by
    have hu : _ := hu130 hr
    have hN := sc_endcut_in.nd
    exact (fss_cons (fs_set (i := 2) hN (fe_call c_going_of tk hr (fa_cons (fe_var (i := 0)) (fa_cons (fe_var (i := 1)) fa_nil))))
    (fss_cons (fs_parC2 (i := 3) (j := 4) hN (fc_v (fe_call c_live_gaps tk hr (fa_cons (fe_var (i := 2)) (fa_cons (fe_var (i := 0)) fa_nil))) (fc_l (fl_lst fa_nil) fc_nil)) rfl rfl (by decide))
    (fss_cons (fs_newLc (i := 4) (own := [("gap", 6)]) hN (blkOk_by (by rfl)) (fi_seq (fe_fld T.cd_Going T.fl_Going_3 (fe_var (i := 2)))) (fun _ _ _ _ _ => (fg_name (i := 6) hN)) (fun _ _ _ _ _ => (fts_one (fb_cmp (o_in hu hP hw) (fe_var (i := 6)) (fe_var (i := 3))))) (fun _ _ _ _ _ => (fe_tup (fa_cons (fe_var (i := 6)) (fa_cons (fe_tup (fa_cons (fe_call c_loops_at L2.takes0 hr (fa_cons (fe_fld T.cd_Going T.fl_Going_2 (fe_var (i := 2))) (fa_cons (fe_var (i := 0)) (fa_cons (fe_var (i := 6)) fa_nil)))) fa_nil)) (fa_cons (fe_tup fa_nil) fa_nil))))) (L2.sw_true rfl rfl rfl (by decide +kernel)))
    (fss_cons (fs_while (L2.passes_of rfl) (fb_cmp (o_ne hu) (fe_var (i := 5)) (fe_new (fl_lst fa_nil))) (fss_cons (fs_asg (fe_pop (i := 5)) (fg_tup (fgs_cons (fg_name (i := 6) hN) (fgs_cons (fg_name (i := 7) hN) (fgs_cons (fg_name (i := 8) hN) fgs_nil))) rfl))
    (fss_cons (fs_if (fb_val (fe_call c_is_lasting_in tk hr (fa_cons (fe_fld T.cd_Going T.fl_Going_2 (fe_var (i := 2))) (fa_cons (fe_var (i := 0)) (fa_cons (fe_var (i := 6)) fa_nil))))) (fss_cons (fs_expr (fe_append (i := 4) (fa_cons (fe_tup (fa_cons (fe_callB c_len bb_len T.z_len (fa_cons (fe_var (i := 8)) fa_nil)) (fa_cons (fe_var (i := 8)) (fa_cons (fe_var (i := 7)) (fa_cons (fe_call c_needs_at tk hr (fa_cons (fe_fld T.cd_Going T.fl_Going_2 (fe_var (i := 2))) (fa_cons (fe_var (i := 0)) (fa_cons (fe_var (i := 6)) fa_nil)))) fa_nil))))) fa_nil)))
    (fss_one (fs_if (fb_cmp o_gt (fe_callB c_len bb_len T.z_len (fa_cons (fe_var (i := 4)) fa_nil)) T.v_MOST_PIECES.fe) (fss_one (fs_raise0 PySem.F.excBase_ValueError T.e_TooMuch tk)) fss_nil))) fss_nil)
    (fss_one (fs_for (L2.passes_of rfl) (fi_seq (fe_call c_onward_of tk hr (fa_cons (fe_var (i := 2)) (fa_cons (fe_var (i := 6)) (fa_cons (fe_var (i := 3)) fa_nil))))) (fg_tup (fgs_cons (fg_name (i := 9) hN) (fgs_cons (fg_name (i := 10) hN) fgs_nil)) rfl) (fss_one (fs_expr (fe_append (i := 5) (fa_cons (fe_tup (fa_cons (fe_var (i := 10)) (fa_cons (fe_tup (fa_star (fe_var (i := 7)) (fa_cons (fe_call c_loops_at tk hr (fa_cons (fe_fld T.cd_Going T.fl_Going_2 (fe_var (i := 2))) (fa_cons (fe_var (i := 0)) (fa_cons (fe_var (i := 10)) fa_nil)))) fa_nil))) (fa_cons (fe_tup (fa_star (fe_var (i := 8)) (fa_cons (fe_var (i := 9)) fa_nil))) fa_nil)))) fa_nil)))))))))
    (fss_one (fs_ret (fe_callTy c_tuple bb_tuple T.z_tuple (fa_cons (fe_new (fl_lc (own := [("_", 11), ("letters", 8), ("sets", 7), ("needs", 12)]) hN (blkOk_by (by rfl)) (fi_seq (fe_new (fl_callB (c_sorted hu) bb_sorted T.z_sorted (fa_cons (fe_var (i := 4)) fa_nil)))) (fun _ _ _ _ _ => (fg_tup (fgs_cons (fg_name (i := 11) hN) (fgs_cons (fg_name (i := 8) hN) (fgs_cons (fg_name (i := 7) hN) (fgs_cons (fg_name (i := 12) hN) fgs_nil)))) rfl)) (fun _ _ _ _ _ => fts_nil) (fun _ _ _ _ _ => (fe_tup (fa_cons (fe_var (i := 7)) (fa_cons (fe_var (i := 8)) (fa_cons (fe_var (i := 12)) fa_nil))))))) fa_nil))))))))

/-! endcut_of -/
abbrev s_endcut_of : Stmt := top 64
theorem sc_endcut_of : FnScope ["wide", "mood"] ["wide", "mood"] (defScope s_endcut_of) := ⟨rfl, rfl, rfl, by decide +kernel, rfl, by decide +kernel, by decide +kernel⟩
def m_endcut_of : Sm := (mRet (dCall 2 M_endcut_in (dCons (dVar 0) (dCons (dCall 2 M_sure_mood_of (dCons (dVar 0) (dCons (dVar 1) dNil))) dNil))))
def M_endcut_of : List D → Re D := runP 2 m_endcut_of
theorem fn_endcut_of {f : Addr} {fd : FuncData} {k : Nat} (T : Tx G mg) (F : Fun G.K "endcut_of" "endcut_of" s_endcut_of f fd) (hP : P = G.P) (hw : w = G.w) (c_endcut_in : Cal P w G.K mg base k "endcut_in" ["wide", "mood"] (spP G 2 M_endcut_in)) (c_sure_mood_of : Cal P w G.K mg base k "sure_mood_of" ["wide", "mood"] (spP G 2 M_sure_mood_of)) : FnOk P w G.K mg base (L2.CX P w) (k + 1) f fd ["wide", "mood"] (spP G 2 (runP 2 m_endcut_of)) :=
  fn_pure (N := ["wide", "mood"]) F sc_endcut_of rfl  fun cdv A outer s H E hr tk => by
    have hu : _ := hu130 hr
    have hN := sc_endcut_of.nd
    exact (fss_one (fs_ret (fe_call c_endcut_in tk hr (fa_cons (fe_var (i := 0)) (fa_cons (fe_call c_sure_mood_of tk hr (fa_cons (fe_var (i := 0)) (fa_cons (fe_var (i := 1)) fa_nil))) fa_nil)))))

/-! endpiece_of -/
abbrev s_endpiece_of : Stmt := top 65
theorem sc_endpiece_of : FnScope ["wide", "mood", "lasso", "own", "told", "piece"] ["wide", "mood", "lasso"] (defScope s_endpiece_of) := ⟨rfl, rfl, rfl, by decide +kernel, rfl, by decide +kernel, by decide +kernel⟩
def m_endpiece_of : Sm := (mSeq (mPar [3, 4] [.v (dCall 2 M_sure_mood_of (dCons (dVar 0) (dCons (dVar 1) dNil))), .v (dCall 2 M_sure_lasso (dCons (dVar 0) (dCons (dVar 2) dNil)))])
    (mSeq (mFor (.nm 5) (iSeq (dCall 2 M_endcut_in (dCons (dVar 0) (dCons (dVar 3) dNil)))) (mIf (dBin dNe (dCall 2 M_readings_in (dCons (dVar 5) (dCons (dVar 4) dNil))) (dL (dItems dNil))) (mRet (dVar 5)) mNil))
    (mRaise 0)))
def M_endpiece_of : List D → Re D := runP 6 m_endpiece_of
theorem fn_endpiece_of {f : Addr} {fd : FuncData} {k : Nat} (T : Tx G mg) (F : Fun G.K "endpiece_of" "endpiece_of" s_endpiece_of f fd) (hP : P = G.P) (hw : w = G.w) (c_endcut_in : Cal P w G.K mg base k "endcut_in" ["wide", "mood"] (spP G 2 M_endcut_in)) (c_sure_mood_of : Cal P w G.K mg base k "sure_mood_of" ["wide", "mood"] (spP G 2 M_sure_mood_of)) (c_sure_lasso : Cal P w G.K mg base k "sure_lasso" ["wide", "lasso"] (spP G 2 M_sure_lasso)) (c_readings_in : Cal P w G.K mg base k "readings_in" ["piece", "lasso"] (spP G 2 M_readings_in)) : FnOk P w G.K mg base (L2.CX P w) (k + 1) f fd ["wide", "mood", "lasso"] (spP G 3 (runP 6 m_endpiece_of)) :=
  fn_pure (N := ["wide", "mood", "lasso", "own", "told", "piece"]) F sc_endpiece_of rfl  fun cdv A outer s H E hr tk => by
    have hu : _ := hu130 hr
    have hN := sc_endpiece_of.nd
    exact (fss_cons (fs_par2 (i := 3) (j := 4) hN (fc_v (fe_call c_sure_mood_of tk hr (fa_cons (fe_var (i := 0)) (fa_cons (fe_var (i := 1)) fa_nil))) (fc_v (fe_call c_sure_lasso tk hr (fa_cons (fe_var (i := 0)) (fa_cons (fe_var (i := 2)) fa_nil))) fc_nil)) rfl rfl (by decide))
    (fss_cons (fs_for (L2.passes_of rfl) (fi_seq (fe_call c_endcut_in tk hr (fa_cons (fe_var (i := 0)) (fa_cons (fe_var (i := 3)) fa_nil)))) (fg_name (i := 5) hN) (fss_one (fs_if (fb_cmp (o_ne hu) (fe_call c_readings_in tk hr (fa_cons (fe_var (i := 5)) (fa_cons (fe_var (i := 4)) fa_nil))) (fe_new (fl_lst fa_nil))) (fss_one (fs_ret (fe_var (i := 5)))) fss_nil)))
    (fss_one (fs_raise0 PySem.F.excBase_ValueError T.e_CanNot tk))))

/-! _law_box -/
abbrev s__law_box : Stmt := top 67
theorem sc__law_box : FnScope ["script", "k", "cell"] ["script", "k"] (defScope s__law_box) := ⟨rfl, rfl, rfl, by decide +kernel, rfl, by decide +kernel, by decide +kernel⟩
def l__law_box : Lv := (dItems (dCons (dBin dMulT (dCB bAbs (dCons (dVar 2) dNil)) (dCB bInt (dCons (dBin dGe (dCB bAbs (dCons (dVar 2) dNil)) (dBin dPow (dC (.int 10)) (dC (.int 18)))) dNil))) (dCons (dBin dAdd (dBin dAdd (dBin dMod (dCB bInt (dCons (dVar 2) dNil)) (dC (.int 2305843009213693951))) (dBin dMulT (dC (.int 39373)) (dVar 1))) (dC (.int 2518077))) (dCons (dC (.int 0)) dNil))))
def m__law_box : Sm := (mSet 2 (dIf (dBin dLt (dVar 1) (dCB bLen (dCons (dVar 0) dNil))) (dBin dIx (dVar 0) (dVar 1)) (dC (.int 0))))
def M__law_box : List D → Re (List D) := runF 3 m__law_box l__law_box
theorem fn__law_box {f : Addr} {fd : FuncData} {k : Nat} (T : Tx G mg) (F : Fun G.K "_law_box" "_law_box" s__law_box f fd) (hP : P = G.P) (hw : w = G.w) : FnOk P w G.K mg base (L2.CX P w) (k + 1) f fd ["script", "k"] (spF G 2 (runF 3 m__law_box l__law_box)) :=
  fn_fresh (N := ["script", "k", "cell"]) F sc__law_box rfl rfl  fun cdv A outer s H E hr tk => by
    have hu : _ := hu130 hr
    have hN := sc__law_box.nd
    exact ⟨(fs_set (i := 2) hN (fe_if (fb_cmp o_lt (fe_var (i := 1)) (fe_callB c_len bb_len T.z_len (fa_cons (fe_var (i := 0)) fa_nil))) (fe_ix hu hP hw (fe_var (i := 0)) (fe_var (i := 1))) fe_int)), (fl_lst (fa_cons (fe_op o_mulT (fe_callB c_abs bb_abs T.z_abs (fa_cons (fe_var (i := 2)) fa_nil)) (fe_callTy c_int bb_int T.z_int (fa_cons (fe_cmp o_ge (fe_callB c_abs bb_abs T.z_abs (fa_cons (fe_var (i := 2)) fa_nil)) (fe_op o_pow fe_int fe_int)) fa_nil))) (fa_cons (fe_op o_add (fe_op o_add (fe_op o_mod (fe_callTy c_int bb_int T.z_int (fa_cons (fe_var (i := 2)) fa_nil)) fe_int) (fe_op o_mulT fe_int (fe_var (i := 1)))) fe_int) (fa_cons fe_int fa_nil))))⟩

/-! _law_take -/
abbrev s__law_take : Stmt := top 68
theorem sc__law_take : FnScope ["tin", "below", "once", "broad", "twice", "drawn"] ["tin", "below"] (defScope s__law_take) := ⟨rfl, rfl, rfl, by decide +kernel, rfl, by decide +kernel, by decide +kernel⟩
def m__law_take : Sm := (mSeq (mIf (dBin dGt (dBin dIx (dVar 0) (dC (.int 0))) (dC (.int 0))) (mSeq (mSet 5 (dBin dMod (dCB bInt (dCons (dBin dIx (dVar 0) (dC (.int 0))) dNil)) (dVar 1)))
    (mSeq (mSetIx 0 (dBin dDiv (dBin dIx (dVar 0) (dC (.int 0))) (dVar 1)) (dC (.int 0)))
    (mRet (dVar 5)))) mNil)
    (mSeq (mSetIx 0 (dBin dAdd (dBin dIx (dVar 0) (dC (.int 2))) (dC (.int 1))) (dC (.int 2)))
    (mSeq (mSet 2 (dBin dMod (dCB bInt (dCons (dBin dMulT (dBin dAdd (dBin dIx (dVar 0) (dC (.int 1))) (dBin dMulT (dC (.int 48271)) (dBin dIx (dVar 0) (dC (.int 2))))) (dBin dAdd (dC (.int 39373)) (dBin dIx (dVar 0) (dC (.int 2))))) dNil)) (dC (.int 2147483647))))
    (mSeq (mSet 3 (dBin dAdd (dBin dMod (dCB bInt (dCons (dVar 2) dNil)) (dC (.int 40009))) (dC (.int 7))))
    (mSeq (mSet 4 (dBin dMod (dCB bInt (dCons (dBin dMulT (dBin dAdd (dBin dAdd (dVar 2) (dBin dIx (dVar 0) (dC (.int 2)))) (dBin dDiv (dBin dIx (dVar 0) (dC (.int 1))) (dC (.int 1000003)))) (dVar 3)) dNil)) (dC (.int 2147483629))))
    (mRet (dBin dMod (dCB bInt (dCons (dBin dDiv (dBin dMod (dCB bInt (dCons (dBin dAdd (dBin dMulT (dVar 4) (dC (.int 48271))) (dVar 2)) dNil)) (dC (.int 2147483587))) (dC (.int 64))) dNil)) (dVar 1))))))))
def M__law_take : List D → List D → Re (D × List D) := runT 6 m__law_take
theorem fn__law_take {f : Addr} {fd : FuncData} {k : Nat} (T : Tx G mg) (F : Fun G.K "_law_take" "_law_take" s__law_take f fd) (hP : P = G.P) (hw : w = G.w) : FnOk P w G.K mg base (L2.CX P w) (k + 1) f fd ["tin", "below"] (spT G 2 (runT 6 m__law_take)) :=
  fn_T (N := ["tin", "below", "once", "broad", "twice", "drawn"]) F sc__law_take rfl  fun cdv A outer s H E hr tk => by
    have hu : _ := hu130 hr
    have hN := sc__law_take.nd
    exact (fss_cons (fs_if (fb_cmp o_gt (fe_ix hu hP hw (fe_var (i := 0)) fe_int) fe_int) (fss_cons (fs_set (i := 5) hN (fe_op o_mod (fe_callTy c_int bb_int T.z_int (fa_cons (fe_ix hu hP hw (fe_var (i := 0)) fe_int) fa_nil)) (fe_var (i := 1))))
    (fss_cons (fs_setIx (i := 0) (fe_op o_div (fe_ix hu hP hw (fe_var (i := 0)) fe_int) (fe_var (i := 1))) fe_int)
    (fss_one (fs_ret (fe_var (i := 5)))))) fss_nil)
    (fss_cons (fs_setIx (i := 0) (fe_op o_add (fe_ix hu hP hw (fe_var (i := 0)) fe_int) fe_int) fe_int)
    (fss_cons (fs_set (i := 2) hN (fe_op o_mod (fe_callTy c_int bb_int T.z_int (fa_cons (fe_op o_mulT (fe_op o_add (fe_ix hu hP hw (fe_var (i := 0)) fe_int) (fe_op o_mulT fe_int (fe_ix hu hP hw (fe_var (i := 0)) fe_int))) (fe_op o_add fe_int (fe_ix hu hP hw (fe_var (i := 0)) fe_int))) fa_nil)) fe_int))
    (fss_cons (fs_set (i := 3) hN (fe_op o_add (fe_op o_mod (fe_callTy c_int bb_int T.z_int (fa_cons (fe_var (i := 2)) fa_nil)) fe_int) fe_int))
    (fss_cons (fs_set (i := 4) hN (fe_op o_mod (fe_callTy c_int bb_int T.z_int (fa_cons (fe_op o_mulT (fe_op o_add (fe_op o_add (fe_var (i := 2)) (fe_ix hu hP hw (fe_var (i := 0)) fe_int)) (fe_op o_div (fe_ix hu hP hw (fe_var (i := 0)) fe_int) fe_int)) (fe_var (i := 3))) fa_nil)) fe_int))
    (fss_one (fs_ret (fe_op o_mod (fe_callTy c_int bb_int T.z_int (fa_cons (fe_op o_div (fe_op o_mod (fe_callTy c_int bb_int T.z_int (fa_cons (fe_op o_add (fe_op o_mulT (fe_var (i := 4)) fe_int) (fe_var (i := 2))) fa_nil)) fe_int) fe_int) fa_nil)) (fe_var (i := 1))))))))))

/-! _law_cells -/
abbrev s__law_cells : Stmt := top 69
theorem sc__law_cells : FnScope ["script", "most", "cells", "k", "cell", "spot"] ["script", "most"] (defScope s__law_cells) := ⟨rfl, rfl, rfl, by decide +kernel, rfl, by decide +kernel, by decide +kernel⟩
def m__law_cells : Sm := (mSeq (mNew 2 (dOrL (dCL bList (dCons (dSl (dVar 0) dNoPart (dPart (dVar 1))) dNil)) (dItems (dCons (dC (.int 0)) dNil))))
    (mSeq (mFor (.tp [(.nm 3), (.nm 4)]) (iEnumL (dSl (dVar 0) (dPart (dVar 1)) (dPart (dC (.int 63))))) (mSeq (mSet 5 (dBin dMod (dCB bInt (dCons (dVar 3) dNil)) (dVar 1)))
    (mSetIx 2 (dBin dAdd (dBin dIx (dVar 2) (dVar 5)) (dBin dMulT (dVar 4) (dBin dAdd (dVar 3) (dC (.int 2))))) (dVar 5))))
    (mRet (dVar 2))))
def M__law_cells : List D → Re D := runP 6 m__law_cells
theorem fn__law_cells {f : Addr} {fd : FuncData} {k : Nat} (T : Tx G mg) (F : Fun G.K "_law_cells" "_law_cells" s__law_cells f fd) (hP : P = G.P) (hw : w = G.w) : FnOk P w G.K mg base (L2.CX P w) (k + 1) f fd ["script", "most"] (spP G 2 (runP 6 m__law_cells)) :=
  fn_pure (N := ["script", "most", "cells", "k", "cell", "spot"]) F sc__law_cells rfl  fun cdv A outer s H E hr tk => by
    have hu : _ := hu130 hr
    have hN := sc__law_cells.nd
    exact (fss_cons (fs_new (i := 1) hN (fl_or (fl_callTy c_list bb_list T.z_list (fa_cons (fe_sl (fe_var (i := 0)) fo_none (fo_some (fe_var (i := 1)))) fa_nil)) (fl_one (fl_lst (fa_cons fe_int fa_nil)))))
    (fss_cons (fs_for (L2.passes_of rfl) (fi_enumL (fe_sl (fe_var (i := 0)) (fo_some (fe_var (i := 1))) (fo_some fe_int)) T.z_enumerate) (fg_tup (fgs_cons (fg_name (i := 3) hN) (fgs_cons (fg_name (i := 4) hN) fgs_nil)) rfl) (fss_cons (fs_set (i := 5) hN (fe_op o_mod (fe_callTy c_int bb_int T.z_int (fa_cons (fe_var (i := 3)) fa_nil)) (fe_var (i := 1))))
    (fss_one (fs_setIx (i := 2) (fe_op o_add (fe_ix hu hP hw (fe_var (i := 2)) (fe_var (i := 5))) (fe_op o_mulT (fe_var (i := 4)) (fe_op o_add (fe_var (i := 3)) fe_int))) (fe_var (i := 5))))))
    (fss_one (fs_ret (fe_var (i := 2))))))

/-! _law_same -/
abbrev s__law_same : Stmt := top 70
theorem sc__law_same : FnScope ["got", "goal", "mine", "own"] ["got", "goal"] (defScope s__law_same) := ⟨rfl, rfl, rfl, by decide +kernel, rfl, by decide +kernel, by decide +kernel⟩
def m__law_same (r : List D → Re D) : Sm := (mSeq (mIf (dIsi ["list", "tuple"] (dVar 1)) (mSeq (mIf (dOr (dBin dNe (dIsi ["list"] (dVar 0)) (dIsi ["list"] (dVar 1))) (dBin dNe (dIsi ["tuple"] (dVar 0)) (dIsi ["tuple"] (dVar 1)))) (mRet (dC (.bl false))) mNil)
    (mRet (dAnd (dBin dEq (dCB bLen (dCons (dVar 0) dNil)) (dCB bLen (dCons (dVar 1) dNil))) (dCB bAll (dCons (dL (dLc [2, 3] (.tp [(.nm 2), (.nm 3)]) cYes (dCall 2 r (dCons (dVar 2) (dCons (dVar 3) dNil))) (iZip (dVar 0) (dVar 1)))) dNil))))) mNil)
    (mSeq (mIf (dOr (dBin (dIs false) (dVar 1) (dC .non)) (dIsi ["bool", "str"] (dVar 1))) (mRet (dAnd (dBin dEq (dVar 0) (dVar 1)) (dAnd (dBin dEq (dIsi ["bool"] (dVar 0)) (dIsi ["bool"] (dVar 1))) (dBin dEq (dBin (dIs false) (dVar 0) (dC .non)) (dBin (dIs false) (dVar 1) (dC .non)))))) mNil)
    (mRet (dAnd (dIsi ["int"] (dVar 0)) (dAnd (dNot (dIsi ["bool"] (dVar 0))) (dBin dEq (dVar 0) (dVar 1)))))))
def M__law_same : Nat → List D → Re D
  | 0 => fun _ => .bad
  | j + 1 => runP 4 (m__law_same (M__law_same j))
theorem fn__law_same {f : Addr} {fd : FuncData} {k : Nat} {r : List D → Re D} (T : Tx G mg) (F : Fun G.K "_law_same" "_law_same" s__law_same f fd) (hP : P = G.P) (hw : w = G.w) (c__law_same : Cal P w G.K mg base k "_law_same" ["got", "goal"] (spP G 2 r)) : FnOk P w G.K mg base (L2.CX P w) (k + 1) f fd ["got", "goal"] (spP G 2 (runP 4 (m__law_same r))) :=
  fn_pure (N := ["got", "goal", "mine", "own"]) F sc__law_same rfl  fun cdv A outer s H E hr tk => by
    have hu : _ := hu130 hr
    have hN := sc__law_same.nd
    exact (fss_cons (fs_if (fb_val (fe_isi2 asked_list asked_tuple bb_list bb_tuple T.z_isinstance T.z_list T.z_tuple (fe_var (i := 1)))) (fss_cons (fs_if (fb_w (fw_or (fb_cmp (o_ne hu) (fe_isi1 asked_list bb_list T.z_isinstance T.z_list (fe_var (i := 0))) (fe_isi1 asked_list bb_list T.z_isinstance T.z_list (fe_var (i := 1)))) (fw_one_or (fb_cmp (o_ne hu) (fe_isi1 asked_tuple bb_tuple T.z_isinstance T.z_tuple (fe_var (i := 0))) (fe_isi1 asked_tuple bb_tuple T.z_isinstance T.z_tuple (fe_var (i := 1))))))) (fss_one (fs_ret fe_bl)) fss_nil)
    (fss_one (fs_ret (fe_and (fe_cmp (o_eq hu) (fe_callB c_len bb_len T.z_len (fa_cons (fe_var (i := 0)) fa_nil)) (fe_callB c_len bb_len T.z_len (fa_cons (fe_var (i := 1)) fa_nil))) (fe_one (fe_callB c_all bb_all T.z_all (fa_cons (fe_new (fl_lc (own := [("mine", 2), ("own", 3)]) hN (blkOk_by (by rfl)) (fi_zip (fe_var (i := 0)) (fe_var (i := 1)) T.z_zip) (fun _ _ _ _ _ => (fg_tup (fgs_cons (fg_name (i := 2) hN) (fgs_cons (fg_name (i := 3) hN) fgs_nil)) rfl)) (fun _ _ _ _ _ => fts_nil) (fun _ _ _ _ _ => (fe_call c__law_same L2.takes0 hr (fa_cons (fe_var (i := 2)) (fa_cons (fe_var (i := 3)) fa_nil)))))) fa_nil))))))) fss_nil)
    (fss_cons (fs_if (fb_w (fw_or (fb_cmp o_is (fe_var (i := 1)) fe_non) (fw_one_or (fb_val (fe_isi2 asked_bool asked_str bb_bool bb_str T.z_isinstance T.z_bool T.z_str (fe_var (i := 1))))))) (fss_one (fs_ret (fe_and (fe_cmp (o_eq hu) (fe_var (i := 0)) (fe_var (i := 1))) (fe_and (fe_cmp (o_eq hu) (fe_isi1 asked_bool bb_bool T.z_isinstance T.z_bool (fe_var (i := 0))) (fe_isi1 asked_bool bb_bool T.z_isinstance T.z_bool (fe_var (i := 1)))) (fe_one (fe_cmp (o_eq hu) (fe_cmp o_is (fe_var (i := 0)) fe_non) (fe_cmp o_is (fe_var (i := 1)) fe_non))))))) fss_nil)
    (fss_one (fs_ret (fe_and (fe_isi1 asked_int bb_int T.z_isinstance T.z_int (fe_var (i := 0))) (fe_and (fe_not (fe_isi1 asked_bool bb_bool T.z_isinstance T.z_bool (fe_var (i := 0)))) (fe_one (fe_cmp (o_eq hu) (fe_var (i := 0)) (fe_var (i := 1))))))))))

/-! _law_lists -/
abbrev s__law_lists : Stmt := top 71
theorem sc__law_lists : FnScope ["matter", "own"] ["matter"] (defScope s__law_lists) := ⟨rfl, rfl, rfl, by decide +kernel, rfl, by decide +kernel, by decide +kernel⟩
def m__law_lists (r : List D → Re D) : Sm := (mRet (dIf (dIsi ["list", "tuple"] (dVar 0)) (dL (dLc [1] (.nm 1) cYes (dCall 1 r (dCons (dVar 1) dNil)) (iSeq (dVar 0)))) (dVar 0)))
def M__law_lists : Nat → List D → Re D
  | 0 => fun _ => .bad
  | j + 1 => runP 2 (m__law_lists (M__law_lists j))
theorem fn__law_lists {f : Addr} {fd : FuncData} {k : Nat} {r : List D → Re D} (T : Tx G mg) (F : Fun G.K "_law_lists" "_law_lists" s__law_lists f fd) (hP : P = G.P) (hw : w = G.w) (c__law_lists : Cal P w G.K mg base k "_law_lists" ["matter"] (spP G 1 r)) : FnOk P w G.K mg base (L2.CX P w) (k + 1) f fd ["matter"] (spP G 1 (runP 2 (m__law_lists r))) :=
  fn_pure (N := ["matter", "own"]) F sc__law_lists rfl  fun cdv A outer s H E hr tk => by
    have hu : _ := hu130 hr
    have hN := sc__law_lists.nd
    exact (fss_one (fs_ret (fe_if (fb_val (fe_isi2 asked_list asked_tuple bb_list bb_tuple T.z_isinstance T.z_list T.z_tuple (fe_var (i := 0)))) (fe_new (fl_lc (own := [("own", 1)]) hN (blkOk_by (by rfl)) (fi_seq (fe_var (i := 0))) (fun _ _ _ _ _ => (fg_name (i := 1) hN)) (fun _ _ _ _ _ => fts_nil) (fun _ _ _ _ _ => (fe_call c__law_lists L2.takes0 hr (fa_cons (fe_var (i := 1)) fa_nil))))) (fe_var (i := 0)))))

/-! _law_of -/
abbrev s__law_of : Stmt := top 72
theorem sc__law_of : FnScope ["tin", "goods"] ["tin", "goods"] (defScope s__law_of) := ⟨rfl, rfl, rfl, by decide +kernel, rfl, by decide +kernel, by decide +kernel⟩
def m__law_of : Sm := (mRet (dBin dIx (dVar 1) (dCallT 2 M__law_take (dCons (dVar 0) (dCons (dCB bLen (dCons (dVar 1) dNil)) dNil)))))
def M__law_of : List D → List D → Re (D × List D) := runT 2 m__law_of
theorem fn__law_of {f : Addr} {fd : FuncData} {k : Nat} (T : Tx G mg) (F : Fun G.K "_law_of" "_law_of" s__law_of f fd) (hP : P = G.P) (hw : w = G.w) (c__law_take : Cal P w G.K mg base k "_law_take" ["tin", "below"] (spT G 2 M__law_take)) : FnOk P w G.K mg base (L2.CX P w) (k + 1) f fd ["tin", "goods"] (spT G 2 (runT 2 m__law_of)) :=
  fn_T (N := ["tin", "goods"]) F sc__law_of rfl  fun cdv A outer s H E hr tk => by
    have hu : _ := hu130 hr
    have hN := sc__law_of.nd
    exact (fss_one (fs_ret (fe_ix hu hP hw (fe_var (i := 1)) (fe_callT c__law_take tk hr (fa_cons (fe_var (i := 0)) (fa_cons (fe_callB c_len bb_len T.z_len (fa_cons (fe_var (i := 1)) fa_nil)) fa_nil))))))

/-! _law_gap_subsets -/
abbrev s__law_gap_subsets : Stmt := top 73
theorem sc__law_gap_subsets : FnScope ["some", "found", "own", "one"] ["some"] (defScope s__law_gap_subsets) := ⟨rfl, rfl, rfl, by decide +kernel, rfl, by decide +kernel, by decide +kernel⟩
def m__law_gap_subsets : Sm := (mSeq (mSet 1 (dL (dItems (dCons (dTup dNil) dNil))))
    (mSeq (mFor (.nm 2) (iSeq (dVar 0)) (mSet 1 (dBin dAdd (dVar 1) (dL (dLc [3] (.nm 3) cYes (dBin dAdd (dVar 3) (dTup (dCons (dVar 2) dNil))) (iSeq (dVar 1)))))))
    (mRet (dVar 1))))
def M__law_gap_subsets : List D → Re D := runP 4 m__law_gap_subsets
theorem fn__law_gap_subsets {f : Addr} {fd : FuncData} {k : Nat} (T : Tx G mg) (F : Fun G.K "_law_gap_subsets" "_law_gap_subsets" s__law_gap_subsets f fd) (hP : P = G.P) (hw : w = G.w) : FnOk P w G.K mg base (L2.CX P w) (k + 1) f fd ["some"] (spP G 1 (runP 4 m__law_gap_subsets)) :=
  fn_pure (N := ["some", "found", "own", "one"]) F sc__law_gap_subsets rfl  fun cdv A outer s H E hr tk => by
    have hu : _ := hu130 hr
    have hN := sc__law_gap_subsets.nd
    exact (fss_cons (fs_set (i := 1) hN (fe_new (fl_lst (fa_cons (fe_tup fa_nil) fa_nil))))
    (fss_cons (fs_for (L2.passes_of rfl) (fi_seq (fe_var (i := 0))) (fg_name (i := 2) hN) (fss_one (fs_set (i := 1) hN (fe_op o_add (fe_var (i := 1)) (fe_new (fl_lc (own := [("one", 3)]) hN (blkOk_by (by rfl)) (fi_seq (fe_var (i := 1))) (fun _ _ _ _ _ => (fg_name (i := 3) hN)) (fun _ _ _ _ _ => fts_nil) (fun _ _ _ _ _ => (fe_op o_add (fe_var (i := 3)) (fe_tup (fa_cons (fe_var (i := 2)) fa_nil))))))))))
    (fss_one (fs_ret (fe_var (i := 1))))))

/-! _law_try -/
abbrev s__law_try : Stmt := top 74
theorem sc__law_try : FnScope ["door", "one", "other", "thing"] ["door", "one", "other", "thing"] (defScope s__law_try) := ⟨rfl, rfl, rfl, by decide +kernel, rfl, by decide +kernel, by decide +kernel⟩
def m__law_try : Sm := (mTry [0, 1, 2] (mSeq (mIf (dBin dEq (dVar 0) (dC (.int 0))) (mRet (dCall 2 M_is_endpiece (dCons (dVar 1) (dCons (dVar 2) dNil)))) mNil)
    (mSeq (mIf (dBin dEq (dVar 0) (dC (.int 1))) (mRet (dCall 2 M_endpiece_has (dCons (dVar 1) (dCons (dVar 2) dNil)))) mNil)
    (mSeq (mIf (dBin dEq (dVar 0) (dC (.int 2))) (mRet (dCall 2 M_endpiece_reading (dCons (dVar 1) (dCons (dVar 2) dNil)))) mNil)
    (mSeq (mIf (dBin dEq (dVar 0) (dC (.int 3))) (mRet (dCall 1 M_endpiece_text (dCons (dVar 1) dNil))) mNil)
    (mSeq (mIf (dBin dEq (dVar 0) (dC (.int 4))) (mRet (dCall 2 M_endcut_of (dCons (dVar 1) (dCons (dVar 2) dNil)))) mNil)
    (mRet (dCall 3 M_endpiece_of (dCons (dVar 1) (dCons (dVar 2) (dCons (dVar 3) dNil)))))))))) [(2, (mRet (dC (.str "unfit")))), (1, (mRet (dC (.str "too much")))), (0, (mRet (dC (.str "can not"))))])
def M__law_try : List D → Re D := runP 4 m__law_try
theorem fn__law_try {f : Addr} {fd : FuncData} {k : Nat} (T : Tx G mg) (F : Fun G.K "_law_try" "_law_try" s__law_try f fd) (hP : P = G.P) (hw : w = G.w) (c_endpiece_of : Cal P w G.K mg base k "endpiece_of" ["wide", "mood", "lasso"] (spP G 3 M_endpiece_of)) (c_is_endpiece : Cal P w G.K mg base k "is_endpiece" ["wide", "thing"] (spP G 2 M_is_endpiece)) (c_endpiece_has : Cal P w G.K mg base k "endpiece_has" ["piece", "lasso"] (spP G 2 M_endpiece_has)) (c_endpiece_reading : Cal P w G.K mg base k "endpiece_reading" ["piece", "lasso"] (spP G 2 M_endpiece_reading)) (c_endpiece_text : Cal P w G.K mg base k "endpiece_text" ["piece"] (spP G 1 M_endpiece_text)) (c_endcut_of : Cal P w G.K mg base k "endcut_of" ["wide", "mood"] (spP G 2 M_endcut_of)) : FnOk P w G.K mg base (L2.CX P w) (k + 1) f fd ["door", "one", "other", "thing"] (spP G 4 (runP 4 m__law_try)) :=
  fn_pure (N := ["door", "one", "other", "thing"]) F sc__law_try rfl  fun cdv A outer s H E hr tk => by
    have hu : _ := hu130 hr
    have hN := sc__law_try.nd
    exact (fss_one (fs_try (known := [0, 1, 2]) tk (fun W pn xe tk hp => (fss_cons (fs_if (fb_cmp (o_eq hu) (fe_var (i := 0)) fe_int) (fss_one (fs_ret (fe_call c_is_endpiece tk hr (fa_cons (fe_var (i := 1)) (fa_cons (fe_var (i := 2)) fa_nil))))) fss_nil)
    (fss_cons (fs_if (fb_cmp (o_eq hu) (fe_var (i := 0)) fe_int) (fss_one (fs_ret (fe_call c_endpiece_has tk hr (fa_cons (fe_var (i := 1)) (fa_cons (fe_var (i := 2)) fa_nil))))) fss_nil)
    (fss_cons (fs_if (fb_cmp (o_eq hu) (fe_var (i := 0)) fe_int) (fss_one (fs_ret (fe_call c_endpiece_reading tk hr (fa_cons (fe_var (i := 1)) (fa_cons (fe_var (i := 2)) fa_nil))))) fss_nil)
    (fss_cons (fs_if (fb_cmp (o_eq hu) (fe_var (i := 0)) fe_int) (fss_one (fs_ret (fe_call c_endpiece_text tk hr (fa_cons (fe_var (i := 1)) fa_nil)))) fss_nil)
    (fss_cons (fs_if (fb_cmp (o_eq hu) (fe_var (i := 0)) fe_int) (fss_one (fs_ret (fe_call c_endcut_of tk hr (fa_cons (fe_var (i := 1)) (fa_cons (fe_var (i := 2)) fa_nil))))) fss_nil)
    (fss_one (fs_ret (fe_call c_endpiece_of tk hr (fa_cons (fe_var (i := 1)) (fa_cons (fe_var (i := 2)) (fa_cons (fe_var (i := 3)) fa_nil)))))))))))) (.cons rfl (by decide) T.e_Unfit.g (fun _ _ _ => (fss_one (fs_ret fe_str))) (.cons rfl (by decide) T.e_TooMuch.g (fun _ _ _ => (fss_one (fs_ret fe_str))) (.cons rfl (by decide) T.e_CanNot.g (fun _ _ _ => (fss_one (fs_ret fe_str))) .nil))) T.x (by decide) (calms_cons calm_retC (calms_cons calm_retC (calms_cons calm_retC calms_nil)))))

/-! _law_forms -/
abbrev s__law_forms : Stmt := top 75
theorem sc__law_forms : FnScope ["all_three", "subsets_v", "good", "odd", "bad", "own"] ["all_three"] (defScope s__law_forms) := ⟨rfl, rfl, rfl, by decide +kernel, rfl, by decide +kernel, by decide +kernel⟩
def m__law_forms : Sm := (mSeq (mSet 1 (dL (dCL bSort (dCons (dL (dLc [5] (.nm 5) (dB (dBin dNe (dVar 5) (dTup dNil))) (dVar 5) (iSeq (dCall 1 M__law_gap_subsets (dCons (dL (dCL bList (dCons (dVar 0) dNil))) dNil))))) dNil))))
    (mSeq (mSet 2 (dL (dItems (dCons (dTup (dCons (dTup (dCons (dVar 0) dNil)) (dCons (dTup dNil) (dCons (dTup dNil) dNil)))) (dCons (dTup (dCons (dTup (dCons (dTup dNil) (dCons (dTup (dCons (dC (.int 2)) dNil)) dNil))) (dCons (dTup (dCons (dC (.int 1)) dNil)) (dCons (dTup dNil) dNil)))) (dCons (dTup (dCons (dTup (dCons (dTup (dCons (dC (.int 1)) (dCons (dC (.int 3)) dNil))) (dCons (dTup dNil) (dCons (dTup (dCons (dC (.int 3)) dNil)) dNil)))) (dCons (dTup (dCons (dC (.int 2)) (dCons (dC (.int 2)) dNil))) (dCons (dTup (dCons (dTup (dCons (dC (.int 3)) dNil)) dNil)) dNil)))) (dCons (dTup (dCons (dBin dMulT (dTup (dCons (dVar 0) dNil)) (dC (.int 9))) (dCons (dBin dMulT (dTup (dCons (dC (.int 1)) dNil)) (dC (.int 8))) (dCons (dTup dNil) dNil)))) dNil)))))))
    (mSeq (mSet 2 (dBin dAdd (dVar 2) (dL (dItems (dCons (dTup (dCons (dTup (dCons (dVar 0) dNil)) (dCons (dTup dNil) (dCons (dCB bTuple (dCons (dSl (dVar 1) dNoPart (dPart (dC (.int 6)))) dNil)) dNil)))) (dCons (dTup (dCons (dTup (dCons (dVar 0) dNil)) (dCons (dTup dNil) (dCons (dTup (dCons (dTup (dCons (dC (.int 1)) (dCons (dC (.int 2)) dNil))) (dCons (dTup (dCons (dC (.int 2)) dNil)) dNil))) dNil)))) dNil))))))
    (mSeq (mSet 3 (dL (dItems (dCons (dTup (dCons (dBin dMulT (dTup (dCons (dVar 0) dNil)) (dC (.int 10))) (dCons (dBin dMulT (dTup (dCons (dC (.int 1)) dNil)) (dC (.int 9))) (dCons (dTup dNil) dNil)))) (dCons (dTup (dCons (dTup (dCons (dVar 0) dNil)) (dCons (dTup dNil) (dCons (dCB bTuple (dCons (dVar 1) dNil)) dNil)))) (dCons (dTup (dCons (dL (dItems (dCons (dVar 0) dNil))) (dCons (dTup dNil) (dCons (dTup dNil) dNil)))) (dCons (dTup (dCons (dTup (dCons (dVar 0) dNil)) (dCons (dL (dItems dNil)) (dCons (dTup dNil) dNil)))) (dCons (dTup (dCons (dTup (dCons (dVar 0) dNil)) (dCons (dTup dNil) (dCons (dL (dItems dNil)) dNil)))) dNil))))))))
    (mSeq (mSet 4 (dL (dItems (dCons (dTup (dCons (dTup (dCons (dTup dNil) dNil)) (dCons (dTup dNil) (dCons (dTup dNil) dNil)))) (dCons (dTup (dCons (dTup (dCons (dVar 0) dNil)) (dCons (dTup (dCons (dC (.int 1)) dNil)) (dCons (dTup dNil) dNil)))) (dCons (dTup (dCons (dTup (dCons (dVar 0) (dCons (dVar 0) dNil))) (dCons (dTup dNil) (dCons (dTup dNil) dNil)))) dNil))))))
    (mSeq (mSet 4 (dBin dAdd (dVar 4) (dL (dItems (dCons (dTup (dCons (dTup (dCons (dTup (dCons (dC (.int 1)) dNil)) dNil)) (dCons (dTup dNil) (dCons (dTup (dCons (dTup (dCons (dC (.int 2)) dNil)) dNil)) dNil)))) (dCons (dTup (dCons (dTup (dCons (dVar 0) dNil)) (dCons (dTup dNil) (dCons (dTup (dCons (dTup dNil) dNil)) dNil)))) (dCons (dTup (dCons (dTup (dCons (dVar 0) dNil)) (dCons (dTup dNil) (dCons (dTup (dCons (dTup (dCons (dC (.int 2)) dNil)) (dCons (dTup (dCons (dC (.int 1)) (dCons (dC (.int 2)) dNil))) dNil))) dNil)))) (dCons (dTup (dCons (dTup (dCons (dVar 0) dNil)) (dCons (dTup dNil) (dCons (dTup (dCons (dTup (dCons (dC (.int 2)) dNil)) (dCons (dTup (dCons (dC (.int 2)) dNil)) dNil))) dNil)))) (dCons (dTup (dCons (dTup (dCons (dTup (dCons (dC (.int 2)) (dCons (dC (.int 1)) dNil))) dNil)) (dCons (dTup dNil) (dCons (dTup dNil) dNil)))) dNil)))))))))
    (mSeq (mSet 4 (dBin dAdd (dVar 4) (dL (dItems (dCons (dTup (dCons (dTup (dCons (dTup (dCons (dC (.int 1)) (dCons (dC (.int 1)) dNil))) dNil)) (dCons (dTup dNil) (dCons (dTup dNil) dNil)))) (dCons (dTup (dCons (dTup (dCons (dVar 0) (dCons (dTup (dCons (dC (.int 4)) dNil)) dNil))) (dCons (dTup (dCons (dC (.int 1)) dNil)) (dCons (dTup dNil) dNil)))) (dCons (dTup (dCons (dTup (dCons (dVar 0) (dCons (dTup (dCons (dC (.int 1)) dNil)) dNil))) (dCons (dTup (dCons (dC (.int 0)) dNil)) (dCons (dTup dNil) dNil)))) (dCons (dTup (dCons (dTup (dCons (dVar 0) (dCons (dTup (dCons (dC (.int 1)) dNil)) dNil))) (dCons (dTup (dCons (dC (.bl true)) dNil)) (dCons (dTup dNil) dNil)))) dNil))))))))
    (mSeq (mSet 4 (dBin dAdd (dVar 4) (dL (dItems (dCons (dL (dItems (dCons (dVar 0) (dCons (dTup dNil) (dCons (dTup dNil) dNil))))) (dCons (dTup (dCons (dTup (dCons (dVar 0) dNil)) (dCons (dTup dNil) dNil))) (dCons (dC (.int 0)) (dCons (dC .non) (dCons (dTup dNil) (dCons (dC (.str "piece")) (dCons (dTup (dCons (dTup (dCons (dVar 0) dNil)) (dCons (dTup dNil) (dCons (dTup (dCons (dTup (dCons (dC (.int 1)) dNil)) (dCons (dC (.int 3)) dNil))) dNil)))) (dCons (dTup (dCons (dVar 0) (dCons (dTup dNil) (dCons (dTup dNil) dNil)))) dNil))))))))))))
    (mRet (dTup (dCons (dVar 2) (dCons (dVar 4) (dCons (dVar 3) dNil)))))))))))))
def M__law_forms : List D → Re D := runP 6 m__law_forms
theorem fn__law_forms {f : Addr} {fd : FuncData} {k : Nat} (T : Tx G mg) (F : Fun G.K "_law_forms" "_law_forms" s__law_forms f fd) (hP : P = G.P) (hw : w = G.w) (c__law_gap_subsets : Cal P w G.K mg base k "_law_gap_subsets" ["some"] (spP G 1 M__law_gap_subsets)) : FnOk P w G.K mg base (L2.CX P w) (k + 1) f fd ["all_three"] (spP G 1 (runP 6 m__law_forms)) :=
  fn_pure (N := ["all_three", "subsets_v", "good", "odd", "bad", "own"]) F sc__law_forms rfl  fun cdv A outer s H E hr tk => by
    have hu : _ := hu130 hr
    have hN := sc__law_forms.nd
    exact (fss_cons (fs_set (i := 1) hN (fe_new (fl_callB (c_sorted hu) bb_sorted T.z_sorted (fa_cons (fe_new (fl_lc (own := [("own", 5)]) hN (blkOk_by (by rfl)) (fi_seq (fe_call c__law_gap_subsets tk hr (fa_cons (fe_new (fl_callTy c_list bb_list T.z_list (fa_cons (fe_var (i := 0)) fa_nil))) fa_nil))) (fun _ _ _ _ _ => (fg_name (i := 5) hN)) (fun _ _ _ _ _ => (fts_one (fb_cmp (o_ne hu) (fe_var (i := 5)) (fe_tup fa_nil)))) (fun _ _ _ _ _ => (fe_var (i := 5))))) fa_nil))))
    (fss_cons (fs_set (i := 2) hN (fe_new (fl_lst (fa_cons (fe_tup (fa_cons (fe_tup (fa_cons (fe_var (i := 0)) fa_nil)) (fa_cons (fe_tup fa_nil) (fa_cons (fe_tup fa_nil) fa_nil)))) (fa_cons (fe_tup (fa_cons (fe_tup (fa_cons (fe_tup fa_nil) (fa_cons (fe_tup (fa_cons fe_int fa_nil)) fa_nil))) (fa_cons (fe_tup (fa_cons fe_int fa_nil)) (fa_cons (fe_tup fa_nil) fa_nil)))) (fa_cons (fe_tup (fa_cons (fe_tup (fa_cons (fe_tup (fa_cons fe_int (fa_cons fe_int fa_nil))) (fa_cons (fe_tup fa_nil) (fa_cons (fe_tup (fa_cons fe_int fa_nil)) fa_nil)))) (fa_cons (fe_tup (fa_cons fe_int (fa_cons fe_int fa_nil))) (fa_cons (fe_tup (fa_cons (fe_tup (fa_cons fe_int fa_nil)) fa_nil)) fa_nil)))) (fa_cons (fe_tup (fa_cons (fe_op o_mulT (fe_tup (fa_cons (fe_var (i := 0)) fa_nil)) fe_int) (fa_cons (fe_op o_mulT (fe_tup (fa_cons fe_int fa_nil)) fe_int) (fa_cons (fe_tup fa_nil) fa_nil)))) fa_nil)))))))
    (fss_cons (fs_set (i := 2) hN (fe_op o_add (fe_var (i := 2)) (fe_new (fl_lst (fa_cons (fe_tup (fa_cons (fe_tup (fa_cons (fe_var (i := 0)) fa_nil)) (fa_cons (fe_tup fa_nil) (fa_cons (fe_callTy c_tuple bb_tuple T.z_tuple (fa_cons (fe_sl (fe_var (i := 1)) fo_none (fo_some fe_int)) fa_nil)) fa_nil)))) (fa_cons (fe_tup (fa_cons (fe_tup (fa_cons (fe_var (i := 0)) fa_nil)) (fa_cons (fe_tup fa_nil) (fa_cons (fe_tup (fa_cons (fe_tup (fa_cons fe_int (fa_cons fe_int fa_nil))) (fa_cons (fe_tup (fa_cons fe_int fa_nil)) fa_nil))) fa_nil)))) fa_nil))))))
    (fss_cons (fs_set (i := 3) hN (fe_new (fl_lst (fa_cons (fe_tup (fa_cons (fe_op o_mulT (fe_tup (fa_cons (fe_var (i := 0)) fa_nil)) fe_int) (fa_cons (fe_op o_mulT (fe_tup (fa_cons fe_int fa_nil)) fe_int) (fa_cons (fe_tup fa_nil) fa_nil)))) (fa_cons (fe_tup (fa_cons (fe_tup (fa_cons (fe_var (i := 0)) fa_nil)) (fa_cons (fe_tup fa_nil) (fa_cons (fe_callTy c_tuple bb_tuple T.z_tuple (fa_cons (fe_var (i := 1)) fa_nil)) fa_nil)))) (fa_cons (fe_tup (fa_cons (fe_new (fl_lst (fa_cons (fe_var (i := 0)) fa_nil))) (fa_cons (fe_tup fa_nil) (fa_cons (fe_tup fa_nil) fa_nil)))) (fa_cons (fe_tup (fa_cons (fe_tup (fa_cons (fe_var (i := 0)) fa_nil)) (fa_cons (fe_new (fl_lst fa_nil)) (fa_cons (fe_tup fa_nil) fa_nil)))) (fa_cons (fe_tup (fa_cons (fe_tup (fa_cons (fe_var (i := 0)) fa_nil)) (fa_cons (fe_tup fa_nil) (fa_cons (fe_new (fl_lst fa_nil)) fa_nil)))) fa_nil))))))))
    (fss_cons (fs_set (i := 4) hN (fe_new (fl_lst (fa_cons (fe_tup (fa_cons (fe_tup (fa_cons (fe_tup fa_nil) fa_nil)) (fa_cons (fe_tup fa_nil) (fa_cons (fe_tup fa_nil) fa_nil)))) (fa_cons (fe_tup (fa_cons (fe_tup (fa_cons (fe_var (i := 0)) fa_nil)) (fa_cons (fe_tup (fa_cons fe_int fa_nil)) (fa_cons (fe_tup fa_nil) fa_nil)))) (fa_cons (fe_tup (fa_cons (fe_tup (fa_cons (fe_var (i := 0)) (fa_cons (fe_var (i := 0)) fa_nil))) (fa_cons (fe_tup fa_nil) (fa_cons (fe_tup fa_nil) fa_nil)))) fa_nil))))))
    (fss_cons (fs_set (i := 4) hN (fe_op o_add (fe_var (i := 4)) (fe_new (fl_lst (fa_cons (fe_tup (fa_cons (fe_tup (fa_cons (fe_tup (fa_cons fe_int fa_nil)) fa_nil)) (fa_cons (fe_tup fa_nil) (fa_cons (fe_tup (fa_cons (fe_tup (fa_cons fe_int fa_nil)) fa_nil)) fa_nil)))) (fa_cons (fe_tup (fa_cons (fe_tup (fa_cons (fe_var (i := 0)) fa_nil)) (fa_cons (fe_tup fa_nil) (fa_cons (fe_tup (fa_cons (fe_tup fa_nil) fa_nil)) fa_nil)))) (fa_cons (fe_tup (fa_cons (fe_tup (fa_cons (fe_var (i := 0)) fa_nil)) (fa_cons (fe_tup fa_nil) (fa_cons (fe_tup (fa_cons (fe_tup (fa_cons fe_int fa_nil)) (fa_cons (fe_tup (fa_cons fe_int (fa_cons fe_int fa_nil))) fa_nil))) fa_nil)))) (fa_cons (fe_tup (fa_cons (fe_tup (fa_cons (fe_var (i := 0)) fa_nil)) (fa_cons (fe_tup fa_nil) (fa_cons (fe_tup (fa_cons (fe_tup (fa_cons fe_int fa_nil)) (fa_cons (fe_tup (fa_cons fe_int fa_nil)) fa_nil))) fa_nil)))) (fa_cons (fe_tup (fa_cons (fe_tup (fa_cons (fe_tup (fa_cons fe_int (fa_cons fe_int fa_nil))) fa_nil)) (fa_cons (fe_tup fa_nil) (fa_cons (fe_tup fa_nil) fa_nil)))) fa_nil)))))))))
    (fss_cons (fs_set (i := 4) hN (fe_op o_add (fe_var (i := 4)) (fe_new (fl_lst (fa_cons (fe_tup (fa_cons (fe_tup (fa_cons (fe_tup (fa_cons fe_int (fa_cons fe_int fa_nil))) fa_nil)) (fa_cons (fe_tup fa_nil) (fa_cons (fe_tup fa_nil) fa_nil)))) (fa_cons (fe_tup (fa_cons (fe_tup (fa_cons (fe_var (i := 0)) (fa_cons (fe_tup (fa_cons fe_int fa_nil)) fa_nil))) (fa_cons (fe_tup (fa_cons fe_int fa_nil)) (fa_cons (fe_tup fa_nil) fa_nil)))) (fa_cons (fe_tup (fa_cons (fe_tup (fa_cons (fe_var (i := 0)) (fa_cons (fe_tup (fa_cons fe_int fa_nil)) fa_nil))) (fa_cons (fe_tup (fa_cons fe_int fa_nil)) (fa_cons (fe_tup fa_nil) fa_nil)))) (fa_cons (fe_tup (fa_cons (fe_tup (fa_cons (fe_var (i := 0)) (fa_cons (fe_tup (fa_cons fe_int fa_nil)) fa_nil))) (fa_cons (fe_tup (fa_cons fe_bl fa_nil)) (fa_cons (fe_tup fa_nil) fa_nil)))) fa_nil))))))))
    (fss_cons (fs_set (i := 4) hN (fe_op o_add (fe_var (i := 4)) (fe_new (fl_lst (fa_cons (fe_new (fl_lst (fa_cons (fe_var (i := 0)) (fa_cons (fe_tup fa_nil) (fa_cons (fe_tup fa_nil) fa_nil))))) (fa_cons (fe_tup (fa_cons (fe_tup (fa_cons (fe_var (i := 0)) fa_nil)) (fa_cons (fe_tup fa_nil) fa_nil))) (fa_cons fe_int (fa_cons fe_non (fa_cons (fe_tup fa_nil) (fa_cons fe_str (fa_cons (fe_tup (fa_cons (fe_tup (fa_cons (fe_var (i := 0)) fa_nil)) (fa_cons (fe_tup fa_nil) (fa_cons (fe_tup (fa_cons (fe_tup (fa_cons fe_int fa_nil)) (fa_cons fe_int fa_nil))) fa_nil)))) (fa_cons (fe_tup (fa_cons (fe_var (i := 0)) (fa_cons (fe_tup fa_nil) (fa_cons (fe_tup fa_nil) fa_nil)))) fa_nil))))))))))))
    (fss_one (fs_ret (fe_tup (fa_cons (fe_var (i := 2)) (fa_cons (fe_var (i := 4)) (fa_cons (fe_var (i := 3)) fa_nil))))))))))))))

/-! law -/
abbrev s_law : Stmt := top 76
theorem sc_law : FnScope ("script" :: "tin" :: "k" :: "every" :: "rest" :: "one" :: "yes" :: "sees" :: "no" :: "far" :: "ever" :: "once" :: "first" :: "both" :: "good" :: "bad" :: "odd" :: ["cuts", "mood", "due", "alone", "many", "other", "ahead", "endless", "ended", "got", "loose", "asked", "deep", "lap", "wrong", "worse", "text", "own", "door", "piece"]) ["script"] (defScope s_law) := ⟨rfl, rfl, rfl, by decide +kernel, rfl, by decide +kernel, by decide +kernel⟩
def law_36 : Sm := (mRet (dAnd (dCall 2 (M__law_same 20) (dCons (dVar 26) (dCons (dL (dBinL dMulL (dL (dItems (dCons (dC (.str "unfit")) dNil))) (dC (.int 12)))) dNil))) (dCall 2 (M__law_same 20) (dCons (dL (dLc [35] (.nm 35) cYes (dCall 4 M__law_try (dCons (dVar 35) (dCons (dC (.int 3)) (dCons (dVar 29) (dCons (dVar 24) dNil))))) (iSeq (dTup (dCons (dC (.int 4)) (dCons (dC (.int 5)) dNil)))))) (dCons (dL (dBinL dMulL (dL (dItems (dCons (dC (.str "too much")) dNil))) (dC (.int 2)))) dNil)))))
def law_from_36 : Sm := law_36
def law_35 : Sm := (mSet 26 (dBin dAdd (dBin dAdd (dVar 26) (dL (dLc [35] (.nm 35) cYes (dCall 4 M__law_try (dCons (dVar 35) (dCons (dCallT 2 M__law_of (dCons (dVar 1) (dCons (dL (dItems (dCons (dC (.int 0)) (dCons (dC (.int 4)) (dCons (dC (.bl true)) (dCons (dC .non) dNil)))))) dNil))) (dCons (dVar 6) (dCons (dVar 24) dNil))))) (iSeq (dTup (dCons (dC (.int 0)) (dCons (dC (.int 4)) (dCons (dC (.int 5)) dNil)))))))) (dL (dItems (dCons (dCall 4 M__law_try (dCons (dC (.int 5)) (dCons (dC (.int 3)) (dCons (dVar 7) (dCons (dVar 31) dNil))))) (dCons (dCall 4 M__law_try (dCons (dC (.int 5)) (dCons (dC (.int 2)) (dCons (dTup (dCons (dC (.str "later")) (dCons (dTup (dCons (dC (.str "letter")) (dCons (dTup (dCons (dC (.int 1)) dNil)) dNil))) dNil))) (dCons (dTup (dCons (dTup dNil) (dCons (dTup (dCons (dC (.int 3)) dNil)) dNil))) dNil))))) dNil))))))
def law_from_35 : Sm := mSeq law_35 law_from_36
def law_34 : Sm := (mSet 26 (dBin dAdd (dBin dAdd (dL (dLc [35] (.nm 35) cYes (dCall 4 M__law_try (dCons (dVar 35) (dCons (dCallT 2 M__law_of (dCons (dVar 1) (dCons (dVar 15) dNil))) (dCons (dVar 24) (dCons (dC (.int 0)) dNil))))) (iSeq (dTup (dCons (dC (.int 1)) (dCons (dC (.int 2)) (dCons (dC (.int 3)) dNil))))))) (dL (dLc [35] (.nm 35) cYes (dCall 4 M__law_try (dCons (dVar 35) (dCons (dVar 27) (dCons (dVar 31) (dCons (dC (.int 0)) dNil))))) (iSeq (dTup (dCons (dC (.int 1)) (dCons (dC (.int 2)) dNil))))))) (dL (dLc [35] (.nm 35) cYes (dCall 4 M__law_try (dCons (dVar 35) (dCons (dC (.int 3)) (dCons (dVar 32) (dCons (dVar 24) dNil))))) (iSeq (dTup (dCons (dC (.int 4)) (dCons (dC (.int 5)) dNil))))))))
def law_from_34 : Sm := mSeq law_34 law_from_35
def law_33 : Sm := (mSet 32 (dCallT 2 M__law_of (dCons (dVar 1) (dCons (dL (dItems (dCons (dTup (dCons (dC (.str "no")) dNil)) (dCons (dTup (dCons (dC (.str "letter")) (dCons (dTup (dCons (dC (.int 4)) dNil)) dNil))) (dCons (dC (.int 0)) (dCons (dC .non) (dCons (dTup (dCons (dC (.str "later")) dNil)) dNil))))))) dNil))))
def law_from_33 : Sm := mSeq law_33 law_from_34
def law_32 : Sm := (mSet 31 (dCallT 2 M__law_of (dCons (dVar 1) (dCons (dL (dItems (dCons (dC (.int 0)) (dCons (dC .non) (dCons (dC (.str "text")) (dCons (dTup (dCons (dTup dNil) (dCons (dTup dNil) dNil))) (dCons (dTup (dCons (dTup (dCons (dC (.int 1)) (dCons (dC (.int 4)) dNil))) (dCons (dTup (dCons (dC (.int 1)) dNil)) dNil))) (dCons (dTup (dCons (dTup dNil) (dCons (dTup (dCons (dC (.bl true)) dNil)) dNil))) dNil)))))))) dNil))))
def law_from_32 : Sm := mSeq law_32 law_from_33
def law_31 : Sm := (mFor (.nm 30) (iRange1 (dC (.int 7))) (mSet 29 (dTup (dCons (dC (.str "later")) (dCons (dVar 29) dNil)))))
def law_from_31 : Sm := mSeq law_31 law_from_32
def law_30 : Sm := (mSet 29 (dVar 5))
def law_from_30 : Sm := mSeq law_30 law_from_31
def law_29 : Sm := (mIf (dNot (dCall 2 (M__law_same 20) (dCons (dVar 26) (dCons (dL (dItems (dCons (dTup (dCons (dTup dNil) (dCons (dTup (dCons (dVar 2) dNil)) dNil))) (dCons (dTup (dCons (dTup (dCons (dVar 2) dNil)) (dCons (dSl (dVar 4) dNoPart (dPart (dC (.int 1)))) dNil))) (dCons (dIf (dBin dNe (dVar 2) (dC (.int 1))) (dTup (dCons (dTup (dCons (dVar 2) dNil)) (dCons (dTup (dCons (dC (.int 1)) dNil)) dNil))) (dTup (dCons (dTup dNil) (dCons (dTup (dCons (dC (.int 1)) dNil)) dNil)))) (dCons (dTup (dCons (dTup (dCons (dC (.int 3)) (dCons (dC (.int 3)) dNil))) (dCons (dTup (dCons (dC (.int 1)) (dCons (dC (.int 1)) (dCons (dC (.int 2)) dNil)))) dNil))) (dCons (dTup (dCons (dTup dNil) (dCons (dTup (dCons (dC (.int 1)) dNil)) dNil))) dNil))))))) dNil)))) (mRet (dC (.bl false))) mNil)
def law_from_29 : Sm := mSeq law_29 law_from_30
def law_28 : Sm := (mSet 26 (dL (dLc [34] (.nm 34) cYes (dCall 1 M_endpiece_text (dCons (dVar 34) dNil)) (iSeq (dTup (dCons (dBin dIx (dBin dIx (dBin dIx (dVar 17) (dC (.int 0))) (dC (.int 1))) (dC (.int 0))) (dCons (dBin dIx (dBin dIx (dBin dIx (dVar 17) (dC (.int 0))) (dC (.int 1))) (dC (.int 1))) (dCons (dVar 27) (dCons (dTup (dCons (dTup (dCons (dVar 3) (dCons (dVar 3) (dCons (dVar 3) dNil)))) (dCons (dTup (dCons (dC (.int 3)) (dCons (dC (.int 3)) dNil))) (dCons (dTup (dCons (dTup (dCons (dC (.int 1)) (dCons (dC (.int 2)) dNil))) (dCons (dTup (dCons (dC (.int 1)) (dCons (dC (.int 3)) dNil))) (dCons (dTup (dCons (dC (.int 2)) dNil)) dNil)))) dNil)))) (dCons (dTup (dCons (dTup (dCons (dTup dNil) (dCons (dVar 3) dNil))) (dCons (dTup (dCons (dC (.int 1)) dNil)) (dCons (dTup dNil) dNil)))) dNil))))))))))
def law_from_28 : Sm := mSeq law_28 law_from_29
def law_27 : Sm := (mIf (dNot (dCall 2 (M__law_same 20) (dCons (dBin dAdd (dL (dLc [36, 33] (.tp [(.nm 36), (.nm 33)]) cYes (dCall 2 M_endpiece_reading (dCons (dVar 36) (dCons (dVar 33) dNil))) (iSeq (dVar 28)))) (dL (dLc [36, 33] (.tp [(.nm 36), (.nm 33)]) cYes (dCall 2 M_endpiece_has (dCons (dVar 36) (dCons (dVar 33) dNil))) (iSeq (dVar 28))))) (dCons (dBin dAdd (dVar 19) (dL (dLc [34] (.nm 34) cYes (dBin (dIs true) (dVar 34) (dC .non)) (iSeq (dVar 19))))) dNil)))) (mRet (dC (.bl false))) mNil)
def law_from_27 : Sm := mSeq law_27 law_from_28
def law_26 : Sm := (mSet 28 (dL (dItems (dCons (dTup (dCons (dBin dIx (dBin dIx (dBin dIx (dVar 17) (dC (.int 0))) (dC (.int 1))) (dC (.int 0))) (dCons (dVar 24) dNil))) (dCons (dTup (dCons (dBin dIx (dBin dIx (dBin dIx (dVar 17) (dC (.int 2))) (dC (.int 1))) (dC (.int 0))) (dCons (dVar 25) dNil))) (dCons (dTup (dCons (dBin dIx (dBin dIx (dBin dIx (dVar 17) (dC (.int 2))) (dC (.int 1))) (dC (.int 0))) (dCons (dVar 24) dNil))) (dCons (dTup (dCons (dBin dIx (dBin dIx (dBin dIx (dVar 17) (dC (.int 0))) (dC (.int 1))) (dC (.int 0))) (dCons (dVar 25) dNil))) (dCons (dTup (dCons (dVar 27) (dCons (dVar 24) dNil))) dNil))))))))
def law_from_26 : Sm := mSeq law_26 law_from_27
def law_25 : Sm := (mSet 19 (dL (dItems (dCons (dTup dNil) (dCons (dTup (dCons (dBin dAdd (dVar 21) (dC (.int 1))) dNil)) (dCons (dC .non) (dCons (dC .non) (dCons (dTup (dCons (dBin dAdd (dVar 21) (dC (.int 1))) dNil)) dNil))))))))
def law_from_25 : Sm := mSeq law_25 law_from_26
def law_24 : Sm := (mSet 27 (dTup (dCons (dTup (dCons (dVar 3) (dCons (dVar 3) dNil))) (dCons (dTup (dCons (dVar 2) dNil)) (dCons (dTup dNil) dNil)))))
def law_from_24 : Sm := mSeq law_24 law_from_25
def law_23 : Sm := (mIf (dNot (dCall 2 (M__law_same 20) (dCons (dVar 26) (dCons (dL (dBinL dMulL (dL (dItems (dCons (dC (.str "can not")) dNil))) (dC (.int 5)))) dNil)))) (mRet (dC (.bl false))) mNil)
def law_from_23 : Sm := mSeq law_23 law_from_24
def law_22 : Sm := (mSet 26 (dL (dLc [18, 33] (.tp [(.nm 18), (.nm 33)]) cYes (dCall 4 M__law_try (dCons (dC (.int 5)) (dCons (dC (.int 3)) (dCons (dVar 18) (dCons (dVar 33) dNil))))) (iSeq (dTup (dCons (dTup (dCons (dVar 10) (dCons (dVar 25) dNil))) (dCons (dTup (dCons (dVar 11) (dCons (dVar 24) dNil))) (dCons (dTup (dCons (dVar 8) (dCons (dVar 25) dNil))) (dCons (dTup (dCons (dVar 13) (dCons (dTup (dCons (dTup dNil) (dCons (dTup (dCons (dVar 2) dNil)) dNil))) dNil))) (dCons (dTup (dCons (dVar 7) (dCons (dTup (dCons (dTup dNil) (dCons (dTup (dCons (dVar 22) dNil)) dNil))) dNil))) dNil))))))))))
def law_from_22 : Sm := mSeq law_22 law_from_23
def law_21 : Sm := (mIf (dNot (dCall 2 (M__law_same 20) (dCons (dVar 26) (dCons (dL (dItems (dCons (dBin dIx (dBin dIx (dBin dIx (dVar 17) (dC (.int 0))) (dC (.int 1))) (dC (.int 0))) (dCons (dBin dIx (dBin dIx (dBin dIx (dVar 17) (dC (.int 0))) (dC (.int 1))) (dC (.int 1))) (dCons (dBin dIx (dBin dIx (dBin dIx (dVar 17) (dC (.int 1))) (dC (.int 1))) (dC (.int 0))) (dCons (dBin dIx (dBin dIx (dBin dIx (dVar 17) (dC (.int 2))) (dC (.int 1))) (dC (.int 0))) dNil)))))) dNil)))) (mRet (dC (.bl false))) mNil)
def law_from_21 : Sm := mSeq law_21 law_from_22
def law_20 : Sm := (mSet 26 (dBin dAdd (dL (dLc [34] (.nm 34) cYes (dCall 3 M_endpiece_of (dCons (dC (.int 3)) (dCons (dVar 7) (dCons (dVar 34) dNil)))) (iSeq (dTup (dCons (dVar 24) (dCons (dVar 25) dNil)))))) (dL (dItems (dCons (dCall 3 M_endpiece_of (dCons (dC (.int 3)) (dCons (dVar 10) (dCons (dVar 24) dNil)))) (dCons (dCall 3 M_endpiece_of (dCons (dC (.int 3)) (dCons (dVar 11) (dCons (dVar 25) dNil)))) dNil))))))
def law_from_20 : Sm := mSeq law_20 law_from_21
def law_19 : Sm := (mPar [24, 25] [.v (dTup (dCons (dVar 23) (dCons (dTup (dCons (dVar 2) (dCons (dVar 22) dNil))) dNil))), .v (dTup (dCons (dBin dAdd (dVar 23) (dTup (dCons (dVar 2) dNil))) (dCons (dTup (dCons (dVar 22) dNil)) dNil)))])
def law_from_19 : Sm := mSeq law_19 law_from_20
def law_18 : Sm := (mSet 23 (dBin dMulT (dTup (dCons (dVar 22) dNil)) (dVar 21)))
def law_from_18 : Sm := mSeq law_18 law_from_19
def law_17 : Sm := (mPar [21, 22] [.v (dCallT 2 M__law_take (dCons (dVar 1) (dCons (dC (.int 6)) dNil))), .v (dCallT 2 M__law_of (dCons (dVar 1) (dCons (dL (dCL bList (dCons (dVar 4) dNil))) dNil)))])
def law_from_17 : Sm := mSeq law_17 law_from_18
def law_16 : Sm := (mIf (dAnd (dBin dEq (dVar 2) (dC (.int 1))) (dNot (dCall 2 (M__law_same 20) (dCons (dL (dLc [34] (.nm 34) cYes (dCall 2 M_endcut_of (dCons (dC (.int 1)) (dCons (dVar 34) dNil))) (iSeq (dTup (dCons (dVar 7) (dCons (dVar 11) (dCons (dVar 12) (dCons (dTup (dCons (dC (.str "not")) (dCons (dVar 7) dNil))) dNil)))))))) (dCons (dL (dItems (dCons (dTup (dCons (dBin dIx (dBin dIx (dVar 20) (dC (.int 0))) (dC (.int 1))) dNil)) (dCons (dTup dNil) (dCons (dTup (dCons (dTup (dCons (dTup (dCons (dTup dNil) (dCons (dTup (dCons (dC (.int 1)) dNil)) dNil))) (dCons (dTup (dCons (dC (.int 1)) dNil)) (dCons (dTup dNil) dNil)))) dNil)) (dCons (dTup dNil) dNil)))))) dNil))))) (mRet (dC (.bl false))) mNil)
def law_from_16 : Sm := mSeq law_16 law_from_17
def law_15 : Sm := (mSet 20 (dL (dItems (dCons (dTup (dCons (dVar 7) (dCons (dTup (dCons (dTup (dCons (dTup (dCons (dVar 2) dNil)) dNil)) (dCons (dTup dNil) (dCons (dTup (dCons (dTup (dCons (dVar 2) dNil)) dNil)) dNil)))) dNil))) dNil))))
def law_from_15 : Sm := mSeq law_15 law_from_16
def law_14 : Sm := (mFor (.tp [(.nm 18), (.nm 19)]) (iSeq (dVar 17)) (mIf (dNot (dCall 2 (M__law_same 20) (dCons (dCall 2 M_endcut_of (dCons (dC (.int 3)) (dCons (dCall 1 (M__law_lists 20) (dCons (dVar 18) dNil)) dNil))) (dCons (dVar 19) dNil)))) (mRet (dC (.bl false))) mNil))
def law_from_14 : Sm := mSeq law_14 law_from_15
def law_13 : Sm := (mSet 17 (dBin dAdd (dVar 17) (dL (dItems (dCons (dTup (dCons (dVar 12) (dCons (dTup (dCons (dTup (dCons (dTup (dCons (dTup dNil) (dCons (dVar 3) dNil))) (dCons (dTup (dCons (dVar 2) dNil)) (dCons (dTup dNil) dNil)))) dNil)) dNil))) (dCons (dTup (dCons (dVar 6) (dCons (dTup (dCons (dTup (dCons (dTup (dCons (dVar 3) dNil)) (dCons (dTup dNil) (dCons (dTup dNil) dNil)))) dNil)) dNil))) (dCons (dTup (dCons (dVar 8) (dCons (dTup dNil) dNil))) (dCons (dTup (dCons (dVar 5) (dCons (dTup dNil) dNil))) (dCons (dTup (dCons (dVar 13) (dCons (dTup (dCons (dTup (dCons (dTup (dCons (dVar 3) dNil)) (dCons (dTup dNil) (dCons (dCB bTuple (dCons (dL (dCL bSort (dCons (dL (dItems (dCons (dTup (dCons (dVar 2) dNil)) (dCons (dVar 4) dNil)))) dNil))) dNil)) dNil)))) dNil)) dNil))) dNil)))))))))
def law_from_13 : Sm := mSeq law_13 law_from_14
def law_12 : Sm := (mSet 17 (dL (dItems (dCons (dTup (dCons (dVar 7) (dCons (dTup (dCons (dTup (dCons (dTup (dCons (dVar 3) dNil)) (dCons (dTup dNil) (dCons (dTup (dCons (dTup (dCons (dVar 2) dNil)) dNil)) dNil)))) (dCons (dTup (dCons (dTup (dCons (dVar 3) (dCons (dVar 4) dNil))) (dCons (dTup (dCons (dVar 2) dNil)) (dCons (dTup dNil) dNil)))) dNil))) dNil))) (dCons (dTup (dCons (dVar 10) (dCons (dTup (dCons (dTup (dCons (dTup (dCons (dVar 3) dNil)) (dCons (dTup dNil) (dCons (dTup (dCons (dTup (dCons (dVar 2) dNil)) dNil)) dNil)))) dNil)) dNil))) (dCons (dTup (dCons (dVar 11) (dCons (dTup (dCons (dTup (dCons (dTup (dCons (dVar 4) (dCons (dVar 4) dNil))) (dCons (dTup (dCons (dVar 2) dNil)) (dCons (dTup dNil) dNil)))) dNil)) dNil))) dNil))))))
def law_from_12 : Sm := mSeq law_12 law_from_13
def law_11 : Sm := (mIf (dNot (dCall 2 (M__law_same 20) (dCons (dBin dAdd (dL (dLc [34] (.nm 34) cYes (dCall 2 M_is_endpiece (dCons (dC (.int 2)) (dCons (dVar 34) dNil))) (iSeq (dVar 14)))) (dL (dItems (dCons (dCall 2 M_is_endpiece (dCons (dC (.int 1)) (dCons (dTup (dCons (dTup (dCons (dTup (dCons (dC (.int 1)) dNil)) dNil)) (dCons (dTup dNil) (dCons (dTup (dCons (dTup (dCons (dC (.int 1)) dNil)) dNil)) dNil)))) dNil))) dNil)))) (dCons (dL (dItems (dCons (dC (.bl false)) (dCons (dC (.bl true)) (dCons (dC (.bl false)) (dCons (dC (.bl false)) (dCons (dC (.bl false)) (dCons (dC (.bl false)) (dCons (dC (.bl true)) dNil))))))))) dNil)))) (mRet (dC (.bl false))) mNil)
def law_from_11 : Sm := mSeq law_11 law_from_12
def law_10 : Sm := (mIf (dNot (dCall 2 (M__law_same 20) (dCons (dL (dLc [34] (.nm 34) cYes (dCall 2 M_is_endpiece (dCons (dC (.int 3)) (dCons (dVar 34) dNil))) (iSeq (dBin dAdd (dBin dAdd (dVar 14) (dVar 15)) (dVar 16))))) (dCons (dBin dAdd (dL (dBinL dMulL (dL (dItems (dCons (dC (.bl true)) dNil))) (dCB bLen (dCons (dVar 14) dNil)))) (dL (dBinL dMulL (dL (dItems (dCons (dC (.bl false)) dNil))) (dCB bLen (dCons (dBin dAdd (dVar 15) (dVar 16)) dNil))))) dNil)))) (mRet (dC (.bl false))) mNil)
def law_from_10 : Sm := mSeq law_10 law_from_11
def law_9 : Sm := (mAsg (.tp [(.nm 14), (.nm 15), (.nm 16)]) (dCall 1 M__law_forms (dCons (dVar 3) dNil)))
def law_from_9 : Sm := mSeq law_9 law_from_10
def law_8 : Sm := (mSet 13 (dTup (dCons (dC (.str "and")) (dCons (dVar 10) (dCons (dTup (dCons (dC (.str "not")) (dCons (dTup (dCons (dC (.str "later")) (dCons (dTup (dCons (dC (.str "not")) (dCons (dVar 9) dNil))) dNil))) dNil))) dNil)))))
def law_from_8 : Sm := mSeq law_8 law_from_9
def law_7 : Sm := (mSet 12 (dTup (dCons (dC (.str "later")) (dCons (dTup (dCons (dC (.str "and")) (dCons (dVar 5) (dCons (dTup (dCons (dC (.str "not")) (dCons (dTup (dCons (dC (.str "ahead")) (dCons (dVar 6) dNil))) dNil))) dNil)))) dNil))))
def law_from_7 : Sm := mSeq law_7 law_from_8
def law_6 : Sm := (mPar [10, 11] [.v (dTup (dCons (dC (.str "not")) (dCons (dTup (dCons (dC (.str "later")) (dCons (dTup (dCons (dC (.str "not")) (dCons (dVar 7) dNil))) dNil))) dNil))), .v (dTup (dCons (dC (.str "and")) (dCons (dVar 7) (dCons (dTup (dCons (dC (.str "not")) (dCons (dTup (dCons (dC (.str "later")) (dCons (dTup (dCons (dC (.str "and")) (dCons (dVar 5) (dCons (dVar 7) dNil)))) dNil))) dNil))) dNil))))])
def law_from_6 : Sm := mSeq law_6 law_from_7
def law_5 : Sm := (mPar [7, 8, 9] [.v (dTup (dCons (dC (.str "later")) (dCons (dVar 5) dNil))), .v (dTup (dCons (dC (.str "not")) (dCons (dVar 6) dNil))), .v (dTup (dCons (dC (.str "later")) (dCons (dTup (dCons (dC (.str "letter")) (dCons (dVar 4) dNil))) dNil)))])
def law_from_5 : Sm := mSeq law_5 law_from_6
def law_4 : Sm := (mPar [5, 6] [.v (dTup (dCons (dC (.str "letter")) (dCons (dTup (dCons (dVar 2) dNil)) dNil))), .v (dTup (dCons (dC (.str "yes")) dNil))])
def law_from_4 : Sm := mSeq law_4 law_from_5
def law_3 : Sm := (mSet 4 (dCB bTuple (dCons (dL (dLc [34] (.nm 34) (dB (dBin dNe (dVar 34) (dVar 2))) (dVar 34) (iSeq (dVar 3)))) dNil)))
def law_from_3 : Sm := mSeq law_3 law_from_4
def law_2 : Sm := (mSet 3 (dTup (dCons (dC (.int 1)) (dCons (dC (.int 2)) (dCons (dC (.int 3)) dNil)))))
def law_from_2 : Sm := mSeq law_2 law_from_3
def law_1 : Sm := (mSet 2 (dBin dAdd (dC (.int 1)) (dCallT 2 M__law_take (dCons (dVar 1) (dCons (dC (.int 3)) dNil)))))
def law_from_1 : Sm := mSeq law_1 law_from_2
def law_0 : Sm := (mNew 1 (dCallF 2 M__law_box (dCons (dCall 2 M__law_cells (dCons (dVar 0) (dCons (dC (.int 1)) dNil))) (dCons (dC (.int 0)) dNil))))
def law_from_0 : Sm := mSeq law_0 law_from_1
def m_law : Sm := law_from_0
def M_law : List D → Re D := runP 37 m_law
theorem fn_law {f : Addr} {fd : FuncData} {k : Nat} (T : Tx G mg) (F : Fun G.K "law" "law" s_law f fd) (hP : P = G.P) (hw : w = G.w) (c__law_box : Cal P w G.K mg base k "_law_box" ["script", "k"] (spF G 2 M__law_box)) (c__law_forms : Cal P w G.K mg base k "_law_forms" ["all_three"] (spP G 1 M__law_forms)) (c__law_of : Cal P w G.K mg base k "_law_of" ["tin", "goods"] (spT G 2 M__law_of)) (c__law_cells : Cal P w G.K mg base k "_law_cells" ["script", "most"] (spP G 2 M__law_cells)) (c__law_take : Cal P w G.K mg base k "_law_take" ["tin", "below"] (spT G 2 M__law_take)) (c__law_same : Cal P w G.K mg base k "_law_same" ["got", "goal"] (spP G 2 (M__law_same 20))) (c__law_try : Cal P w G.K mg base k "_law_try" ["door", "one", "other", "thing"] (spP G 4 M__law_try)) (c_endpiece_text : Cal P w G.K mg base k "endpiece_text" ["piece"] (spP G 1 M_endpiece_text)) (c_endpiece_of : Cal P w G.K mg base k "endpiece_of" ["wide", "mood", "lasso"] (spP G 3 M_endpiece_of)) (c_is_endpiece : Cal P w G.K mg base k "is_endpiece" ["wide", "thing"] (spP G 2 M_is_endpiece)) (c_endcut_of : Cal P w G.K mg base k "endcut_of" ["wide", "mood"] (spP G 2 M_endcut_of)) (c__law_lists : Cal P w G.K mg base k "_law_lists" ["matter"] (spP G 1 (M__law_lists 20))) (c_endpiece_reading : Cal P w G.K mg base k "endpiece_reading" ["piece", "lasso"] (spP G 2 M_endpiece_reading)) (c_endpiece_has : Cal P w G.K mg base k "endpiece_has" ["piece", "lasso"] (spP G 2 M_endpiece_has)) : FnOk P w G.K mg base (L2.CX P w) (k + 1) f fd ["script"] (spP G 1 (runP 37 m_law)) :=
  fn_pure (N := ("script" :: "tin" :: "k" :: "every" :: "rest" :: "one" :: "yes" :: "sees" :: "no" :: "far" :: "ever" :: "once" :: "first" :: "both" :: "good" :: "bad" :: "odd" :: ["cuts", "mood", "due", "alone", "many", "other", "ahead", "endless", "ended", "got", "loose", "asked", "deep", "lap", "wrong", "worse", "text", "own", "door", "piece"])) F sc_law rfl  fun cdv A outer s H E hr tk => by
    have hu : _ := hu130 hr
    have hN := sc_law.nd
    exact (fss_cons (fs_new (i := 0) hN (fl_call c__law_box tk hr (fa_cons (fe_call c__law_cells tk hr (fa_cons (fe_var (i := 0)) (fa_cons fe_int fa_nil))) (fa_cons fe_int fa_nil))))
    (fss_cons (fs_set (i := 2) hN (fe_op o_add fe_int (fe_callT c__law_take tk hr (fa_cons (fe_var (i := 1)) (fa_cons fe_int fa_nil)))))
    (fss_cons (fs_set (i := 3) hN (fe_tup (fa_cons fe_int (fa_cons fe_int (fa_cons fe_int fa_nil)))))
    (fss_cons (fs_set (i := 4) hN (fe_callTy c_tuple bb_tuple T.z_tuple (fa_cons (fe_new (fl_lc (own := [("own", 34)]) hN (blkOk_by (by rfl)) (fi_seq (fe_var (i := 3))) (fun _ _ _ _ _ => (fg_name (i := 34) hN)) (fun _ _ _ _ _ => (fts_one (fb_cmp (o_ne hu) (fe_var (i := 34)) (fe_var (i := 2))))) (fun _ _ _ _ _ => (fe_var (i := 34))))) fa_nil)))
    (fss_cons (fs_parC2 (i := 5) (j := 6) hN (fc_v (fe_tup (fa_cons fe_str (fa_cons (fe_tup (fa_cons (fe_var (i := 2)) fa_nil)) fa_nil))) (fc_v (fe_tup (fa_cons fe_str fa_nil)) fc_nil)) rfl rfl (by decide))
    (fss_cons (fs_parC3 (i := 7) (j := 8) (l := 9) hN (fc_v (fe_tup (fa_cons fe_str (fa_cons (fe_var (i := 5)) fa_nil))) (fc_v (fe_tup (fa_cons fe_str (fa_cons (fe_var (i := 6)) fa_nil))) (fc_v (fe_tup (fa_cons fe_str (fa_cons (fe_tup (fa_cons fe_str (fa_cons (fe_var (i := 4)) fa_nil))) fa_nil))) fc_nil))) rfl rfl (by decide) (by decide) (by decide))
    (fss_cons (fs_par2 (i := 10) (j := 11) hN (fc_v (fe_tup (fa_cons fe_str (fa_cons (fe_tup (fa_cons fe_str (fa_cons (fe_tup (fa_cons fe_str (fa_cons (fe_var (i := 7)) fa_nil))) fa_nil))) fa_nil))) (fc_v (fe_tup (fa_cons fe_str (fa_cons (fe_var (i := 7)) (fa_cons (fe_tup (fa_cons fe_str (fa_cons (fe_tup (fa_cons fe_str (fa_cons (fe_tup (fa_cons fe_str (fa_cons (fe_var (i := 5)) (fa_cons (fe_var (i := 7)) fa_nil)))) fa_nil))) fa_nil))) fa_nil)))) fc_nil)) rfl rfl (by decide))
    (fss_cons (fs_set (i := 12) hN (fe_tup (fa_cons fe_str (fa_cons (fe_tup (fa_cons fe_str (fa_cons (fe_var (i := 5)) (fa_cons (fe_tup (fa_cons fe_str (fa_cons (fe_tup (fa_cons fe_str (fa_cons (fe_var (i := 6)) fa_nil))) fa_nil))) fa_nil)))) fa_nil))))
    (fss_cons (fs_set (i := 13) hN (fe_tup (fa_cons fe_str (fa_cons (fe_var (i := 10)) (fa_cons (fe_tup (fa_cons fe_str (fa_cons (fe_tup (fa_cons fe_str (fa_cons (fe_tup (fa_cons fe_str (fa_cons (fe_var (i := 9)) fa_nil))) fa_nil))) fa_nil))) fa_nil)))))
    (fss_cons (fs_asg (fe_call c__law_forms tk hr (fa_cons (fe_var (i := 3)) fa_nil)) (fg_tup (fgs_cons (fg_name (i := 14) hN) (fgs_cons (fg_name (i := 15) hN) (fgs_cons (fg_name (i := 16) hN) fgs_nil))) rfl))
    (fss_cons (fs_if (fb_not (fb_val (fe_call c__law_same tk hr (fa_cons (fe_new (fl_lc (own := [("own", 34)]) hN (blkOk_by (by rfl)) (fi_seq (fe_op o_add (fe_op o_add (fe_var (i := 14)) (fe_var (i := 15))) (fe_var (i := 16)))) (fun _ _ _ _ _ => (fg_name (i := 34) hN)) (fun _ _ _ _ _ => fts_nil) (fun _ _ _ _ _ => (fe_call c_is_endpiece L2.takes0 hr (fa_cons fe_int (fa_cons (fe_var (i := 34)) fa_nil)))))) (fa_cons (fe_op o_add (fe_new (fl_op o_mulL (fe_new (fl_lst (fa_cons fe_bl fa_nil))) (fe_callB c_len bb_len T.z_len (fa_cons (fe_var (i := 14)) fa_nil)))) (fe_new (fl_op o_mulL (fe_new (fl_lst (fa_cons fe_bl fa_nil))) (fe_callB c_len bb_len T.z_len (fa_cons (fe_op o_add (fe_var (i := 15)) (fe_var (i := 16))) fa_nil))))) fa_nil))))) (fss_one (fs_ret fe_bl)) fss_nil)
    (fss_cons (fs_if (fb_not (fb_val (fe_call c__law_same tk hr (fa_cons (fe_op o_add (fe_new (fl_lc (own := [("own", 34)]) hN (blkOk_by (by rfl)) (fi_seq (fe_var (i := 14))) (fun _ _ _ _ _ => (fg_name (i := 34) hN)) (fun _ _ _ _ _ => fts_nil) (fun _ _ _ _ _ => (fe_call c_is_endpiece L2.takes0 hr (fa_cons fe_int (fa_cons (fe_var (i := 34)) fa_nil)))))) (fe_new (fl_lst (fa_cons (fe_call c_is_endpiece tk hr (fa_cons fe_int (fa_cons (fe_tup (fa_cons (fe_tup (fa_cons (fe_tup (fa_cons fe_int fa_nil)) fa_nil)) (fa_cons (fe_tup fa_nil) (fa_cons (fe_tup (fa_cons (fe_tup (fa_cons fe_int fa_nil)) fa_nil)) fa_nil)))) fa_nil))) fa_nil)))) (fa_cons (fe_new (fl_lst (fa_cons fe_bl (fa_cons fe_bl (fa_cons fe_bl (fa_cons fe_bl (fa_cons fe_bl (fa_cons fe_bl (fa_cons fe_bl fa_nil))))))))) fa_nil))))) (fss_one (fs_ret fe_bl)) fss_nil)
    (fss_cons (fs_set (i := 17) hN (fe_new (fl_lst (fa_cons (fe_tup (fa_cons (fe_var (i := 7)) (fa_cons (fe_tup (fa_cons (fe_tup (fa_cons (fe_tup (fa_cons (fe_var (i := 3)) fa_nil)) (fa_cons (fe_tup fa_nil) (fa_cons (fe_tup (fa_cons (fe_tup (fa_cons (fe_var (i := 2)) fa_nil)) fa_nil)) fa_nil)))) (fa_cons (fe_tup (fa_cons (fe_tup (fa_cons (fe_var (i := 3)) (fa_cons (fe_var (i := 4)) fa_nil))) (fa_cons (fe_tup (fa_cons (fe_var (i := 2)) fa_nil)) (fa_cons (fe_tup fa_nil) fa_nil)))) fa_nil))) fa_nil))) (fa_cons (fe_tup (fa_cons (fe_var (i := 10)) (fa_cons (fe_tup (fa_cons (fe_tup (fa_cons (fe_tup (fa_cons (fe_var (i := 3)) fa_nil)) (fa_cons (fe_tup fa_nil) (fa_cons (fe_tup (fa_cons (fe_tup (fa_cons (fe_var (i := 2)) fa_nil)) fa_nil)) fa_nil)))) fa_nil)) fa_nil))) (fa_cons (fe_tup (fa_cons (fe_var (i := 11)) (fa_cons (fe_tup (fa_cons (fe_tup (fa_cons (fe_tup (fa_cons (fe_var (i := 4)) (fa_cons (fe_var (i := 4)) fa_nil))) (fa_cons (fe_tup (fa_cons (fe_var (i := 2)) fa_nil)) (fa_cons (fe_tup fa_nil) fa_nil)))) fa_nil)) fa_nil))) fa_nil))))))
    (fss_cons (fs_set (i := 17) hN (fe_op o_add (fe_var (i := 17)) (fe_new (fl_lst (fa_cons (fe_tup (fa_cons (fe_var (i := 12)) (fa_cons (fe_tup (fa_cons (fe_tup (fa_cons (fe_tup (fa_cons (fe_tup fa_nil) (fa_cons (fe_var (i := 3)) fa_nil))) (fa_cons (fe_tup (fa_cons (fe_var (i := 2)) fa_nil)) (fa_cons (fe_tup fa_nil) fa_nil)))) fa_nil)) fa_nil))) (fa_cons (fe_tup (fa_cons (fe_var (i := 6)) (fa_cons (fe_tup (fa_cons (fe_tup (fa_cons (fe_tup (fa_cons (fe_var (i := 3)) fa_nil)) (fa_cons (fe_tup fa_nil) (fa_cons (fe_tup fa_nil) fa_nil)))) fa_nil)) fa_nil))) (fa_cons (fe_tup (fa_cons (fe_var (i := 8)) (fa_cons (fe_tup fa_nil) fa_nil))) (fa_cons (fe_tup (fa_cons (fe_var (i := 5)) (fa_cons (fe_tup fa_nil) fa_nil))) (fa_cons (fe_tup (fa_cons (fe_var (i := 13)) (fa_cons (fe_tup (fa_cons (fe_tup (fa_cons (fe_tup (fa_cons (fe_var (i := 3)) fa_nil)) (fa_cons (fe_tup fa_nil) (fa_cons (fe_callTy c_tuple bb_tuple T.z_tuple (fa_cons (fe_new (fl_callB (c_sorted hu) bb_sorted T.z_sorted (fa_cons (fe_new (fl_lst (fa_cons (fe_tup (fa_cons (fe_var (i := 2)) fa_nil)) (fa_cons (fe_var (i := 4)) fa_nil)))) fa_nil))) fa_nil)) fa_nil)))) fa_nil)) fa_nil))) fa_nil)))))))))
    (fss_cons (fs_for (L2.passes_of rfl) (fi_seq (fe_var (i := 17))) (fg_tup (fgs_cons (fg_name (i := 18) hN) (fgs_cons (fg_name (i := 19) hN) fgs_nil)) rfl) (fss_one (fs_if (fb_not (fb_val (fe_call c__law_same tk hr (fa_cons (fe_call c_endcut_of tk hr (fa_cons fe_int (fa_cons (fe_call c__law_lists tk hr (fa_cons (fe_var (i := 18)) fa_nil)) fa_nil))) (fa_cons (fe_var (i := 19)) fa_nil))))) (fss_one (fs_ret fe_bl)) fss_nil)))
    (fss_cons (fs_set (i := 20) hN (fe_new (fl_lst (fa_cons (fe_tup (fa_cons (fe_var (i := 7)) (fa_cons (fe_tup (fa_cons (fe_tup (fa_cons (fe_tup (fa_cons (fe_var (i := 2)) fa_nil)) fa_nil)) (fa_cons (fe_tup fa_nil) (fa_cons (fe_tup (fa_cons (fe_tup (fa_cons (fe_var (i := 2)) fa_nil)) fa_nil)) fa_nil)))) fa_nil))) fa_nil))))
    (fss_cons (fs_if (fb_w (fw_and (fb_cmp (o_eq hu) (fe_var (i := 2)) fe_int) (fw_one_and (fb_not (fb_val (fe_call c__law_same tk hr (fa_cons (fe_new (fl_lc (own := [("own", 34)]) hN (blkOk_by (by rfl)) (fi_seq (fe_tup (fa_cons (fe_var (i := 7)) (fa_cons (fe_var (i := 11)) (fa_cons (fe_var (i := 12)) (fa_cons (fe_tup (fa_cons fe_str (fa_cons (fe_var (i := 7)) fa_nil))) fa_nil)))))) (fun _ _ _ _ _ => (fg_name (i := 34) hN)) (fun _ _ _ _ _ => fts_nil) (fun _ _ _ _ _ => (fe_call c_endcut_of L2.takes0 hr (fa_cons fe_int (fa_cons (fe_var (i := 34)) fa_nil)))))) (fa_cons (fe_new (fl_lst (fa_cons (fe_tup (fa_cons (fe_ix hu hP hw (fe_ix hu hP hw (fe_var (i := 20)) fe_int) fe_int) fa_nil)) (fa_cons (fe_tup fa_nil) (fa_cons (fe_tup (fa_cons (fe_tup (fa_cons (fe_tup (fa_cons (fe_tup fa_nil) (fa_cons (fe_tup (fa_cons fe_int fa_nil)) fa_nil))) (fa_cons (fe_tup (fa_cons fe_int fa_nil)) (fa_cons (fe_tup fa_nil) fa_nil)))) fa_nil)) (fa_cons (fe_tup fa_nil) fa_nil)))))) fa_nil)))))))) (fss_one (fs_ret fe_bl)) fss_nil)
    (fss_cons (fs_par2 (i := 21) (j := 22) hN (fc_v (fe_callT c__law_take tk hr (fa_cons (fe_var (i := 1)) (fa_cons fe_int fa_nil))) (fc_v (fe_callT c__law_of tk hr (fa_cons (fe_var (i := 1)) (fa_cons (fe_new (fl_callTy c_list bb_list T.z_list (fa_cons (fe_var (i := 4)) fa_nil))) fa_nil))) fc_nil)) rfl rfl (by decide))
    (fss_cons (fs_set (i := 23) hN (fe_op o_mulT (fe_tup (fa_cons (fe_var (i := 22)) fa_nil)) (fe_var (i := 21))))
    (fss_cons (fs_parC2 (i := 24) (j := 25) hN (fc_v (fe_tup (fa_cons (fe_var (i := 23)) (fa_cons (fe_tup (fa_cons (fe_var (i := 2)) (fa_cons (fe_var (i := 22)) fa_nil))) fa_nil))) (fc_v (fe_tup (fa_cons (fe_op o_add (fe_var (i := 23)) (fe_tup (fa_cons (fe_var (i := 2)) fa_nil))) (fa_cons (fe_tup (fa_cons (fe_var (i := 22)) fa_nil)) fa_nil))) fc_nil)) rfl rfl (by decide))
    (fss_cons (fs_set (i := 26) hN (fe_op o_add (fe_new (fl_lc (own := [("own", 34)]) hN (blkOk_by (by rfl)) (fi_seq (fe_tup (fa_cons (fe_var (i := 24)) (fa_cons (fe_var (i := 25)) fa_nil)))) (fun _ _ _ _ _ => (fg_name (i := 34) hN)) (fun _ _ _ _ _ => fts_nil) (fun _ _ _ _ _ => (fe_call c_endpiece_of L2.takes0 hr (fa_cons fe_int (fa_cons (fe_var (i := 7)) (fa_cons (fe_var (i := 34)) fa_nil))))))) (fe_new (fl_lst (fa_cons (fe_call c_endpiece_of tk hr (fa_cons fe_int (fa_cons (fe_var (i := 10)) (fa_cons (fe_var (i := 24)) fa_nil)))) (fa_cons (fe_call c_endpiece_of tk hr (fa_cons fe_int (fa_cons (fe_var (i := 11)) (fa_cons (fe_var (i := 25)) fa_nil)))) fa_nil))))))
    (fss_cons (fs_if (fb_not (fb_val (fe_call c__law_same tk hr (fa_cons (fe_var (i := 26)) (fa_cons (fe_new (fl_lst (fa_cons (fe_ix hu hP hw (fe_ix hu hP hw (fe_ix hu hP hw (fe_var (i := 17)) fe_int) fe_int) fe_int) (fa_cons (fe_ix hu hP hw (fe_ix hu hP hw (fe_ix hu hP hw (fe_var (i := 17)) fe_int) fe_int) fe_int) (fa_cons (fe_ix hu hP hw (fe_ix hu hP hw (fe_ix hu hP hw (fe_var (i := 17)) fe_int) fe_int) fe_int) (fa_cons (fe_ix hu hP hw (fe_ix hu hP hw (fe_ix hu hP hw (fe_var (i := 17)) fe_int) fe_int) fe_int) fa_nil)))))) fa_nil))))) (fss_one (fs_ret fe_bl)) fss_nil)
    (fss_cons (fs_setLc (i := 26) (own := [("mood", 18), ("text", 33)]) hN (blkOk_by (by rfl)) (fi_seq (fe_tup (fa_cons (fe_tup (fa_cons (fe_var (i := 10)) (fa_cons (fe_var (i := 25)) fa_nil))) (fa_cons (fe_tup (fa_cons (fe_var (i := 11)) (fa_cons (fe_var (i := 24)) fa_nil))) (fa_cons (fe_tup (fa_cons (fe_var (i := 8)) (fa_cons (fe_var (i := 25)) fa_nil))) (fa_cons (fe_tup (fa_cons (fe_var (i := 13)) (fa_cons (fe_tup (fa_cons (fe_tup fa_nil) (fa_cons (fe_tup (fa_cons (fe_var (i := 2)) fa_nil)) fa_nil))) fa_nil))) (fa_cons (fe_tup (fa_cons (fe_var (i := 7)) (fa_cons (fe_tup (fa_cons (fe_tup fa_nil) (fa_cons (fe_tup (fa_cons (fe_var (i := 22)) fa_nil)) fa_nil))) fa_nil))) fa_nil))))))) (fun _ _ _ _ _ => (fg_tup (fgs_cons (fg_name (i := 18) hN) (fgs_cons (fg_name (i := 33) hN) fgs_nil)) rfl)) (fun _ _ _ _ _ => fts_nil) (fun _ _ _ _ _ => (fe_call c__law_try L2.takes0 hr (fa_cons fe_int (fa_cons fe_int (fa_cons (fe_var (i := 18)) (fa_cons (fe_var (i := 33)) fa_nil)))))) (L2.sw_true rfl rfl rfl (by decide +kernel)))
    (fss_cons (fs_if (fb_not (fb_val (fe_call c__law_same tk hr (fa_cons (fe_var (i := 26)) (fa_cons (fe_new (fl_op o_mulL (fe_new (fl_lst (fa_cons fe_str fa_nil))) fe_int)) fa_nil))))) (fss_one (fs_ret fe_bl)) fss_nil)
    (fss_cons (fs_set (i := 27) hN (fe_tup (fa_cons (fe_tup (fa_cons (fe_var (i := 3)) (fa_cons (fe_var (i := 3)) fa_nil))) (fa_cons (fe_tup (fa_cons (fe_var (i := 2)) fa_nil)) (fa_cons (fe_tup fa_nil) fa_nil)))))
    (fss_cons (fs_set (i := 19) hN (fe_new (fl_lst (fa_cons (fe_tup fa_nil) (fa_cons (fe_tup (fa_cons (fe_op o_add (fe_var (i := 21)) fe_int) fa_nil)) (fa_cons fe_non (fa_cons fe_non (fa_cons (fe_tup (fa_cons (fe_op o_add (fe_var (i := 21)) fe_int) fa_nil)) fa_nil))))))))
    (fss_cons (fs_set (i := 28) hN (fe_new (fl_lst (fa_cons (fe_tup (fa_cons (fe_ix hu hP hw (fe_ix hu hP hw (fe_ix hu hP hw (fe_var (i := 17)) fe_int) fe_int) fe_int) (fa_cons (fe_var (i := 24)) fa_nil))) (fa_cons (fe_tup (fa_cons (fe_ix hu hP hw (fe_ix hu hP hw (fe_ix hu hP hw (fe_var (i := 17)) fe_int) fe_int) fe_int) (fa_cons (fe_var (i := 25)) fa_nil))) (fa_cons (fe_tup (fa_cons (fe_ix hu hP hw (fe_ix hu hP hw (fe_ix hu hP hw (fe_var (i := 17)) fe_int) fe_int) fe_int) (fa_cons (fe_var (i := 24)) fa_nil))) (fa_cons (fe_tup (fa_cons (fe_ix hu hP hw (fe_ix hu hP hw (fe_ix hu hP hw (fe_var (i := 17)) fe_int) fe_int) fe_int) (fa_cons (fe_var (i := 25)) fa_nil))) (fa_cons (fe_tup (fa_cons (fe_var (i := 27)) (fa_cons (fe_var (i := 24)) fa_nil))) fa_nil))))))))
    (fss_cons (fs_if (fb_not (fb_val (fe_call c__law_same tk hr (fa_cons (fe_op o_add (fe_new (fl_lc (own := [("piece", 36), ("text", 33)]) hN (blkOk_by (by rfl)) (fi_seq (fe_var (i := 28))) (fun _ _ _ _ _ => (fg_tup (fgs_cons (fg_name (i := 36) hN) (fgs_cons (fg_name (i := 33) hN) fgs_nil)) rfl)) (fun _ _ _ _ _ => fts_nil) (fun _ _ _ _ _ => (fe_call c_endpiece_reading L2.takes0 hr (fa_cons (fe_var (i := 36)) (fa_cons (fe_var (i := 33)) fa_nil)))))) (fe_new (fl_lc (own := [("piece", 36), ("text", 33)]) hN (blkOk_by (by rfl)) (fi_seq (fe_var (i := 28))) (fun _ _ _ _ _ => (fg_tup (fgs_cons (fg_name (i := 36) hN) (fgs_cons (fg_name (i := 33) hN) fgs_nil)) rfl)) (fun _ _ _ _ _ => fts_nil) (fun _ _ _ _ _ => (fe_call c_endpiece_has L2.takes0 hr (fa_cons (fe_var (i := 36)) (fa_cons (fe_var (i := 33)) fa_nil))))))) (fa_cons (fe_op o_add (fe_var (i := 19)) (fe_new (fl_lc (own := [("own", 34)]) hN (blkOk_by (by rfl)) (fi_seq (fe_var (i := 19))) (fun _ _ _ _ _ => (fg_name (i := 34) hN)) (fun _ _ _ _ _ => fts_nil) (fun _ _ _ _ _ => (fe_cmp o_isNot (fe_var (i := 34)) fe_non))))) fa_nil))))) (fss_one (fs_ret fe_bl)) fss_nil)
    (fss_cons (fs_setLc (i := 26) (own := [("own", 34)]) hN (blkOk_by (by rfl)) (fi_seq (fe_tup (fa_cons (fe_ix hu hP hw (fe_ix hu hP hw (fe_ix hu hP hw (fe_var (i := 17)) fe_int) fe_int) fe_int) (fa_cons (fe_ix hu hP hw (fe_ix hu hP hw (fe_ix hu hP hw (fe_var (i := 17)) fe_int) fe_int) fe_int) (fa_cons (fe_var (i := 27)) (fa_cons (fe_tup (fa_cons (fe_tup (fa_cons (fe_var (i := 3)) (fa_cons (fe_var (i := 3)) (fa_cons (fe_var (i := 3)) fa_nil)))) (fa_cons (fe_tup (fa_cons fe_int (fa_cons fe_int fa_nil))) (fa_cons (fe_tup (fa_cons (fe_tup (fa_cons fe_int (fa_cons fe_int fa_nil))) (fa_cons (fe_tup (fa_cons fe_int (fa_cons fe_int fa_nil))) (fa_cons (fe_tup (fa_cons fe_int fa_nil)) fa_nil)))) fa_nil)))) (fa_cons (fe_tup (fa_cons (fe_tup (fa_cons (fe_tup fa_nil) (fa_cons (fe_var (i := 3)) fa_nil))) (fa_cons (fe_tup (fa_cons fe_int fa_nil)) (fa_cons (fe_tup fa_nil) fa_nil)))) fa_nil))))))) (fun _ _ _ _ _ => (fg_name (i := 34) hN)) (fun _ _ _ _ _ => fts_nil) (fun _ _ _ _ _ => (fe_call c_endpiece_text L2.takes0 hr (fa_cons (fe_var (i := 34)) fa_nil))) (L2.sw_true rfl rfl rfl (by decide +kernel)))
    (fss_cons (fs_if (fb_not (fb_val (fe_call c__law_same tk hr (fa_cons (fe_var (i := 26)) (fa_cons (fe_new (fl_lst (fa_cons (fe_tup (fa_cons (fe_tup fa_nil) (fa_cons (fe_tup (fa_cons (fe_var (i := 2)) fa_nil)) fa_nil))) (fa_cons (fe_tup (fa_cons (fe_tup (fa_cons (fe_var (i := 2)) fa_nil)) (fa_cons (fe_sl (fe_var (i := 4)) fo_none (fo_some fe_int)) fa_nil))) (fa_cons (fe_if (fb_cmp (o_ne hu) (fe_var (i := 2)) fe_int) (fe_tup (fa_cons (fe_tup (fa_cons (fe_var (i := 2)) fa_nil)) (fa_cons (fe_tup (fa_cons fe_int fa_nil)) fa_nil))) (fe_tup (fa_cons (fe_tup fa_nil) (fa_cons (fe_tup (fa_cons fe_int fa_nil)) fa_nil)))) (fa_cons (fe_tup (fa_cons (fe_tup (fa_cons fe_int (fa_cons fe_int fa_nil))) (fa_cons (fe_tup (fa_cons fe_int (fa_cons fe_int (fa_cons fe_int fa_nil)))) fa_nil))) (fa_cons (fe_tup (fa_cons (fe_tup fa_nil) (fa_cons (fe_tup (fa_cons fe_int fa_nil)) fa_nil))) fa_nil))))))) fa_nil))))) (fss_one (fs_ret fe_bl)) fss_nil)
    (fss_cons (fs_set (i := 29) hN (fe_var (i := 5)))
    (fss_cons (fs_for (L2.passes_of rfl) (fi_range1 fe_int T.z_range) (fg_name (i := 30) hN) (fss_one (fs_set (i := 29) hN (fe_tup (fa_cons fe_str (fa_cons (fe_var (i := 29)) fa_nil))))))
    (fss_cons (fs_set (i := 31) hN (fe_callT c__law_of tk hr (fa_cons (fe_var (i := 1)) (fa_cons (fe_new (fl_lst (fa_cons fe_int (fa_cons fe_non (fa_cons fe_str (fa_cons (fe_tup (fa_cons (fe_tup fa_nil) (fa_cons (fe_tup fa_nil) fa_nil))) (fa_cons (fe_tup (fa_cons (fe_tup (fa_cons fe_int (fa_cons fe_int fa_nil))) (fa_cons (fe_tup (fa_cons fe_int fa_nil)) fa_nil))) (fa_cons (fe_tup (fa_cons (fe_tup fa_nil) (fa_cons (fe_tup (fa_cons fe_bl fa_nil)) fa_nil))) fa_nil)))))))) fa_nil))))
    (fss_cons (fs_set (i := 32) hN (fe_callT c__law_of tk hr (fa_cons (fe_var (i := 1)) (fa_cons (fe_new (fl_lst (fa_cons (fe_tup (fa_cons fe_str fa_nil)) (fa_cons (fe_tup (fa_cons fe_str (fa_cons (fe_tup (fa_cons fe_int fa_nil)) fa_nil))) (fa_cons fe_int (fa_cons fe_non (fa_cons (fe_tup (fa_cons fe_str fa_nil)) fa_nil))))))) fa_nil))))
    (fss_cons (fs_set (i := 26) hN (fe_op o_add (fe_op o_add (fe_new (fl_lc (own := [("door", 35)]) hN (blkOk_by (by rfl)) (fi_seq (fe_tup (fa_cons fe_int (fa_cons fe_int (fa_cons fe_int fa_nil))))) (fun _ _ _ _ _ => (fg_name (i := 35) hN)) (fun _ _ _ _ _ => fts_nil) (fun _ _ _ _ _ => (fe_call c__law_try L2.takes0 hr (fa_cons (fe_var (i := 35)) (fa_cons (fe_callT c__law_of L2.takes0 hr (fa_cons (fe_var (i := 1)) (fa_cons (fe_var (i := 15)) fa_nil))) (fa_cons (fe_var (i := 24)) (fa_cons fe_int fa_nil)))))))) (fe_new (fl_lc (own := [("door", 35)]) hN (blkOk_by (by rfl)) (fi_seq (fe_tup (fa_cons fe_int (fa_cons fe_int fa_nil)))) (fun _ _ _ _ _ => (fg_name (i := 35) hN)) (fun _ _ _ _ _ => fts_nil) (fun _ _ _ _ _ => (fe_call c__law_try L2.takes0 hr (fa_cons (fe_var (i := 35)) (fa_cons (fe_var (i := 27)) (fa_cons (fe_var (i := 31)) (fa_cons fe_int fa_nil))))))))) (fe_new (fl_lc (own := [("door", 35)]) hN (blkOk_by (by rfl)) (fi_seq (fe_tup (fa_cons fe_int (fa_cons fe_int fa_nil)))) (fun _ _ _ _ _ => (fg_name (i := 35) hN)) (fun _ _ _ _ _ => fts_nil) (fun _ _ _ _ _ => (fe_call c__law_try L2.takes0 hr (fa_cons (fe_var (i := 35)) (fa_cons fe_int (fa_cons (fe_var (i := 32)) (fa_cons (fe_var (i := 24)) fa_nil))))))))))
    (fss_cons (fs_set (i := 26) hN (fe_op o_add (fe_op o_add (fe_var (i := 26)) (fe_new (fl_lc (own := [("door", 35)]) hN (blkOk_by (by rfl)) (fi_seq (fe_tup (fa_cons fe_int (fa_cons fe_int (fa_cons fe_int fa_nil))))) (fun _ _ _ _ _ => (fg_name (i := 35) hN)) (fun _ _ _ _ _ => fts_nil) (fun _ _ _ _ _ => (fe_call c__law_try L2.takes0 hr (fa_cons (fe_var (i := 35)) (fa_cons (fe_callT c__law_of L2.takes0 hr (fa_cons (fe_var (i := 1)) (fa_cons (fe_new (fl_lst (fa_cons fe_int (fa_cons fe_int (fa_cons fe_bl (fa_cons fe_non fa_nil)))))) fa_nil))) (fa_cons (fe_var (i := 6)) (fa_cons (fe_var (i := 24)) fa_nil))))))))) (fe_new (fl_lst (fa_cons (fe_call c__law_try tk hr (fa_cons fe_int (fa_cons fe_int (fa_cons (fe_var (i := 7)) (fa_cons (fe_var (i := 31)) fa_nil))))) (fa_cons (fe_call c__law_try tk hr (fa_cons fe_int (fa_cons fe_int (fa_cons (fe_tup (fa_cons fe_str (fa_cons (fe_tup (fa_cons fe_str (fa_cons (fe_tup (fa_cons fe_int fa_nil)) fa_nil))) fa_nil))) (fa_cons (fe_tup (fa_cons (fe_tup fa_nil) (fa_cons (fe_tup (fa_cons fe_int fa_nil)) fa_nil))) fa_nil))))) fa_nil))))))
    (fss_one (fs_ret (fe_and (fe_call c__law_same tk hr (fa_cons (fe_var (i := 26)) (fa_cons (fe_new (fl_op o_mulL (fe_new (fl_lst (fa_cons fe_str fa_nil))) fe_int)) fa_nil))) (fe_one (fe_call c__law_same tk hr (fa_cons (fe_new (fl_lc (own := [("door", 35)]) hN (blkOk_by (by rfl)) (fi_seq (fe_tup (fa_cons fe_int (fa_cons fe_int fa_nil)))) (fun _ _ _ _ _ => (fg_name (i := 35) hN)) (fun _ _ _ _ _ => fts_nil) (fun _ _ _ _ _ => (fe_call c__law_try L2.takes0 hr (fa_cons (fe_var (i := 35)) (fa_cons fe_int (fa_cons (fe_var (i := 29)) (fa_cons (fe_var (i := 24)) fa_nil)))))))) (fa_cons (fe_new (fl_op o_mulL (fe_new (fl_lst (fa_cons fe_str fa_nil))) fe_int)) fa_nil)))))))))))))))))))))))))))))))))))))))))))

end
end W

set_option Elab.async false
set_option linter.all false
set_option maxRecDepth 100000
set_option maxHeartbeats 4000000
namespace W
open F
theorem take_pos (a b c below : Int) (h : 0 < a) (hb : 0 < below) (hd : divOk below = true) : M__law_take [.int a, .int b, .int c] [.int below] = .ok (.int (a % below), [.int (a / below), .int b, .int c]) := by
  simp [M__law_take, m__law_take, ev_runT, h, hb, hd, L2.atI, L2.ixN, isM]
theorem mul_s {i j : Int} (h : j.natAbs < 18446744073709551616) : mulOk i j = true := by unfold mulOk; rw [decide_eq_true h, Bool.or_true]
theorem mul_l {i j : Int} (h : i.natAbs < 18446744073709551616) : mulOk i j = true := by unfold mulOk; rw [decide_eq_true h, Bool.true_or]
def onceV (b c : Int) : Int := ((b + 48271 * (c + 1)) * (39373 + (c + 1))) % 2147483647
def twiceV (b c : Int) : Int := ((onceV b c + (c + 1) + b / 1000003) * (onceV b c % 40009 + 7)) % 2147483629
def takeN (b c below : Int) : Int := ((twiceV b c * 48271 + onceV b c) % 2147483587 / 64) % below
theorem take_neg (a b c below : Int) (h : ¬ 0 < a) (hb : 0 < below) (hd : divOk below = true) (h0 : 0 ≤ c) (hc : c < 1000000000000) : M__law_take [.int a, .int b, .int c] [.int below] = .ok (.int (takeN b c below), [.int a, .int b, .int (c + 1)]) := by
  have d1 : divOk 1000003 = true := by decide
  have d2 : divOk 64 = true := by decide
  have m1 : mulOk 48271 (c + 1) = true := mul_l (by decide)
  have m2 : mulOk (b + 48271 * (c + 1)) (39373 + (c + 1)) = true := mul_s (by omega)
  have m3 : mulOk (onceV b c + (c + 1) + b / 1000003) (onceV b c % 40009 + 7) = true := mul_s (by omega)
  have m4 : mulOk (twiceV b c) 48271 = true := mul_s (by decide)
  unfold onceV at m3
  unfold twiceV onceV at m4
  unfold takeN twiceV onceV
  simp [M__law_take, m__law_take, ev_runT, h, hb, hd, L2.atI, L2.ixN, isM, d1, d2, m1, m2, m3, m4]
end W

namespace W
open F
/-! what the box holds -/
def Tin (k : Int) (ts : List D) : Prop := ∃ a b c : Int, ts = [.int a, .int b, .int c] ∧ 0 ≤ c ∧ c ≤ k
theorem take_law {k below : Int} {ts : List D} (t : Tin k ts) (hk : k < 1000000000000) (hb : 0 < below) (hd : divOk below = true) : ∃ v ts', M__law_take ts [.int below] = .ok (.int v, ts') ∧ 0 ≤ v ∧ v < below ∧ Tin (k + 1) ts' := by
  obtain ⟨a, b, c, rfl, h0, h1⟩ := t
  by_cases h : 0 < a
  · exact ⟨_, _, take_pos a b c below h hb hd, Int.emod_nonneg _ (by omega), Int.emod_lt_of_pos _ hb, _, _, _, rfl, h0, by omega⟩
  · exact ⟨_, _, take_neg a b c below h hb hd h0 (by omega), Int.emod_nonneg _ (by omega), Int.emod_lt_of_pos _ hb, _, _, _, rfl, by omega, by omega⟩
theorem atI_lt {α : Type} {xs : List α} {i : Nat} (h : i < xs.length) : L2.atI xs (i : Int) = some xs[i] := by
  exact L2.atI_nat (List.getElem?_eq_getElem h)
theorem of_law {k : Int} {ts gs : List D} (t : Tin k ts) (hk : k < 1000000000000) (hg : gs ≠ []) (hl : gs.length ≤ 1000) : ∃ g ts', M__law_of ts [.lst gs] = .ok (g, ts') ∧ g ∈ gs ∧ Tin (k + 1) ts' := by
  have h0 : 0 < gs.length := List.length_pos_iff.mpr hg
  obtain ⟨v, ts', e, h1, h2, t'⟩ := take_law (below := gs.length) t hk (by omega) (by
    unfold divOk
    rw [decide_eq_true (by omega), Bool.true_and]
    refine decide_eq_true ?_
    have : (gs.length : Int).natAbs < 2 ^ 10 := by omega
    exact Nat.lt_trans ((Nat.log2_lt (by omega)).mpr this) (by decide))
  obtain ⟨i, rfl⟩ : ∃ i : Nat, v = i := ⟨v.toNat, by omega⟩
  have hi : i < gs.length := by omega
  refine ⟨gs[i], ts', ?_, List.getElem_mem hi, t'⟩
  simp [M__law_of, m__law_of, ev_runT, e, atI_lt hi]
theorem box_law (ns : List Int) (k : Nat) : ∃ ts, M__law_box [.lst (ns.map .int), .int k] = .ok ts ∧ Tin 0 ts := by
  obtain ⟨cell, hcell⟩ : ∃ cell : Int, m__law_box (initS 3 [.lst (ns.map .int), .int k]) = .nx [some (.v (.lst (ns.map .int))), some (.v (.int k)), some (.v (.int cell))] := by
    by_cases h : k < ns.length
    · refine ⟨ns[k], ?_⟩
      have e : L2.atI (ns.map D.int) (k : Int) = some (.int ns[k]) := L2.atI_nat (by simp [h])
      simp [m__law_box, h, e]
    · exact ⟨0, by simp [m__law_box, h]⟩
  have pw : dPow (.int 10) (.int 18) = .ok (.int 1000000000000000000) := rfl
  have m1 : ∀ (c : Prop) [Decidable c], mulOk (if cell < 0 then -cell else cell) (if c then 1 else 0) = true := fun c _ => mul_s (by split <;> decide)
  have m2 : mulOk 39373 (k : Int) = true := mul_l (by decide)
  have bi : ∀ b : Bool, bInt [.bl b] = .ok (.int (if b = true then 1 else 0)) := fun b => rfl
  refine ⟨[.int ((if cell < 0 then -cell else cell) * (if decide (1000000000000000000 ≤ (if cell < 0 then -cell else cell)) = true then 1 else 0)), .int (cell % 2305843009213693951 + 39373 * k + 2518077), .int 0], ?_, _, _, _, rfl, by omega, by omega⟩
  simp only [M__law_box, runF, hcell, l__law_box]
  simp [pw, m2, bi, m1]
theorem lc_map {t : Tg} {e : Ev} {vs : List Nat} {f : D → D} {base : Sl} : ∀ {ds : List D} {sl : Sl}, (∀ d ∈ ds, ∀ sl, wipeD sl vs = base → ∃ sl1 sl2, bindT t d base = some sl1 ∧ e sl1 = .ok (.v (f d)) sl2 ∧ wipeD sl2 vs = base) → wipeD sl vs = base →
    ∃ sl', lcL vs t cYes e ds sl = some (ds.map f, sl') ∧ wipeD sl' vs = base
  | [], sl, h, hb => ⟨sl, rfl, hb⟩
  | d :: ds, sl, h, hb => by
    obtain ⟨sl1, sl2, h1, h2, h3⟩ := h d (by simp) sl hb
    obtain ⟨sl', h4, h5⟩ := lc_map (f := f) (ds := ds) (sl := sl2) (fun d hd => h d (by simp [hd])) h3
    refine ⟨sl', ?_, h5⟩
    simp only [lcL, hb, h1, cYes, h2, h4, List.map_cons]
/-- the cells: some list of ints, not empty -/
theorem cells_law (ns : List Int) (m : Nat) (hm : 0 < m) (hn : ns.length ≤ 63) : ∃ cs : List Int, M__law_cells [.scr (ns.map .int), .int m] = .ok (.lst (cs.map .int)) := by
  have cut1 : cut (ns.map D.int) none (some (m : Int)) = (ns.take m).map .int := by rw [cut_to, List.map_take]
  have cut2 : cut (ns.map D.int) (some (m : Int)) (some 63) = (ns.drop m).map .int := by
    have := cut_from (xs := ns.map D.int) (k := m) (h := 63) (by simpa using hn)
    rw [List.map_drop]; exact this
  have loop : ∀ (xs cs : List Int) (j : Nat) (sl : Sl) (x3 x4 x5 : Option Sv), sl = [some (.v (.scr (ns.map .int))), some (.v (.int m)), some (.m (cs.map .int)), x3, x4, x5] → (xs = [] ∨ cs.length = m) → xs.length + j ≤ 100 → ∃ (cs' : List Int) (x3 x4 x5 : Option Sv),
      forL (.tp [.nm 3, .nm 4]) (mSeq (mSet 5 (dBin dMod (dCB bInt (dCons (dVar 3) dNil)) (dVar 1))) (mSetIx 2 (dBin dAdd (dBin dIx (dVar 2) (dVar 5)) (dBin dMulT (dVar 4) (dBin dAdd (dVar 3) (dC (.int 2))))) (dVar 5))) (enumFrom j (xs.map .int)) sl =
        .nx [some (.v (.scr (ns.map .int))), some (.v (.int m)), some (.m (cs'.map .int)), x3, x4, x5] := by
    intro xs
    induction xs with
    | nil => exact fun cs j sl x3 x4 x5 e _ _ => ⟨cs, x3, x4, x5, by rw [e]; rfl⟩
    | cons x xs ih =>
      intro cs j sl x3 x4 x5 e h hj
      have hl : cs.length = m := h.resolve_left (by simp)
      have hm' : (0 : Int) < m := by omega
      have hr : j % m < m := Nat.mod_lt _ hm
      have hr' : j % m < (cs.map D.int).length := by simpa [hl] using hr
      have e2 : ((j : Int) % (m : Int)) = ((j % m : Nat) : Int) := by omega
      have hat : L2.atI (cs.map D.int) ((j : Int) % (m : Int)) = some (.int cs[j % m]) := by rw [e2]; exact L2.atI_nat (by simp [hl, hr])
      have hix : L2.ixN cs.length ((j : Int) % (m : Int)) = some (j % m) := by
        rw [e2]; unfold L2.ixN
        rw [if_pos (by omega), if_pos (by omega), Int.toNat_natCast]
      have hmul : mulOk x ((j : Int) + 2) = true := mul_s (by simp at hj; omega)
      obtain ⟨cs', y3, y4, y5, h'⟩ := ih (cs.set (j % m) (cs[j % m] + x * ((j : Int) + 2))) (j + 1) [some (.v (.scr (ns.map .int))), some (.v (.int m)), some (.m ((cs.set (j % m) (cs[j % m] + x * ((j : Int) + 2))).map .int)), some (.v (.int j)), some (.v (.int x)), some (.v (.int ((j : Int) % m)))] _ _ _ rfl (.inr (by simpa using hl)) (by simp at hj; omega)
      refine ⟨cs', y3, y4, y5, ?_⟩
      rw [← h', e]
      simp only [List.map_cons, enumFrom, ev_forL1]
      simp [hm, hm', hat, hmul, isM, hix, List.map_set]
  have h0 : ∃ cs : List Int, mNew 2 (dOrL (dCL bList (dCons (dSl (dVar 0) dNoPart (dPart (dVar 1))) dNil)) (dItems (dCons (dC (.int 0)) dNil))) (initS 6 [.scr (ns.map .int), .int m]) = .nx [some (.v (.scr (ns.map .int))), some (.v (.int m)), some (.m (cs.map .int)), none, none, none] ∧ (ns.drop m = [] ∨ cs.length = m) := by
    cases hns : ns.take m with
    | nil =>
      refine ⟨[0], ?_, ?_⟩
      · simp [cut1, hns]
      · left
        have : ns = [] := by
          cases ns with
          | nil => rfl
          | cons a b => cases m with
            | zero => omega
            | succ m => simp at hns
        rw [this]; simp
    | cons a b =>
      refine ⟨a :: b, ?_, ?_⟩
      · simp [cut1, hns]
      · by_cases hlm : ns.length ≤ m
        · exact .inl (List.drop_of_length_le hlm)
        · exact .inr (by rw [← hns, List.length_take]; omega)
  obtain ⟨cs, e1, e2⟩ := h0
  obtain ⟨cs', x3, x4, x5, e3⟩ := loop (ns.drop m) cs 0 _ none none none rfl e2 (by rw [List.length_drop]; omega)
  refine ⟨cs', ?_⟩
  simp only [M__law_cells, ev_runP, m__law_cells, ev_mSeq, e1, ev_seq_nx, ev_mFor, ev_iEnumL]
  simp only [ev_dSl, ev_slice_s, ev_dVar, ev_dPart, ev_dC, ev_bind_ok, List.getElem?_cons_zero, List.getElem?_cons_succ, getS, cut2, ev_to_ok, e3, ev_seq_nx]
  rfl
end W

namespace W
open F
/-- alike for _law_same -/
def alkL (f : D → D → Bool) (xs ys : List D) : Bool := decide (xs.length = ys.length) && (xs.zip ys).all fun p => f p.1 p.2
def alk : Nat → D → D → Bool
  | 0, _, _ => false
  | j + 1, .tup xs, .tup ys => alkL (alk j) xs ys
  | j + 1, .tup xs, .tpn ys => alkL (alk j) xs ys
  | j + 1, .tpn xs, .tup ys => alkL (alk j) xs ys
  | j + 1, .tpn xs, .tpn ys => alkL (alk j) xs ys
  | j + 1, .lst xs, .lst ys => alkL (alk j) xs ys
  | _ + 1, .non, .non => true
  | _ + 1, .bl b, .bl c => b == c
  | _ + 1, .int i, .int k => decide (i = k)
  | _ + 1, .str s, .str t => decide (s = t)
  | _ + 1, _, _ => false
theorem zip_pairs : ∀ {xs ys : List D}, zipD xs ys = (xs.zip ys).map fun p => .tup [p.1, p.2]
  | [], ys => by cases ys <;> rfl
  | x :: xs, [] => rfl
  | x :: xs, y :: ys => by
    show D.tup [x, y] :: zipD xs ys = _
    rw [zip_pairs]; rfl
theorem eq_nat (n : Nat) : dEq (.int n) (.int n) = .ok (.bl true) := by rw [op_eq_i]; simp
theorem same_seq {j : Nat} {xs ys : List D} {d e : D} (hd : ((d = .tup xs ∨ d = .tpn xs) ∧ (e = .tup ys ∨ e = .tpn ys)) ∨ (d = .lst xs ∧ e = .lst ys)) (hl : xs.length = ys.length) (ih : ∀ p ∈ xs.zip ys, M__law_same j [p.1, p.2] = .ok (.bl true)) : M__law_same (j + 1) [d, e] = .ok (.bl true) := by
  have key : ∃ sl', lcL [2, 3] (.tp [.nm 2, .nm 3]) cYes (dCall 2 (M__law_same j) (dCons (dVar 2) (dCons (dVar 3) dNil))) (zipD xs ys) [some (.v d), some (.v e), none, none] = some ((zipD xs ys).map fun _ => .bl true, sl') ∧ wipeD sl' [2, 3] = [some (.v d), some (.v e), none, none] := by
    rw [zip_pairs]
    refine lc_map (base := [some (.v d), some (.v e), none, none]) (fun p hp sl _ => ?_) rfl
    obtain ⟨⟨x, y⟩, hx, rfl⟩ := List.mem_map.mp hp
    refine ⟨[some (.v d), some (.v e), some (.v x), some (.v y)], [some (.v d), some (.v e), some (.v x), some (.v y)], by simp, ?_, rfl⟩
    simp [ih _ hx]
  obtain ⟨sl', k1, k2⟩ := key
  have bt : ∀ {ds : List D}, blsOf (ds.map fun _ => D.bl true) = some (ds.map fun _ => true) := fun {ds} => by
    induction ds with
    | nil => rfl
    | cons a b ih => simp [blsOf, ih]
  have ln : ∀ {us : List D}, bLen [.tpn us] = .ok (.int us.length) := rfl
  rcases hd with ⟨h1, h2⟩ | ⟨rfl, rfl⟩
  · rcases h1 with rfl | rfl <;> rcases h2 with rfl | rfl <;> simp [M__law_same, m__law_same, ev_runP, isTy, tyName, dLc, noOwn, isM, k1, bAll, bt, hl, eq_nat, ln]
  · simp [M__law_same, m__law_same, ev_runP, isTy, tyName, dLc, noOwn, isM, k1, bAll, bt, hl, eq_nat]
theorem alkL_of {f : D → D → Bool} {xs ys : List D} (h : alkL f xs ys = true) : xs.length = ys.length ∧ ∀ p ∈ xs.zip ys, f p.1 p.2 = true := by
  unfold alkL at h
  rw [Bool.and_eq_true, decide_eq_true_iff, List.all_eq_true] at h
  exact h
theorem same_alk : ∀ (j : Nat) (d e : D), alk j d e = true → M__law_same j [d, e] = .ok (.bl true) := by
  intro j
  induction j with
  | zero => intro d e h; cases h
  | succ j ih =>
    intro d e h
    have sq : ∀ {xs ys : List D}, ((d = .tup xs ∨ d = .tpn xs) ∧ (e = .tup ys ∨ e = .tpn ys)) ∨ (d = .lst xs ∧ e = .lst ys) → alkL (alk j) xs ys = true → M__law_same (j + 1) [d, e] = .ok (.bl true) := fun hd h => by
      obtain ⟨h1, h2⟩ := alkL_of h
      exact same_seq hd h1 fun p hp => ih _ _ (h2 p hp)
    unfold alk at h
    split at h
    · cases ‹_ + 1 = 0›
    · cases ‹j + 1 = _ + 1›; exact sq (.inl ⟨.inl rfl, .inl rfl⟩) h
    · cases ‹j + 1 = _ + 1›; exact sq (.inl ⟨.inl rfl, .inr rfl⟩) h
    · cases ‹j + 1 = _ + 1›; exact sq (.inl ⟨.inr rfl, .inl rfl⟩) h
    · cases ‹j + 1 = _ + 1›; exact sq (.inl ⟨.inr rfl, .inr rfl⟩) h
    · cases ‹j + 1 = _ + 1›; exact sq (.inr ⟨rfl, rfl⟩) h
    · rfl
    · rename_i b c _
      cases b <;> cases c <;> first | rfl | cases h
    · rename_i i k _
      have : i = k := by simpa using h
      subst this
      simp [M__law_same, m__law_same, ev_runP, isTy, tyName, dIs]
    · rename_i s t _
      have : s = t := by simpa using h
      subst this
      have e : dEq (.str s) (.str s) = .ok (.bl true) := by simp [dEq, shallow, D.eqv, D.depth, D.pur]
      simp [M__law_same, m__law_same, ev_runP, isTy, tyName, dIs, e]
    · cases h
theorem alk_map {α : Type} {j : Nat} {f g : α → D} (h : ∀ x, alk j (f x) (g x) = true) : ∀ xs : List α, alkL (alk j) (xs.map f) (xs.map g) = true
  | [] => by simp [alkL]
  | x :: xs => by
    have := alk_map h xs
    unfold alkL at this ⊢
    simp only [Bool.and_eq_true, decide_eq_true_iff] at this ⊢
    refine ⟨by simp, ?_⟩
    simp only [List.map_cons, List.zip_cons_cons, List.all_cons, h x, Bool.true_and]
    exact this.2
theorem alk_e {α : Type} [DecidableEq α] [Emb α] {x : α} (j : Nat) (hb : ∀ b : α, (∃ i, (Emb.e b : D) = .int i) ∨ ∃ i, (Emb.e b : D) = .bl i) : alk (j + 1) (Emb.e x) (Emb.e x) = true := by
  rcases hb x with ⟨i, e⟩ | ⟨i, e⟩ <;> rw [e] <;> simp [alk]
@[simp] theorem alkL_nil {f : D → D → Bool} : alkL f [] [] = true := rfl
@[simp] theorem alkL_cons {f : D → D → Bool} {x y : D} {xs ys : List D} : alkL f (x :: xs) (y :: ys) = (f x y && alkL f xs ys) := by
  unfold alkL
  simp only [List.length_cons, List.zip_cons_cons, List.all_cons, Nat.add_right_cancel_iff]
  cases f x y <;> simp
end W


set_option Elab.async false
set_option linter.all false
set_option maxRecDepth 100000
set_option maxHeartbeats 4000000
namespace W
open PySem PySem.Spec F
theorem seq_step {whole a r : Sm} (hw : whole = mSeq a r) {s s' : Sl} (h : a s = .nx s') : whole s = r s' := by rw [hw, ev_mSeq, h, ev_seq_nx]
theorem seq_as (x y z : Sm) : mSeq (mSeq x y) z = mSeq x (mSeq y z) := funext fun s => by
  show ((x s).seq y).seq z = (x s).seq (mSeq y z)
  cases x s <;> rfl
def chain : List Sm → Sm
  | [] => mNil
  | [a] => a
  | a :: b :: r => mSeq a (chain (b :: r))
def st1 : Sl := [some (.v (.int 1)), some (.v (.tup [(.int 1), (.int 2), (.int 3)])), some (.v (.tup [(.int 2), (.int 3)])), some (.v (.tup [(.str "letter"), (.tup [(.int 1)])])), some (.v (.tup [(.str "yes")])), some (.v (.tup [(.str "later"), (.tup [(.str "letter"), (.tup [(.int 1)])])])), some (.v (.tup [(.str "not"), (.tup [(.str "yes")])])), some (.v (.tup [(.str "later"), (.tup [(.str "letter"), (.tup [(.int 2), (.int 3)])])])), some (.v (.tup [(.str "not"), (.tup [(.str "later"), (.tup [(.str "not"), (.tup [(.str "later"), (.tup [(.str "letter"), (.tup [(.int 1)])])])])])])), some (.v (.tup [(.str "and"), (.tup [(.str "later"), (.tup [(.str "letter"), (.tup [(.int 1)])])]), (.tup [(.str "not"), (.tup [(.str "later"), (.tup [(.str "and"), (.tup [(.str "letter"), (.tup [(.int 1)])]), (.tup [(.str "later"), (.tup [(.str "letter"), (.tup [(.int 1)])])])])])])])), some (.v (.tup [(.str "later"), (.tup [(.str "and"), (.tup [(.str "letter"), (.tup [(.int 1)])]), (.tup [(.str "not"), (.tup [(.str "ahead"), (.tup [(.str "yes")])])])])])), some (.v (.tup [(.str "and"), (.tup [(.str "not"), (.tup [(.str "later"), (.tup [(.str "not"), (.tup [(.str "later"), (.tup [(.str "letter"), (.tup [(.int 1)])])])])])]), (.tup [(.str "not"), (.tup [(.str "later"), (.tup [(.str "not"), (.tup [(.str "later"), (.tup [(.str "letter"), (.tup [(.int 2), (.int 3)])])])])])])])), some (.v (.lst [(.tup [(.tup [(.tup [(.int 1), (.int 2), (.int 3)])]), (.tup []), (.tup [])]), (.tup [(.tup [(.tup []), (.tup [(.int 2)])]), (.tup [(.int 1)]), (.tup [])]), (.tup [(.tup [(.tup [(.int 1), (.int 3)]), (.tup []), (.tup [(.int 3)])]), (.tup [(.int 2), (.int 2)]), (.tup [(.tup [(.int 3)])])]), (.tup [(.tup [(.tup [(.int 1), (.int 2), (.int 3)]), (.tup [(.int 1), (.int 2), (.int 3)]), (.tup [(.int 1), (.int 2), (.int 3)]), (.tup [(.int 1), (.int 2), (.int 3)]), (.tup [(.int 1), (.int 2), (.int 3)]), (.tup [(.int 1), (.int 2), (.int 3)]), (.tup [(.int 1), (.int 2), (.int 3)]), (.tup [(.int 1), (.int 2), (.int 3)]), (.tup [(.int 1), (.int 2), (.int 3)])]), (.tup [(.int 1), (.int 1), (.int 1), (.int 1), (.int 1), (.int 1), (.int 1), (.int 1)]), (.tup [])]), (.tup [(.tup [(.tup [(.int 1), (.int 2), (.int 3)])]), (.tup []), (.tup [(.tup [(.int 1)]), (.tup [(.int 1), (.int 2)]), (.tup [(.int 1), (.int 2), (.int 3)]), (.tup [(.int 1), (.int 3)]), (.tup [(.int 2)]), (.tup [(.int 2), (.int 3)])])]), (.tup [(.tup [(.tup [(.int 1), (.int 2), (.int 3)])]), (.tup []), (.tup [(.tup [(.int 1), (.int 2)]), (.tup [(.int 2)])])])])), some (.v (.lst [(.tup [(.tup [(.tup [])]), (.tup []), (.tup [])]), (.tup [(.tup [(.tup [(.int 1), (.int 2), (.int 3)])]), (.tup [(.int 1)]), (.tup [])]), (.tup [(.tup [(.tup [(.int 1), (.int 2), (.int 3)]), (.tup [(.int 1), (.int 2), (.int 3)])]), (.tup []), (.tup [])]), (.tup [(.tup [(.tup [(.int 1)])]), (.tup []), (.tup [(.tup [(.int 2)])])]), (.tup [(.tup [(.tup [(.int 1), (.int 2), (.int 3)])]), (.tup []), (.tup [(.tup [])])]), (.tup [(.tup [(.tup [(.int 1), (.int 2), (.int 3)])]), (.tup []), (.tup [(.tup [(.int 2)]), (.tup [(.int 1), (.int 2)])])]), (.tup [(.tup [(.tup [(.int 1), (.int 2), (.int 3)])]), (.tup []), (.tup [(.tup [(.int 2)]), (.tup [(.int 2)])])]), (.tup [(.tup [(.tup [(.int 2), (.int 1)])]), (.tup []), (.tup [])]), (.tup [(.tup [(.tup [(.int 1), (.int 1)])]), (.tup []), (.tup [])]), (.tup [(.tup [(.tup [(.int 1), (.int 2), (.int 3)]), (.tup [(.int 4)])]), (.tup [(.int 1)]), (.tup [])]), (.tup [(.tup [(.tup [(.int 1), (.int 2), (.int 3)]), (.tup [(.int 1)])]), (.tup [(.int 0)]), (.tup [])]), (.tup [(.tup [(.tup [(.int 1), (.int 2), (.int 3)]), (.tup [(.int 1)])]), (.tup [(.bl true)]), (.tup [])]), (.lst [(.tup [(.int 1), (.int 2), (.int 3)]), (.tup []), (.tup [])]), (.tup [(.tup [(.tup [(.int 1), (.int 2), (.int 3)])]), (.tup [])]), (.int 0), .non, (.tup []), (.str "piece"), (.tup [(.tup [(.tup [(.int 1), (.int 2), (.int 3)])]), (.tup []), (.tup [(.tup [(.int 1)]), (.int 3)])]), (.tup [(.tup [(.int 1), (.int 2), (.int 3)]), (.tup []), (.tup [])])])), some (.v (.lst [(.tup [(.tup [(.tup [(.int 1), (.int 2), (.int 3)]), (.tup [(.int 1), (.int 2), (.int 3)]), (.tup [(.int 1), (.int 2), (.int 3)]), (.tup [(.int 1), (.int 2), (.int 3)]), (.tup [(.int 1), (.int 2), (.int 3)]), (.tup [(.int 1), (.int 2), (.int 3)]), (.tup [(.int 1), (.int 2), (.int 3)]), (.tup [(.int 1), (.int 2), (.int 3)]), (.tup [(.int 1), (.int 2), (.int 3)]), (.tup [(.int 1), (.int 2), (.int 3)])]), (.tup [(.int 1), (.int 1), (.int 1), (.int 1), (.int 1), (.int 1), (.int 1), (.int 1), (.int 1)]), (.tup [])]), (.tup [(.tup [(.tup [(.int 1), (.int 2), (.int 3)])]), (.tup []), (.tup [(.tup [(.int 1)]), (.tup [(.int 1), (.int 2)]), (.tup [(.int 1), (.int 2), (.int 3)]), (.tup [(.int 1), (.int 3)]), (.tup [(.int 2)]), (.tup [(.int 2), (.int 3)]), (.tup [(.int 3)])])]), (.tup [(.lst [(.tup [(.int 1), (.int 2), (.int 3)])]), (.tup []), (.tup [])]), (.tup [(.tup [(.tup [(.int 1), (.int 2), (.int 3)])]), (.lst []), (.tup [])]), (.tup [(.tup [(.tup [(.int 1), (.int 2), (.int 3)])]), (.tup []), (.lst [])])])), some (.v (.lst [(.tup [(.tup [(.str "later"), (.tup [(.str "letter"), (.tup [(.int 1)])])]), (.tup [(.tup [(.tup [(.tup [(.int 1), (.int 2), (.int 3)])]), (.tup []), (.tup [(.tup [(.int 1)])])]), (.tup [(.tup [(.tup [(.int 1), (.int 2), (.int 3)]), (.tup [(.int 2), (.int 3)])]), (.tup [(.int 1)]), (.tup [])])])]), (.tup [(.tup [(.str "not"), (.tup [(.str "later"), (.tup [(.str "not"), (.tup [(.str "later"), (.tup [(.str "letter"), (.tup [(.int 1)])])])])])]), (.tup [(.tup [(.tup [(.tup [(.int 1), (.int 2), (.int 3)])]), (.tup []), (.tup [(.tup [(.int 1)])])])])]), (.tup [(.tup [(.str "and"), (.tup [(.str "later"), (.tup [(.str "letter"), (.tup [(.int 1)])])]), (.tup [(.str "not"), (.tup [(.str "later"), (.tup [(.str "and"), (.tup [(.str "letter"), (.tup [(.int 1)])]), (.tup [(.str "later"), (.tup [(.str "letter"), (.tup [(.int 1)])])])])])])]), (.tup [(.tup [(.tup [(.tup [(.int 2), (.int 3)]), (.tup [(.int 2), (.int 3)])]), (.tup [(.int 1)]), (.tup [])])])]), (.tup [(.tup [(.str "later"), (.tup [(.str "and"), (.tup [(.str "letter"), (.tup [(.int 1)])]), (.tup [(.str "not"), (.tup [(.str "ahead"), (.tup [(.str "yes")])])])])]), (.tup [(.tup [(.tup [(.tup []), (.tup [(.int 1), (.int 2), (.int 3)])]), (.tup [(.int 1)]), (.tup [])])])]), (.tup [(.tup [(.str "yes")]), (.tup [(.tup [(.tup [(.tup [(.int 1), (.int 2), (.int 3)])]), (.tup []), (.tup [])])])]), (.tup [(.tup [(.str "not"), (.tup [(.str "yes")])]), (.tup [])]), (.tup [(.tup [(.str "letter"), (.tup [(.int 1)])]), (.tup [])]), (.tup [(.tup [(.str "and"), (.tup [(.str "not"), (.tup [(.str "later"), (.tup [(.str "not"), (.tup [(.str "later"), (.tup [(.str "letter"), (.tup [(.int 1)])])])])])]), (.tup [(.str "not"), (.tup [(.str "later"), (.tup [(.str "not"), (.tup [(.str "later"), (.tup [(.str "letter"), (.tup [(.int 2), (.int 3)])])])])])])]), (.tup [(.tup [(.tup [(.tup [(.int 1), (.int 2), (.int 3)])]), (.tup []), (.tup [(.tup [(.int 1)]), (.tup [(.int 2), (.int 3)])])])])])])), some (.v (.tup [(.str "and"), (.tup [(.str "not"), (.tup [(.str "later"), (.tup [(.str "not"), (.tup [(.str "later"), (.tup [(.str "letter"), (.tup [(.int 1)])])])])])]), (.tup [(.str "not"), (.tup [(.str "later"), (.tup [(.str "not"), (.tup [(.str "later"), (.tup [(.str "letter"), (.tup [(.int 2), (.int 3)])])])])])])])), some (.v (.tup [(.tup [(.tup [(.tup [(.int 1), (.int 2), (.int 3)])]), (.tup []), (.tup [(.tup [(.int 1)]), (.tup [(.int 2), (.int 3)])])])])), some (.v (.lst [(.tup [(.tup [(.str "later"), (.tup [(.str "letter"), (.tup [(.int 1)])])]), (.tup [(.tup [(.tup [(.int 1)])]), (.tup []), (.tup [(.tup [(.int 1)])])])])])), none, none, none, none, none, none, none, none, none, none, none, none, none, none, none, none]
def st2 : Sl := [some (.v (.int 2)), some (.v (.tup [(.int 1), (.int 2), (.int 3)])), some (.v (.tup [(.int 1), (.int 3)])), some (.v (.tup [(.str "letter"), (.tup [(.int 2)])])), some (.v (.tup [(.str "yes")])), some (.v (.tup [(.str "later"), (.tup [(.str "letter"), (.tup [(.int 2)])])])), some (.v (.tup [(.str "not"), (.tup [(.str "yes")])])), some (.v (.tup [(.str "later"), (.tup [(.str "letter"), (.tup [(.int 1), (.int 3)])])])), some (.v (.tup [(.str "not"), (.tup [(.str "later"), (.tup [(.str "not"), (.tup [(.str "later"), (.tup [(.str "letter"), (.tup [(.int 2)])])])])])])), some (.v (.tup [(.str "and"), (.tup [(.str "later"), (.tup [(.str "letter"), (.tup [(.int 2)])])]), (.tup [(.str "not"), (.tup [(.str "later"), (.tup [(.str "and"), (.tup [(.str "letter"), (.tup [(.int 2)])]), (.tup [(.str "later"), (.tup [(.str "letter"), (.tup [(.int 2)])])])])])])])), some (.v (.tup [(.str "later"), (.tup [(.str "and"), (.tup [(.str "letter"), (.tup [(.int 2)])]), (.tup [(.str "not"), (.tup [(.str "ahead"), (.tup [(.str "yes")])])])])])), some (.v (.tup [(.str "and"), (.tup [(.str "not"), (.tup [(.str "later"), (.tup [(.str "not"), (.tup [(.str "later"), (.tup [(.str "letter"), (.tup [(.int 2)])])])])])]), (.tup [(.str "not"), (.tup [(.str "later"), (.tup [(.str "not"), (.tup [(.str "later"), (.tup [(.str "letter"), (.tup [(.int 1), (.int 3)])])])])])])])), some (.v (.lst [(.tup [(.tup [(.tup [(.int 1), (.int 2), (.int 3)])]), (.tup []), (.tup [])]), (.tup [(.tup [(.tup []), (.tup [(.int 2)])]), (.tup [(.int 1)]), (.tup [])]), (.tup [(.tup [(.tup [(.int 1), (.int 3)]), (.tup []), (.tup [(.int 3)])]), (.tup [(.int 2), (.int 2)]), (.tup [(.tup [(.int 3)])])]), (.tup [(.tup [(.tup [(.int 1), (.int 2), (.int 3)]), (.tup [(.int 1), (.int 2), (.int 3)]), (.tup [(.int 1), (.int 2), (.int 3)]), (.tup [(.int 1), (.int 2), (.int 3)]), (.tup [(.int 1), (.int 2), (.int 3)]), (.tup [(.int 1), (.int 2), (.int 3)]), (.tup [(.int 1), (.int 2), (.int 3)]), (.tup [(.int 1), (.int 2), (.int 3)]), (.tup [(.int 1), (.int 2), (.int 3)])]), (.tup [(.int 1), (.int 1), (.int 1), (.int 1), (.int 1), (.int 1), (.int 1), (.int 1)]), (.tup [])]), (.tup [(.tup [(.tup [(.int 1), (.int 2), (.int 3)])]), (.tup []), (.tup [(.tup [(.int 1)]), (.tup [(.int 1), (.int 2)]), (.tup [(.int 1), (.int 2), (.int 3)]), (.tup [(.int 1), (.int 3)]), (.tup [(.int 2)]), (.tup [(.int 2), (.int 3)])])]), (.tup [(.tup [(.tup [(.int 1), (.int 2), (.int 3)])]), (.tup []), (.tup [(.tup [(.int 1), (.int 2)]), (.tup [(.int 2)])])])])), some (.v (.lst [(.tup [(.tup [(.tup [])]), (.tup []), (.tup [])]), (.tup [(.tup [(.tup [(.int 1), (.int 2), (.int 3)])]), (.tup [(.int 1)]), (.tup [])]), (.tup [(.tup [(.tup [(.int 1), (.int 2), (.int 3)]), (.tup [(.int 1), (.int 2), (.int 3)])]), (.tup []), (.tup [])]), (.tup [(.tup [(.tup [(.int 1)])]), (.tup []), (.tup [(.tup [(.int 2)])])]), (.tup [(.tup [(.tup [(.int 1), (.int 2), (.int 3)])]), (.tup []), (.tup [(.tup [])])]), (.tup [(.tup [(.tup [(.int 1), (.int 2), (.int 3)])]), (.tup []), (.tup [(.tup [(.int 2)]), (.tup [(.int 1), (.int 2)])])]), (.tup [(.tup [(.tup [(.int 1), (.int 2), (.int 3)])]), (.tup []), (.tup [(.tup [(.int 2)]), (.tup [(.int 2)])])]), (.tup [(.tup [(.tup [(.int 2), (.int 1)])]), (.tup []), (.tup [])]), (.tup [(.tup [(.tup [(.int 1), (.int 1)])]), (.tup []), (.tup [])]), (.tup [(.tup [(.tup [(.int 1), (.int 2), (.int 3)]), (.tup [(.int 4)])]), (.tup [(.int 1)]), (.tup [])]), (.tup [(.tup [(.tup [(.int 1), (.int 2), (.int 3)]), (.tup [(.int 1)])]), (.tup [(.int 0)]), (.tup [])]), (.tup [(.tup [(.tup [(.int 1), (.int 2), (.int 3)]), (.tup [(.int 1)])]), (.tup [(.bl true)]), (.tup [])]), (.lst [(.tup [(.int 1), (.int 2), (.int 3)]), (.tup []), (.tup [])]), (.tup [(.tup [(.tup [(.int 1), (.int 2), (.int 3)])]), (.tup [])]), (.int 0), .non, (.tup []), (.str "piece"), (.tup [(.tup [(.tup [(.int 1), (.int 2), (.int 3)])]), (.tup []), (.tup [(.tup [(.int 1)]), (.int 3)])]), (.tup [(.tup [(.int 1), (.int 2), (.int 3)]), (.tup []), (.tup [])])])), some (.v (.lst [(.tup [(.tup [(.tup [(.int 1), (.int 2), (.int 3)]), (.tup [(.int 1), (.int 2), (.int 3)]), (.tup [(.int 1), (.int 2), (.int 3)]), (.tup [(.int 1), (.int 2), (.int 3)]), (.tup [(.int 1), (.int 2), (.int 3)]), (.tup [(.int 1), (.int 2), (.int 3)]), (.tup [(.int 1), (.int 2), (.int 3)]), (.tup [(.int 1), (.int 2), (.int 3)]), (.tup [(.int 1), (.int 2), (.int 3)]), (.tup [(.int 1), (.int 2), (.int 3)])]), (.tup [(.int 1), (.int 1), (.int 1), (.int 1), (.int 1), (.int 1), (.int 1), (.int 1), (.int 1)]), (.tup [])]), (.tup [(.tup [(.tup [(.int 1), (.int 2), (.int 3)])]), (.tup []), (.tup [(.tup [(.int 1)]), (.tup [(.int 1), (.int 2)]), (.tup [(.int 1), (.int 2), (.int 3)]), (.tup [(.int 1), (.int 3)]), (.tup [(.int 2)]), (.tup [(.int 2), (.int 3)]), (.tup [(.int 3)])])]), (.tup [(.lst [(.tup [(.int 1), (.int 2), (.int 3)])]), (.tup []), (.tup [])]), (.tup [(.tup [(.tup [(.int 1), (.int 2), (.int 3)])]), (.lst []), (.tup [])]), (.tup [(.tup [(.tup [(.int 1), (.int 2), (.int 3)])]), (.tup []), (.lst [])])])), some (.v (.lst [(.tup [(.tup [(.str "later"), (.tup [(.str "letter"), (.tup [(.int 2)])])]), (.tup [(.tup [(.tup [(.tup [(.int 1), (.int 2), (.int 3)])]), (.tup []), (.tup [(.tup [(.int 2)])])]), (.tup [(.tup [(.tup [(.int 1), (.int 2), (.int 3)]), (.tup [(.int 1), (.int 3)])]), (.tup [(.int 2)]), (.tup [])])])]), (.tup [(.tup [(.str "not"), (.tup [(.str "later"), (.tup [(.str "not"), (.tup [(.str "later"), (.tup [(.str "letter"), (.tup [(.int 2)])])])])])]), (.tup [(.tup [(.tup [(.tup [(.int 1), (.int 2), (.int 3)])]), (.tup []), (.tup [(.tup [(.int 2)])])])])]), (.tup [(.tup [(.str "and"), (.tup [(.str "later"), (.tup [(.str "letter"), (.tup [(.int 2)])])]), (.tup [(.str "not"), (.tup [(.str "later"), (.tup [(.str "and"), (.tup [(.str "letter"), (.tup [(.int 2)])]), (.tup [(.str "later"), (.tup [(.str "letter"), (.tup [(.int 2)])])])])])])]), (.tup [(.tup [(.tup [(.tup [(.int 1), (.int 3)]), (.tup [(.int 1), (.int 3)])]), (.tup [(.int 2)]), (.tup [])])])]), (.tup [(.tup [(.str "later"), (.tup [(.str "and"), (.tup [(.str "letter"), (.tup [(.int 2)])]), (.tup [(.str "not"), (.tup [(.str "ahead"), (.tup [(.str "yes")])])])])]), (.tup [(.tup [(.tup [(.tup []), (.tup [(.int 1), (.int 2), (.int 3)])]), (.tup [(.int 2)]), (.tup [])])])]), (.tup [(.tup [(.str "yes")]), (.tup [(.tup [(.tup [(.tup [(.int 1), (.int 2), (.int 3)])]), (.tup []), (.tup [])])])]), (.tup [(.tup [(.str "not"), (.tup [(.str "yes")])]), (.tup [])]), (.tup [(.tup [(.str "letter"), (.tup [(.int 2)])]), (.tup [])]), (.tup [(.tup [(.str "and"), (.tup [(.str "not"), (.tup [(.str "later"), (.tup [(.str "not"), (.tup [(.str "later"), (.tup [(.str "letter"), (.tup [(.int 2)])])])])])]), (.tup [(.str "not"), (.tup [(.str "later"), (.tup [(.str "not"), (.tup [(.str "later"), (.tup [(.str "letter"), (.tup [(.int 1), (.int 3)])])])])])])]), (.tup [(.tup [(.tup [(.tup [(.int 1), (.int 2), (.int 3)])]), (.tup []), (.tup [(.tup [(.int 1), (.int 3)]), (.tup [(.int 2)])])])])])])), some (.v (.tup [(.str "and"), (.tup [(.str "not"), (.tup [(.str "later"), (.tup [(.str "not"), (.tup [(.str "later"), (.tup [(.str "letter"), (.tup [(.int 2)])])])])])]), (.tup [(.str "not"), (.tup [(.str "later"), (.tup [(.str "not"), (.tup [(.str "later"), (.tup [(.str "letter"), (.tup [(.int 1), (.int 3)])])])])])])])), some (.v (.tup [(.tup [(.tup [(.tup [(.int 1), (.int 2), (.int 3)])]), (.tup []), (.tup [(.tup [(.int 1), (.int 3)]), (.tup [(.int 2)])])])])), some (.v (.lst [(.tup [(.tup [(.str "later"), (.tup [(.str "letter"), (.tup [(.int 2)])])]), (.tup [(.tup [(.tup [(.int 2)])]), (.tup []), (.tup [(.tup [(.int 2)])])])])])), none, none, none, none, none, none, none, none, none, none, none, none, none, none, none, none]
def st3 : Sl := [some (.v (.int 3)), some (.v (.tup [(.int 1), (.int 2), (.int 3)])), some (.v (.tup [(.int 1), (.int 2)])), some (.v (.tup [(.str "letter"), (.tup [(.int 3)])])), some (.v (.tup [(.str "yes")])), some (.v (.tup [(.str "later"), (.tup [(.str "letter"), (.tup [(.int 3)])])])), some (.v (.tup [(.str "not"), (.tup [(.str "yes")])])), some (.v (.tup [(.str "later"), (.tup [(.str "letter"), (.tup [(.int 1), (.int 2)])])])), some (.v (.tup [(.str "not"), (.tup [(.str "later"), (.tup [(.str "not"), (.tup [(.str "later"), (.tup [(.str "letter"), (.tup [(.int 3)])])])])])])), some (.v (.tup [(.str "and"), (.tup [(.str "later"), (.tup [(.str "letter"), (.tup [(.int 3)])])]), (.tup [(.str "not"), (.tup [(.str "later"), (.tup [(.str "and"), (.tup [(.str "letter"), (.tup [(.int 3)])]), (.tup [(.str "later"), (.tup [(.str "letter"), (.tup [(.int 3)])])])])])])])), some (.v (.tup [(.str "later"), (.tup [(.str "and"), (.tup [(.str "letter"), (.tup [(.int 3)])]), (.tup [(.str "not"), (.tup [(.str "ahead"), (.tup [(.str "yes")])])])])])), some (.v (.tup [(.str "and"), (.tup [(.str "not"), (.tup [(.str "later"), (.tup [(.str "not"), (.tup [(.str "later"), (.tup [(.str "letter"), (.tup [(.int 3)])])])])])]), (.tup [(.str "not"), (.tup [(.str "later"), (.tup [(.str "not"), (.tup [(.str "later"), (.tup [(.str "letter"), (.tup [(.int 1), (.int 2)])])])])])])])), some (.v (.lst [(.tup [(.tup [(.tup [(.int 1), (.int 2), (.int 3)])]), (.tup []), (.tup [])]), (.tup [(.tup [(.tup []), (.tup [(.int 2)])]), (.tup [(.int 1)]), (.tup [])]), (.tup [(.tup [(.tup [(.int 1), (.int 3)]), (.tup []), (.tup [(.int 3)])]), (.tup [(.int 2), (.int 2)]), (.tup [(.tup [(.int 3)])])]), (.tup [(.tup [(.tup [(.int 1), (.int 2), (.int 3)]), (.tup [(.int 1), (.int 2), (.int 3)]), (.tup [(.int 1), (.int 2), (.int 3)]), (.tup [(.int 1), (.int 2), (.int 3)]), (.tup [(.int 1), (.int 2), (.int 3)]), (.tup [(.int 1), (.int 2), (.int 3)]), (.tup [(.int 1), (.int 2), (.int 3)]), (.tup [(.int 1), (.int 2), (.int 3)]), (.tup [(.int 1), (.int 2), (.int 3)])]), (.tup [(.int 1), (.int 1), (.int 1), (.int 1), (.int 1), (.int 1), (.int 1), (.int 1)]), (.tup [])]), (.tup [(.tup [(.tup [(.int 1), (.int 2), (.int 3)])]), (.tup []), (.tup [(.tup [(.int 1)]), (.tup [(.int 1), (.int 2)]), (.tup [(.int 1), (.int 2), (.int 3)]), (.tup [(.int 1), (.int 3)]), (.tup [(.int 2)]), (.tup [(.int 2), (.int 3)])])]), (.tup [(.tup [(.tup [(.int 1), (.int 2), (.int 3)])]), (.tup []), (.tup [(.tup [(.int 1), (.int 2)]), (.tup [(.int 2)])])])])), some (.v (.lst [(.tup [(.tup [(.tup [])]), (.tup []), (.tup [])]), (.tup [(.tup [(.tup [(.int 1), (.int 2), (.int 3)])]), (.tup [(.int 1)]), (.tup [])]), (.tup [(.tup [(.tup [(.int 1), (.int 2), (.int 3)]), (.tup [(.int 1), (.int 2), (.int 3)])]), (.tup []), (.tup [])]), (.tup [(.tup [(.tup [(.int 1)])]), (.tup []), (.tup [(.tup [(.int 2)])])]), (.tup [(.tup [(.tup [(.int 1), (.int 2), (.int 3)])]), (.tup []), (.tup [(.tup [])])]), (.tup [(.tup [(.tup [(.int 1), (.int 2), (.int 3)])]), (.tup []), (.tup [(.tup [(.int 2)]), (.tup [(.int 1), (.int 2)])])]), (.tup [(.tup [(.tup [(.int 1), (.int 2), (.int 3)])]), (.tup []), (.tup [(.tup [(.int 2)]), (.tup [(.int 2)])])]), (.tup [(.tup [(.tup [(.int 2), (.int 1)])]), (.tup []), (.tup [])]), (.tup [(.tup [(.tup [(.int 1), (.int 1)])]), (.tup []), (.tup [])]), (.tup [(.tup [(.tup [(.int 1), (.int 2), (.int 3)]), (.tup [(.int 4)])]), (.tup [(.int 1)]), (.tup [])]), (.tup [(.tup [(.tup [(.int 1), (.int 2), (.int 3)]), (.tup [(.int 1)])]), (.tup [(.int 0)]), (.tup [])]), (.tup [(.tup [(.tup [(.int 1), (.int 2), (.int 3)]), (.tup [(.int 1)])]), (.tup [(.bl true)]), (.tup [])]), (.lst [(.tup [(.int 1), (.int 2), (.int 3)]), (.tup []), (.tup [])]), (.tup [(.tup [(.tup [(.int 1), (.int 2), (.int 3)])]), (.tup [])]), (.int 0), .non, (.tup []), (.str "piece"), (.tup [(.tup [(.tup [(.int 1), (.int 2), (.int 3)])]), (.tup []), (.tup [(.tup [(.int 1)]), (.int 3)])]), (.tup [(.tup [(.int 1), (.int 2), (.int 3)]), (.tup []), (.tup [])])])), some (.v (.lst [(.tup [(.tup [(.tup [(.int 1), (.int 2), (.int 3)]), (.tup [(.int 1), (.int 2), (.int 3)]), (.tup [(.int 1), (.int 2), (.int 3)]), (.tup [(.int 1), (.int 2), (.int 3)]), (.tup [(.int 1), (.int 2), (.int 3)]), (.tup [(.int 1), (.int 2), (.int 3)]), (.tup [(.int 1), (.int 2), (.int 3)]), (.tup [(.int 1), (.int 2), (.int 3)]), (.tup [(.int 1), (.int 2), (.int 3)]), (.tup [(.int 1), (.int 2), (.int 3)])]), (.tup [(.int 1), (.int 1), (.int 1), (.int 1), (.int 1), (.int 1), (.int 1), (.int 1), (.int 1)]), (.tup [])]), (.tup [(.tup [(.tup [(.int 1), (.int 2), (.int 3)])]), (.tup []), (.tup [(.tup [(.int 1)]), (.tup [(.int 1), (.int 2)]), (.tup [(.int 1), (.int 2), (.int 3)]), (.tup [(.int 1), (.int 3)]), (.tup [(.int 2)]), (.tup [(.int 2), (.int 3)]), (.tup [(.int 3)])])]), (.tup [(.lst [(.tup [(.int 1), (.int 2), (.int 3)])]), (.tup []), (.tup [])]), (.tup [(.tup [(.tup [(.int 1), (.int 2), (.int 3)])]), (.lst []), (.tup [])]), (.tup [(.tup [(.tup [(.int 1), (.int 2), (.int 3)])]), (.tup []), (.lst [])])])), some (.v (.lst [(.tup [(.tup [(.str "later"), (.tup [(.str "letter"), (.tup [(.int 3)])])]), (.tup [(.tup [(.tup [(.tup [(.int 1), (.int 2), (.int 3)])]), (.tup []), (.tup [(.tup [(.int 3)])])]), (.tup [(.tup [(.tup [(.int 1), (.int 2), (.int 3)]), (.tup [(.int 1), (.int 2)])]), (.tup [(.int 3)]), (.tup [])])])]), (.tup [(.tup [(.str "not"), (.tup [(.str "later"), (.tup [(.str "not"), (.tup [(.str "later"), (.tup [(.str "letter"), (.tup [(.int 3)])])])])])]), (.tup [(.tup [(.tup [(.tup [(.int 1), (.int 2), (.int 3)])]), (.tup []), (.tup [(.tup [(.int 3)])])])])]), (.tup [(.tup [(.str "and"), (.tup [(.str "later"), (.tup [(.str "letter"), (.tup [(.int 3)])])]), (.tup [(.str "not"), (.tup [(.str "later"), (.tup [(.str "and"), (.tup [(.str "letter"), (.tup [(.int 3)])]), (.tup [(.str "later"), (.tup [(.str "letter"), (.tup [(.int 3)])])])])])])]), (.tup [(.tup [(.tup [(.tup [(.int 1), (.int 2)]), (.tup [(.int 1), (.int 2)])]), (.tup [(.int 3)]), (.tup [])])])]), (.tup [(.tup [(.str "later"), (.tup [(.str "and"), (.tup [(.str "letter"), (.tup [(.int 3)])]), (.tup [(.str "not"), (.tup [(.str "ahead"), (.tup [(.str "yes")])])])])]), (.tup [(.tup [(.tup [(.tup []), (.tup [(.int 1), (.int 2), (.int 3)])]), (.tup [(.int 3)]), (.tup [])])])]), (.tup [(.tup [(.str "yes")]), (.tup [(.tup [(.tup [(.tup [(.int 1), (.int 2), (.int 3)])]), (.tup []), (.tup [])])])]), (.tup [(.tup [(.str "not"), (.tup [(.str "yes")])]), (.tup [])]), (.tup [(.tup [(.str "letter"), (.tup [(.int 3)])]), (.tup [])]), (.tup [(.tup [(.str "and"), (.tup [(.str "not"), (.tup [(.str "later"), (.tup [(.str "not"), (.tup [(.str "later"), (.tup [(.str "letter"), (.tup [(.int 3)])])])])])]), (.tup [(.str "not"), (.tup [(.str "later"), (.tup [(.str "not"), (.tup [(.str "later"), (.tup [(.str "letter"), (.tup [(.int 1), (.int 2)])])])])])])]), (.tup [(.tup [(.tup [(.tup [(.int 1), (.int 2), (.int 3)])]), (.tup []), (.tup [(.tup [(.int 1), (.int 2)]), (.tup [(.int 3)])])])])])])), some (.v (.tup [(.str "and"), (.tup [(.str "not"), (.tup [(.str "later"), (.tup [(.str "not"), (.tup [(.str "later"), (.tup [(.str "letter"), (.tup [(.int 3)])])])])])]), (.tup [(.str "not"), (.tup [(.str "later"), (.tup [(.str "not"), (.tup [(.str "later"), (.tup [(.str "letter"), (.tup [(.int 1), (.int 2)])])])])])])])), some (.v (.tup [(.tup [(.tup [(.tup [(.int 1), (.int 2), (.int 3)])]), (.tup []), (.tup [(.tup [(.int 1), (.int 2)]), (.tup [(.int 3)])])])])), some (.v (.lst [(.tup [(.tup [(.str "later"), (.tup [(.str "letter"), (.tup [(.int 3)])])]), (.tup [(.tup [(.tup [(.int 3)])]), (.tup []), (.tup [(.tup [(.int 3)])])])])])), none, none, none, none, none, none, none, none, none, none, none, none, none, none, none, none]
def stA : Nat → Sl
  | 0 => st1
  | 1 => st2
  | _ => st3
def PA : Sm := (mSeq law_2 (mSeq law_3 (mSeq law_4 (mSeq law_5 (mSeq law_6 (mSeq law_7 (mSeq law_8 (mSeq law_9 (mSeq law_10 (mSeq law_11 (mSeq law_12 (mSeq law_13 (mSeq law_14 (mSeq law_15 law_16))))))))))))))
def PC : Sm := (mSeq law_18 (mSeq law_19 (mSeq law_20 (mSeq law_21 (mSeq law_22 (mSeq law_23 (mSeq law_24 (mSeq law_25 (mSeq law_26 (mSeq law_27 (mSeq law_28 (mSeq law_29 (mSeq law_30 law_31)))))))))))))
theorem from2 : law_from_2 = mSeq PA law_from_17 := by unfold PA; simp only [seq_as]; rfl
theorem from18 : law_from_18 = mSeq PC law_from_32 := by unfold PC; simp only [seq_as]; rfl
abbrev S3 (sc : D) (ts : List D) (k : Option Sv) : Sl := some (.v sc) :: some (.m ts) :: k :: List.replicate 34 none
def Ov.same : Option Sv → Option Sv → Bool
  | none, none => true
  | some (.v a), some (.v b) => D.same a b
  | _, _ => false
theorem ov_eq {x y : Option Sv} (h : Ov.same x y = true) : x = y := by
  unfold Ov.same at h
  split at h
  · rfl
  · rw [same_eq _ _ h]
  · cases h
def Sl.same : Sl → Sl → Bool
  | [], [] => true
  | x :: xs, y :: ys => Ov.same x y && Sl.same xs ys
  | _, _ => false
theorem sl_eq : ∀ {x y : Sl}, Sl.same x y = true → x = y
  | [], [], _ => rfl
  | [], _ :: _, h => Bool.noConfusion (show false = true from h)
  | _ :: _, [], h => Bool.noConfusion (show false = true from h)
  | x :: xs, y :: ys, h => by
    rw [Sl.same, Bool.and_eq_true] at h
    rw [ov_eq h.1, sl_eq h.2]
def outc (r : Fl) (l : Sl) : Option (Option Sv × Option Sv) := match r with
  | .nx (a :: b :: rest) => if Sl.same rest l then some (a, b) else none
  | _ => none
theorem outc_eq {r : Fl} {l : Sl} {a b : Option Sv} (h : outc r l = some (a, b)) : r = .nx (a :: b :: l) := by
  unfold outc at h
  split at h
  · split at h
    · rename_i q; cases h; rw [sl_eq q]
    · cases h
  · cases h
section
variable {sc : D} {ts : List D}
theorem sA0 : outc (PA (S3 sc ts (some (.v (.int ((0 : Nat) + 1)))))) (stA 0) = some (some (.v sc), some (.m ts)) := by kernel_rfl
theorem sA1 : outc (PA (S3 sc ts (some (.v (.int ((1 : Nat) + 1)))))) (stA 1) = some (some (.v sc), some (.m ts)) := by kernel_rfl
theorem sA2 : outc (PA (S3 sc ts (some (.v (.int ((2 : Nat) + 1)))))) (stA 2) = some (some (.v sc), some (.m ts)) := by kernel_rfl
theorem sA : ∀ {j : Nat}, j < 3 → PA (S3 sc ts (some (.v (.int ((j : Int) + 1))))) = .nx (some (.v sc) :: some (.m ts) :: stA j)
  | 0, _ => outc_eq sA0
  | 1, _ => outc_eq sA1
  | 2, _ => outc_eq sA2
  | _ + 3, h => absurd h (by omega)
def restL : Nat → List D
  | 0 => [.int 2, .int 3]
  | 1 => [.int 1, .int 3]
  | _ => [.int 1, .int 2]
def oth (j i : Nat) : D := (restL j).getD i .non
def mid (j m i : Nat) : Sl := ((stA j).set 19 (some (.v (.int m)))).set 20 (some (.v (oth j i)))
def onek (j : Nat) : D := .tup [.str "letter", .tup [.int ((j : Int) + 1)]]
def lat (d : D) : D := .tup [.str "later", d]
def seesk (j : Nat) : D := lat (onek j)
def deepk (j : Nat) : D := lat (lat (lat (lat (lat (lat (lat (onek j)))))))
def every : D := .tup [.int 1, .int 2, .int 3]
def loosek (j : Nat) : D := .tup [.tup [every, every], .tup [.int ((j : Int) + 1)], .tup []]
def endl (j m i : Nat) : D := .tup [.tup (List.replicate m (oth j i)), .tup [.int ((j : Int) + 1), oth j i]]
def bads : List D := match (st1[13]? : Option (Option Sv)) with
  | some (some (.v (.lst ds))) => ds
  | _ => []
def isV : Option (Option Sv) → Bool
  | some (some (.v _)) => true
  | _ => false
def isD (x : Option (Option Sv)) (d : D) : Bool := match x with
  | some (some (.v e)) => D.same e d
  | _ => false
def isU : Option (Option Sv) → Bool
  | some none => true
  | _ => false
def pC (j m i : Nat) (l : Sl) : Bool := decide (l.length = 35) && isD l[4]? (.tup [.str "yes"]) && isD l[5]? (seesk j) && isD l[13]? (.lst bads) && isD l[22]? (endl j m i) && isD l[25]? (loosek j) && isD l[27]? (deepk j) && isU l[29]? && isU l[30]? && isU l[33]?
def outd (r : Fl) (p : Sl → Bool) : Option (Option Sv × Option Sv) := match r with
  | .nx (a :: b :: rest) => if p rest then some (a, b) else none
  | _ => none
theorem outd_eq {r : Fl} {p : Sl → Bool} {a b : Option Sv} (h : outd r p = some (a, b)) : ∃ l, r = .nx (a :: b :: l) ∧ p l = true := by
  unfold outd at h
  split at h
  · split at h
    · rename_i q; cases h; exact ⟨_, rfl, q⟩
    · cases h
  · cases h
theorem sC000 : outd (PC (some (.v sc) :: some (.m ts) :: mid 0 0 0)) (pC 0 0 0) = some (some (.v sc), some (.m ts)) := by kernel_rfl
theorem sC001 : outd (PC (some (.v sc) :: some (.m ts) :: mid 0 0 1)) (pC 0 0 1) = some (some (.v sc), some (.m ts)) := by kernel_rfl
theorem sC010 : outd (PC (some (.v sc) :: some (.m ts) :: mid 0 1 0)) (pC 0 1 0) = some (some (.v sc), some (.m ts)) := by kernel_rfl
theorem sC011 : outd (PC (some (.v sc) :: some (.m ts) :: mid 0 1 1)) (pC 0 1 1) = some (some (.v sc), some (.m ts)) := by kernel_rfl
theorem sC020 : outd (PC (some (.v sc) :: some (.m ts) :: mid 0 2 0)) (pC 0 2 0) = some (some (.v sc), some (.m ts)) := by kernel_rfl
theorem sC021 : outd (PC (some (.v sc) :: some (.m ts) :: mid 0 2 1)) (pC 0 2 1) = some (some (.v sc), some (.m ts)) := by kernel_rfl
theorem sC030 : outd (PC (some (.v sc) :: some (.m ts) :: mid 0 3 0)) (pC 0 3 0) = some (some (.v sc), some (.m ts)) := by kernel_rfl
theorem sC031 : outd (PC (some (.v sc) :: some (.m ts) :: mid 0 3 1)) (pC 0 3 1) = some (some (.v sc), some (.m ts)) := by kernel_rfl
theorem sC040 : outd (PC (some (.v sc) :: some (.m ts) :: mid 0 4 0)) (pC 0 4 0) = some (some (.v sc), some (.m ts)) := by kernel_rfl
theorem sC041 : outd (PC (some (.v sc) :: some (.m ts) :: mid 0 4 1)) (pC 0 4 1) = some (some (.v sc), some (.m ts)) := by kernel_rfl
theorem sC050 : outd (PC (some (.v sc) :: some (.m ts) :: mid 0 5 0)) (pC 0 5 0) = some (some (.v sc), some (.m ts)) := by kernel_rfl
theorem sC051 : outd (PC (some (.v sc) :: some (.m ts) :: mid 0 5 1)) (pC 0 5 1) = some (some (.v sc), some (.m ts)) := by kernel_rfl
theorem sC100 : outd (PC (some (.v sc) :: some (.m ts) :: mid 1 0 0)) (pC 1 0 0) = some (some (.v sc), some (.m ts)) := by kernel_rfl
theorem sC101 : outd (PC (some (.v sc) :: some (.m ts) :: mid 1 0 1)) (pC 1 0 1) = some (some (.v sc), some (.m ts)) := by kernel_rfl
theorem sC110 : outd (PC (some (.v sc) :: some (.m ts) :: mid 1 1 0)) (pC 1 1 0) = some (some (.v sc), some (.m ts)) := by kernel_rfl
theorem sC111 : outd (PC (some (.v sc) :: some (.m ts) :: mid 1 1 1)) (pC 1 1 1) = some (some (.v sc), some (.m ts)) := by kernel_rfl
theorem sC120 : outd (PC (some (.v sc) :: some (.m ts) :: mid 1 2 0)) (pC 1 2 0) = some (some (.v sc), some (.m ts)) := by kernel_rfl
theorem sC121 : outd (PC (some (.v sc) :: some (.m ts) :: mid 1 2 1)) (pC 1 2 1) = some (some (.v sc), some (.m ts)) := by kernel_rfl
theorem sC130 : outd (PC (some (.v sc) :: some (.m ts) :: mid 1 3 0)) (pC 1 3 0) = some (some (.v sc), some (.m ts)) := by kernel_rfl
theorem sC131 : outd (PC (some (.v sc) :: some (.m ts) :: mid 1 3 1)) (pC 1 3 1) = some (some (.v sc), some (.m ts)) := by kernel_rfl
theorem sC140 : outd (PC (some (.v sc) :: some (.m ts) :: mid 1 4 0)) (pC 1 4 0) = some (some (.v sc), some (.m ts)) := by kernel_rfl
theorem sC141 : outd (PC (some (.v sc) :: some (.m ts) :: mid 1 4 1)) (pC 1 4 1) = some (some (.v sc), some (.m ts)) := by kernel_rfl
theorem sC150 : outd (PC (some (.v sc) :: some (.m ts) :: mid 1 5 0)) (pC 1 5 0) = some (some (.v sc), some (.m ts)) := by kernel_rfl
theorem sC151 : outd (PC (some (.v sc) :: some (.m ts) :: mid 1 5 1)) (pC 1 5 1) = some (some (.v sc), some (.m ts)) := by kernel_rfl
theorem sC200 : outd (PC (some (.v sc) :: some (.m ts) :: mid 2 0 0)) (pC 2 0 0) = some (some (.v sc), some (.m ts)) := by kernel_rfl
theorem sC201 : outd (PC (some (.v sc) :: some (.m ts) :: mid 2 0 1)) (pC 2 0 1) = some (some (.v sc), some (.m ts)) := by kernel_rfl
theorem sC210 : outd (PC (some (.v sc) :: some (.m ts) :: mid 2 1 0)) (pC 2 1 0) = some (some (.v sc), some (.m ts)) := by kernel_rfl
theorem sC211 : outd (PC (some (.v sc) :: some (.m ts) :: mid 2 1 1)) (pC 2 1 1) = some (some (.v sc), some (.m ts)) := by kernel_rfl
theorem sC220 : outd (PC (some (.v sc) :: some (.m ts) :: mid 2 2 0)) (pC 2 2 0) = some (some (.v sc), some (.m ts)) := by kernel_rfl
theorem sC221 : outd (PC (some (.v sc) :: some (.m ts) :: mid 2 2 1)) (pC 2 2 1) = some (some (.v sc), some (.m ts)) := by kernel_rfl
theorem sC230 : outd (PC (some (.v sc) :: some (.m ts) :: mid 2 3 0)) (pC 2 3 0) = some (some (.v sc), some (.m ts)) := by kernel_rfl
theorem sC231 : outd (PC (some (.v sc) :: some (.m ts) :: mid 2 3 1)) (pC 2 3 1) = some (some (.v sc), some (.m ts)) := by kernel_rfl
theorem sC240 : outd (PC (some (.v sc) :: some (.m ts) :: mid 2 4 0)) (pC 2 4 0) = some (some (.v sc), some (.m ts)) := by kernel_rfl
theorem sC241 : outd (PC (some (.v sc) :: some (.m ts) :: mid 2 4 1)) (pC 2 4 1) = some (some (.v sc), some (.m ts)) := by kernel_rfl
theorem sC250 : outd (PC (some (.v sc) :: some (.m ts) :: mid 2 5 0)) (pC 2 5 0) = some (some (.v sc), some (.m ts)) := by kernel_rfl
theorem sC251 : outd (PC (some (.v sc) :: some (.m ts) :: mid 2 5 1)) (pC 2 5 1) = some (some (.v sc), some (.m ts)) := by kernel_rfl
theorem sC : ∀ {j m i : Nat}, j < 3 → m < 6 → i < 2 → ∃ l, PC (some (.v sc) :: some (.m ts) :: mid j m i) = .nx (some (.v sc) :: some (.m ts) :: l) ∧ pC j m i l = true
  | 0, 0, 0, _, _, _ => outd_eq sC000
  | 0, 0, 1, _, _, _ => outd_eq sC001
  | 0, 1, 0, _, _, _ => outd_eq sC010
  | 0, 1, 1, _, _, _ => outd_eq sC011
  | 0, 2, 0, _, _, _ => outd_eq sC020
  | 0, 2, 1, _, _, _ => outd_eq sC021
  | 0, 3, 0, _, _, _ => outd_eq sC030
  | 0, 3, 1, _, _, _ => outd_eq sC031
  | 0, 4, 0, _, _, _ => outd_eq sC040
  | 0, 4, 1, _, _, _ => outd_eq sC041
  | 0, 5, 0, _, _, _ => outd_eq sC050
  | 0, 5, 1, _, _, _ => outd_eq sC051
  | 1, 0, 0, _, _, _ => outd_eq sC100
  | 1, 0, 1, _, _, _ => outd_eq sC101
  | 1, 1, 0, _, _, _ => outd_eq sC110
  | 1, 1, 1, _, _, _ => outd_eq sC111
  | 1, 2, 0, _, _, _ => outd_eq sC120
  | 1, 2, 1, _, _, _ => outd_eq sC121
  | 1, 3, 0, _, _, _ => outd_eq sC130
  | 1, 3, 1, _, _, _ => outd_eq sC131
  | 1, 4, 0, _, _, _ => outd_eq sC140
  | 1, 4, 1, _, _, _ => outd_eq sC141
  | 1, 5, 0, _, _, _ => outd_eq sC150
  | 1, 5, 1, _, _, _ => outd_eq sC151
  | 2, 0, 0, _, _, _ => outd_eq sC200
  | 2, 0, 1, _, _, _ => outd_eq sC201
  | 2, 1, 0, _, _, _ => outd_eq sC210
  | 2, 1, 1, _, _, _ => outd_eq sC211
  | 2, 2, 0, _, _, _ => outd_eq sC220
  | 2, 2, 1, _, _, _ => outd_eq sC221
  | 2, 3, 0, _, _, _ => outd_eq sC230
  | 2, 3, 1, _, _, _ => outd_eq sC231
  | 2, 4, 0, _, _, _ => outd_eq sC240
  | 2, 4, 1, _, _, _ => outd_eq sC241
  | 2, 5, 0, _, _, _ => outd_eq sC250
  | 2, 5, 1, _, _, _ => outd_eq sC251
  | _ + 3, _, _, h, _, _ => absurd h (by omega)
  | _, _ + 6, _, _, h, _ => absurd h (by omega)
  | _, _, _ + 2, _, _, h => absurd h (by omega)
end
end W

set_option Elab.async false
set_option linter.all false
set_option maxRecDepth 100000
set_option maxHeartbeats 4000000
namespace W
open PySem PySem.Spec F
abbrev SD (sc : D) (ts : List D) (u : Nat → Option Sv) (se en lo de : D) (g w v dr : Option Sv) : Sl := (some (.v sc) :: some (.m ts) :: ([u 0, u 1, u 2, u 3, some (.v (.tup [.str "yes"])), some (.v se), u 6, u 7, u 8, u 9, u 10, u 11, u 12, some (.v (.lst bads)), u 14, u 15, u 16, u 17] ++ [u 18, u 19, u 20, u 21, some (.v en), u 23, g, some (.v lo), u 26, some (.v de), u 28, w, v, u 31, u 32, dr, u 34]))
theorem getD_range (l : Sl) : l = (List.range l.length).map fun i => l.getD i none := by
  refine List.ext_getElem (by simp) fun i h1 h2 => ?_
  simp [List.getD_eq_getElem?_getD, h1]
theorem isD_eq {l : Sl} {n : Nat} {d : D} (h : isD l[n]? d = true) : l.getD n none = some (.v d) := by
  unfold isD at h
  rw [List.getD_eq_getElem?_getD]
  split at h
  · rename_i e q; rw [q, same_eq _ _ h]; rfl
  · cases h
theorem isU_eq {l : Sl} {n : Nat} (h : isU l[n]? = true) : l.getD n none = none := by
  unfold isU at h
  rw [List.getD_eq_getElem?_getD]
  split at h
  · rename_i q; rw [q]; rfl
  · cases h
theorem sd_of {sc : D} {ts : List D} {j m i : Nat} {l : Sl} (h : pC j m i l = true) : ∃ u g, some (.v sc) :: some (.m ts) :: l = SD sc ts u (seesk j) (endl j m i) (loosek j) (deepk j) g none none none := by
  unfold pC at h
  simp only [Bool.and_eq_true, decide_eq_true_eq] at h
  obtain ⟨⟨⟨⟨⟨⟨⟨⟨⟨hl, h4⟩, h5⟩, h13⟩, h22⟩, h25⟩, h27⟩, h29⟩, h30⟩, h33⟩ := h
  refine ⟨fun n => l.getD n none, l.getD 24 none, ?_⟩
  have e := getD_range l
  rw [hl] at e
  refine congrArg (fun z => some (Sv.v sc) :: some (Sv.m ts) :: z) (e.trans ?_)
  rw [← isD_eq h4, ← isD_eq h5, ← isD_eq h13, ← isD_eq h22, ← isD_eq h25, ← isD_eq h27]
  have a := isU_eq h29
  have b := isU_eq h30
  have c := isU_eq h33
  show [l.getD 0 none, l.getD 1 none, l.getD 2 none, l.getD 3 none, l.getD 4 none, l.getD 5 none, l.getD 6 none, l.getD 7 none, l.getD 8 none, l.getD 9 none, l.getD 10 none, l.getD 11 none, l.getD 12 none, l.getD 13 none, l.getD 14 none, l.getD 15 none, l.getD 16 none, l.getD 17 none, l.getD 18 none, l.getD 19 none, l.getD 20 none, l.getD 21 none, l.getD 22 none, l.getD 23 none, l.getD 24 none, l.getD 25 none, l.getD 26 none, l.getD 27 none, l.getD 28 none, l.getD 29 none, l.getD 30 none, l.getD 31 none, l.getD 32 none, l.getD 33 none, l.getD 34 none] = [l.getD 0 none, l.getD 1 none, l.getD 2 none, l.getD 3 none, l.getD 4 none, l.getD 5 none, l.getD 6 none, l.getD 7 none, l.getD 8 none, l.getD 9 none, l.getD 10 none, l.getD 11 none, l.getD 12 none, l.getD 13 none, l.getD 14 none, l.getD 15 none, l.getD 16 none, l.getD 17 none] ++ [l.getD 18 none, l.getD 19 none, l.getD 20 none, l.getD 21 none, l.getD 22 none, l.getD 23 none, l.getD 24 none, l.getD 25 none, l.getD 26 none, l.getD 27 none, l.getD 28 none, none, none, l.getD 31 none, l.getD 32 none, none, l.getD 34 none]
  rw [a, b, c]; rfl
theorem lc_nil {vs : List Nat} {t : Tg} {c : Sl → R Bool} {e : Ev} {sl : Sl} : lcL vs t c e [] sl = some ([], sl) := rfl
theorem lc_cons {vs : List Nat} {t : Tg} {e : Ev} {d x : D} {ds ys : List D} {sl sl1 sl3 sl4 : Sl} (hb : bindT t d (wipeD sl vs) = some sl1) (he : e sl1 = .ok (.v x) sl3) (hr : lcL vs t cYes e ds sl3 = some (ys, sl4)) : lcL vs t cYes e (d :: ds) sl = some (x :: ys, sl4) := by
  simp only [lcL, hb, cYes, he, hr]
theorem dLc_of {vs : List Nat} {t : Tg} {e : Ev} {it : Lv} {ds ys : List D} {sl sl1 slw : Sl} (hi : it sl = .ok ds sl1) (hn : noOwn sl1 vs = true) (hl : lcL vs t cYes e ds sl1 = some (ys, slw)) : dLc vs t cYes e it sl = .ok ys (merge sl1 slw vs) := by
  show (it sl).bind _ = _
  rw [hi]
  show (if noOwn sl1 vs = true then _ else _) = _
  rw [if_pos hn, hl]
def wrongs : List D := [.int 0, .non, .str "text", .tup [.tup [], .tup []], .tup [.tup [.int 1, .int 4], .tup [.int 1]], .tup [.tup [], .tup [.bl true]]]
def worses : List D := [.tup [.str "no"], .tup [.str "letter", .tup [.int 4]], .int 0, .non, .tup [.str "later"]]
def fours : List D := [.int 0, .int 4, .bl true, .non]
def U : D := .str "unfit"
def uf (n : Nat) : D := .lst (List.replicate n U)
def yes : D := .tup [.str "yes"]
theorem and2 {a b : Bool} (h : (a && b) = true) : a = true ∧ b = true := by cases a <;> cases b <;> first | exact ⟨rfl, rfl⟩ | cases h
theorem tb (e : D) : (bads.all fun b => isOk (M__law_try [.int 1, b, e, .int 0]) U && (isOk (M__law_try [.int 2, b, e, .int 0]) U && isOk (M__law_try [.int 3, b, e, .int 0]) U)) = true := by kernel_rfl
theorem tw (e : D) : (worses.all fun b => isOk (M__law_try [.int 4, .int 3, b, e]) U && isOk (M__law_try [.int 5, .int 3, b, e]) U) = true := by kernel_rfl
theorem tf (e : D) : (fours.all fun b => isOk (M__law_try [.int 0, b, yes, e]) U && (isOk (M__law_try [.int 4, b, yes, e]) U && isOk (M__law_try [.int 5, b, yes, e]) U)) = true := by kernel_rfl
theorem tl : ((List.range 3).all fun j => wrongs.all fun b => isOk (M__law_try [.int 1, loosek j, b, .int 0]) U && (isOk (M__law_try [.int 2, loosek j, b, .int 0]) U && isOk (M__law_try [.int 5, .int 3, seesk j, b]) U)) = true := by decide +kernel
def TM : D := .str "too much"
theorem td : ((List.range 3).all fun j => (List.range 6).all fun m => (List.range 2).all fun i => isOk (M__law_try [.int 4, .int 3, deepk j, endl j m i]) TM && isOk (M__law_try [.int 5, .int 3, deepk j, endl j m i]) TM) = true := by decide +kernel
section
variable {sc : D} {ts ts' : List D} {u : Nat → Option Sv} {se en lo de : D} {g w v dr : Option Sv}
theorem s32 {x : D} (q : M__law_of ts [.lst wrongs] = .ok (x, ts')) : law_32 (SD sc ts u se en lo de g w v dr) = .nx (SD sc ts' u se en lo de g (some (.v x)) v dr) := by
  simp only [wrongs] at q
  simp [law_32, q]
theorem s33 {x : D} (q : M__law_of ts [.lst worses] = .ok (x, ts')) : law_33 (SD sc ts u se en lo de g w v dr) = .nx (SD sc ts' u se en lo de g w (some (.v x)) dr) := by
  simp only [worses] at q
  simp [law_33, q]
abbrev eB : Ev := dCall 4 M__law_try (dCons (dVar 35) (dCons (dCallT 2 M__law_of (dCons (dVar 1) (dCons (dVar 15) dNil))) (dCons (dVar 24) (dCons (dC (.int 0)) dNil))))
theorem eB_ok {d b : D} (q : M__law_of ts [.lst bads] = .ok (b, ts')) (h : M__law_try [d, b, en, .int 0] = .ok U) : eB (SD sc ts u se en lo de g w v (some (.v d))) = .ok (.v U) (SD sc ts' u se en lo de g w v (some (.v d))) := by
  simp [eB, q, h]
abbrev eF : Ev := dCall 4 M__law_try (dCons (dVar 35) (dCons (dCallT 2 M__law_of (dCons (dVar 1) (dCons (dL (dItems (dCons (dC (.int 0)) (dCons (dC (.int 4)) (dCons (dC (.bl true)) (dCons (dC .non) dNil)))))) dNil))) (dCons (dVar 6) (dCons (dVar 24) dNil))))
theorem eF_ok {d b : D} (q : M__law_of ts [.lst fours] = .ok (b, ts')) (h : M__law_try [d, b, yes, en] = .ok U) : eF (SD sc ts u se en lo de g w v (some (.v d))) = .ok (.v U) (SD sc ts' u se en lo de g w v (some (.v d))) := by
  simp only [fours] at q
  simp only [yes] at h
  simp [eF, q, h]
theorem c34 {ts1 ts2 ts3 : List D} {b1 b2 b3 : D} (q1 : M__law_of ts [.lst bads] = .ok (b1, ts1)) (q2 : M__law_of ts1 [.lst bads] = .ok (b2, ts2)) (q3 : M__law_of ts2 [.lst bads] = .ok (b3, ts3))
    (h1 : M__law_try [.int 1, b1, en, .int 0] = .ok U) (h2 : M__law_try [.int 2, b2, en, .int 0] = .ok U) (h3 : M__law_try [.int 3, b3, en, .int 0] = .ok U) :
    dLc [35] (.nm 35) cYes eB (iSeq (dTup (dCons (dC (.int 1)) (dCons (dC (.int 2)) (dCons (dC (.int 3)) dNil))))) (SD sc ts u se en lo de g w v none) = .ok [U, U, U] (SD sc ts3 u se en lo de g w v none) :=
  dLc_of (ds := [.int 1, .int 2, .int 3]) rfl rfl (lc_cons rfl (eB_ok q1 h1) (lc_cons rfl (eB_ok q2 h2) (lc_cons rfl (eB_ok q3 h3) lc_nil)))
theorem c35 {ts1 ts2 ts3 : List D} {b1 b2 b3 : D} (q1 : M__law_of ts [.lst fours] = .ok (b1, ts1)) (q2 : M__law_of ts1 [.lst fours] = .ok (b2, ts2)) (q3 : M__law_of ts2 [.lst fours] = .ok (b3, ts3))
    (h1 : M__law_try [.int 0, b1, yes, en] = .ok U) (h2 : M__law_try [.int 4, b2, yes, en] = .ok U) (h3 : M__law_try [.int 5, b3, yes, en] = .ok U) :
    dLc [35] (.nm 35) cYes eF (iSeq (dTup (dCons (dC (.int 0)) (dCons (dC (.int 4)) (dCons (dC (.int 5)) dNil))))) (SD sc ts u se en lo de g w v none) = .ok [U, U, U] (SD sc ts3 u se en lo de g w v none) :=
  dLc_of (ds := [.int 0, .int 4, .int 5]) rfl rfl (lc_cons rfl (eF_ok q1 h1) (lc_cons rfl (eF_ok q2 h2) (lc_cons rfl (eF_ok q3 h3) lc_nil)))
theorem andT {p q : Ev} {sl : Sl} {c : Bool} (h : p sl = .ok (.v (.bl true)) sl) (h2 : q sl = .ok (.v (.bl c)) sl) : dAnd p q sl = .ok (.v (.bl c)) sl := by
  rw [ev_dAnd, h, ev_bind_ok, ev_asB, ev_bind_ok, if_pos rfl, h2]
theorem binS {f : D → D → Re D} {p q : Ev} {sl sl1 sl2 : Sl} {x y z : D} (hp : p sl = .ok (.v x) sl1) (hq : q sl1 = .ok (.v y) sl2) (h : f x y = .ok z) : dBin f p q sl = .ok (.v z) sl2 := by
  rw [ev_dBin, hp, ev_bind_ok, hq, ev_bind_ok, ev_two h]
theorem l2 {e : Ev} {a b : Int} (h1 : e (SD sc ts u se en lo de g w v (some (.v (.int a)))) = .ok (.v U) (SD sc ts u se en lo de g w v (some (.v (.int a))))) (h2 : e (SD sc ts u se en lo de g w v (some (.v (.int b)))) = .ok (.v U) (SD sc ts u se en lo de g w v (some (.v (.int b))))) :
    dL (dLc [35] (.nm 35) cYes e (iSeq (dTup (dCons (dC (.int a)) (dCons (dC (.int b)) dNil))))) (SD sc ts u se en lo de g w v none) = .ok (.v (.lst [U, U])) (SD sc ts u se en lo de g w v none) := by
  have q : dLc [35] (.nm 35) cYes e (iSeq (dTup (dCons (dC (.int a)) (dCons (dC (.int b)) dNil)))) (SD sc ts u se en lo de g w v none) = .ok [U, U] (SD sc ts u se en lo de g w v none) := dLc_of (ds := [.int a, .int b]) rfl rfl (lc_cons rfl h1 (lc_cons rfl h2 lc_nil))
  show (dLc _ _ _ _ _ _).bind _ = _
  rw [q]; rfl
theorem cL {d x : D} (h : M__law_try [d, lo, x, .int 0] = .ok U) : dCall 4 M__law_try (dCons (dVar 35) (dCons (dVar 27) (dCons (dVar 31) (dCons (dC (.int 0)) dNil)))) (SD sc ts u se en lo de g (some (.v x)) v (some (.v d))) = .ok (.v U) (SD sc ts u se en lo de g (some (.v x)) v (some (.v d))) := by
  simp (maxDischargeDepth := 12) [h]
theorem cW {d x : D} (h : M__law_try [d, .int 3, x, en] = .ok U) : dCall 4 M__law_try (dCons (dVar 35) (dCons (dC (.int 3)) (dCons (dVar 32) (dCons (dVar 24) dNil)))) (SD sc ts u se en lo de g w (some (.v x)) (some (.v d))) = .ok (.v U) (SD sc ts u se en lo de g w (some (.v x)) (some (.v d))) := by
  simp (maxDischargeDepth := 12) [h]
theorem cD {d : D} (h : M__law_try [d, .int 3, de, en] = .ok TM) : dCall 4 M__law_try (dCons (dVar 35) (dCons (dC (.int 3)) (dCons (dVar 29) (dCons (dVar 24) dNil)))) (SD sc ts u se en lo de g w v (some (.v d))) = .ok (.v TM) (SD sc ts u se en lo de g w v (some (.v d))) := by
  simp (maxDischargeDepth := 12) [h]
theorem s34 {ts3 : List D} {x y : D} (c : dLc [35] (.nm 35) cYes eB (iSeq (dTup (dCons (dC (.int 1)) (dCons (dC (.int 2)) (dCons (dC (.int 3)) dNil))))) (SD sc ts u se en lo de g (some (.v x)) (some (.v y)) none) = .ok [U, U, U] (SD sc ts3 u se en lo de g (some (.v x)) (some (.v y)) none))
    (h1 : M__law_try [.int 1, lo, x, .int 0] = .ok U) (h2 : M__law_try [.int 2, lo, x, .int 0] = .ok U) (h3 : M__law_try [.int 4, .int 3, y, en] = .ok U) (h4 : M__law_try [.int 5, .int 3, y, en] = .ok U) :
    law_34 (SD sc ts u se en lo de g (some (.v x)) (some (.v y)) none) = .nx (SD sc ts3 u se en lo de (some (.v (uf 7))) (some (.v x)) (some (.v y)) none) := by
  have c0 : dL (dLc [35] (.nm 35) cYes eB (iSeq (dTup (dCons (dC (.int 1)) (dCons (dC (.int 2)) (dCons (dC (.int 3)) dNil)))))) (SD sc ts u se en lo de g (some (.v x)) (some (.v y)) none) = .ok (.v (.lst [U, U, U])) (SD sc ts3 u se en lo de g (some (.v x)) (some (.v y)) none) := by
    show (dLc _ _ _ _ _ _).bind _ = _
    rw [c]; rfl
  show mSet 26 (dBin dAdd (dBin dAdd (dL (dLc [35] (.nm 35) cYes eB (iSeq (dTup (dCons (dC (.int 1)) (dCons (dC (.int 2)) (dCons (dC (.int 3)) dNil))))))) _) _) _ = _
  have c1 := l2 (w := some (.v x)) (cL (se := se) (en := en) (sc := sc) (ts := ts3) (u := u) (lo := lo) (de := de) (g := g) (v := some (.v y)) h1) (cL h2)
  have c2 := l2 (w := some (.v x)) (cW (se := se) (lo := lo) (sc := sc) (ts := ts3) (u := u) (en := en) (de := de) (g := g) (w := some (.v x)) h3) (cW h4)
  refine (set_ok (binS (binS c0 c1 rfl) c2 rfl)).trans rfl
theorem s35 {ts3 : List D} {x : D} (c : dLc [35] (.nm 35) cYes eF (iSeq (dTup (dCons (dC (.int 0)) (dCons (dC (.int 4)) (dCons (dC (.int 5)) dNil))))) (SD sc ts u se en lo de (some (.v (uf 7))) (some (.v x)) v none) = .ok [U, U, U] (SD sc ts3 u se en lo de (some (.v (uf 7))) (some (.v x)) v none))
    (h1 : M__law_try [.int 5, .int 3, se, x] = .ok U) :
    law_35 (SD sc ts u se en lo de (some (.v (uf 7))) (some (.v x)) v none) = .nx (SD sc ts3 u se en lo de (some (.v (uf 12))) (some (.v x)) v none) := by
  have h2 : M__law_try [.int 5, .int 2, .tup [.str "later", .tup [.str "letter", .tup [.int 1]]], .tup [.tup [], .tup [.int 3]]] = .ok U := isOk_eq (by decide +kernel)
  have c0 : dL (dLc [35] (.nm 35) cYes eF (iSeq (dTup (dCons (dC (.int 0)) (dCons (dC (.int 4)) (dCons (dC (.int 5)) dNil)))))) (SD sc ts u se en lo de (some (.v (uf 7))) (some (.v x)) v none) = .ok (.v (.lst [U, U, U])) (SD sc ts3 u se en lo de (some (.v (uf 7))) (some (.v x)) v none) := by
    show (dLc _ _ _ _ _ _).bind _ = _
    rw [c]; rfl
  have cv : dVar 26 (SD sc ts u se en lo de (some (.v (uf 7))) (some (.v x)) v none) = .ok (.v (uf 7)) (SD sc ts u se en lo de (some (.v (uf 7))) (some (.v x)) v none) := rfl
  show mSet 26 (dBin dAdd (dBin dAdd (dVar 26) (dL (dLc [35] (.nm 35) cYes eF (iSeq (dTup (dCons (dC (.int 0)) (dCons (dC (.int 4)) (dCons (dC (.int 5)) dNil)))))))) _) _ = _
  simp only [ev_mSet, ev_dBin, cv, ev_bind_ok, c0]
  simp (maxDischargeDepth := 12) [h1, h2, uf, U, List.replicate]
theorem s36 (h1 : M__law_try [.int 4, .int 3, de, en] = .ok TM) (h2 : M__law_try [.int 5, .int 3, de, en] = .ok TM) : fin (law_36 (SD sc ts u se en lo de (some (.v (uf 12))) w v none)) = .ok (.bl true) := by
  have a : M__law_same 20 [uf 12, uf 12] = .ok (.bl true) := isOk_eq (by decide +kernel)
  have b : M__law_same 20 [.lst [TM, TM], .lst [TM, TM]] = .ok (.bl true) := isOk_eq (by decide +kernel)
  have q : dLc [35] (.nm 35) cYes (dCall 4 M__law_try (dCons (dVar 35) (dCons (dC (.int 3)) (dCons (dVar 29) (dCons (dVar 24) dNil))))) (iSeq (dTup (dCons (dC (.int 4)) (dCons (dC (.int 5)) dNil)))) (SD sc ts u se en lo de (some (.v (uf 12))) w v none) = .ok [TM, TM] (SD sc ts u se en lo de (some (.v (uf 12))) w v none) :=
    dLc_of (ds := [.int 4, .int 5]) rfl rfl (lc_cons rfl (cD h1) (lc_cons rfl (cD h2) lc_nil))
  have h : law_36 (SD sc ts u se en lo de (some (.v (uf 12))) w v none) = .rt (.v (.bl true)) (SD sc ts u se en lo de (some (.v (uf 12))) w v none) := by
    refine ret_ok (andT (call2_ok (p := dVar 26) (q := dL (dBinL dMulL (dL (dItems (dCons (dC (.str "unfit")) dNil))) (dC (.int 12)))) (y := uf 12) (var_ok rfl) rfl a) ?_)
    exact call2_ok (q := dL (dBinL dMulL (dL (dItems (dCons (dC (.str "too much")) dNil))) (dC (.int 2)))) (y := .lst [TM, TM]) (dL_ok q) rfl b
  exact run_rt h
end
theorem law_true : ∀ ns, ScriptOk ns → M_law [.scr (ns.map .int)] = .ok (.bl true) := fun ns ok => by
  obtain ⟨cs, ec⟩ := cells_law ns 1 (by decide) ok.1
  obtain ⟨ts, eb, t0⟩ := box_law cs 0
  have ec' : M__law_cells [.scr (ns.map .int), .int 1] = .ok (.lst (cs.map .int)) := ec
  have eb' : M__law_box [.lst (cs.map .int), .int 0] = .ok ts := eb
  obtain ⟨v1, ts1, q1, v10, v11, t1⟩ := take_law (below := 3) t0 (by decide) (by decide) (by decide)
  obtain ⟨j, rfl, hj⟩ := lt_nat (n := 3) v10 v11
  obtain ⟨v2, ts2, q2, v20, v21, t2⟩ := take_law (below := 6) t1 (by decide) (by decide) (by decide)
  obtain ⟨m, rfl, hm⟩ := lt_nat (n := 6) v20 v21
  obtain ⟨o, ts3, q3, ho, t3⟩ := of_law (gs := restL j) t2 (by decide) (by match j with | 0 => simp [restL] | 1 => simp [restL] | _ + 2 => simp [restL]) (by match j with | 0 => simp [restL] | 1 => simp [restL] | _ + 2 => simp [restL])
  have ⟨i, hi, ei⟩ : ∃ i, i < 2 ∧ o = oth j i := by
    match j with
    | 0 => simp only [restL, List.mem_cons, List.not_mem_nil, or_false] at ho; rcases ho with rfl | rfl; exact ⟨0, by decide, rfl⟩; exact ⟨1, by decide, rfl⟩
    | 1 => simp only [restL, List.mem_cons, List.not_mem_nil, or_false] at ho; rcases ho with rfl | rfl; exact ⟨0, by decide, rfl⟩; exact ⟨1, by decide, rfl⟩
    | _ + 2 => simp only [restL, List.mem_cons, List.not_mem_nil, or_false] at ho; rcases ho with rfl | rfl; exact ⟨0, by decide, rfl⟩; exact ⟨1, by decide, rfl⟩
  subst ei
  obtain ⟨x, ts4, q4, hx, t4⟩ := of_law (gs := wrongs) t3 (by decide) (by simp [wrongs]) (by simp [wrongs])
  obtain ⟨y, ts5, q5, hy, t5⟩ := of_law (gs := worses) t4 (by decide) (by simp [worses]) (by simp [worses])
  have lb : bads.length = 20 := by decide +kernel
  have nb : bads ≠ [] := fun h => by rw [h] at lb; cases lb
  obtain ⟨b1, ts6, q6, hb1, t6⟩ := of_law (gs := bads) t5 (by decide) nb (by rw [lb]; decide)
  obtain ⟨b2, ts7, q7, hb2, t7⟩ := of_law (gs := bads) t6 (by decide) nb (by rw [lb]; decide)
  obtain ⟨b3, ts8, q8, hb3, t8⟩ := of_law (gs := bads) t7 (by decide) nb (by rw [lb]; decide)
  obtain ⟨f1, ts9, q9, hf1, t9⟩ := of_law (gs := fours) t8 (by decide) (by simp [fours]) (by simp [fours])
  obtain ⟨f2, ts10, q10, hf2, t10⟩ := of_law (gs := fours) t9 (by decide) (by simp [fours]) (by simp [fours])
  obtain ⟨f3, ts11, q11, hf3, t11⟩ := of_law (gs := fours) t10 (by decide) (by simp [fours]) (by simp [fours])
  have s0 : law_0 (initS 37 [.scr (ns.map .int)]) = .nx (S3 (.scr (ns.map .int)) ts none) := by
    simp [law_0, dCallF, ec', eb', List.replicate]
  have s1 : law_1 (S3 (.scr (ns.map .int)) ts none) = .nx (S3 (.scr (ns.map .int)) ts1 (some (.v (.int ((j : Int) + 1))))) := by
    simp [law_1, q1, List.replicate, Int.add_comm]
  have s17 : law_17 (some (.v (.scr (ns.map .int))) :: some (.m ts1) :: stA j) = .nx (some (.v (.scr (ns.map .int))) :: some (.m ts3) :: mid j m i) := by
    match j, hj, q3 with
    | 0, _, q3 => simp only [restL] at q3; simp [law_17, stA, mid, st1, evCs, evC, setAll, q2, q3]
    | 1, _, q3 => simp only [restL] at q3; simp [law_17, stA, mid, st2, evCs, evC, setAll, q2, q3]
    | 2, _, q3 => simp only [restL] at q3; simp [law_17, stA, mid, st3, evCs, evC, setAll, q2, q3]
  obtain ⟨l, sC1, pl⟩ := sC (sc := .scr (ns.map .int)) (ts := ts3) hj hm hi
  obtain ⟨u, g, el⟩ := sd_of (sc := .scr (ns.map .int)) (ts := ts3) pl
  rw [el] at sC1
  have B1 := and2 (forD (tb (endl j m i)) hb1)
  have B2 := and2 (and2 (forD (tb (endl j m i)) hb2)).2
  have B3 := and2 (and2 (forD (tb (endl j m i)) hb3)).2
  have W1 := and2 (forD (tw (endl j m i)) hy)
  have F1 := and2 (forD (tf (endl j m i)) hf1)
  have F2 := and2 (and2 (forD (tf (endl j m i)) hf2)).2
  have F3 := and2 (and2 (forD (tf (endl j m i)) hf3)).2
  have L1 := and2 (forD (forN tl hj) hx)
  have L2 := and2 L1.2
  have D1 := and2 (forN (forN (forN td hj) hm) hi)
  show fin (law_from_0 (initS 37 [.scr (ns.map .int)])) = _
  rw [seq_step (whole := law_from_0) (a := law_0) (r := law_from_1) rfl s0, seq_step (whole := law_from_1) (a := law_1) (r := law_from_2) rfl s1, seq_step (r := law_from_17) from2 (sA hj), seq_step (whole := law_from_17) (a := law_17) (r := law_from_18) rfl s17,
    seq_step (r := law_from_32) from18 sC1, seq_step (whole := law_from_32) (a := law_32) (r := law_from_33) rfl (s32 q4), seq_step (whole := law_from_33) (a := law_33) (r := law_from_34) rfl (s33 q5),
    seq_step (whole := law_from_34) (a := law_34) (r := law_from_35) rfl (s34 (c34 q6 q7 q8 (isOk_eq B1.1) (isOk_eq B2.1) (isOk_eq B3.2)) (isOk_eq L1.1) (isOk_eq L2.1) (isOk_eq W1.1) (isOk_eq W1.2)),
    seq_step (whole := law_from_35) (a := law_35) (r := law_from_36) rfl (s35 (c35 q9 q10 q11 (isOk_eq F1.1) (isOk_eq F2.1) (isOk_eq F3.2)) (isOk_eq L2.2))]
  exact s36 (isOk_eq D1.1) (isOk_eq D1.2)
end W

set_option Elab.async false
set_option linter.all false
set_option maxRecDepth 100000
set_option maxHeartbeats 0
namespace W
open PySem PySem.Spec PyProof.Rows L2 F
/-! the top -/
theorem all_mk {l : PySem.W.OpenLaw} {w : World} {K : PySem.W.Frag} {h : Heap} {mg : Str → Option Value} {fa f0 f1 f2 f3 f4 f5 f6 f7 f8 f9 f10 f11 f12 f13 f14 f15 f16 f17 f18 f19 f20 f21 f22 f23 f24 f25 f26 f27 f28 f29 f30 f31 f32 f33 f34 f35 f36 f37 f38 f39 f40 f41 f42 f43 f44 f45 f46 f47 f48 f49 f50 f51 f52 f53 f54 f55 f56 f57 C0 C1 C2 K0 K1 : Addr} (X : K.In h) (Gn : h.Ns mainGlobals mg) (hfa : mg "law" = some (.ref fa))
    {od0 od1 od2 od3 od4 od5 od6 od7 od8 od9 od10 od11 od12 od13 od14 od15 od16 od17 od18 od19 od20 od21 od22 od23 od24 od25 od26 od27 od28 od29 od30 od31 od32 od33 od34 od35 od36 od37 od38 od39 od40 od41 od42 od43 od44 od45 od46 od47 od48 od49 od50 od51 od52 od53 od54 od55 od56 od57 an0 an1 an2 an3 an4 an5 an6 an7 an8 an9 an10 an11 an12 an13 an14 an15 an16 an17 an18 an19 an20 an21 an22 an23 an24 an25 an26 an27 an28 an29 an30 an31 an32 an33 an34 an35 an36 an37 an38 an39 an40 an41 an42 an43 an44 an45 an46 an47 an48 an49 an50 an51 an52 an53 an54 an55 an56 an57 : Option Addr} {sl0 sl1 sl2 sl3 sl4 sl5 sl6 sl7 sl8 sl9 sl10 sl11 sl12 sl13 sl14 sl15 sl16 sl17 sl18 sl19 sl20 sl21 sl22 sl23 sl24 sl25 sl26 sl27 sl28 sl29 sl30 sl31 sl32 sl33 sl34 sl35 sl36 sl37 sl38 sl39 sl40 sl41 sl42 sl43 sl44 sl45 sl46 sl47 sl48 sl49 sl50 sl51 sl52 sl53 sl54 sl55 sl56 sl57 : Array (Option Value)} {oc0 kV0 dc0 pm0 cd0 ct0 oc1 kV1 dc1 pm1 cd1 ct1 oc2 kV2 dc2 pm2 cd2 ct2 oc3 kV3 dc3 pm3 cd3 ct3 oc4 kV4 dc4 pm4 cd4 ct4 oc5 kV5 dc5 pm5 cd5 ct5 oc6 kV6 dc6 pm6 cd6 ct6 oc7 kV7 dc7 pm7 cd7 ct7 oc8 kV8 dc8 pm8 cd8 ct8 oc9 kV9 dc9 pm9 cd9 ct9 oc10 kV10 dc10 pm10 cd10 ct10 oc11 kV11 dc11 pm11 cd11 ct11 oc12 kV12 dc12 pm12 cd12 ct12 oc13 kV13 dc13 pm13 cd13 ct13 oc14 kV14 dc14 pm14 cd14 ct14 oc15 kV15 dc15 pm15 cd15 ct15 oc16 kV16 dc16 pm16 cd16 ct16 oc17 kV17 dc17 pm17 cd17 ct17 oc18 kV18 dc18 pm18 cd18 ct18 oc19 kV19 dc19 pm19 cd19 ct19 oc20 kV20 dc20 pm20 cd20 ct20 oc21 kV21 dc21 pm21 cd21 ct21 oc22 kV22 dc22 pm22 cd22 ct22 oc23 kV23 dc23 pm23 cd23 ct23 oc24 kV24 dc24 pm24 cd24 ct24 oc25 kV25 dc25 pm25 cd25 ct25 oc26 kV26 dc26 pm26 cd26 ct26 oc27 kV27 dc27 pm27 cd27 ct27 oc28 kV28 dc28 pm28 cd28 ct28 oc29 kV29 dc29 pm29 cd29 ct29 oc30 kV30 dc30 pm30 cd30 ct30 oc31 kV31 dc31 pm31 cd31 ct31 oc32 kV32 dc32 pm32 cd32 ct32 oc33 kV33 dc33 pm33 cd33 ct33 oc34 kV34 dc34 pm34 cd34 ct34 oc35 kV35 dc35 pm35 cd35 ct35 oc36 kV36 dc36 pm36 cd36 ct36 oc37 kV37 dc37 pm37 cd37 ct37 oc38 kV38 dc38 pm38 cd38 ct38 oc39 kV39 dc39 pm39 cd39 ct39 oc40 kV40 dc40 pm40 cd40 ct40 oc41 kV41 dc41 pm41 cd41 ct41 oc42 kV42 dc42 pm42 cd42 ct42 oc43 kV43 dc43 pm43 cd43 ct43 oc44 kV44 dc44 pm44 cd44 ct44 oc45 kV45 dc45 pm45 cd45 ct45 oc46 kV46 dc46 pm46 cd46 ct46 oc47 kV47 dc47 pm47 cd47 ct47 oc48 kV48 dc48 pm48 cd48 ct48 oc49 kV49 dc49 pm49 cd49 ct49 oc50 kV50 dc50 pm50 cd50 ct50 oc51 kV51 dc51 pm51 cd51 ct51 oc52 kV52 dc52 pm52 cd52 ct52 oc53 kV53 dc53 pm53 cd53 ct53 oc54 kV54 dc54 pm54 cd54 ct54 oc55 kV55 dc55 pm55 cd55 ct55 oc56 kV56 dc56 pm56 cd56 ct56 oc57 kV57 dc57 pm57 cd57 ct57 : Value} {t_AHEAD t_LATER t_MOST_GAPS t_MOST_LETTERS t_MOST_NEEDS t_MOST_PIECES t_MOST_WATCHED t_MOST_WIDE t_YES_0 : Tok}
    {w_YES : Addr} {d_YES : Option Addr} {n_YES : Nat} {l_YES : Array (Option Value)}
    (gC0 : PySem.W.nsIn K mainGlobals "Stands" = some (some (.ref K0)))
    (pg0 : PySem.W.plainGet K K0 Str.empty = true)
    (hd0 : PySem.W.hasDictIn K K0 = true)
    (po0 : PySem.W.plainOver K K0 = true)
    (sa0 : PySem.W.findIn K (.ref K0) "__setattr__" = some (some (.builtin "object.__setattr__")))
    (mk0 : PySem.W.makesIn K K0 = true)
    (kc0 : PySem.W.keepIn K (.ref K0) = true)
    (nA0_0 : PySem.W.findIn K (.ref K0) "watched" = some none)
    (gC1 : PySem.W.nsIn K mainGlobals "Going" = some (some (.ref K1)))
    (pg1 : PySem.W.plainGet K K1 Str.empty = true)
    (hd1 : PySem.W.hasDictIn K K1 = true)
    (po1 : PySem.W.plainOver K K1 = true)
    (sa1 : PySem.W.findIn K (.ref K1) "__setattr__" = some (some (.builtin "object.__setattr__")))
    (mk1 : PySem.W.makesIn K K1 = true)
    (kc1 : PySem.W.keepIn K (.ref K1) = true)
    (nA1_0 : PySem.W.findIn K (.ref K1) "wide" = some none)
    (nA1_1 : PySem.W.findIn K (.ref K1) "demand" = some none)
    (nA1_2 : PySem.W.findIn K (.ref K1) "stands" = some none)
    (nA1_3 : PySem.W.findIn K (.ref K1) "starts" = some none)
    (nA1_4 : PySem.W.findIn K (.ref K1) "rows" = some none)
    (a0 : PySem.W.nsIn K mainGlobals "is_number" = some (some (.ref f0))) (l0 : K.lookup f0 = some ⟨oc0, od0, .func (PySem.W.fnOf "is_number" "is_number" (defArgs s_is_number) (defBody s_is_number) (defScope s_is_number) .none kV0 dc0 pm0 an0 cd0 ct0), sl0⟩) (c0 : PySem.W.codeIn K cd0 "is_number" = true) (k0 : PySem.W.keepIn K (.ref f0) = true)
    (a1 : PySem.W.nsIn K mainGlobals "tuple_of" = some (some (.ref f1))) (l1 : K.lookup f1 = some ⟨oc1, od1, .func (PySem.W.fnOf "tuple_of" "tuple_of" (defArgs s_tuple_of) (defBody s_tuple_of) (defScope s_tuple_of) .none kV1 dc1 pm1 an1 cd1 ct1), sl1⟩) (c1 : PySem.W.codeIn K cd1 "tuple_of" = true) (k1 : PySem.W.keepIn K (.ref f1) = true)
    (a2 : PySem.W.nsIn K mainGlobals "is_tuple_of" = some (some (.ref f2))) (l2 : K.lookup f2 = some ⟨oc2, od2, .func (PySem.W.fnOf "is_tuple_of" "is_tuple_of" (defArgs s_is_tuple_of) (defBody s_is_tuple_of) (defScope s_is_tuple_of) .none kV2 dc2 pm2 an2 cd2 ct2), sl2⟩) (c2 : PySem.W.codeIn K cd2 "is_tuple_of" = true) (k2 : PySem.W.keepIn K (.ref f2) = true)
    (a3 : PySem.W.nsIn K mainGlobals "is_letter_set" = some (some (.ref f3))) (l3 : K.lookup f3 = some ⟨oc3, od3, .func (PySem.W.fnOf "is_letter_set" "is_letter_set" (defArgs s_is_letter_set) (defBody s_is_letter_set) (defScope s_is_letter_set) .none kV3 dc3 pm3 an3 cd3 ct3), sl3⟩) (c3 : PySem.W.codeIn K cd3 "is_letter_set" = true) (k3 : PySem.W.keepIn K (.ref f3) = true)
    (a4 : PySem.W.nsIn K mainGlobals "parts_of_mood" = some (some (.ref f4))) (l4 : K.lookup f4 = some ⟨oc4, od4, .func (PySem.W.fnOf "parts_of_mood" "parts_of_mood" (defArgs s_parts_of_mood) (defBody s_parts_of_mood) (defScope s_parts_of_mood) .none kV4 dc4 pm4 an4 cd4 ct4), sl4⟩) (c4 : PySem.W.codeIn K cd4 "parts_of_mood" = true) (k4 : PySem.W.keepIn K (.ref f4) = true)
    (a5 : PySem.W.nsIn K mainGlobals "is_mood" = some (some (.ref f5))) (l5 : K.lookup f5 = some ⟨oc5, od5, .func (PySem.W.fnOf "is_mood" "is_mood" (defArgs s_is_mood) (defBody s_is_mood) (defScope s_is_mood) .none kV5 dc5 pm5 an5 cd5 ct5), sl5⟩) (c5 : PySem.W.codeIn K cd5 "is_mood" = true) (k5 : PySem.W.keepIn K (.ref f5) = true)
    (a6 : PySem.W.nsIn K mainGlobals "inner_moods" = some (some (.ref f6))) (l6 : K.lookup f6 = some ⟨oc6, od6, .func (PySem.W.fnOf "inner_moods" "inner_moods" (defArgs s_inner_moods) (defBody s_inner_moods) (defScope s_inner_moods) .none kV6 dc6 pm6 an6 cd6 ct6), sl6⟩) (c6 : PySem.W.codeIn K cd6 "inner_moods" = true) (k6 : PySem.W.keepIn K (.ref f6) = true)
    (a7 : PySem.W.nsIn K mainGlobals "mood_size_in" = some (some (.ref f7))) (l7 : K.lookup f7 = some ⟨oc7, od7, .func (PySem.W.fnOf "mood_size_in" "mood_size_in" (defArgs s_mood_size_in) (defBody s_mood_size_in) (defScope s_mood_size_in) .none kV7 dc7 pm7 an7 cd7 ct7), sl7⟩) (c7 : PySem.W.codeIn K cd7 "mood_size_in" = true) (k7 : PySem.W.keepIn K (.ref f7) = true)
    (a8 : PySem.W.nsIn K mainGlobals "is_letter" = some (some (.ref f8))) (l8 : K.lookup f8 = some ⟨oc8, od8, .func (PySem.W.fnOf "is_letter" "is_letter" (defArgs s_is_letter) (defBody s_is_letter) (defScope s_is_letter) .none kV8 dc8 pm8 an8 cd8 ct8), sl8⟩) (c8 : PySem.W.codeIn K cd8 "is_letter" = true) (k8 : PySem.W.keepIn K (.ref f8) = true)
    (a9 : PySem.W.nsIn K mainGlobals "is_text" = some (some (.ref f9))) (l9 : K.lookup f9 = some ⟨oc9, od9, .func (PySem.W.fnOf "is_text" "is_text" (defArgs s_is_text) (defBody s_is_text) (defScope s_is_text) .none kV9 dc9 pm9 an9 cd9 ct9), sl9⟩) (c9 : PySem.W.codeIn K cd9 "is_text" = true) (k9 : PySem.W.keepIn K (.ref f9) = true)
    (a10 : PySem.W.nsIn K mainGlobals "sure_wide_of" = some (some (.ref f10))) (l10 : K.lookup f10 = some ⟨oc10, od10, .func (PySem.W.fnOf "sure_wide_of" "sure_wide_of" (defArgs s_sure_wide_of) (defBody s_sure_wide_of) (defScope s_sure_wide_of) .none kV10 dc10 pm10 an10 cd10 ct10), sl10⟩) (c10 : PySem.W.codeIn K cd10 "sure_wide_of" = true) (k10 : PySem.W.keepIn K (.ref f10) = true)
    (a11 : PySem.W.nsIn K mainGlobals "is_lasso_form" = some (some (.ref f11))) (l11 : K.lookup f11 = some ⟨oc11, od11, .func (PySem.W.fnOf "is_lasso_form" "is_lasso_form" (defArgs s_is_lasso_form) (defBody s_is_lasso_form) (defScope s_is_lasso_form) .none kV11 dc11 pm11 an11 cd11 ct11), sl11⟩) (c11 : PySem.W.codeIn K cd11 "is_lasso_form" = true) (k11 : PySem.W.keepIn K (.ref f11) = true)
    (a12 : PySem.W.nsIn K mainGlobals "sure_lasso" = some (some (.ref f12))) (l12 : K.lookup f12 = some ⟨oc12, od12, .func (PySem.W.fnOf "sure_lasso" "sure_lasso" (defArgs s_sure_lasso) (defBody s_sure_lasso) (defScope s_sure_lasso) .none kV12 dc12 pm12 an12 cd12 ct12), sl12⟩) (c12 : PySem.W.codeIn K cd12 "sure_lasso" = true) (k12 : PySem.W.keepIn K (.ref f12) = true)
    (a13 : PySem.W.nsIn K mainGlobals "shortest_round" = some (some (.ref f13))) (l13 : K.lookup f13 = some ⟨oc13, od13, .func (PySem.W.fnOf "shortest_round" "shortest_round" (defArgs s_shortest_round) (defBody s_shortest_round) (defScope s_shortest_round) .none kV13 dc13 pm13 an13 cd13 ct13), sl13⟩) (c13 : PySem.W.codeIn K cd13 "shortest_round" = true) (k13 : PySem.W.keepIn K (.ref f13) = true)
    (a14 : PySem.W.nsIn K mainGlobals "short_in" = some (some (.ref f14))) (l14 : K.lookup f14 = some ⟨oc14, od14, .func (PySem.W.fnOf "short_in" "short_in" (defArgs s_short_in) (defBody s_short_in) (defScope s_short_in) .none kV14 dc14 pm14 an14 cd14 ct14), sl14⟩) (c14 : PySem.W.codeIn K cd14 "short_in" = true) (k14 : PySem.W.keepIn K (.ref f14) = true)
    (a15 : PySem.W.nsIn K mainGlobals "entry_at" = some (some (.ref f15))) (l15 : K.lookup f15 = some ⟨oc15, od15, .func (PySem.W.fnOf "entry_at" "entry_at" (defArgs s_entry_at) (defBody s_entry_at) (defScope s_entry_at) .none kV15 dc15 pm15 an15 cd15 ct15), sl15⟩) (c15 : PySem.W.codeIn K cd15 "entry_at" = true) (k15 : PySem.W.keepIn K (.ref f15) = true)
    (a16 : PySem.W.nsIn K mainGlobals "first_letters" = some (some (.ref f16))) (l16 : K.lookup f16 = some ⟨oc16, od16, .func (PySem.W.fnOf "first_letters" "first_letters" (defArgs s_first_letters) (defBody s_first_letters) (defScope s_first_letters) .none kV16 dc16 pm16 an16 cd16 ct16), sl16⟩) (c16 : PySem.W.codeIn K cd16 "first_letters" = true) (k16 : PySem.W.keepIn K (.ref f16) = true)
    (a17 : PySem.W.nsIn K mainGlobals "watched_in" = some (some (.ref f17))) (l17 : K.lookup f17 = some ⟨oc17, od17, .func (PySem.W.fnOf "watched_in" "watched_in" (defArgs s_watched_in) (defBody s_watched_in) (defScope s_watched_in) .none kV17 dc17 pm17 an17 cd17 ct17), sl17⟩) (c17 : PySem.W.codeIn K cd17 "watched_in" = true) (k17 : PySem.W.keepIn K (.ref f17) = true)
    (a18 : PySem.W.findIn K (.ref K0) "__init__" = some (some (.ref f18))) (i18 : PySem.W.isFn K (.ref f18) = true) (l18 : K.lookup f18 = some ⟨oc18, od18, .func (PySem.W.fnOf "__init__" "Stands.__init__" (defArgs s_Stands___init__) (defBody s_Stands___init__) (defScope s_Stands___init__) .none kV18 dc18 pm18 an18 cd18 ct18), sl18⟩) (c18 : PySem.W.codeIn K cd18 "Stands.__init__" = true) (k18 : PySem.W.keepIn K (.ref f18) = true)
    (a19 : PySem.W.findIn K (.ref K0) "told" = some (some (.ref f19))) (i19 : PySem.W.isFn K (.ref f19) = true) (l19 : K.lookup f19 = some ⟨oc19, od19, .func (PySem.W.fnOf "told" "Stands.told" (defArgs s_Stands_told) (defBody s_Stands_told) (defScope s_Stands_told) .none kV19 dc19 pm19 an19 cd19 ct19), sl19⟩) (c19 : PySem.W.codeIn K cd19 "Stands.told" = true) (k19 : PySem.W.keepIn K (.ref f19) = true)
    (a20 : PySem.W.findIn K (.ref K0) "hits" = some (some (.ref f20))) (i20 : PySem.W.isFn K (.ref f20) = true) (l20 : K.lookup f20 = some ⟨oc20, od20, .func (PySem.W.fnOf "hits" "Stands.hits" (defArgs s_Stands_hits) (defBody s_Stands_hits) (defScope s_Stands_hits) .none kV20 dc20 pm20 an20 cd20 ct20), sl20⟩) (c20 : PySem.W.codeIn K cd20 "Stands.hits" = true) (k20 : PySem.W.keepIn K (.ref f20) = true)
    (a21 : PySem.W.nsIn K mainGlobals "subsets" = some (some (.ref f21))) (l21 : K.lookup f21 = some ⟨oc21, od21, .func (PySem.W.fnOf "subsets" "subsets" (defArgs s_subsets) (defBody s_subsets) (defScope s_subsets) .none kV21 dc21 pm21 an21 cd21 ct21), sl21⟩) (c21 : PySem.W.codeIn K cd21 "subsets" = true) (k21 : PySem.W.keepIn K (.ref f21) = true)
    (a22 : PySem.W.nsIn K mainGlobals "joined" = some (some (.ref f22))) (l22 : K.lookup f22 = some ⟨oc22, od22, .func (PySem.W.fnOf "joined" "joined" (defArgs s_joined) (defBody s_joined) (defScope s_joined) .none kV22 dc22 pm22 an22 cd22 ct22), sl22⟩) (c22 : PySem.W.codeIn K cd22 "joined" = true) (k22 : PySem.W.keepIn K (.ref f22) = true)
    (a23 : PySem.W.findIn K (.ref K0) "steps" = some (some (.ref f23))) (i23 : PySem.W.isFn K (.ref f23) = true) (l23 : K.lookup f23 = some ⟨oc23, od23, .func (PySem.W.fnOf "steps" "Stands.steps" (defArgs s_Stands_steps) (defBody s_Stands_steps) (defScope s_Stands_steps) .none kV23 dc23 pm23 an23 cd23 ct23), sl23⟩) (c23 : PySem.W.codeIn K cd23 "Stands.steps" = true) (k23 : PySem.W.keepIn K (.ref f23) = true)
    (a24 : PySem.W.findIn K (.ref K0) "starts" = some (some (.ref f24))) (i24 : PySem.W.isFn K (.ref f24) = true) (l24 : K.lookup f24 = some ⟨oc24, od24, .func (PySem.W.fnOf "starts" "Stands.starts" (defArgs s_Stands_starts) (defBody s_Stands_starts) (defScope s_Stands_starts) .none kV24 dc24 pm24 an24 cd24 ct24), sl24⟩) (c24 : PySem.W.codeIn K cd24 "Stands.starts" = true) (k24 : PySem.W.keepIn K (.ref f24) = true)
    (a25 : PySem.W.findIn K (.ref K1) "__init__" = some (some (.ref f25))) (i25 : PySem.W.isFn K (.ref f25) = true) (l25 : K.lookup f25 = some ⟨oc25, od25, .func (PySem.W.fnOf "__init__" "Going.__init__" (defArgs s_Going___init__) (defBody s_Going___init__) (defScope s_Going___init__) .none kV25 dc25 pm25 an25 cd25 ct25), sl25⟩) (c25 : PySem.W.codeIn K cd25 "Going.__init__" = true) (k25 : PySem.W.keepIn K (.ref f25) = true)
    (a26 : PySem.W.nsIn K mainGlobals "sure_mood_of" = some (some (.ref f26))) (l26 : K.lookup f26 = some ⟨oc26, od26, .func (PySem.W.fnOf "sure_mood_of" "sure_mood_of" (defArgs s_sure_mood_of) (defBody s_sure_mood_of) (defScope s_sure_mood_of) .none kV26 dc26 pm26 an26 cd26 ct26), sl26⟩) (c26 : PySem.W.codeIn K cd26 "sure_mood_of" = true) (k26 : PySem.W.keepIn K (.ref f26) = true)
    (a27 : PySem.W.nsIn K mainGlobals "loops_at" = some (some (.ref f27))) (l27 : K.lookup f27 = some ⟨oc27, od27, .func (PySem.W.fnOf "loops_at" "loops_at" (defArgs s_loops_at) (defBody s_loops_at) (defScope s_loops_at) .none kV27 dc27 pm27 an27 cd27 ct27), sl27⟩) (c27 : PySem.W.codeIn K cd27 "loops_at" = true) (k27 : PySem.W.keepIn K (.ref f27) = true)
    (a28 : PySem.W.nsIn K mainGlobals "hits_at" = some (some (.ref f28))) (l28 : K.lookup f28 = some ⟨oc28, od28, .func (PySem.W.fnOf "hits_at" "hits_at" (defArgs s_hits_at) (defBody s_hits_at) (defScope s_hits_at) .none kV28 dc28 pm28 an28 cd28 ct28), sl28⟩) (c28 : PySem.W.codeIn K cd28 "hits_at" = true) (k28 : PySem.W.keepIn K (.ref f28) = true)
    (a29 : PySem.W.nsIn K mainGlobals "is_all_hit" = some (some (.ref f29))) (l29 : K.lookup f29 = some ⟨oc29, od29, .func (PySem.W.fnOf "is_all_hit" "is_all_hit" (defArgs s_is_all_hit) (defBody s_is_all_hit) (defScope s_is_all_hit) .none kV29 dc29 pm29 an29 cd29 ct29), sl29⟩) (c29 : PySem.W.codeIn K cd29 "is_all_hit" = true) (k29 : PySem.W.keepIn K (.ref f29) = true)
    (a30 : PySem.W.nsIn K mainGlobals "lasts_by" = some (some (.ref f30))) (l30 : K.lookup f30 = some ⟨oc30, od30, .func (PySem.W.fnOf "lasts_by" "lasts_by" (defArgs s_lasts_by) (defBody s_lasts_by) (defScope s_lasts_by) .none kV30 dc30 pm30 an30 cd30 ct30), sl30⟩) (c30 : PySem.W.codeIn K cd30 "lasts_by" = true) (k30 : PySem.W.keepIn K (.ref f30) = true)
    (a31 : PySem.W.nsIn K mainGlobals "is_lasting_in" = some (some (.ref f31))) (l31 : K.lookup f31 = some ⟨oc31, od31, .func (PySem.W.fnOf "is_lasting_in" "is_lasting_in" (defArgs s_is_lasting_in) (defBody s_is_lasting_in) (defScope s_is_lasting_in) .none kV31 dc31 pm31 an31 cd31 ct31), sl31⟩) (c31 : PySem.W.codeIn K cd31 "is_lasting_in" = true) (k31 : PySem.W.keepIn K (.ref f31) = true)
    (a32 : PySem.W.nsIn K mainGlobals "going_of" = some (some (.ref f32))) (l32 : K.lookup f32 = some ⟨oc32, od32, .func (PySem.W.fnOf "going_of" "going_of" (defArgs s_going_of) (defBody s_going_of) (defScope s_going_of) .none kV32 dc32 pm32 an32 cd32 ct32), sl32⟩) (c32 : PySem.W.codeIn K cd32 "going_of" = true) (k32 : PySem.W.keepIn K (.ref f32) = true)
    (a33 : PySem.W.nsIn K mainGlobals "is_ascending" = some (some (.ref f33))) (l33 : K.lookup f33 = some ⟨oc33, od33, .func (PySem.W.fnOf "is_ascending" "is_ascending" (defArgs s_is_ascending) (defBody s_is_ascending) (defScope s_is_ascending) .none kV33 dc33 pm33 an33 cd33 ct33), sl33⟩) (c33 : PySem.W.codeIn K cd33 "is_ascending" = true) (k33 : PySem.W.keepIn K (.ref f33) = true)
    (a34 : PySem.W.nsIn K mainGlobals "is_set_of" = some (some (.ref f34))) (l34 : K.lookup f34 = some ⟨oc34, od34, .func (PySem.W.fnOf "is_set_of" "is_set_of" (defArgs s_is_set_of) (defBody s_is_set_of) (defScope s_is_set_of) .none kV34 dc34 pm34 an34 cd34 ct34), sl34⟩) (c34 : PySem.W.codeIn K cd34 "is_set_of" = true) (k34 : PySem.W.keepIn K (.ref f34) = true)
    (a35 : PySem.W.nsIn K mainGlobals "is_endpiece_form" = some (some (.ref f35))) (l35 : K.lookup f35 = some ⟨oc35, od35, .func (PySem.W.fnOf "is_endpiece_form" "is_endpiece_form" (defArgs s_is_endpiece_form) (defBody s_is_endpiece_form) (defScope s_is_endpiece_form) .none kV35 dc35 pm35 an35 cd35 ct35), sl35⟩) (c35 : PySem.W.codeIn K cd35 "is_endpiece_form" = true) (k35 : PySem.W.keepIn K (.ref f35) = true)
    (a36 : PySem.W.nsIn K mainGlobals "is_endpiece" = some (some (.ref f36))) (l36 : K.lookup f36 = some ⟨oc36, od36, .func (PySem.W.fnOf "is_endpiece" "is_endpiece" (defArgs s_is_endpiece) (defBody s_is_endpiece) (defScope s_is_endpiece) .none kV36 dc36 pm36 an36 cd36 ct36), sl36⟩) (c36 : PySem.W.codeIn K cd36 "is_endpiece" = true) (k36 : PySem.W.keepIn K (.ref f36) = true)
    (a37 : PySem.W.nsIn K mainGlobals "sure_endpiece" = some (some (.ref f37))) (l37 : K.lookup f37 = some ⟨oc37, od37, .func (PySem.W.fnOf "sure_endpiece" "sure_endpiece" (defArgs s_sure_endpiece) (defBody s_sure_endpiece) (defScope s_sure_endpiece) .none kV37 dc37 pm37 an37 cd37 ct37), sl37⟩) (c37 : PySem.W.codeIn K cd37 "sure_endpiece" = true) (k37 : PySem.W.keepIn K (.ref f37) = true)
    (a38 : PySem.W.nsIn K mainGlobals "readings_in" = some (some (.ref f38))) (l38 : K.lookup f38 = some ⟨oc38, od38, .func (PySem.W.fnOf "readings_in" "readings_in" (defArgs s_readings_in) (defBody s_readings_in) (defScope s_readings_in) .none kV38 dc38 pm38 an38 cd38 ct38), sl38⟩) (c38 : PySem.W.codeIn K cd38 "readings_in" = true) (k38 : PySem.W.keepIn K (.ref f38) = true)
    (a39 : PySem.W.nsIn K mainGlobals "endpiece_has" = some (some (.ref f39))) (l39 : K.lookup f39 = some ⟨oc39, od39, .func (PySem.W.fnOf "endpiece_has" "endpiece_has" (defArgs s_endpiece_has) (defBody s_endpiece_has) (defScope s_endpiece_has) .none kV39 dc39 pm39 an39 cd39 ct39), sl39⟩) (c39 : PySem.W.codeIn K cd39 "endpiece_has" = true) (k39 : PySem.W.keepIn K (.ref f39) = true)
    (a40 : PySem.W.nsIn K mainGlobals "endpiece_reading" = some (some (.ref f40))) (l40 : K.lookup f40 = some ⟨oc40, od40, .func (PySem.W.fnOf "endpiece_reading" "endpiece_reading" (defArgs s_endpiece_reading) (defBody s_endpiece_reading) (defScope s_endpiece_reading) .none kV40 dc40 pm40 an40 cd40 ct40), sl40⟩) (c40 : PySem.W.codeIn K cd40 "endpiece_reading" = true) (k40 : PySem.W.keepIn K (.ref f40) = true)
    (a41 : PySem.W.nsIn K mainGlobals "endpiece_text" = some (some (.ref f41))) (l41 : K.lookup f41 = some ⟨oc41, od41, .func (PySem.W.fnOf "endpiece_text" "endpiece_text" (defArgs s_endpiece_text) (defBody s_endpiece_text) (defScope s_endpiece_text) .none kV41 dc41 pm41 an41 cd41 ct41), sl41⟩) (c41 : PySem.W.codeIn K cd41 "endpiece_text" = true) (k41 : PySem.W.keepIn K (.ref f41) = true)
    (a42 : PySem.W.nsIn K mainGlobals "needs_at" = some (some (.ref f42))) (l42 : K.lookup f42 = some ⟨oc42, od42, .func (PySem.W.fnOf "needs_at" "needs_at" (defArgs s_needs_at) (defBody s_needs_at) (defScope s_needs_at) .none kV42 dc42 pm42 an42 cd42 ct42), sl42⟩) (c42 : PySem.W.codeIn K cd42 "needs_at" = true) (k42 : PySem.W.keepIn K (.ref f42) = true)
    (a43 : PySem.W.nsIn K mainGlobals "live_gaps" = some (some (.ref f43))) (l43 : K.lookup f43 = some ⟨oc43, od43, .func (PySem.W.fnOf "live_gaps" "live_gaps" (defArgs s_live_gaps) (defBody s_live_gaps) (defScope s_live_gaps) .none kV43 dc43 pm43 an43 cd43 ct43), sl43⟩) (c43 : PySem.W.codeIn K cd43 "live_gaps" = true) (k43 : PySem.W.keepIn K (.ref f43) = true)
    (a44 : PySem.W.nsIn K mainGlobals "onward_of" = some (some (.ref f44))) (l44 : K.lookup f44 = some ⟨oc44, od44, .func (PySem.W.fnOf "onward_of" "onward_of" (defArgs s_onward_of) (defBody s_onward_of) (defScope s_onward_of) .none kV44 dc44 pm44 an44 cd44 ct44), sl44⟩) (c44 : PySem.W.codeIn K cd44 "onward_of" = true) (k44 : PySem.W.keepIn K (.ref f44) = true)
    (a45 : PySem.W.nsIn K mainGlobals "endcut_in" = some (some (.ref f45))) (l45 : K.lookup f45 = some ⟨oc45, od45, .func (PySem.W.fnOf "endcut_in" "endcut_in" (defArgs s_endcut_in) (defBody s_endcut_in) (defScope s_endcut_in) .none kV45 dc45 pm45 an45 cd45 ct45), sl45⟩) (c45 : PySem.W.codeIn K cd45 "endcut_in" = true) (k45 : PySem.W.keepIn K (.ref f45) = true)
    (a46 : PySem.W.nsIn K mainGlobals "endcut_of" = some (some (.ref f46))) (l46 : K.lookup f46 = some ⟨oc46, od46, .func (PySem.W.fnOf "endcut_of" "endcut_of" (defArgs s_endcut_of) (defBody s_endcut_of) (defScope s_endcut_of) .none kV46 dc46 pm46 an46 cd46 ct46), sl46⟩) (c46 : PySem.W.codeIn K cd46 "endcut_of" = true) (k46 : PySem.W.keepIn K (.ref f46) = true)
    (a47 : PySem.W.nsIn K mainGlobals "endpiece_of" = some (some (.ref f47))) (l47 : K.lookup f47 = some ⟨oc47, od47, .func (PySem.W.fnOf "endpiece_of" "endpiece_of" (defArgs s_endpiece_of) (defBody s_endpiece_of) (defScope s_endpiece_of) .none kV47 dc47 pm47 an47 cd47 ct47), sl47⟩) (c47 : PySem.W.codeIn K cd47 "endpiece_of" = true) (k47 : PySem.W.keepIn K (.ref f47) = true)
    (a48 : PySem.W.nsIn K mainGlobals "_law_box" = some (some (.ref f48))) (l48 : K.lookup f48 = some ⟨oc48, od48, .func (PySem.W.fnOf "_law_box" "_law_box" (defArgs s__law_box) (defBody s__law_box) (defScope s__law_box) .none kV48 dc48 pm48 an48 cd48 ct48), sl48⟩) (c48 : PySem.W.codeIn K cd48 "_law_box" = true) (k48 : PySem.W.keepIn K (.ref f48) = true)
    (a49 : PySem.W.nsIn K mainGlobals "_law_take" = some (some (.ref f49))) (l49 : K.lookup f49 = some ⟨oc49, od49, .func (PySem.W.fnOf "_law_take" "_law_take" (defArgs s__law_take) (defBody s__law_take) (defScope s__law_take) .none kV49 dc49 pm49 an49 cd49 ct49), sl49⟩) (c49 : PySem.W.codeIn K cd49 "_law_take" = true) (k49 : PySem.W.keepIn K (.ref f49) = true)
    (a50 : PySem.W.nsIn K mainGlobals "_law_cells" = some (some (.ref f50))) (l50 : K.lookup f50 = some ⟨oc50, od50, .func (PySem.W.fnOf "_law_cells" "_law_cells" (defArgs s__law_cells) (defBody s__law_cells) (defScope s__law_cells) .none kV50 dc50 pm50 an50 cd50 ct50), sl50⟩) (c50 : PySem.W.codeIn K cd50 "_law_cells" = true) (k50 : PySem.W.keepIn K (.ref f50) = true)
    (a51 : PySem.W.nsIn K mainGlobals "_law_same" = some (some (.ref f51))) (l51 : K.lookup f51 = some ⟨oc51, od51, .func (PySem.W.fnOf "_law_same" "_law_same" (defArgs s__law_same) (defBody s__law_same) (defScope s__law_same) .none kV51 dc51 pm51 an51 cd51 ct51), sl51⟩) (c51 : PySem.W.codeIn K cd51 "_law_same" = true) (k51 : PySem.W.keepIn K (.ref f51) = true)
    (a52 : PySem.W.nsIn K mainGlobals "_law_lists" = some (some (.ref f52))) (l52 : K.lookup f52 = some ⟨oc52, od52, .func (PySem.W.fnOf "_law_lists" "_law_lists" (defArgs s__law_lists) (defBody s__law_lists) (defScope s__law_lists) .none kV52 dc52 pm52 an52 cd52 ct52), sl52⟩) (c52 : PySem.W.codeIn K cd52 "_law_lists" = true) (k52 : PySem.W.keepIn K (.ref f52) = true)
    (a53 : PySem.W.nsIn K mainGlobals "_law_of" = some (some (.ref f53))) (l53 : K.lookup f53 = some ⟨oc53, od53, .func (PySem.W.fnOf "_law_of" "_law_of" (defArgs s__law_of) (defBody s__law_of) (defScope s__law_of) .none kV53 dc53 pm53 an53 cd53 ct53), sl53⟩) (c53 : PySem.W.codeIn K cd53 "_law_of" = true) (k53 : PySem.W.keepIn K (.ref f53) = true)
    (a54 : PySem.W.nsIn K mainGlobals "_law_gap_subsets" = some (some (.ref f54))) (l54 : K.lookup f54 = some ⟨oc54, od54, .func (PySem.W.fnOf "_law_gap_subsets" "_law_gap_subsets" (defArgs s__law_gap_subsets) (defBody s__law_gap_subsets) (defScope s__law_gap_subsets) .none kV54 dc54 pm54 an54 cd54 ct54), sl54⟩) (c54 : PySem.W.codeIn K cd54 "_law_gap_subsets" = true) (k54 : PySem.W.keepIn K (.ref f54) = true)
    (a55 : PySem.W.nsIn K mainGlobals "_law_try" = some (some (.ref f55))) (l55 : K.lookup f55 = some ⟨oc55, od55, .func (PySem.W.fnOf "_law_try" "_law_try" (defArgs s__law_try) (defBody s__law_try) (defScope s__law_try) .none kV55 dc55 pm55 an55 cd55 ct55), sl55⟩) (c55 : PySem.W.codeIn K cd55 "_law_try" = true) (k55 : PySem.W.keepIn K (.ref f55) = true)
    (a56 : PySem.W.nsIn K mainGlobals "_law_forms" = some (some (.ref f56))) (l56 : K.lookup f56 = some ⟨oc56, od56, .func (PySem.W.fnOf "_law_forms" "_law_forms" (defArgs s__law_forms) (defBody s__law_forms) (defScope s__law_forms) .none kV56 dc56 pm56 an56 cd56 ct56), sl56⟩) (c56 : PySem.W.codeIn K cd56 "_law_forms" = true) (k56 : PySem.W.keepIn K (.ref f56) = true)
    (a57 : PySem.W.nsIn K mainGlobals "law" = some (some (.ref f57))) (l57 : K.lookup f57 = some ⟨oc57, od57, .func (PySem.W.fnOf "law" "law" (defArgs s_law) (defBody s_law) (defScope s_law) .none kV57 dc57 pm57 an57 cd57 ct57), sl57⟩) (c57 : PySem.W.codeIn K cd57 "law" = true) (k57 : PySem.W.keepIn K (.ref f57) = true)
    (z_abs : PySem.W.nsIn K mainGlobals "abs" = some none)
    (z_all : PySem.W.nsIn K mainGlobals "all" = some none)
    (z_any : PySem.W.nsIn K mainGlobals "any" = some none)
    (z_bool : PySem.W.nsIn K mainGlobals "bool" = some none)
    (z_enumerate : PySem.W.nsIn K mainGlobals "enumerate" = some none)
    (z_int : PySem.W.nsIn K mainGlobals "int" = some none)
    (z_isinstance : PySem.W.nsIn K mainGlobals "isinstance" = some none)
    (z_len : PySem.W.nsIn K mainGlobals "len" = some none)
    (z_list : PySem.W.nsIn K mainGlobals "list" = some none)
    (z_range : PySem.W.nsIn K mainGlobals "range" = some none)
    (z_set : PySem.W.nsIn K mainGlobals "set" = some none)
    (z_sorted : PySem.W.nsIn K mainGlobals "sorted" = some none)
    (z_str : PySem.W.nsIn K mainGlobals "str" = some none)
    (z_sum : PySem.W.nsIn K mainGlobals "sum" = some none)
    (z_tuple : PySem.W.nsIn K mainGlobals "tuple" = some none)
    (z_zip : PySem.W.nsIn K mainGlobals "zip" = some none)
    (v_AHEAD : PySem.W.nsIn K mainGlobals "AHEAD" = some (some (.str "ahead" t_AHEAD)))
    (v_LATER : PySem.W.nsIn K mainGlobals "LATER" = some (some (.str "later" t_LATER)))
    (v_MOST_GAPS : PySem.W.nsIn K mainGlobals "MOST_GAPS" = some (some (.int (600) t_MOST_GAPS)))
    (v_MOST_LETTERS : PySem.W.nsIn K mainGlobals "MOST_LETTERS" = some (some (.int (8) t_MOST_LETTERS)))
    (v_MOST_NEEDS : PySem.W.nsIn K mainGlobals "MOST_NEEDS" = some (some (.int (6) t_MOST_NEEDS)))
    (v_MOST_PIECES : PySem.W.nsIn K mainGlobals "MOST_PIECES" = some (some (.int (2000) t_MOST_PIECES)))
    (v_MOST_WATCHED : PySem.W.nsIn K mainGlobals "MOST_WATCHED" = some (some (.int (6) t_MOST_WATCHED)))
    (v_MOST_WIDE : PySem.W.nsIn K mainGlobals "MOST_WIDE" = some (some (.int (3) t_MOST_WIDE)))
    (v_YES : PySem.W.nsIn K mainGlobals "YES" = some (some (.ref w_YES)))
    (q_YES : K.lookup w_YES = some ⟨.type "tuple", d_YES, .seq #[.str "yes" t_YES_0] n_YES, l_YES⟩)
    (gE0 : PySem.W.nsIn K mainGlobals "CanNot" = some (some (.ref C0)))
    (kE0 : PySem.W.keepIn K (.ref C0) = true)
    (xE0 : PySem.W.excIn K C0 [.type "ValueError", .type "Exception", .type "BaseException", .type "object"] "ValueError.__new__" = true)
    (bE0 : PySem.W.subIn K (.ref C0) (.type "BaseException") = some true)
    (tE0 : PySem.W.typeIn K (.ref C0) = some (.type "type"))
    (gE1 : PySem.W.nsIn K mainGlobals "TooMuch" = some (some (.ref C1)))
    (kE1 : PySem.W.keepIn K (.ref C1) = true)
    (xE1 : PySem.W.excIn K C1 [.type "ValueError", .type "Exception", .type "BaseException", .type "object"] "ValueError.__new__" = true)
    (bE1 : PySem.W.subIn K (.ref C1) (.type "BaseException") = some true)
    (tE1 : PySem.W.typeIn K (.ref C1) = some (.type "type"))
    (gE2 : PySem.W.nsIn K mainGlobals "Unfit" = some (some (.ref C2)))
    (kE2 : PySem.W.keepIn K (.ref C2) = true)
    (xE2 : PySem.W.excIn K C2 [.type "ValueError", .type "Exception", .type "BaseException", .type "object"] "ValueError.__new__" = true)
    (bE2 : PySem.W.subIn K (.ref C2) (.type "BaseException") = some true)
    (tE2 : PySem.W.typeIn K (.ref C2) = some (.type "type"))
    (iE0 : PySem.W.isClsIn K C0 = true)
    (iE1 : PySem.W.isClsIn K C1 = true)
    (iE2 : PySem.W.isClsIn K C2 = true)
    (m0_0 : PySem.W.subIn K (.ref C0) (.ref C0) = some true)
    (m0_1 : PySem.W.subIn K (.ref C0) (.ref C1) = some false)
    (m0_2 : PySem.W.subIn K (.ref C0) (.ref C2) = some false)
    (m1_0 : PySem.W.subIn K (.ref C1) (.ref C0) = some false)
    (m1_1 : PySem.W.subIn K (.ref C1) (.ref C1) = some true)
    (m1_2 : PySem.W.subIn K (.ref C1) (.ref C2) = some false)
    (m2_0 : PySem.W.subIn K (.ref C2) (.ref C0) = some false)
    (m2_1 : PySem.W.subIn K (.ref C2) (.ref C1) = some false)
    (m2_2 : PySem.W.subIn K (.ref C2) (.ref C2) = some true)
    (hlaw : ∀ ns, ScriptOk ns → M_law [.scr (ns.map .int)] = .ok (.bl true)) :
    ∃ fd : FuncData, (∀ (s : Shared) (v : Value), BindsTo s fd ⟨[v], []⟩ [("script", v)]) ∧ ∀ base : Heap, K.In base → base.Ns mainGlobals mg → FnOk l.prog w K mg base (L2.CX l.prog w) 31 fa fd ["script"] (spLaw K) := by
  have e := hfa.symm.trans (PySem.W.mg_of X Gn a57)
  cases e
  let G : Glue := ⟨K, fun n => match n with | 0 => C0 | 1 => C1 | 2 => C2 | _ => C0, fun n => "place", l.prog, w, fun n => match n with | 0 => K0 | 1 => K1 | _ => fa, fun n => match n with | 0 => ["watched"] | 1 => ["wide", "demand", "stands", "starts", "rows"] | _ => []⟩
  have hcd0 : CD G 0 := ⟨⟨pg0, hd0, po0, sa0⟩, fun f hf => by
    have hf : f ∈ (["watched"] : List Str) := hf
    simp only [List.mem_cons, List.not_mem_nil, or_false] at hf
    rcases hf with rfl
    · exact nA0_0, by show (["watched"] : List Str).Nodup; decide +kernel⟩
  have hcd1 : CD G 1 := ⟨⟨pg1, hd1, po1, sa1⟩, fun f hf => by
    have hf : f ∈ (["wide", "demand", "stands", "starts", "rows"] : List Str) := hf
    simp only [List.mem_cons, List.not_mem_nil, or_false] at hf
    rcases hf with rfl | rfl | rfl | rfl | rfl
    · exact nA1_0
    · exact nA1_1
    · exact nA1_2
    · exact nA1_3
    · exact nA1_4, by show (["wide", "demand", "stands", "starts", "rows"] : List Str).Nodup; decide +kernel⟩
  have hx : ∀ n ∈ ([0, 1, 2] : List Nat), ∀ m ∈ ([0, 1, 2] : List Nat), PySem.W.exmOne G.K (.ref (G.exA n)) (.ref (G.exA m)) = some (decide (n = m)) := by
    intro n hn m hm
    simp only [List.mem_cons, List.not_mem_nil, or_false] at hn hm
    rcases hn with rfl | rfl | rfl <;> rcases hm with rfl | rfl | rfl <;> first | exact exm_pair bE0 iE0 tE0 m0_0 | exact exm_pair bE1 iE1 tE1 m0_1 | exact exm_pair bE2 iE2 tE2 m0_2 | exact exm_pair bE0 iE0 tE0 m1_0 | exact exm_pair bE1 iE1 tE1 m1_1 | exact exm_pair bE2 iE2 tE2 m1_2 | exact exm_pair bE0 iE0 tE0 m2_0 | exact exm_pair bE1 iE1 tE1 m2_1 | exact exm_pair bE2 iE2 tE2 m2_2
  have T : Tx G mg := { z_abs := PySem.W.mg_none_of X Gn z_abs, z_all := PySem.W.mg_none_of X Gn z_all, z_any := PySem.W.mg_none_of X Gn z_any, z_bool := PySem.W.mg_none_of X Gn z_bool, z_enumerate := PySem.W.mg_none_of X Gn z_enumerate, z_int := PySem.W.mg_none_of X Gn z_int, z_isinstance := PySem.W.mg_none_of X Gn z_isinstance, z_len := PySem.W.mg_none_of X Gn z_len, z_list := PySem.W.mg_none_of X Gn z_list, z_range := PySem.W.mg_none_of X Gn z_range, z_set := PySem.W.mg_none_of X Gn z_set, z_sorted := PySem.W.mg_none_of X Gn z_sorted, z_str := PySem.W.mg_none_of X Gn z_str, z_sum := PySem.W.mg_none_of X Gn z_sum, z_tuple := PySem.W.mg_none_of X Gn z_tuple, z_zip := PySem.W.mg_none_of X Gn z_zip, v_AHEAD := ⟨.str "ahead", _, PySem.W.mg_of X Gn v_AHEAD, ⟨_, rfl⟩, fun _ _ => .str _⟩, v_LATER := ⟨.str "later", _, PySem.W.mg_of X Gn v_LATER, ⟨_, rfl⟩, fun _ _ => .str _⟩, v_MOST_GAPS := ⟨.int (600), _, PySem.W.mg_of X Gn v_MOST_GAPS, ⟨_, rfl⟩, fun _ _ => .int _⟩, v_MOST_LETTERS := ⟨.int (8), _, PySem.W.mg_of X Gn v_MOST_LETTERS, ⟨_, rfl⟩, fun _ _ => .int _⟩, v_MOST_NEEDS := ⟨.int (6), _, PySem.W.mg_of X Gn v_MOST_NEEDS, ⟨_, rfl⟩, fun _ _ => .int _⟩, v_MOST_PIECES := ⟨.int (2000), _, PySem.W.mg_of X Gn v_MOST_PIECES, ⟨_, rfl⟩, fun _ _ => .int _⟩, v_MOST_WATCHED := ⟨.int (6), _, PySem.W.mg_of X Gn v_MOST_WATCHED, ⟨_, rfl⟩, fun _ _ => .int _⟩, v_MOST_WIDE := ⟨.int (3), _, PySem.W.mg_of X Gn v_MOST_WIDE, ⟨_, rfl⟩, fun _ _ => .int _⟩, v_YES := ⟨.ref w_YES, _, PySem.W.mg_of X Gn v_YES, rfl, fun _ _ => (.tup (vs := [.str "yes"]) (.inr ⟨_, _, _, q_YES, rfl, rfl, (by show 1 ≤ sizeLine; decide), (.cons ⟨_, rfl⟩ .nil)⟩) (.cons (.str _) .nil))⟩, e_CanNot := ⟨PySem.W.mg_of X Gn gE0, kE0, xE0, bE0, tE0⟩, e_TooMuch := ⟨PySem.W.mg_of X Gn gE1, kE1, xE1, bE1, tE1⟩, e_Unfit := ⟨PySem.W.mg_of X Gn gE2, kE2, xE2, bE2, tE2⟩, x := hx, cd_Stands := hcd0, kf_Stands := rfl, fl_Stands_0 := rfl, cd_Going := hcd1, kf_Going := rfl, fl_Going_0 := rfl, fl_Going_1 := rfl, fl_Going_2 := rfl, fl_Going_3 := rfl, fl_Going_4 := rfl, no_Stands_hits := (by show ("hits" : Str) ∉ (["watched"] : List Str); decide +kernel), no_Stands_starts := (by show ("starts" : Str) ∉ (["watched"] : List Str); decide +kernel), no_Stands_steps := (by show ("steps" : Str) ∉ (["watched"] : List Str); decide +kernel), no_Stands_told := (by show ("told" : Str) ∉ (["watched"] : List Str); decide +kernel) }
  have F0 := fun_mk (st := s_is_number) l0 c0 k0
  have b0 := F0.binds (ps := ["thing"]) fun _ _ _ _ _ _ us hl => match us, hl with | [_], _ => rfl
  have F1 := fun_mk (st := s_tuple_of) l1 c1 k1
  have b1 := F1.binds (ps := ["thing"]) fun _ _ _ _ _ _ us hl => match us, hl with | [_], _ => rfl
  have F2 := fun_mk (st := s_is_tuple_of) l2 c2 k2
  have b2 := F2.binds (ps := ["thing", "many"]) fun _ _ _ _ _ _ us hl => match us, hl with | [_, _], _ => rfl
  have F3 := fun_mk (st := s_is_letter_set) l3 c3 k3
  have b3 := F3.binds (ps := ["wide", "thing"]) fun _ _ _ _ _ _ us hl => match us, hl with | [_, _], _ => rfl
  have F4 := fun_mk (st := s_parts_of_mood) l4 c4 k4
  have b4 := F4.binds (ps := ["wide", "thing"]) fun _ _ _ _ _ _ us hl => match us, hl with | [_, _], _ => rfl
  have F5 := fun_mk (st := s_is_mood) l5 c5 k5
  have b5 := F5.binds (ps := ["wide", "thing"]) fun _ _ _ _ _ _ us hl => match us, hl with | [_, _], _ => rfl
  have F6 := fun_mk (st := s_inner_moods) l6 c6 k6
  have b6 := F6.binds (ps := ["own"]) fun _ _ _ _ _ _ us hl => match us, hl with | [_], _ => rfl
  have F7 := fun_mk (st := s_mood_size_in) l7 c7 k7
  have b7 := F7.binds (ps := ["own"]) fun _ _ _ _ _ _ us hl => match us, hl with | [_], _ => rfl
  have F8 := fun_mk (st := s_is_letter) l8 c8 k8
  have b8 := F8.binds (ps := ["wide", "thing"]) fun _ _ _ _ _ _ us hl => match us, hl with | [_, _], _ => rfl
  have F9 := fun_mk (st := s_is_text) l9 c9 k9
  have b9 := F9.binds (ps := ["wide", "thing"]) fun _ _ _ _ _ _ us hl => match us, hl with | [_, _], _ => rfl
  have F10 := fun_mk (st := s_sure_wide_of) l10 c10 k10
  have b10 := F10.binds (ps := ["wide"]) fun _ _ _ _ _ _ us hl => match us, hl with | [_], _ => rfl
  have F11 := fun_mk (st := s_is_lasso_form) l11 c11 k11
  have b11 := F11.binds (ps := ["wide", "thing"]) fun _ _ _ _ _ _ us hl => match us, hl with | [_, _], _ => rfl
  have F12 := fun_mk (st := s_sure_lasso) l12 c12 k12
  have b12 := F12.binds (ps := ["wide", "lasso"]) fun _ _ _ _ _ _ us hl => match us, hl with | [_, _], _ => rfl
  have F13 := fun_mk (st := s_shortest_round) l13 c13 k13
  have b13 := F13.binds (ps := ["round_so"]) fun _ _ _ _ _ _ us hl => match us, hl with | [_], _ => rfl
  have F14 := fun_mk (st := s_short_in) l14 c14 k14
  have b14 := F14.binds (ps := ["ahead", "round_so"]) fun _ _ _ _ _ _ us hl => match us, hl with | [_, _], _ => rfl
  have F15 := fun_mk (st := s_entry_at) l15 c15 k15
  have b15 := F15.binds (ps := ["ahead", "round_so", "place"]) fun _ _ _ _ _ _ us hl => match us, hl with | [_, _, _], _ => rfl
  have F16 := fun_mk (st := s_first_letters) l16 c16 k16
  have b16 := F16.binds (ps := ["own", "many"]) fun _ _ _ _ _ _ us hl => match us, hl with | [_, _], _ => rfl
  have F17 := fun_mk (st := s_watched_in) l17 c17 k17
  have b17 := F17.binds (ps := ["moods"]) fun _ _ _ _ _ _ us hl => match us, hl with | [_], _ => rfl
  have F18 := fun_mk (st := s_Stands___init__) l18 c18 k18
  have b18 := F18.binds (ps := ["self", "moods"]) fun _ _ _ _ _ _ us hl => match us, hl with | [_, _], _ => rfl
  have F19 := fun_mk (st := s_Stands_told) l19 c19 k19
  have b19 := F19.binds (ps := ["self", "own", "letter", "before", "beyond"]) fun _ _ _ _ _ _ us hl => match us, hl with | [_, _, _, _, _], _ => rfl
  have F20 := fun_mk (st := s_Stands_hits) l20 c20 k20
  have b20 := F20.binds (ps := ["self", "word", "letter", "before", "beyond"]) fun _ _ _ _ _ _ us hl => match us, hl with | [_, _, _, _, _], _ => rfl
  have F21 := fun_mk (st := s_subsets) l21 c21 k21
  have b21 := F21.binds (ps := ["some"]) fun _ _ _ _ _ _ us hl => match us, hl with | [_], _ => rfl
  have F22 := fun_mk (st := s_joined) l22 c22 k22
  have b22 := F22.binds (ps := ["one", "other"]) fun _ _ _ _ _ _ us hl => match us, hl with | [_, _], _ => rfl
  have F23 := fun_mk (st := s_Stands_steps) l23 c23 k23
  have b23 := F23.binds (ps := ["self", "gap", "letter"]) fun _ _ _ _ _ _ us hl => match us, hl with | [_, _, _], _ => rfl
  have F24 := fun_mk (st := s_Stands_starts) l24 c24 k24
  have b24 := F24.binds (ps := ["self", "mood"]) fun _ _ _ _ _ _ us hl => match us, hl with | [_, _], _ => rfl
  have F25 := fun_mk (st := s_Going___init__) l25 c25 k25
  have b25 := F25.binds (ps := ["self", "wide", "demand"]) fun _ _ _ _ _ _ us hl => match us, hl with | [_, _, _], _ => rfl
  have F26 := fun_mk (st := s_sure_mood_of) l26 c26 k26
  have b26 := F26.binds (ps := ["wide", "mood"]) fun _ _ _ _ _ _ us hl => match us, hl with | [_, _], _ => rfl
  have F27 := fun_mk (st := s_loops_at) l27 c27 k27
  have b27 := F27.binds (ps := ["stands", "wide", "gap"]) fun _ _ _ _ _ _ us hl => match us, hl with | [_, _, _], _ => rfl
  have F28 := fun_mk (st := s_hits_at) l28 c28 k28
  have b28 := F28.binds (ps := ["stands", "gap", "letter"]) fun _ _ _ _ _ _ us hl => match us, hl with | [_, _, _], _ => rfl
  have F29 := fun_mk (st := s_is_all_hit) l29 c29 k29
  have b29 := F29.binds (ps := ["stands", "gap", "letters"]) fun _ _ _ _ _ _ us hl => match us, hl with | [_, _, _], _ => rfl
  have F30 := fun_mk (st := s_lasts_by) l30 c30 k30
  have b30 := F30.binds (ps := ["stands", "wide", "gap", "letters"]) fun _ _ _ _ _ _ us hl => match us, hl with | [_, _, _, _], _ => rfl
  have F31 := fun_mk (st := s_is_lasting_in) l31 c31 k31
  have b31 := F31.binds (ps := ["stands", "wide", "gap"]) fun _ _ _ _ _ _ us hl => match us, hl with | [_, _, _], _ => rfl
  have F32 := fun_mk (st := s_going_of) l32 c32 k32
  have b32 := F32.binds (ps := ["wide", "mood"]) fun _ _ _ _ _ _ us hl => match us, hl with | [_, _], _ => rfl
  have F33 := fun_mk (st := s_is_ascending) l33 c33 k33
  have b33 := F33.binds (ps := ["thing"]) fun _ _ _ _ _ _ us hl => match us, hl with | [_], _ => rfl
  have F34 := fun_mk (st := s_is_set_of) l34 c34 k34
  have b34 := F34.binds (ps := ["wide", "thing"]) fun _ _ _ _ _ _ us hl => match us, hl with | [_, _], _ => rfl
  have F35 := fun_mk (st := s_is_endpiece_form) l35 c35 k35
  have b35 := F35.binds (ps := ["wide", "thing"]) fun _ _ _ _ _ _ us hl => match us, hl with | [_, _], _ => rfl
  have F36 := fun_mk (st := s_is_endpiece) l36 c36 k36
  have b36 := F36.binds (ps := ["wide", "thing"]) fun _ _ _ _ _ _ us hl => match us, hl with | [_, _], _ => rfl
  have F37 := fun_mk (st := s_sure_endpiece) l37 c37 k37
  have b37 := F37.binds (ps := ["piece"]) fun _ _ _ _ _ _ us hl => match us, hl with | [_], _ => rfl
  have F38 := fun_mk (st := s_readings_in) l38 c38 k38
  have b38 := F38.binds (ps := ["piece", "lasso"]) fun _ _ _ _ _ _ us hl => match us, hl with | [_, _], _ => rfl
  have F39 := fun_mk (st := s_endpiece_has) l39 c39 k39
  have b39 := F39.binds (ps := ["piece", "lasso"]) fun _ _ _ _ _ _ us hl => match us, hl with | [_, _], _ => rfl
  have F40 := fun_mk (st := s_endpiece_reading) l40 c40 k40
  have b40 := F40.binds (ps := ["piece", "lasso"]) fun _ _ _ _ _ _ us hl => match us, hl with | [_, _], _ => rfl
  have F41 := fun_mk (st := s_endpiece_text) l41 c41 k41
  have b41 := F41.binds (ps := ["piece"]) fun _ _ _ _ _ _ us hl => match us, hl with | [_], _ => rfl
  have F42 := fun_mk (st := s_needs_at) l42 c42 k42
  have b42 := F42.binds (ps := ["stands", "wide", "gap"]) fun _ _ _ _ _ _ us hl => match us, hl with | [_, _, _], _ => rfl
  have F43 := fun_mk (st := s_live_gaps) l43 c43 k43
  have b43 := F43.binds (ps := ["going", "wide"]) fun _ _ _ _ _ _ us hl => match us, hl with | [_, _], _ => rfl
  have F44 := fun_mk (st := s_onward_of) l44 c44 k44
  have b44 := F44.binds (ps := ["going", "gap", "some"]) fun _ _ _ _ _ _ us hl => match us, hl with | [_, _, _], _ => rfl
  have F45 := fun_mk (st := s_endcut_in) l45 c45 k45
  have b45 := F45.binds (ps := ["wide", "mood"]) fun _ _ _ _ _ _ us hl => match us, hl with | [_, _], _ => rfl
  have F46 := fun_mk (st := s_endcut_of) l46 c46 k46
  have b46 := F46.binds (ps := ["wide", "mood"]) fun _ _ _ _ _ _ us hl => match us, hl with | [_, _], _ => rfl
  have F47 := fun_mk (st := s_endpiece_of) l47 c47 k47
  have b47 := F47.binds (ps := ["wide", "mood", "lasso"]) fun _ _ _ _ _ _ us hl => match us, hl with | [_, _, _], _ => rfl
  have F48 := fun_mk (st := s__law_box) l48 c48 k48
  have b48 := F48.binds (ps := ["script", "k"]) fun _ _ _ _ _ _ us hl => match us, hl with | [_, _], _ => rfl
  have F49 := fun_mk (st := s__law_take) l49 c49 k49
  have b49 := F49.binds (ps := ["tin", "below"]) fun _ _ _ _ _ _ us hl => match us, hl with | [_, _], _ => rfl
  have F50 := fun_mk (st := s__law_cells) l50 c50 k50
  have b50 := F50.binds (ps := ["script", "most"]) fun _ _ _ _ _ _ us hl => match us, hl with | [_, _], _ => rfl
  have F51 := fun_mk (st := s__law_same) l51 c51 k51
  have b51 := F51.binds (ps := ["got", "goal"]) fun _ _ _ _ _ _ us hl => match us, hl with | [_, _], _ => rfl
  have F52 := fun_mk (st := s__law_lists) l52 c52 k52
  have b52 := F52.binds (ps := ["matter"]) fun _ _ _ _ _ _ us hl => match us, hl with | [_], _ => rfl
  have F53 := fun_mk (st := s__law_of) l53 c53 k53
  have b53 := F53.binds (ps := ["tin", "goods"]) fun _ _ _ _ _ _ us hl => match us, hl with | [_, _], _ => rfl
  have F54 := fun_mk (st := s__law_gap_subsets) l54 c54 k54
  have b54 := F54.binds (ps := ["some"]) fun _ _ _ _ _ _ us hl => match us, hl with | [_], _ => rfl
  have F55 := fun_mk (st := s__law_try) l55 c55 k55
  have b55 := F55.binds (ps := ["door", "one", "other", "thing"]) fun _ _ _ _ _ _ us hl => match us, hl with | [_, _, _, _], _ => rfl
  have F56 := fun_mk (st := s__law_forms) l56 c56 k56
  have b56 := F56.binds (ps := ["all_three"]) fun _ _ _ _ _ _ us hl => match us, hl with | [_], _ => rfl
  have F57 := fun_mk (st := s_law) l57 c57 k57
  have b57 := F57.binds (ps := ["script"]) fun _ _ _ _ _ _ us hl => match us, hl with | [_], _ => rfl
  refine ⟨PySem.W.fnOf "law" "law" (defArgs s_law) (defBody s_law) (defScope s_law) .none kV57 dc57 pm57 an57 cd57 ct57, fun s v => .of_eq rfl, fun base _ _ => ?_⟩
  have c_is_number : Cal l.prog w G.K mg base 1 "is_number" ["thing"] (spP G 1 M_is_number) := cal_mk X Gn a0 k0 b0 (fn_is_number T F0 rfl rfl )
  have r_tuple_of : ∀ j, Cal l.prog w G.K mg base (0 + j) "tuple_of" ["thing"] (spP G 1 (M_tuple_of j)) := fun j => by
    induction j with
    | zero => exact cal_mk X Gn a1 k1 b1 (fn_none no_P)
    | succ j ih => exact cal_mk X Gn a1 k1 b1 (fn_tuple_of T F1 rfl rfl ih)
  have c_tuple_of : Cal l.prog w G.K mg base 20 "tuple_of" ["thing"] (spP G 1 (M_tuple_of 20)) := r_tuple_of 20
  have c_is_tuple_of : Cal l.prog w G.K mg base 1 "is_tuple_of" ["thing", "many"] (spP G 2 M_is_tuple_of) := cal_mk X Gn a2 k2 b2 (fn_is_tuple_of T F2 rfl rfl )
  have c_is_letter_set : Cal l.prog w G.K mg base 2 "is_letter_set" ["wide", "thing"] (spP G 2 M_is_letter_set) := cal_mk X Gn a3 k3 b3 (fn_is_letter_set T F3 rfl rfl (c_is_number.mono (by decide)))
  have c_parts_of_mood : Cal l.prog w G.K mg base 3 "parts_of_mood" ["wide", "thing"] (spP G 2 M_parts_of_mood) := cal_mk X Gn a4 k4 b4 (fn_parts_of_mood T F4 rfl rfl (c_is_tuple_of.mono (by decide)) (c_is_letter_set.mono (by decide)))
  have c_is_mood : Cal l.prog w G.K mg base 4 "is_mood" ["wide", "thing"] (spP G 2 M_is_mood) := cal_mk X Gn a5 k5 b5 (fn_is_mood T F5 rfl rfl (c_parts_of_mood.mono (by decide)))
  have c_inner_moods : Cal l.prog w G.K mg base 1 "inner_moods" ["own"] (spP G 1 M_inner_moods) := cal_mk X Gn a6 k6 b6 (fn_inner_moods T F6 rfl rfl )
  have r_mood_size_in : ∀ j, Cal l.prog w G.K mg base (1 + j) "mood_size_in" ["own"] (spP G 1 (M_mood_size_in j)) := fun j => by
    induction j with
    | zero => exact cal_mk X Gn a7 k7 b7 (fn_none no_P)
    | succ j ih => exact cal_mk X Gn a7 k7 b7 (fn_mood_size_in T F7 rfl rfl ih (c_inner_moods.mono (by show _ ≤ 1 + _; omega)))
  have c_mood_size_in : Cal l.prog w G.K mg base 21 "mood_size_in" ["own"] (spP G 1 (M_mood_size_in 20)) := r_mood_size_in 20
  have c_is_letter : Cal l.prog w G.K mg base 2 "is_letter" ["wide", "thing"] (spP G 2 M_is_letter) := cal_mk X Gn a8 k8 b8 (fn_is_letter T F8 rfl rfl (c_is_number.mono (by decide)))
  have c_is_text : Cal l.prog w G.K mg base 3 "is_text" ["wide", "thing"] (spP G 2 M_is_text) := cal_mk X Gn a9 k9 b9 (fn_is_text T F9 rfl rfl (c_is_letter.mono (by decide)))
  have c_sure_wide_of : Cal l.prog w G.K mg base 2 "sure_wide_of" ["wide"] (spP G 1 M_sure_wide_of) := cal_mk X Gn a10 k10 b10 (fn_sure_wide_of T F10 rfl rfl (c_is_number.mono (by decide)))
  have c_is_lasso_form : Cal l.prog w G.K mg base 4 "is_lasso_form" ["wide", "thing"] (spP G 2 M_is_lasso_form) := cal_mk X Gn a11 k11 b11 (fn_is_lasso_form T F11 rfl rfl (c_is_tuple_of.mono (by decide)) (c_is_text.mono (by decide)))
  have c_sure_lasso : Cal l.prog w G.K mg base 21 "sure_lasso" ["wide", "lasso"] (spP G 2 M_sure_lasso) := cal_mk X Gn a12 k12 b12 (fn_sure_lasso T F12 rfl rfl (c_sure_wide_of.mono (by decide)) (c_tuple_of.mono (by decide)) (c_is_lasso_form.mono (by decide)))
  have c_shortest_round : Cal l.prog w G.K mg base 1 "shortest_round" ["round_so"] (spP G 1 M_shortest_round) := cal_mk X Gn a13 k13 b13 (fn_shortest_round T F13 rfl rfl )
  have c_short_in : Cal l.prog w G.K mg base 2 "short_in" ["ahead", "round_so"] (spP G 2 M_short_in) := cal_mk X Gn a14 k14 b14 (fn_short_in T F14 rfl rfl (c_shortest_round.mono (by decide)))
  have c_entry_at : Cal l.prog w G.K mg base 1 "entry_at" ["ahead", "round_so", "place"] (spP G 3 M_entry_at) := cal_mk X Gn a15 k15 b15 (fn_entry_at T F15 rfl rfl )
  have c_first_letters : Cal l.prog w G.K mg base 2 "first_letters" ["own", "many"] (spP G 2 M_first_letters) := cal_mk X Gn a16 k16 b16 (fn_first_letters T F16 rfl rfl (c_entry_at.mono (by decide)))
  have c_watched_in : Cal l.prog w G.K mg base 22 "watched_in" ["moods"] (spP G 1 M_watched_in) := cal_mk X Gn a17 k17 b17 (fn_watched_in T F17 rfl rfl (c_inner_moods.mono (by decide)) (c_mood_size_in.mono (by decide)))
  have c_Stands___init__ : CalI l.prog w G.K mg base 23 (G.oC 0) "Stands" ["self", "moods"] (spI G 0 2 M_Stands___init__) := calI_mk X Gn gC0 mk0 a18 i18 kc0 b18 (fn_Stands___init__ T F18 rfl rfl (c_watched_in.mono (by decide)))
  have r_Stands_told : ∀ j, CalM l.prog w G.K mg base (0 + j) (G.oC 0) "told" ["self", "own", "letter", "before", "beyond"] (spP G 5 (M_Stands_told j)) := fun j => by
    induction j with
    | zero => exact calM_mk a19 i19 k19 b19 (fn_none no_P)
    | succ j ih => exact calM_mk a19 i19 k19 b19 (fn_Stands_told T F19 rfl rfl ih)
  have c_Stands_told : CalM l.prog w G.K mg base 20 (G.oC 0) "told" ["self", "own", "letter", "before", "beyond"] (spP G 5 (M_Stands_told 20)) := r_Stands_told 20
  have c_Stands_hits : CalM l.prog w G.K mg base 21 (G.oC 0) "hits" ["self", "word", "letter", "before", "beyond"] (spP G 5 M_Stands_hits) := calM_mk a20 i20 k20 b20 (fn_Stands_hits T F20 rfl rfl (c_Stands_told.mono (by decide)))
  have c_subsets : Cal l.prog w G.K mg base 1 "subsets" ["some"] (spP G 1 M_subsets) := cal_mk X Gn a21 k21 b21 (fn_subsets T F21 rfl rfl )
  have c_joined : Cal l.prog w G.K mg base 1 "joined" ["one", "other"] (spP G 2 M_joined) := cal_mk X Gn a22 k22 b22 (fn_joined T F22 rfl rfl )
  have c_Stands_steps : CalM l.prog w G.K mg base 22 (G.oC 0) "steps" ["self", "gap", "letter"] (spP G 3 M_Stands_steps) := calM_mk a23 i23 k23 b23 (fn_Stands_steps T F23 rfl rfl (c_subsets.mono (by decide)) (c_joined.mono (by decide)) (c_Stands_hits.mono (by decide)))
  have c_Stands_starts : CalM l.prog w G.K mg base 21 (G.oC 0) "starts" ["self", "mood"] (spP G 2 M_Stands_starts) := calM_mk a24 i24 k24 b24 (fn_Stands_starts T F24 rfl rfl (c_subsets.mono (by decide)) (c_Stands_told.mono (by decide)))
  have c_Going___init__ : CalI l.prog w G.K mg base 25 (G.oC 1) "Going" ["self", "wide", "demand"] (spI G 1 3 M_Going___init__) := calI_mk X Gn gC1 mk1 a25 i25 kc1 b25 (fn_Going___init__ (ki := 23) (by decide) T F25 rfl rfl (c_Stands___init__.mono (by decide)) (c_Stands_starts.mono (by decide)) (c_Stands_steps.mono (by decide)))
  have c_sure_mood_of : Cal l.prog w G.K mg base 21 "sure_mood_of" ["wide", "mood"] (spP G 2 M_sure_mood_of) := cal_mk X Gn a26 k26 b26 (fn_sure_mood_of T F26 rfl rfl (c_sure_wide_of.mono (by decide)) (c_tuple_of.mono (by decide)) (c_is_mood.mono (by decide)))
  have c_loops_at : Cal l.prog w G.K mg base 23 "loops_at" ["stands", "wide", "gap"] (spP G 3 M_loops_at) := cal_mk X Gn a27 k27 b27 (fn_loops_at T F27 rfl rfl (c_Stands_steps.mono (by decide)))
  have c_hits_at : Cal l.prog w G.K mg base 22 "hits_at" ["stands", "gap", "letter"] (spP G 3 M_hits_at) := cal_mk X Gn a28 k28 b28 (fn_hits_at T F28 rfl rfl (c_Stands_hits.mono (by decide)))
  have c_is_all_hit : Cal l.prog w G.K mg base 23 "is_all_hit" ["stands", "gap", "letters"] (spP G 3 M_is_all_hit) := cal_mk X Gn a29 k29 b29 (fn_is_all_hit T F29 rfl rfl (c_hits_at.mono (by decide)))
  have c_lasts_by : Cal l.prog w G.K mg base 24 "lasts_by" ["stands", "wide", "gap", "letters"] (spP G 4 M_lasts_by) := cal_mk X Gn a30 k30 b30 (fn_lasts_by T F30 rfl rfl (c_loops_at.mono (by decide)) (c_is_all_hit.mono (by decide)))
  have c_is_lasting_in : Cal l.prog w G.K mg base 25 "is_lasting_in" ["stands", "wide", "gap"] (spP G 3 M_is_lasting_in) := cal_mk X Gn a31 k31 b31 (fn_is_lasting_in T F31 rfl rfl (c_lasts_by.mono (by decide)) (c_loops_at.mono (by decide)))
  have c_going_of : Cal l.prog w G.K mg base 27 "going_of" ["wide", "mood"] (spP G 2 M_going_of) := cal_mk X Gn a32 k32 b32 (fn_going_of (ki := 25) (by decide) T F32 rfl rfl (c_Going___init__.mono (by decide)))
  have c_is_ascending : Cal l.prog w G.K mg base 1 "is_ascending" ["thing"] (spP G 1 M_is_ascending) := cal_mk X Gn a33 k33 b33 (fn_is_ascending T F33 rfl rfl )
  have c_is_set_of : Cal l.prog w G.K mg base 4 "is_set_of" ["wide", "thing"] (spP G 2 M_is_set_of) := cal_mk X Gn a34 k34 b34 (fn_is_set_of T F34 rfl rfl (c_is_text.mono (by decide)) (c_is_ascending.mono (by decide)))
  have c_is_endpiece_form : Cal l.prog w G.K mg base 5 "is_endpiece_form" ["wide", "thing"] (spP G 2 M_is_endpiece_form) := cal_mk X Gn a35 k35 b35 (fn_is_endpiece_form T F35 rfl rfl (c_is_tuple_of.mono (by decide)) (c_is_text.mono (by decide)) (c_is_ascending.mono (by decide)) (c_is_set_of.mono (by decide)))
  have c_is_endpiece : Cal l.prog w G.K mg base 6 "is_endpiece" ["wide", "thing"] (spP G 2 M_is_endpiece) := cal_mk X Gn a36 k36 b36 (fn_is_endpiece T F36 rfl rfl (c_sure_wide_of.mono (by decide)) (c_is_endpiece_form.mono (by decide)))
  have c_sure_endpiece : Cal l.prog w G.K mg base 21 "sure_endpiece" ["piece"] (spP G 1 M_sure_endpiece) := cal_mk X Gn a37 k37 b37 (fn_sure_endpiece T F37 rfl rfl (c_tuple_of.mono (by decide)) (c_is_endpiece_form.mono (by decide)))
  have c_readings_in : Cal l.prog w G.K mg base 3 "readings_in" ["piece", "lasso"] (spP G 2 M_readings_in) := cal_mk X Gn a38 k38 b38 (fn_readings_in T F38 rfl rfl (c_first_letters.mono (by decide)))
  have c_endpiece_has : Cal l.prog w G.K mg base 22 "endpiece_has" ["piece", "lasso"] (spP G 2 M_endpiece_has) := cal_mk X Gn a39 k39 b39 (fn_endpiece_has T F39 rfl rfl (c_sure_endpiece.mono (by decide)) (c_sure_lasso.mono (by decide)) (c_readings_in.mono (by decide)))
  have c_endpiece_reading : Cal l.prog w G.K mg base 22 "endpiece_reading" ["piece", "lasso"] (spP G 2 M_endpiece_reading) := cal_mk X Gn a40 k40 b40 (fn_endpiece_reading T F40 rfl rfl (c_readings_in.mono (by decide)) (c_sure_endpiece.mono (by decide)) (c_sure_lasso.mono (by decide)))
  have c_endpiece_text : Cal l.prog w G.K mg base 22 "endpiece_text" ["piece"] (spP G 1 M_endpiece_text) := cal_mk X Gn a41 k41 b41 (fn_endpiece_text T F41 rfl rfl (c_sure_endpiece.mono (by decide)) (c_short_in.mono (by decide)))
  have c_needs_at : Cal l.prog w G.K mg base 24 "needs_at" ["stands", "wide", "gap"] (spP G 3 M_needs_at) := cal_mk X Gn a42 k42 b42 (fn_needs_at T F42 rfl rfl (c_loops_at.mono (by decide)) (c_hits_at.mono (by decide)))
  have c_live_gaps : Cal l.prog w G.K mg base 26 "live_gaps" ["going", "wide"] (spP G 2 M_live_gaps) := cal_mk X Gn a43 k43 b43 (fn_live_gaps T F43 rfl rfl (c_is_lasting_in.mono (by decide)))
  have c_onward_of : Cal l.prog w G.K mg base 1 "onward_of" ["going", "gap", "some"] (spP G 3 M_onward_of) := cal_mk X Gn a44 k44 b44 (fn_onward_of T F44 rfl rfl )
  have c_endcut_in : Cal l.prog w G.K mg base 28 "endcut_in" ["wide", "mood"] (spP G 2 M_endcut_in) := cal_mk X Gn a45 k45 b45 (fn_endcut_in T F45 rfl rfl (c_going_of.mono (by decide)) (c_live_gaps.mono (by decide)) (c_is_lasting_in.mono (by decide)) (c_onward_of.mono (by decide)) (c_loops_at.mono (by decide)) (c_needs_at.mono (by decide)))
  have c_endcut_of : Cal l.prog w G.K mg base 29 "endcut_of" ["wide", "mood"] (spP G 2 M_endcut_of) := cal_mk X Gn a46 k46 b46 (fn_endcut_of T F46 rfl rfl (c_endcut_in.mono (by decide)) (c_sure_mood_of.mono (by decide)))
  have c_endpiece_of : Cal l.prog w G.K mg base 29 "endpiece_of" ["wide", "mood", "lasso"] (spP G 3 M_endpiece_of) := cal_mk X Gn a47 k47 b47 (fn_endpiece_of T F47 rfl rfl (c_endcut_in.mono (by decide)) (c_sure_mood_of.mono (by decide)) (c_sure_lasso.mono (by decide)) (c_readings_in.mono (by decide)))
  have c__law_box : Cal l.prog w G.K mg base 1 "_law_box" ["script", "k"] (spF G 2 M__law_box) := cal_mk X Gn a48 k48 b48 (fn__law_box T F48 rfl rfl )
  have c__law_take : Cal l.prog w G.K mg base 1 "_law_take" ["tin", "below"] (spT G 2 M__law_take) := cal_mk X Gn a49 k49 b49 (fn__law_take T F49 rfl rfl )
  have c__law_cells : Cal l.prog w G.K mg base 1 "_law_cells" ["script", "most"] (spP G 2 M__law_cells) := cal_mk X Gn a50 k50 b50 (fn__law_cells T F50 rfl rfl )
  have r__law_same : ∀ j, Cal l.prog w G.K mg base (0 + j) "_law_same" ["got", "goal"] (spP G 2 (M__law_same j)) := fun j => by
    induction j with
    | zero => exact cal_mk X Gn a51 k51 b51 (fn_none no_P)
    | succ j ih => exact cal_mk X Gn a51 k51 b51 (fn__law_same T F51 rfl rfl ih)
  have c__law_same : Cal l.prog w G.K mg base 20 "_law_same" ["got", "goal"] (spP G 2 (M__law_same 20)) := r__law_same 20
  have r__law_lists : ∀ j, Cal l.prog w G.K mg base (0 + j) "_law_lists" ["matter"] (spP G 1 (M__law_lists j)) := fun j => by
    induction j with
    | zero => exact cal_mk X Gn a52 k52 b52 (fn_none no_P)
    | succ j ih => exact cal_mk X Gn a52 k52 b52 (fn__law_lists T F52 rfl rfl ih)
  have c__law_lists : Cal l.prog w G.K mg base 20 "_law_lists" ["matter"] (spP G 1 (M__law_lists 20)) := r__law_lists 20
  have c__law_of : Cal l.prog w G.K mg base 2 "_law_of" ["tin", "goods"] (spT G 2 M__law_of) := cal_mk X Gn a53 k53 b53 (fn__law_of T F53 rfl rfl (c__law_take.mono (by decide)))
  have c__law_gap_subsets : Cal l.prog w G.K mg base 1 "_law_gap_subsets" ["some"] (spP G 1 M__law_gap_subsets) := cal_mk X Gn a54 k54 b54 (fn__law_gap_subsets T F54 rfl rfl )
  have c__law_try : Cal l.prog w G.K mg base 30 "_law_try" ["door", "one", "other", "thing"] (spP G 4 M__law_try) := cal_mk X Gn a55 k55 b55 (fn__law_try T F55 rfl rfl (c_endpiece_of.mono (by decide)) (c_is_endpiece.mono (by decide)) (c_endpiece_has.mono (by decide)) (c_endpiece_reading.mono (by decide)) (c_endpiece_text.mono (by decide)) (c_endcut_of.mono (by decide)))
  have c__law_forms : Cal l.prog w G.K mg base 2 "_law_forms" ["all_three"] (spP G 1 M__law_forms) := cal_mk X Gn a56 k56 b56 (fn__law_forms T F56 rfl rfl (c__law_gap_subsets.mono (by decide)))
  exact (fn_law (k := 30) T F57 rfl rfl (c__law_box.mono (by decide)) (c__law_forms.mono (by decide)) (c__law_of.mono (by decide)) (c__law_cells.mono (by decide)) (c__law_take.mono (by decide)) (c__law_same.mono (by decide)) (c__law_try.mono (by decide)) (c_endpiece_text.mono (by decide)) (c_endpiece_of.mono (by decide)) (c_is_endpiece.mono (by decide)) (c_endcut_of.mono (by decide)) (c__law_lists.mono (by decide)) (c_endpiece_reading.mono (by decide)) (c_endpiece_has.mono (by decide))).imp (law_imp (G := G) hlaw)
end W
open PySem PySem.W PyProof.Rows
set_option maxRecDepth 100000 in
set_option maxHeartbeats 0 in
theorem PySem.Challenge.cw_endlessfingers_k47_endless_pieces_by_han_holds : PySem.Challenge.rw_endlessfingers_k47_endless_pieces_by_han.Holds := by
  w_on; o_law; k_head; (case hw => w_witness2)
  k_fill
  refine F.walk (l := PySem.Challenge.rw_endlessfingers_k47_endless_pieces_by_han) (k := 31) ⟨rfl, by decide, by decide⟩ rfl rfl (fun w h Y => PySem.W.kIn_of Y) ?F
  case F =>
    intro w mg fa h KX Gn hmg
    refine' W.all_mk KX Gn hmg ?gC0 ?pg0 ?hd0 ?po0 ?sa0 ?mk0 ?kc0 ?nA0_0 ?gC1 ?pg1 ?hd1 ?po1 ?sa1 ?mk1 ?kc1 ?nA1_0 ?nA1_1 ?nA1_2 ?nA1_3 ?nA1_4 ?a0 ?l0 ?c0 ?k0 ?a1 ?l1 ?c1 ?k1 ?a2 ?l2 ?c2 ?k2 ?a3 ?l3 ?c3 ?k3 ?a4 ?l4 ?c4 ?k4 ?a5 ?l5 ?c5 ?k5 ?a6 ?l6 ?c6 ?k6 ?a7 ?l7 ?c7 ?k7 ?a8 ?l8 ?c8 ?k8 ?a9 ?l9 ?c9 ?k9 ?a10 ?l10 ?c10 ?k10 ?a11 ?l11 ?c11 ?k11 ?a12 ?l12 ?c12 ?k12 ?a13 ?l13 ?c13 ?k13 ?a14 ?l14 ?c14 ?k14 ?a15 ?l15 ?c15 ?k15 ?a16 ?l16 ?c16 ?k16 ?a17 ?l17 ?c17 ?k17 ?a18 ?i18 ?l18 ?c18 ?k18 ?a19 ?i19 ?l19 ?c19 ?k19 ?a20 ?i20 ?l20 ?c20 ?k20 ?a21 ?l21 ?c21 ?k21 ?a22 ?l22 ?c22 ?k22 ?a23 ?i23 ?l23 ?c23 ?k23 ?a24 ?i24 ?l24 ?c24 ?k24 ?a25 ?i25 ?l25 ?c25 ?k25 ?a26 ?l26 ?c26 ?k26 ?a27 ?l27 ?c27 ?k27 ?a28 ?l28 ?c28 ?k28 ?a29 ?l29 ?c29 ?k29 ?a30 ?l30 ?c30 ?k30 ?a31 ?l31 ?c31 ?k31 ?a32 ?l32 ?c32 ?k32 ?a33 ?l33 ?c33 ?k33 ?a34 ?l34 ?c34 ?k34 ?a35 ?l35 ?c35 ?k35 ?a36 ?l36 ?c36 ?k36 ?a37 ?l37 ?c37 ?k37 ?a38 ?l38 ?c38 ?k38 ?a39 ?l39 ?c39 ?k39 ?a40 ?l40 ?c40 ?k40 ?a41 ?l41 ?c41 ?k41 ?a42 ?l42 ?c42 ?k42 ?a43 ?l43 ?c43 ?k43 ?a44 ?l44 ?c44 ?k44 ?a45 ?l45 ?c45 ?k45 ?a46 ?l46 ?c46 ?k46 ?a47 ?l47 ?c47 ?k47 ?a48 ?l48 ?c48 ?k48 ?a49 ?l49 ?c49 ?k49 ?a50 ?l50 ?c50 ?k50 ?a51 ?l51 ?c51 ?k51 ?a52 ?l52 ?c52 ?k52 ?a53 ?l53 ?c53 ?k53 ?a54 ?l54 ?c54 ?k54 ?a55 ?l55 ?c55 ?k55 ?a56 ?l56 ?c56 ?k56 ?a57 ?l57 ?c57 ?k57 ?z_abs ?z_all ?z_any ?z_bool ?z_enumerate ?z_int ?z_isinstance ?z_len ?z_list ?z_range ?z_set ?z_sorted ?z_str ?z_sum ?z_tuple ?z_zip ?v_AHEAD ?v_LATER ?v_MOST_GAPS ?v_MOST_LETTERS ?v_MOST_NEEDS ?v_MOST_PIECES ?v_MOST_WATCHED ?v_MOST_WIDE ?v_YES ?q_YES ?gE0 ?kE0 ?xE0 ?bE0 ?tE0 ?gE1 ?kE1 ?xE1 ?bE1 ?tE1 ?gE2 ?kE2 ?xE2 ?bE2 ?tE2 ?iE0 ?iE1 ?iE2 ?m0_0 ?m0_1 ?m0_2 ?m1_0 ?m1_1 ?m1_2 ?m2_0 ?m2_1 ?m2_2 W.law_true
    (case gC0 => k_is); (case pg0 => k_is); (case hd0 => k_is); (case po0 => k_is); (case sa0 => k_is); (case mk0 => first | rfl | k_is)
    (case kc0 => k_is); (case nA0_0 => k_is); (case gC1 => k_is); (case pg1 => k_is); (case hd1 => k_is); (case po1 => k_is)
    (case sa1 => k_is); (case mk1 => first | rfl | k_is); (case kc1 => k_is); (case nA1_0 => k_is); (case nA1_1 => k_is); (case nA1_2 => k_is)
    (case nA1_3 => k_is); (case nA1_4 => k_is); (case a0 => k_is); (case l0 => k_is); (case c0 => k_is); (case k0 => k_is)
    (case a1 => k_is); (case l1 => k_is); (case c1 => k_is); (case k1 => k_is); (case a2 => k_is); (case l2 => k_is)
    (case c2 => k_is); (case k2 => k_is); (case a3 => k_is); (case l3 => k_is); (case c3 => k_is); (case k3 => k_is)
    (case a4 => k_is); (case l4 => k_is); (case c4 => k_is); (case k4 => k_is); (case a5 => k_is); (case l5 => k_is)
    (case c5 => k_is); (case k5 => k_is); (case a6 => k_is); (case l6 => k_is); (case c6 => k_is); (case k6 => k_is)
    (case a7 => k_is); (case l7 => k_is); (case c7 => k_is); (case k7 => k_is); (case a8 => k_is); (case l8 => k_is)
    (case c8 => k_is); (case k8 => k_is); (case a9 => k_is); (case l9 => k_is); (case c9 => k_is); (case k9 => k_is)
    (case a10 => k_is); (case l10 => k_is); (case c10 => k_is); (case k10 => k_is); (case a11 => k_is); (case l11 => k_is)
    (case c11 => k_is); (case k11 => k_is); (case a12 => k_is); (case l12 => k_is); (case c12 => k_is); (case k12 => k_is)
    (case a13 => k_is); (case l13 => k_is); (case c13 => k_is); (case k13 => k_is); (case a14 => k_is); (case l14 => k_is)
    (case c14 => k_is); (case k14 => k_is); (case a15 => k_is); (case l15 => k_is); (case c15 => k_is); (case k15 => k_is)
    (case a16 => k_is); (case l16 => k_is); (case c16 => k_is); (case k16 => k_is); (case a17 => k_is); (case l17 => k_is)
    (case c17 => k_is); (case k17 => k_is); (case a18 => k_is); (case i18 => k_is); (case l18 => k_is); (case c18 => k_is)
    (case k18 => k_is); (case a19 => k_is); (case i19 => k_is); (case l19 => k_is); (case c19 => k_is); (case k19 => k_is)
    (case a20 => k_is); (case i20 => k_is); (case l20 => k_is); (case c20 => k_is); (case k20 => k_is); (case a21 => k_is)
    (case l21 => k_is); (case c21 => k_is); (case k21 => k_is); (case a22 => k_is); (case l22 => k_is); (case c22 => k_is)
    (case k22 => k_is); (case a23 => k_is); (case i23 => k_is); (case l23 => k_is); (case c23 => k_is); (case k23 => k_is)
    (case a24 => k_is); (case i24 => k_is); (case l24 => k_is); (case c24 => k_is); (case k24 => k_is); (case a25 => k_is)
    (case i25 => k_is); (case l25 => k_is); (case c25 => k_is); (case k25 => k_is); (case a26 => k_is); (case l26 => k_is)
    (case c26 => k_is); (case k26 => k_is); (case a27 => k_is); (case l27 => k_is); (case c27 => k_is); (case k27 => k_is)
    (case a28 => k_is); (case l28 => k_is); (case c28 => k_is); (case k28 => k_is); (case a29 => k_is); (case l29 => k_is)
    (case c29 => k_is); (case k29 => k_is); (case a30 => k_is); (case l30 => k_is); (case c30 => k_is); (case k30 => k_is)
    (case a31 => k_is); (case l31 => k_is); (case c31 => k_is); (case k31 => k_is); (case a32 => k_is); (case l32 => k_is)
    (case c32 => k_is); (case k32 => k_is); (case a33 => k_is); (case l33 => k_is); (case c33 => k_is); (case k33 => k_is)
    (case a34 => k_is); (case l34 => k_is); (case c34 => k_is); (case k34 => k_is); (case a35 => k_is); (case l35 => k_is)
    (case c35 => k_is); (case k35 => k_is); (case a36 => k_is); (case l36 => k_is); (case c36 => k_is); (case k36 => k_is)
    (case a37 => k_is); (case l37 => k_is); (case c37 => k_is); (case k37 => k_is); (case a38 => k_is); (case l38 => k_is)
    (case c38 => k_is); (case k38 => k_is); (case a39 => k_is); (case l39 => k_is); (case c39 => k_is); (case k39 => k_is)
    (case a40 => k_is); (case l40 => k_is); (case c40 => k_is); (case k40 => k_is); (case a41 => k_is); (case l41 => k_is)
    (case c41 => k_is); (case k41 => k_is); (case a42 => k_is); (case l42 => k_is); (case c42 => k_is); (case k42 => k_is)
    (case a43 => k_is); (case l43 => k_is); (case c43 => k_is); (case k43 => k_is); (case a44 => k_is); (case l44 => k_is)
    (case c44 => k_is); (case k44 => k_is); (case a45 => k_is); (case l45 => k_is); (case c45 => k_is); (case k45 => k_is)
    (case a46 => k_is); (case l46 => k_is); (case c46 => k_is); (case k46 => k_is); (case a47 => k_is); (case l47 => k_is)
    (case c47 => k_is); (case k47 => k_is); (case a48 => k_is); (case l48 => k_is); (case c48 => k_is); (case k48 => k_is)
    (case a49 => k_is); (case l49 => k_is); (case c49 => k_is); (case k49 => k_is); (case a50 => k_is); (case l50 => k_is)
    (case c50 => k_is); (case k50 => k_is); (case a51 => k_is); (case l51 => k_is); (case c51 => k_is); (case k51 => k_is)
    (case a52 => k_is); (case l52 => k_is); (case c52 => k_is); (case k52 => k_is); (case a53 => k_is); (case l53 => k_is)
    (case c53 => k_is); (case k53 => k_is); (case a54 => k_is); (case l54 => k_is); (case c54 => k_is); (case k54 => k_is)
    (case a55 => k_is); (case l55 => k_is); (case c55 => k_is); (case k55 => k_is); (case a56 => k_is); (case l56 => k_is)
    (case c56 => k_is); (case k56 => k_is); (case a57 => k_is); (case l57 => k_is); (case c57 => k_is); (case k57 => k_is)
    (case z_abs => k_is); (case z_all => k_is); (case z_any => k_is); (case z_bool => k_is); (case z_enumerate => k_is); (case z_int => k_is)
    (case z_isinstance => k_is); (case z_len => k_is); (case z_list => k_is); (case z_range => k_is); (case z_set => k_is); (case z_sorted => k_is)
    (case z_str => k_is); (case z_sum => k_is); (case z_tuple => k_is); (case z_zip => k_is); (case v_AHEAD => k_is); (case v_LATER => k_is)
    (case v_MOST_GAPS => k_is); (case v_MOST_LETTERS => k_is); (case v_MOST_NEEDS => k_is); (case v_MOST_PIECES => k_is); (case v_MOST_WATCHED => k_is); (case v_MOST_WIDE => k_is)
    (case v_YES => k_is); (case q_YES => k_is); (case gE0 => k_is); (case kE0 => k_is); (case xE0 => k_exc); (case bE0 => k_is)
    (case tE0 => k_is); (case gE1 => k_is); (case kE1 => k_is); (case xE1 => k_exc); (case bE1 => k_is); (case tE1 => k_is)
    (case gE2 => k_is); (case kE2 => k_is); (case xE2 => k_exc); (case bE2 => k_is); (case tE2 => k_is); (case iE0 => k_is)
    (case iE1 => k_is); (case iE2 => k_is); (case m0_0 => first | rfl | k_is); (case m0_1 => first | rfl | k_is); (case m0_2 => first | rfl | k_is); (case m1_0 => first | rfl | k_is)
    (case m1_1 => first | rfl | k_is); (case m1_2 => first | rfl | k_is); (case m2_0 => first | rfl | k_is); (case m2_1 => first | rfl | k_is); (case m2_2 => first | rfl | k_is)
