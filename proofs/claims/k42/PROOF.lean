import PyProof.Rows.All
import Wide.All
import OpenK.AllK
import Wide.FinOn
import HandS.ForMost
import HandS.Exc
import HandS.ExcOwn
import HandS.CallSlots
import HandS.WordsExc
import HandS.IsInst
import HandS.Deep
import HandS.TupAny
import HandS.Conv
import HandS.Sort
import HandS.SortInts
import HandS.Wide
import HandS.Zip
import HandS.TupSets
import KE.SortData
import KE.DataEq
import KE.DataFind
import KE.KeyNested
import KE.KDictKeyed
import KE.GoesEnum
import KE.GoesMore
import KE.GoesZip
import HandS.Style
import PyProof.ReprNest
import PyProof.SumWalkG
import PyProof.SeqIndex
import PyProof.StrHeap
import HandS.Defaults
import HandS.HeadHook2
import HandS.HeadEnd
import HandS.Head2
import HandS.EndBits
import PySem.Challenge.RW_snapshothall_k42_whole_first_orders
import HandS.Head0
import HandS.Head1
set_option Elab.async false
set_option linter.all false
set_option maxRecDepth 100000
/-! Snapshothall layer 1: pure values, how V's of the hand layer stand for them, how heaps grow. -/
namespace Sn
open PySem PySem.Spec PyProof.Rows L2

/-- pure values -/
inductive D where
  | non
  | bl (b : Bool)
  | int (i : Int)
  | str (s : Str)
  | tup (xs : List D)
  | lst (xs : List D)
  | dct (es : List (D × D))
  | scr (xs : List D)
  | ref (n : Nat)
  | fn (n : Nat)
  deriving Inhabited
/-- what stands in the store -/
inductive O where
  | lst (xs : List D)
  | dct (es : List (Str × D))
  | ins (c : Nat) (fs : List (Str × D))
abbrev Store := List O
/-- an exception: its class by number, its fields -/
structure Ex where
  cls : Nat
  fs : List (Str × D)
inductive R (α : Type) where
  | ok (a : α)
  | exc (x : Ex) (s : Store)
  | err
def R.bind {α β : Type} (m : R α) (f : α → R β) : R β := match m with
  | .ok a => f a
  | .exc x s => .exc x s
  | .err => .err
@[simp] theorem R.bind_ok {α β : Type} (a : α) (f : α → R β) : (R.ok a).bind f = f a := rfl
@[simp] theorem R.bind_exc {α β : Type} (x : Ex) (s : Store) (f : α → R β) : (R.exc x s).bind f = R.exc x s := rfl
@[simp] theorem R.bind_err {α β : Type} (f : α → R β) : (R.err : R α).bind f = R.err := rfl

/-- a dict's key as data -/
def kD : Key → D
  | .inl i => .int i
  | .inr x => .str x
mutual
def D.key : D → NestedKey
  | .non => .none
  | .bl b => .num (if b = true then 1 else 0)
  | .int i => .num i
  | .str x => .text x
  | .tup xs => .tup (D.keys xs)
  | _ => .none
def D.keys : List D → List NestedKey
  | [] => []
  | x :: xs => D.key x :: D.keys xs
end
/-- a dict whose keys are tuples: its entries, by the keys' addresses -/
def HDT (P : Program) (w : World) (d : Addr) (xs : List (NestedKey × Addr × Value)) : HO :=
  .ext fun h => ∃ o es ep, h.get? d = some o ∧ o.ExactDict ∧ o.data = .dict es ep ∧ es.toList = xs.map (entryOfKey (nestedKind P w)) ∧ (xs.map (·.1)).Nodup ∧ (d == sysModules) = false ∧ xs.length ≤ sizeLine

/-- the script: a list that is never changed -/
def ScrAt (K : PySem.W.Frag) (H : Hp) (a : Addr) (vs : List V) : Prop := (∃ ob, H a = some (.frz ob (.lst vs))) ∨
  ∃ (o : Obj) (its : Array Value) (n : Nat), K.lookup a = some o ∧ o.cls = .type "list" ∧ o.dict = none ∧ o.data = .seq its n ∧ its.size ≤ sizeLine ∧ Vals vs its.toList
theorem ScrAt.seq {K : PySem.W.Frag} {H : Hp} {a : Addr} {vs : List V} (h : ScrAt K H a vs) : SqL K H a vs := h.imp (fun ⟨ob, e⟩ => .inr ⟨ob, e⟩) id
/-- a tuple that has no attributes of its own -/
def SqN (K : PySem.W.Frag) (H : Hp) (a : Addr) (vs : List V) : Prop := (∃ o, H a = some (.frz o (.tup vs)) ∧ o.cls = .type "tuple" ∧ o.dict = none) ∨
  ∃ (o : Obj) (its : Array Value) (n : Nat), K.lookup a = some o ∧ o.cls = .type "tuple" ∧ o.dict = none ∧ o.data = .seq its n ∧ its.size ≤ sizeLine ∧ Vals vs its.toList
theorem SqN.seq {K : PySem.W.Frag} {H : Hp} {a : Addr} {vs : List V} (h : SqN K H a vs) : SqT K H a vs := by
  rcases h with ⟨o, e, _⟩ | ⟨o, its, n, e, c, _, d, z, r⟩
  · exact .inl (.inr ⟨o, e⟩)
  · exact .inr ⟨o, its, n, e, c, d, z, r⟩
section
variable (P : Program) (w : World) (K : PySem.W.Frag)
mutual
/-- v stands for d: F the lists and dicts that are not to change any more, ρ the addresses of the store's objects -/
inductive Rep (F : Addr → Prop) (ρ : List Addr) (H : Hp) : V → D → Prop
  | non : Rep F ρ H .non .non
  | bl (b : Bool) : Rep F ρ H (.bl b) (.bl b)
  | int (i : Int) : Rep F ρ H (.int i) (.int i)
  | str (x : Str) : Rep F ρ H (.str x) (.str x)
  | tup {a : Addr} {vs : List V} {ds : List D} : SqN K H a vs → Reps F ρ H vs ds → ds.length ≤ sizeLine → Rep F ρ H (.ref a) (.tup ds)
  | lst {a : Addr} {vs : List V} {ds : List D} : F a → H a = some (.lst vs) → Reps F ρ H vs ds → ds.length ≤ sizeLine → Rep F ρ H (.ref a) (.lst ds)
  | scr {a : Addr} {vs : List V} {ds : List D} : ScrAt K H a vs → Reps F ρ H vs ds → ds.length ≤ sizeLine → Rep F ρ H (.ref a) (.scr ds)
  | dK {a : Addr} {kvs : List (Key × V)} {es : List (D × D)} : F a → H a = some (.dK kvs) → es.map (·.1) = kvs.map (fun p => kD p.1) → Reps F ρ H (kvs.map (·.2)) (es.map (·.2)) → Rep F ρ H (.ref a) (.dct es)
  | dT {a : Addr} {xs : List (NestedKey × Addr × Value)} {ws : List V} {es : List (D × D)} : F a → H a = some (HDT P w a xs) → xs.map (·.1) = es.map (fun p => p.1.key) → Reps F ρ H (xs.map fun x => V.ref x.2.1) (es.map (·.1)) →
      Vals ws (xs.map (·.2.2)) → Reps F ρ H ws (es.map (·.2)) → Rep F ρ H (.ref a) (.dct es)
  | ref {a : Addr} {n : Nat} : ρ[n]? = some a → Rep F ρ H (.ref a) (.ref n)
inductive Reps (F : Addr → Prop) (ρ : List Addr) (H : Hp) : List V → List D → Prop
  | nil : Reps F ρ H [] []
  | cons {v : V} {d : D} {vs : List V} {ds : List D} : Rep F ρ H v d → Reps F ρ H vs ds → Reps F ρ H (v :: vs) (d :: ds)
end

/-- what may be read stays -/
structure Keeps (F : Addr → Prop) (ρ : List Addr) (H : Hp) (F' : Addr → Prop) (ρ' : List Addr) (H' : Hp) : Prop where
  f : ∀ a, F a → F' a
  r : ∃ l, ρ' = ρ ++ l
  keepF : ∀ a o, H a = some o → F a → H' a = some o
  keepT : ∀ a xs, H a = some (.tup xs) → H' a = some (.tup xs)
  keepZ : ∀ a o u, H a = some (.frz o u) → H' a = some (.frz o u)
/-- a step in a frame whose own lists stand where H0 had nothing -/
structure Step (H0 : Hp) (F : Addr → Prop) (ρ : List Addr) (H : Hp) (F' : Addr → Prop) (ρ' : List Addr) (H' : Hp) : Prop extends Keeps F ρ H F' ρ' H' where
  keep : ∀ a o, H a = some o → a ∉ ρ → H0 a ≠ none → H' a = some o
  live : ∀ a o, H a = some o → ∃ o', H' a = some o'
  fnew : ∀ a, F' a → F a ∨ H0 a = none
  rnew : ∀ a, a ∈ ρ' → a ∈ ρ ∨ H a = none
/-- an expression's step: all that stood stands, but the store's objects -/
structure Ext (F : Addr → Prop) (ρ : List Addr) (H : Hp) (F' : Addr → Prop) (ρ' : List Addr) (H' : Hp) : Prop extends Keeps F ρ H F' ρ' H' where
  keep : ∀ a o, H a = some o → a ∉ ρ → H' a = some o
  live : ∀ a o, H a = some o → ∃ o', H' a = some o'
  fnew : ∀ a, F' a → F a ∨ H a = none
  rnew : ∀ a, a ∈ ρ' → a ∈ ρ ∨ H a = none
variable {P w K}
variable {F F' F'' : Addr → Prop} {ρ ρ' ρ'' : List Addr} {H H0 H' H'' : Hp} {v : V} {d : D} {vs : List V} {ds : List D}
theorem Keeps.refl : Keeps F ρ H F ρ H := ⟨fun _ h => h, ⟨[], by simp⟩, fun _ _ h _ => h, fun _ _ h => h, fun _ _ _ h => h⟩
theorem Keeps.trans (a : Keeps F ρ H F' ρ' H') (b : Keeps F' ρ' H' F'' ρ'' H'') : Keeps F ρ H F'' ρ'' H'' := by
  refine ⟨fun c h => b.f c (a.f c h), ?_, fun c o h f => b.keepF c o (a.keepF c o h f) (a.f c f), fun c xs h => b.keepT c xs (a.keepT c xs h), fun c o u h => b.keepZ c o u (a.keepZ c o u h)⟩
  obtain ⟨l, rfl⟩ := a.r
  obtain ⟨m, rfl⟩ := b.r
  exact ⟨l ++ m, by simp⟩
theorem Ext.refl : Ext F ρ H F ρ H := ⟨Keeps.refl, fun _ _ h _ => h, fun _ _ h => ⟨_, h⟩, fun _ h => .inl h, fun _ h => .inl h⟩
theorem none_of_live (l : ∀ a o, H a = some o → ∃ o', H' a = some o') {a : Addr} (h : H' a = none) : H a = none := by
  cases e : H a with
  | none => rfl
  | some o =>
    obtain ⟨o', e'⟩ := l a o e
    rw [h] at e'
    cases e'
theorem Ext.trans (a : Ext F ρ H F' ρ' H') (b : Ext F' ρ' H' F'' ρ'' H'') : Ext F ρ H F'' ρ'' H'' := by
  refine ⟨a.toKeeps.trans b.toKeeps, fun c o h n => b.keep c o (a.keep c o h n) fun m => ?_, fun c o h => ?_, fun c h => ?_, fun c h => ?_⟩
  · rcases a.rnew c m with z | z
    · exact n z
    · rw [h] at z
      cases z
  · obtain ⟨o', e⟩ := a.live c o h
    exact b.live c o' e
  · rcases b.fnew c h with z | z
    · exact a.fnew c z
    · exact .inr (none_of_live a.live z)
  · rcases b.rnew c h with z | z
    · exact a.rnew c z
    · exact .inr (none_of_live a.live z)
theorem Ext.step (a : Ext F ρ H F' ρ' H') (l : ∀ a o, H0 a = some o → ∃ o', H a = some o') : Step H0 F ρ H F' ρ' H' :=
  ⟨a.toKeeps, fun c o h n _ => a.keep c o h n, a.live, fun c h => (a.fnew c h).imp id (none_of_live l), a.rnew⟩
theorem Step.refl : Step H0 F ρ H F ρ H := ⟨Keeps.refl, fun _ _ h _ _ => h, fun _ _ h => ⟨_, h⟩, fun _ h => .inl h, fun _ h => .inl h⟩
theorem Step.trans (a : Step H0 F ρ H F' ρ' H') (b : Step H0 F' ρ' H' F'' ρ'' H'') : Step H0 F ρ H F'' ρ'' H'' := by
  refine ⟨a.toKeeps.trans b.toKeeps, fun c o h n z => b.keep c o (a.keep c o h n z) (fun m => ?_) z, fun c o h => ?_, fun c h => ?_, fun c h => ?_⟩
  · rcases a.rnew c m with y | y
    · exact n y
    · rw [h] at y
      cases y
  · obtain ⟨o', e⟩ := a.live c o h
    exact b.live c o' e
  · rcases b.fnew c h with z | z
    · exact a.fnew c z
    · exact .inr z
  · rcases b.rnew c h with z | z
    · exact a.rnew c z
    · exact .inr (none_of_live a.live z)
/-- a whole body's step is a call's -/
theorem Step.ext (a : Step H F ρ H F' ρ' H') : Ext F ρ H F' ρ' H' :=
  ⟨a.toKeeps, fun c o h n => a.keep c o h n (by rw [h]; simp), a.live, a.fnew, a.rnew⟩

theorem Keeps.seqT (k : Keeps F ρ H F' ρ' H') {a : Addr} (h : SqT K H a vs) : SqT K H' a vs := by
  rcases h with (h | ⟨o, h⟩) | h
  · exact .inl (.inl (k.keepT a _ h))
  · exact .inl (.inr ⟨o, k.keepZ a _ _ h⟩)
  · exact .inr h
theorem Keeps.seqN (k : Keeps F ρ H F' ρ' H') {a : Addr} (h : SqN K H a vs) : SqN K H' a vs := by
  rcases h with ⟨o, h, r⟩ | h
  · exact .inl ⟨o, k.keepZ a _ _ h, r⟩
  · exact .inr h
mutual
theorem Rep.mono (k : Keeps F ρ H F' ρ' H') : ∀ {v : V} {d : D}, Rep P w K F ρ H v d → Rep P w K F' ρ' H' v d
  | _, _, .non => .non
  | _, _, .bl b => .bl b
  | _, _, .int i => .int i
  | _, _, .str x => .str x
  | _, _, .tup h r z => .tup (k.seqN h) (Reps.mono k r) z
  | _, _, .lst f h r z => .lst (k.f _ f) (k.keepF _ _ h f) (Reps.mono k r) z
  | _, _, .scr h r z => .scr (h.imp (fun ⟨ob, e⟩ => ⟨ob, k.keepZ _ _ _ e⟩) id) (Reps.mono k r) z
  | _, _, .dK f h e r => .dK (k.f _ f) (k.keepF _ _ h f) e (Reps.mono k r)
  | _, _, .dT f h e q l r => .dT (k.f _ f) (k.keepF _ _ h f) e (Reps.mono k q) l (Reps.mono k r)
  | _, _, .ref h => .ref (by
      obtain ⟨l, rfl⟩ := k.r
      rw [List.getElem?_append_left (List.getElem?_eq_some_iff.mp h).1]
      exact h)
theorem Reps.mono (k : Keeps F ρ H F' ρ' H') : ∀ {vs : List V} {ds : List D}, Reps P w K F ρ H vs ds → Reps P w K F' ρ' H' vs ds
  | _, _, .nil => .nil
  | _, _, .cons r s => .cons (Rep.mono k r) (Reps.mono k s)
end
theorem Reps.length : ∀ {vs : List V} {ds : List D}, Reps P w K F ρ H vs ds → vs.length = ds.length
  | _, _, .nil => rfl
  | _, _, .cons _ s => congrArg (· + 1) (Reps.length s)
theorem Reps.get : ∀ {vs : List V} {ds : List D} {i : Nat} {d : D}, Reps P w K F ρ H vs ds → ds[i]? = some d → ∃ v, vs[i]? = some v ∧ Rep P w K F ρ H v d
  | _, _, _, _, .nil, e => by simp at e
  | _, _, 0, _, .cons r _, e => by simp at e; subst e; exact ⟨_, rfl, r⟩
  | _, _, i + 1, d, .cons _ s, e => by
    obtain ⟨v, h1, h2⟩ := Reps.get (i := i) (d := d) s (by simpa using e)
    exact ⟨v, by simpa using h1, h2⟩
theorem Reps.get' : ∀ {vs : List V} {ds : List D} {i : Nat} {v : V}, Reps P w K F ρ H vs ds → vs[i]? = some v → ∃ d, ds[i]? = some d ∧ Rep P w K F ρ H v d
  | _, _, _, _, .nil, e => by simp at e
  | _, _, 0, _, .cons r _, e => by simp at e; subst e; exact ⟨_, rfl, r⟩
  | _, _, i + 1, v, .cons _ s, e => by
    obtain ⟨d, h1, h2⟩ := Reps.get' (i := i) (v := v) s (by simpa using e)
    exact ⟨d, by simpa using h1, h2⟩
theorem Reps.append : ∀ {vs ws : List V} {ds es : List D}, Reps P w K F ρ H vs ds → Reps P w K F ρ H ws es → Reps P w K F ρ H (vs ++ ws) (ds ++ es)
  | _, _, _, _, .nil, s => s
  | _, _, _, _, .cons r t, s => .cons r (Reps.append t s)
theorem Reps.of_get : ∀ {vs : List V} {ds : List D}, vs.length = ds.length → (∀ (i : Nat) (v : V) (d : D), vs[i]? = some v → ds[i]? = some d → Rep P w K F ρ H v d) → Reps P w K F ρ H vs ds
  | [], [], _, _ => .nil
  | [], _ :: _, h, _ => by simp at h
  | _ :: _, [], h, _ => by simp at h
  | _ :: _, _ :: _, h, f => .cons (f 0 _ _ rfl rfl) (Reps.of_get (by simpa using h) fun i v d h1 h2 => f (i + 1) v d (by simpa using h1) (by simpa using h2))
theorem Reps.take (n : Nat) (r : Reps P w K F ρ H vs ds) : Reps P w K F ρ H (vs.take n) (ds.take n) := by
  refine Reps.of_get (by simp [r.length]) fun i v d h1 h2 => ?_
  rw [List.getElem?_take] at h1 h2
  split at h1
  · rename_i hi
    rw [if_pos hi] at h2
    obtain ⟨v', e, q⟩ := r.get h2
    rw [h1] at e
    cases e
    exact q
  · cases h1
theorem Reps.drop (n : Nat) (r : Reps P w K F ρ H vs ds) : Reps P w K F ρ H (vs.drop n) (ds.drop n) := by
  refine Reps.of_get (by simp [r.length]) fun i v d h1 h2 => ?_
  rw [List.getElem?_drop] at h1 h2
  obtain ⟨v', e, q⟩ := r.get h2
  rw [h1] at e
  cases e
  exact q
theorem Reps.set {i : Nat} (r : Reps P w K F ρ H vs ds) (q : Rep P w K F ρ H v d) : Reps P w K F ρ H (vs.set i v) (ds.set i d) := by
  refine Reps.of_get (by simp [r.length]) fun j v' d' h1 h2 => ?_
  rw [List.getElem?_set] at h1 h2
  have l := r.length
  split at h1
  · rename_i hj
    rw [if_pos hj] at h2
    split at h1
    · rename_i hk
      rw [if_pos (by omega)] at h2
      cases h1
      cases h2
      exact q
    · cases h1
  · rename_i hj
    rw [if_neg hj] at h2
    obtain ⟨v2, e, q2⟩ := r.get h2
    rw [h1] at e
    cases e
    exact q2
end
end Sn

set_option Elab.async false
set_option linter.all false
set_option maxRecDepth 100000
/-! layer 2: frames and stores of pure values; readings of computations -/
namespace Sn
open PySem PySem.Spec PyProof.Rows L2

/-- a name's value: a value, or a list (a dict) of the frame's own that nothing else knows -/
inductive Sl where
  | val (d : D)
  | own (d : D)
abbrev En := List (Option Sl)
abbrev St := L2.St

section
variable (P : Program) (w : World) (K : PySem.W.Frag) (CA : Nat → Option Addr)
/-- what stands at an address, as data -/
def RepC (F : Addr → Prop) (ρ : List Addr) (H : Hp) (a : Addr) (d : D) : Prop :=
  (∃ vs ds, d = .lst ds ∧ H a = some (.lst vs) ∧ Reps P w K F ρ H vs ds ∧ ds.length ≤ sizeLine) ∨
  (∃ kvs es, d = .dct es ∧ H a = some (.dK kvs) ∧ es.map (·.1) = kvs.map (fun p => kD p.1) ∧ Reps P w K F ρ H (kvs.map (·.2)) (es.map (·.2))) ∨
  (∃ xs ws es, d = .dct es ∧ H a = some (HDT P w a xs) ∧ xs.map (·.1) = es.map (fun p => p.1.key) ∧ Reps P w K F ρ H (xs.map fun x => V.ref x.2.1) (es.map (·.1)) ∧ Vals ws (xs.map (·.2.2)) ∧ Reps P w K F ρ H ws (es.map (·.2)))
def RepO (F : Addr → Prop) (ρ : List Addr) (H : Hp) (a : Addr) : O → Prop
  | .lst ds => ∃ vs, H a = some (.lst vs) ∧ Reps P w K F ρ H vs ds ∧ ds.length ≤ sizeLine
  | .dct es => ∃ kvs, H a = some (.dK kvs) ∧ kvs.map (·.1) = es.map (fun p => Sum.inr p.1) ∧ Reps P w K F ρ H (kvs.map (·.2)) (es.map (·.2))
  | .ins c fs => ∃ C dx vfs, CA c = some C ∧ H a = some (.ins C dx vfs) ∧ vfs.map (·.1) = fs.map (·.1) ∧ Reps P w K F ρ H (vfs.map (·.2)) (fs.map (·.2))
structure StRel (F : Addr → Prop) (ρ : List Addr) (st : Store) (H : Hp) : Prop where
  len : ρ.length = st.length
  nd : ρ.Nodup
  dis : ∀ a ∈ ρ, ¬ F a
  fin : ∀ a, F a → ∃ o, H a = some o
  obj : ∀ (n : Nat) (o : O) (a : Addr), st[n]? = some o → ρ[n]? = some a → RepO P w K CA F ρ H a o
/-- the frame: H0 the heap at its entry -/
structure Rel (H0 : Hp) (F : Addr → Prop) (ρ : List Addr) (env : En) (st : Store) (σ : St) (H : Hp) : Prop extends StRel P w K CA F ρ st H where
  elen : env.length = σ.length
  old : ∀ a o, H0 a = some o → ∃ o', H a = some o'
  val : ∀ (i : Nat) d, env[i]? = some (some (.val d)) → ∃ v, σ[i]? = some (some v) ∧ Rep P w K F ρ H v d
  own : ∀ (i : Nat) d, env[i]? = some (some (.own d)) → ∃ a, σ[i]? = some (some (.ref a)) ∧ ¬ F a ∧ a ∉ ρ ∧ H0 a = none ∧ RepC P w K F ρ H a d
  inj : ∀ (i j : Nat) d e a, env[i]? = some (some (.own d)) → env[j]? = some (some (.own e)) → σ[i]? = some (some (.ref a)) → σ[j]? = some (some (.ref a)) → i = j
/-- an exception in the air -/
def ExRep (F : Addr → Prop) (ρ : List Addr) (H : Hp) (c : Value) (d : Option Addr) (x : Ex) : Prop :=
  ∃ C, CA x.cls = some C ∧ c = .ref C ∧ ((x.fs = [] ∧ d = none) ∨ ∃ dx vfs, d = some dx ∧ H dx = some (.xd vfs) ∧ vfs.map (·.1) = x.fs.map (·.1) ∧ Reps P w K F ρ H (vfs.map (·.2)) (x.fs.map (·.2)))
/-- how a value may be used: looked at alone, kept, or kept and changed -/
inductive Kd where
  | b | v | n
  deriving DecidableEq
def RepB (F : Addr → Prop) (ρ : List Addr) (H : Hp) (v : V) (d : D) : Prop := Rep P w K F ρ H v d ∨ ∃ a, v = .ref a ∧ a ∉ ρ ∧ RepC P w K F ρ H a d
def RepN (Hs : Hp) (F : Addr → Prop) (ρ : List Addr) (H : Hp) (v : V) (d : D) : Prop := ∃ a, v = .ref a ∧ ¬ F a ∧ a ∉ ρ ∧ Hs a = none ∧ RepC P w K F ρ H a d
abbrev RKT (α β : Type) := Hp → (Addr → Prop) → List Addr → Hp → β → α → Prop
def rkD (k : Kd) : RKT D V := fun Hs F ρ H v d => match k with
  | .b => RepB P w K F ρ H v d
  | .v => Rep P w K F ρ H v d
  | .n => RepN P w K Hs F ρ H v d
def rkB : RKT Bool Bool := fun _ _ _ _ b c => b = c
def rkL : RKT (List D) (List V) := fun _ F ρ H vs ds => Reps P w K F ρ H vs ds
/-- what is to hold behind a computation -/
def After {α β : Type} (W : WX) (RK : RKT α β) (H0 : Hp) (F : Addr → Prop) (ρ : List Addr) (env : En) (σ : St) (H : Hp) (Q : β → Hp → Prop) : R (α × Store) → Prop
  | .ok (d, st') => ∀ v H' F' ρ', Ext F ρ H F' ρ' H' → Rel P w K CA H0 F' ρ' env st' σ H' → RK H F' ρ' H' v d → Q v H'
  | .exc x st' => ∀ c dx H' F' ρ', Ext F ρ H F' ρ' H' → Rel P w K CA H0 F' ρ' env st' σ H' → ExRep P w K CA F' ρ' H' c dx x → W c dx σ H'
  | .err => False
/-- a computation's reading -/
def tQ {α β : Type} (W : WX) (RK : RKT α β) (f : En → Store → R (α × Store)) : St → Hp → (β → Hp → Prop) → Prop := fun σ H Q =>
  ∃ H0 F ρ env st, Rel P w K CA H0 F ρ env st σ H ∧ After P w K CA W RK H0 F ρ env σ H Q (f env st)
abbrev tD (W : WX) (k : Kd) (f : En → Store → R (D × Store)) : TE := tQ P w K CA W (rkD P w K k) f
abbrev tT (W : WX) (f : En → Store → R (Bool × Store)) : TT := tQ P w K CA W rkB f
abbrev tL (W : WX) (f : En → Store → R (List D × Store)) : TA := tQ P w K CA W (rkL P w K) f

variable {P w K CA}
variable {F F' F'' : Addr → Prop} {ρ ρ' ρ'' : List Addr} {H H0 H' H'' Hs : Hp} {v : V} {d : D} {vs : List V} {ds : List D} {env : En} {st st' : Store} {σ : St} {a : Addr} {W : WX}

theorem RepC.mono (k : Keeps F ρ H F' ρ' H') (e : H' a = H a) (h : RepC P w K F ρ H a d) : RepC P w K F' ρ' H' a d := by
  rcases h with ⟨vs, ds, e1, e2, r, z⟩ | ⟨kvs, es, e1, e2, e3, r⟩ | ⟨xs, ws, es, e1, e2, e3, q, l, r⟩
  · exact .inl ⟨vs, ds, e1, e.trans e2, r.mono k, z⟩
  · exact .inr (.inl ⟨kvs, es, e1, e.trans e2, e3, r.mono k⟩)
  · exact .inr (.inr ⟨xs, ws, es, e1, e.trans e2, e3, q.mono k, l, r.mono k⟩)
theorem RepC.some (h : RepC P w K F ρ H a d) : ∃ o, H a = some o := by
  rcases h with ⟨vs, ds, e1, e2, r, z⟩ | ⟨kvs, es, e1, e2, e3, r⟩ | ⟨xs, ws, es, e1, e2, e3, q, l, r⟩ <;> exact ⟨_, e2⟩
theorem RepC.rep (f : F a) (h : RepC P w K F ρ H a d) : Rep P w K F ρ H (.ref a) d := by
  rcases h with ⟨vs, ds, rfl, e2, r, z⟩ | ⟨kvs, es, rfl, e2, e3, r⟩ | ⟨xs, ws, es, rfl, e2, e3, q, l, r⟩
  · exact .lst f e2 r z
  · exact .dK f e2 e3 r
  · exact .dT f e2 e3 q l r
theorem Ext.at (x : Ext F ρ H F' ρ' H') (n : a ∉ ρ) (h : ∃ o, H a = some o) : H' a = H a := by
  obtain ⟨o, e⟩ := h
  rw [e]
  exact x.keep a o e n
theorem RepB.mono (x : Ext F ρ H F' ρ' H') (h : RepB P w K F ρ H v d) : RepB P w K F' ρ' H' v d := by
  rcases h with h | ⟨a, e, n, h⟩
  · exact .inl (h.mono x.toKeeps)
  · refine .inr ⟨a, e, fun m => ?_, h.mono x.toKeeps (x.at n h.some)⟩
    rcases x.rnew a m with z | z
    · exact n z
    · obtain ⟨o, e'⟩ := h.some
      rw [z] at e'
      cases e'
theorem RepN.mono (x : Ext F ρ H F' ρ' H') (h : RepN P w K Hs F ρ H v d) : RepN P w K Hs F' ρ' H' v d := by
  obtain ⟨a, e, f, n, z, h⟩ := h
  obtain ⟨o, e'⟩ := h.some
  refine ⟨a, e, fun m => ?_, fun m => ?_, z, h.mono x.toKeeps (x.at n h.some)⟩
  · rcases x.fnew a m with y | y
    · exact f y
    · rw [y] at e'
      cases e'
  · rcases x.rnew a m with y | y
    · exact n y
    · rw [y] at e'
      cases e'
/-- what a computation's relation must bear -/
structure RKOk {α β : Type} (RK : RKT α β) : Prop where
  anti : ∀ {Hs Hs' F ρ H v d}, (∀ a o, Hs a = some o → ∃ o', Hs' a = some o') → RK Hs' F ρ H v d → RK Hs F ρ H v d
  mono : ∀ {Hs F ρ H F' ρ' H' v d}, Ext F ρ H F' ρ' H' → RK Hs F ρ H v d → RK Hs F' ρ' H' v d
theorem rkD_ok (k : Kd) : RKOk (rkD P w K k) := by
  refine ⟨fun {Hs Hs' F ρ H v d} l h => ?_, fun {Hs F ρ H F' ρ' H' v d} x h => ?_⟩
  · cases k with
    | b => exact h
    | v => exact h
    | n =>
      obtain ⟨a, e, f, n, z, h⟩ := h
      exact ⟨a, e, f, n, none_of_live l z, h⟩
  · cases k with
    | b => exact RepB.mono x h
    | v => exact Rep.mono x.toKeeps h
    | n => exact RepN.mono x h
theorem rkB_ok : RKOk rkB := ⟨fun _ h => h, fun _ h => h⟩
theorem rkL_ok : RKOk (rkL P w K) := ⟨fun _ h => h, fun x h => Reps.mono x.toKeeps h⟩

theorem After.imp {α β : Type} {RK : RKT α β} {Q Q' : β → Hp → Prop} {m : R (α × Store)} (h : After P w K CA W RK H0 F ρ env σ H Q m) (i : ∀ v H', Q v H' → Q' v H') : After P w K CA W RK H0 F ρ env σ H Q' m := by
  cases m with
  | ok p => exact fun v H' F' ρ' x r k => i _ _ (h v H' F' ρ' x r k)
  | exc x s => exact h
  | err => exact h
theorem tQ.imp {α β : Type} {RK : RKT α β} {f : En → Store → R (α × Store)} {Q Q' : β → Hp → Prop} (h : tQ P w K CA W RK f σ H Q) (i : ∀ v H', Q v H' → Q' v H') : tQ P w K CA W RK f σ H Q' := by
  obtain ⟨H0, F, ρ, env, st, r, h⟩ := h
  exact ⟨H0, F, ρ, env, st, r, h.imp i⟩
/-- THE STEP: the first part of a computation, with what is left -/
theorem After.bind {α β α' β' : Type} {RK : RKT α β} {RK' : RKT α' β'} (ok : RKOk RK) {Q : β → Hp → Prop} {m : R (α' × Store)} {f : α' × Store → R (α × Store)}
    (h : After P w K CA W RK H0 F ρ env σ H Q (m.bind f)) :
    After P w K CA W RK' H0 F ρ env σ H (fun v H1 => ∃ F1 ρ1 d st1, Ext F ρ H F1 ρ1 H1 ∧ Rel P w K CA H0 F1 ρ1 env st1 σ H1 ∧ RK' H F1 ρ1 H1 v d ∧ m = .ok (d, st1) ∧ After P w K CA W RK H0 F1 ρ1 env σ H1 Q (f (d, st1))) m := by
  cases m with
  | err => exact h
  | exc x s => exact h
  | ok p =>
    obtain ⟨d, st1⟩ := p
    intro v H1 F1 ρ1 x r k
    refine ⟨F1, ρ1, d, st1, x, r, k, rfl, ?_⟩
    have h' : After P w K CA W RK H0 F ρ env σ H Q (f (d, st1)) := h
    revert h'
    cases f (d, st1) with
    | err => exact fun h => h
    | exc y s => exact fun h c dx H' F' ρ' x' r' k' => h c dx H' F' ρ' (x.trans x') r' k'
    | ok q => exact fun h v H' F' ρ' x' r' k' => h v H' F' ρ' (x.trans x') r' (ok.anti x.live k')
/-- a computation without a step -/
theorem After.ok {α β : Type} {RK : RKT α β} {Q : β → Hp → Prop} {d : α} {v : β} (r : Rel P w K CA H0 F ρ env st σ H) (k : RK H F ρ H v d) (h : After P w K CA W RK H0 F ρ env σ H Q (.ok (d, st))) : Q v H :=
  h v H F ρ Ext.refl r k
theorem Rel.env_ext (r : Rel P w K CA H0 F ρ env st σ H) (x : Ext F ρ H F' ρ' H') (s : StRel P w K CA F' ρ' st' H') : Rel P w K CA H0 F' ρ' env st' σ H' := by
  refine ⟨s, r.elen, fun a o h => ?_, fun i d h => ?_, fun i d h => ?_, r.inj⟩
  · obtain ⟨o', e⟩ := r.old a o h
    exact x.live a o' e
  · obtain ⟨v, e, q⟩ := r.val i d h
    exact ⟨v, e, q.mono x.toKeeps⟩
  · obtain ⟨a, e, f, n, z, q⟩ := r.own i d h
    obtain ⟨o, eo⟩ := q.some
    refine ⟨a, e, fun m => ?_, fun m => ?_, z, q.mono x.toKeeps (x.at n q.some)⟩
    · rcases x.fnew a m with y | y
      · exact f y
      · rw [y] at eo
        cases eo
    · rcases x.rnew a m with y | y
      · exact n y
      · rw [y] at eo
        cases eo
theorem RepO.mono {o : O} (k : Keeps F ρ H F' ρ' H') (e : H' a = H a) (h : RepO P w K CA F ρ H a o) : RepO P w K CA F' ρ' H' a o := by
  cases o with
  | lst ds =>
    obtain ⟨vs, e1, r, z⟩ := h
    exact ⟨vs, e.trans e1, r.mono k, z⟩
  | dct es =>
    obtain ⟨kvs, e1, e2, r⟩ := h
    exact ⟨kvs, e.trans e1, e2, r.mono k⟩
  | ins c fs =>
    obtain ⟨C, dx, vfs, e0, e1, e2, r⟩ := h
    exact ⟨C, dx, vfs, e0, e.trans e1, e2, r.mono k⟩
theorem RepO.some {o : O} (h : RepO P w K CA F ρ H a o) : ∃ u, H a = some u := by
  cases o with
  | lst ds =>
    obtain ⟨vs, e1, r⟩ := h
    exact ⟨_, e1⟩
  | dct es =>
    obtain ⟨kvs, e1, e2, r⟩ := h
    exact ⟨_, e1⟩
  | ins c fs =>
    obtain ⟨C, dx, vfs, e0, e1, e2, r⟩ := h
    exact ⟨_, e1⟩
theorem StRel.there (s : StRel P w K CA F ρ st H) (m : a ∈ ρ) : ∃ o, H a = some o := by
  obtain ⟨n, hn, e⟩ := List.getElem_of_mem m
  have hs : n < st.length := by
    rw [← s.len]
    exact hn
  exact (s.obj n st[n] a (List.getElem?_eq_getElem hs) (by rw [List.getElem?_eq_getElem hn, e])).some
/-- a new object -/
theorem ext_new {o : HO} (n : H a = none) : Ext F ρ H F ρ (upd H a o) :=
  ⟨⟨fun _ h => h, ⟨[], by simp⟩, fun b u h _ => by rw [upd_ne (ne_of_none h n)]; exact h, fun b u h => by rw [upd_ne (ne_of_none h n)]; exact h, fun b u z h => by rw [upd_ne (ne_of_none h n)]; exact h⟩,
    fun b u h _ => by rw [upd_ne (ne_of_none h n)]; exact h, fun b u h => ⟨u, by rw [upd_ne (ne_of_none h n)]; exact h⟩, fun _ h => .inl h, fun _ h => .inl h⟩
theorem StRel.ext (s : StRel P w K CA F ρ st H) (x : Ext F ρ H F' ρ H') (h : ∀ b ∈ ρ, H' b = H b) (fin : ∀ b, F' b → ∃ o, H' b = some o) : StRel P w K CA F' ρ st H' := by
  refine ⟨s.len, s.nd, fun b m f => ?_, fin, fun n o b e1 e2 => (s.obj n o b e1 e2).mono x.toKeeps (h b (List.mem_of_getElem? e2))⟩
  rcases x.fnew b f with z | z
  · exact s.dis b m z
  · obtain ⟨o, e⟩ := s.there m
    rw [z] at e
    cases e
theorem StRel.new {o : HO} (s : StRel P w K CA F ρ st H) (n : H a = none) : StRel P w K CA F ρ st (upd H a o) :=
  s.ext (ext_new n) (fun b m => by
    obtain ⟨u, e⟩ := s.there m
    rw [upd_ne (ne_of_none e n)]) fun b f => by
    obtain ⟨u, e⟩ := s.fin b f
    exact ⟨u, by rw [upd_ne (ne_of_none e n)]; exact e⟩
theorem Rel.new {o : HO} (r : Rel P w K CA H0 F ρ env st σ H) (n : H a = none) : Rel P w K CA H0 F ρ env st σ (upd H a o) := r.env_ext (ext_new n) (r.toStRel.new n)
theorem Rel.notF (r : Rel P w K CA H0 F ρ env st σ H) (n : H a = none) : ¬ F a := fun m => by
  obtain ⟨o, e⟩ := r.fin a m
  rw [n] at e
  cases e
theorem Rel.notρ (r : Rel P w K CA H0 F ρ env st σ H) (n : H a = none) : a ∉ ρ := fun m => by
  obtain ⟨o, e⟩ := r.there m
  rw [n] at e
  cases e
end
end Sn

set_option Elab.async false
set_option linter.all false
set_option maxRecDepth 100000
/-! layer 3: data as a whole: ==, in -/
namespace Sn
open PySem PySem.Spec PyProof.Rows L2
mutual
def D.toP : D → PyData
  | .non => .none
  | .bl b => .bool b
  | .int i => .int i
  | .str s => .str s
  | .tup xs => .tuple (D.toPs xs)
  | .lst xs => .list (D.toPs xs)
  | _ => .dict []
def D.toPs : List D → List PyData
  | [] => []
  | x :: xs => D.toP x :: D.toPs xs
end
mutual
/-- None, bools, ints, texts, tuples, lists -/
def D.plain : D → Bool
  | .non => true
  | .bl _ => true
  | .int _ => true
  | .str _ => true
  | .tup xs => D.plains xs
  | .lst xs => D.plains xs
  | _ => false
def D.plains : List D → Bool
  | [] => true
  | x :: xs => D.plain x && D.plains xs
end
mutual
def D.depth : D → Nat
  | .tup xs => D.depths xs + 1
  | .lst xs => D.depths xs + 1
  | _ => 0
def D.depths : List D → Nat
  | [] => 0
  | x :: xs => max (D.depth x) (D.depths xs)
end
mutual
/-- == -/
def D.eqv : D → D → Bool
  | .non, .non => true
  | .bl a, .bl b => a == b
  | .bl a, .int j => (if a then 1 else 0) == j
  | .int i, .bl b => i == (if b then 1 else 0)
  | .int i, .int j => i == j
  | .str x, .str y => x == y
  | .lst xs, .lst ys => D.eqvs xs ys
  | .tup xs, .tup ys => D.eqvs xs ys
  | _, _ => false
def D.eqvs : List D → List D → Bool
  | [], [] => true
  | x :: xs, y :: ys => D.eqv x y && D.eqvs xs ys
  | _, _ => false
end
theorem D.toPs_eq : ∀ xs : List D, D.toPs xs = xs.map D.toP
  | [] => rfl
  | x :: xs => by rw [D.toPs, D.toPs_eq xs]; rfl
theorem D.plains_eq : ∀ xs : List D, D.plains xs = xs.all D.plain
  | [] => rfl
  | x :: xs => by rw [D.plains, D.plains_eq xs]; rfl
mutual
theorem D.plain_toP : ∀ d : D, d.plain = true → d.toP.plain = true
  | .non, _ => rfl
  | .bl _, _ => rfl
  | .int _, _ => rfl
  | .str _, _ => rfl
  | .tup xs, h => by
    rw [D.plain] at h
    simpa [D.toP, PyData.plain] using D.plains_toP xs h
  | .lst xs, h => by
    rw [D.plain] at h
    simpa [D.toP, PyData.plain] using D.plains_toP xs h
  | .dct _, h => by simp [D.plain] at h
  | .scr _, h => by simp [D.plain] at h
  | .ref _, h => by simp [D.plain] at h
  | .fn _, h => by simp [D.plain] at h
theorem D.plains_toP : ∀ xs : List D, D.plains xs = true → PyData.plainAll (D.toPs xs) = true
  | [], _ => rfl
  | x :: xs, h => by
    rw [D.plains, Bool.and_eq_true] at h
    simp [D.toPs, PyData.plainAll, D.plain_toP x h.1, D.plains_toP xs h.2]
end
mutual
theorem D.depth_toP : ∀ d : D, d.plain = true → d.toP.depth = d.depth
  | .non, _ => rfl
  | .bl _, _ => rfl
  | .int _, _ => rfl
  | .str _, _ => rfl
  | .tup xs, h => by
    rw [D.plain] at h
    simp [D.toP, PyData.depth, D.depth, D.depths_toP xs h]
  | .lst xs, h => by
    rw [D.plain] at h
    simp [D.toP, PyData.depth, D.depth, D.depths_toP xs h]
  | .dct _, h => by simp [D.plain] at h
  | .scr _, h => by simp [D.plain] at h
  | .ref _, h => by simp [D.plain] at h
  | .fn _, h => by simp [D.plain] at h
theorem D.depths_toP : ∀ xs : List D, D.plains xs = true → PyData.depthAll (D.toPs xs) = D.depths xs
  | [], _ => rfl
  | x :: xs, h => by
    rw [D.plains, Bool.and_eq_true] at h
    simp [D.toPs, PyData.depthAll, D.depths, D.depth_toP x h.1, D.depths_toP xs h.2]
end
mutual
theorem D.eqv_toP : ∀ a b : D, a.plain = true → b.plain = true → PyData.eqv a.toP b.toP = D.eqv a b
  | .tup xs, .tup ys, h, k => by
    rw [D.plain] at h k
    simp [D.toP, PyData.eqv, D.eqv, D.eqvs_toP xs ys h k]
  | .lst xs, .lst ys, h, k => by
    rw [D.plain] at h k
    simp [D.toP, PyData.eqv, D.eqv, D.eqvs_toP xs ys h k]
  | .non, b, _, k => by cases b <;> simp [D.plain, D.toP, PyData.eqv, D.eqv] at k ⊢
  | .bl _, b, _, k => by cases b <;> simp [D.plain, D.toP, PyData.eqv, D.eqv] at k ⊢
  | .int _, b, _, k => by cases b <;> simp [D.plain, D.toP, PyData.eqv, D.eqv] at k ⊢
  | .str _, b, _, k => by cases b <;> simp [D.plain, D.toP, PyData.eqv, D.eqv] at k ⊢
  | .tup _, .non, _, _ => by simp [D.toP, PyData.eqv, D.eqv]
  | .tup _, .bl _, _, _ => by simp [D.toP, PyData.eqv, D.eqv]
  | .tup _, .int _, _, _ => by simp [D.toP, PyData.eqv, D.eqv]
  | .tup _, .str _, _, _ => by simp [D.toP, PyData.eqv, D.eqv]
  | .tup _, .lst _, _, _ => by simp [D.toP, PyData.eqv, D.eqv]
  | .lst _, .non, _, _ => by simp [D.toP, PyData.eqv, D.eqv]
  | .lst _, .bl _, _, _ => by simp [D.toP, PyData.eqv, D.eqv]
  | .lst _, .int _, _, _ => by simp [D.toP, PyData.eqv, D.eqv]
  | .lst _, .str _, _, _ => by simp [D.toP, PyData.eqv, D.eqv]
  | .lst _, .tup _, _, _ => by simp [D.toP, PyData.eqv, D.eqv]
  | .dct _, _, h, _ => by simp [D.plain] at h
  | .scr _, _, h, _ => by simp [D.plain] at h
  | .ref _, _, h, _ => by simp [D.plain] at h
  | .fn _, _, h, _ => by simp [D.plain] at h
  | _, .dct _, _, h => by simp [D.plain] at h
  | _, .scr _, _, h => by simp [D.plain] at h
  | _, .ref _, _, h => by simp [D.plain] at h
  | _, .fn _, _, h => by simp [D.plain] at h
theorem D.eqvs_toP : ∀ xs ys : List D, D.plains xs = true → D.plains ys = true → PyData.eqvAll (D.toPs xs) (D.toPs ys) = D.eqvs xs ys
  | [], [], _, _ => rfl
  | [], _ :: _, _, _ => rfl
  | _ :: _, [], _, _ => rfl
  | x :: xs, y :: ys, h, k => by
    rw [D.plains, Bool.and_eq_true] at h k
    simp [D.toPs, PyData.eqvAll, D.eqvs, D.eqv_toP x y h.1 k.1, D.eqvs_toP xs ys h.2 k.2]
end
/-- the two may be compared -/
def D.can (a b : D) : Bool := a.plain && b.plain && decide (min a.depth b.depth ≤ 40)
section
variable {P : Program} {w : World} {K : PySem.W.Frag} {CA : Nat → Option Addr}
variable {F F' F'' : Addr → Prop} {ρ ρ' ρ'' : List Addr} {H H0 H' H'' Hs : Hp} {v : V} {d e : D} {vs : List V} {ds : List D} {env : En} {st st' : Store} {σ : St} {a : Addr} {W : WX}
variable {X : Cx} {pins : List (Addr × Obj)} {s : Shared} {u : Value} {us : List Value}
mutual
theorem Rep.reads (I : Inv X pins σ H s) : ∀ (d : D) (v : V) (u : Value), d.plain = true → Rep P w X.K F ρ H v d → RelV v u → ∃ as, Reads s.heap u d.toP as
  | .non, _, _, _, .non, r => by
    cases r
    exact ⟨_, Reads.none⟩
  | .bl b, _, _, _, .bl _, r => by
    cases r
    exact ⟨_, Reads.bool b⟩
  | .int i, _, _, _, .int _, r => by
    obtain ⟨t, rfl⟩ := r
    exact ⟨_, Reads.int i t⟩
  | .str x, _, _, _, .str _, r => by
    obtain ⟨t, rfl⟩ := r
    exact ⟨_, Reads.str x t⟩
  | .tup ds, _, _, p, .tup h q _, r => by
    cases r
    rw [D.plain] at p
    obtain ⟨its, rv, ⟨o, ho, hc, n, hd⟩, _⟩ := I.tuple h.seq
    obtain ⟨as, hr⟩ := Reps.reads I ds _ its p q rv
    exact ⟨_, Reads.tuple ho hc hd hr⟩
  | .lst ds, _, _, p, .lst f h q _, r => by
    cases r
    rw [D.plain] at p
    obtain ⟨its, rv, ⟨o, n, ho, hc, _, hd⟩, _⟩ := I.list (SqL.of h)
    obtain ⟨as, hr⟩ := Reps.reads I ds _ its p q rv
    exact ⟨_, Reads.list ho hc hd hr⟩
  | .dct _, _, _, p, _, _ => by simp [D.plain] at p
  | .scr _, _, _, p, _, _ => by simp [D.plain] at p
  | .ref _, _, _, p, _, _ => by simp [D.plain] at p
  | .fn _, _, _, p, _, _ => by simp [D.plain] at p
theorem Reps.reads (I : Inv X pins σ H s) : ∀ (ds : List D) (vs : List V) (us : List Value), D.plains ds = true → Reps P w X.K F ρ H vs ds → Vals vs us → ∃ as, ReadsAll s.heap us (D.toPs ds) as
  | [], _, _, _, .nil, r => by
    cases r
    exact ⟨_, ReadsAll.nil⟩
  | d :: ds, _, _, p, .cons h1 h2, r => by
    cases r with
    | cons r1 r2 =>
      rw [D.plains, Bool.and_eq_true] at p
      obtain ⟨as, q1⟩ := Rep.reads I d _ _ p.1 h1 r1
      obtain ⟨bs, q2⟩ := Reps.reads I ds _ _ p.2 h2 r2
      exact ⟨_, ReadsAll.cons q1 q2⟩
end
theorem RepB.reads (I : Inv X pins σ H s) (p : d.plain = true) (h : RepB P w X.K F ρ H v d) (r : RelV v u) : ∃ as, Reads s.heap u d.toP as := by
  rcases h with h | ⟨a, rfl, n, h⟩
  · exact Rep.reads I d v u p h r
  · rcases h with ⟨vs, ds, rfl, e2, q, _⟩ | ⟨kvs, es, rfl, e2, e3, q⟩ | ⟨xs, ws, es, rfl, e2, e3, q0, l, q⟩
    · cases r
      rw [D.plain] at p
      obtain ⟨its, rv, ⟨o, n, ho, hc, _, hd⟩, _⟩ := I.list (SqL.of e2)
      obtain ⟨as, hr⟩ := Reps.reads I ds _ its p q rv
      exact ⟨_, Reads.list ho hc hd hr⟩
    · simp [D.plain] at p
    · simp [D.plain] at p
theorem eqv_any : ∀ (xs : List D) (d : D), D.plains xs = true → d.plain = true → ((D.toPs xs).any fun y => PyData.eqv y d.toP) = xs.any fun y => D.eqv y d
  | [], _, _, _ => rfl
  | x :: xs, d, h, k => by
    rw [D.plains, Bool.and_eq_true] at h
    rw [D.toPs, List.any_cons, List.any_cons, D.eqv_toP x d h.1 k, eqv_any xs d h.2 k]
theorem rb_eq (I : Inv X pins σ H s) (hu : X.A.units + 64 < cLine) {x y : V} {uv : Value} {Q : Value → Shared → Prop} {E : Value → Shared → Prop} (c : D.can d e = true) (rx : RepB P w X.K F ρ H x d) (ry : RepB P w X.K F ρ H y e) (r1 : RelV x u) (r2 : RelV y uv) (q : Q (.bool (D.eqv d e)) s) :
    wpAny (model X.prog X.w) X.A (compareOp .Eq u uv) Q E s := by
  simp only [D.can, Bool.and_eq_true, decide_eq_true_eq] at c
  obtain ⟨⟨c1, c2⟩, c3⟩ := c
  obtain ⟨as, h1⟩ := rx.reads I c1 r1
  obtain ⟨bs, h2⟩ := ry.reads I c2 r2
  refine SeqAt.eq_plain h1 h2 (D.plain_toP _ c1) (D.plain_toP _ c2) ?_ ?_
  · rw [D.depth_toP _ c1, D.depth_toP _ c2]
    omega
  · rw [D.eqv_toP _ _ c1 c2]
    exact q
theorem rb_ne (I : Inv X pins σ H s) (hu : X.A.units + 64 < cLine) {x y : V} {uv : Value} {Q : Value → Shared → Prop} {E : Value → Shared → Prop} (c : D.can d e = true) (rx : RepB P w X.K F ρ H x d) (ry : RepB P w X.K F ρ H y e) (r1 : RelV x u) (r2 : RelV y uv) (q : Q (.bool (!D.eqv d e)) s) :
    wpAny (model X.prog X.w) X.A (compareOp .NotEq u uv) Q E s := by
  simp only [D.can, Bool.and_eq_true, decide_eq_true_eq] at c
  obtain ⟨⟨c1, c2⟩, c3⟩ := c
  obtain ⟨as, h1⟩ := rx.reads I c1 r1
  obtain ⟨bs, h2⟩ := ry.reads I c2 r2
  refine SeqAt.ne_plain h1 h2 (D.plain_toP _ c1) (D.plain_toP _ c2) ?_ ?_
  · rw [D.depth_toP _ c1, D.depth_toP _ c2]
    omega
  · rw [D.eqv_toP _ _ c1 c2]
    exact q
/-- x in a list, a tuple -/
def D.items : D → Option (List D)
  | .tup xs => some xs
  | .lst xs => some xs
  | _ => none
theorem rb_in (I : Inv X pins σ H s) (hu : X.A.units + 64 < cLine) {x y : V} {uv : Value} {Q : Value → Shared → Prop} {E : Value → Shared → Prop} (hy : e.items = some ds) (c : D.can d e = true) (rx : RepB P w X.K F ρ H x d) (ry : RepB P w X.K F ρ H y e) (r1 : RelV x u) (r2 : RelV y uv) :
    (Q (.bool (ds.any fun z => D.eqv z d)) s → wpAny (model X.prog X.w) X.A (compareOp .In u uv) Q E s) ∧ (Q (.bool (!ds.any fun z => D.eqv z d)) s → wpAny (model X.prog X.w) X.A (compareOp .NotIn u uv) Q E s) := by
  simp only [D.can, Bool.and_eq_true, decide_eq_true_eq] at c
  obtain ⟨⟨c1, c2⟩, c3⟩ := c
  obtain ⟨as, h1⟩ := rx.reads I c1 r1
  obtain ⟨bs, h2⟩ := ry.reads I c2 r2
  cases e with
  | tup xs =>
    cases hy
    rw [D.plain] at c2
    rw [D.toP] at h2
    rw [D.depth] at c3
    have hd : X.A.units + 1 + min (PyData.depthAll (D.toPs ds)) d.toP.depth < cLine := by
      rw [D.depth_toP _ c1, D.depths_toP _ c2]
      omega
    refine ⟨fun q => SeqAt.in_tuple_data h2 h1 (D.plains_toP _ c2) (D.plain_toP _ c1) hd ?_, fun q => SeqAt.notIn_tuple_data h2 h1 (D.plains_toP _ c2) (D.plain_toP _ c1) hd ?_⟩
    · rw [eqv_any _ _ c2 c1]
      exact q
    · rw [eqv_any _ _ c2 c1]
      exact q
  | lst xs =>
    cases hy
    rw [D.plain] at c2
    rw [D.toP] at h2
    rw [D.depth] at c3
    have hd : X.A.units + 1 + min (PyData.depthAll (D.toPs ds)) d.toP.depth < cLine := by
      rw [D.depth_toP _ c1, D.depths_toP _ c2]
      omega
    refine ⟨fun q => SeqAt.in_list_data h2 h1 (D.plains_toP _ c2) (D.plain_toP _ c1) hd ?_, fun q => SeqAt.notIn_list_data h2 h1 (D.plains_toP _ c2) (D.plain_toP _ c1) hd ?_⟩
    · rw [eqv_any _ _ c2 c1]
      exact q
    · rw [eqv_any _ _ c2 c1]
      exact q
  | non => cases hy
  | bl _ => cases hy
  | int _ => cases hy
  | str _ => cases hy
  | dct _ => cases hy
  | scr _ => cases hy
  | ref _ => cases hy
  | fn _ => cases hy
end
end Sn

set_option Elab.async false
set_option linter.all false
set_option maxRecDepth 100000
/-! layer 3t: new tuples, and that they have no attributes of their own -/
namespace Sn
open PySem PySem.Spec PyProof.Rows L2
def NewT (H : Hp) (vs : List V) (Q : VK) : Prop := ∀ (o : Obj) (p : Addr), o.cls = .type "tuple" → o.dict = none → H p = none → Q (.ref p) (upd H p (.frz o (.tup vs)))
section
variable {X : Cx} {pins : List (Addr × Obj)} {s : Shared} {σ : L2.St} {H : Hp} {Q : VK}
theorem laid_tup {xs : List V} {its : List Value} (I : Inv X pins σ H s) (r : Vals xs its) (hz : xs.length ≤ sizeLine) (q : NewT H xs Q) : EP X pins σ Q (.ref s.heap.objs.size) { s with heap := s.heap.push { cls := .type "tuple", data := .seq its.toArray } } :=
  ⟨.ref s.heap.objs.size, upd H s.heap.objs.size (.frz { cls := .type "tuple", data := .seq its.toArray } (.tup xs)), I.laid (t' := s.toks) (fun b o e => Heap.get?_push_of_some _ e) (Nat.le_refl _) ⟨Heap.get?_push_size _ rfl, hz, its, r, IsTup.new _ _⟩, rfl,
    q _ _ rfl rfl (I.hok.fresh (Nat.le_refl _))⟩
def rCatN (K : PySem.W.Frag) : R2 := fun x y H Q => ∃ a b xs ys, x = .ref a ∧ y = .ref b ∧ SqT K H a xs ∧ SqT K H b ys ∧ xs.length + ys.length ≤ sizeLine ∧ (xs = [] → Q (.ref b) H) ∧ (ys = [] → Q (.ref a) H) ∧ NewT H (xs ++ ys) Q
theorem op_catN : OpR X (binaryOp .Add) (rCatN X.K) := by
  intro pins s σ H x y v u Q I rx ry ⟨a, b, xs, ys, ex, ey, ha, hb, hz, q0, q1, q2⟩
  subst ex ey
  cases rx
  cases ry
  obtain ⟨its, r1, p1, _⟩ := I.tuple ha
  obtain ⟨its2, r2, p2, _⟩ := I.tuple hb
  by_cases e : xs = []
  · subst e
    cases r1
    exact cat_tup0 p1 p2 ⟨.ref b, H, I, rfl, q0 rfl⟩
  · refine HT.cat_tup p1 p2 (fun z => e (r1.nil_iff.mp z)) (fun z => ⟨.ref a, H, I, rfl, q1 (r2.nil_iff.mp z)⟩) (fun z => ?_) (by rw [← r1.length, ← r2.length]; exact hz)
    have w := laid_tup I (r1.append r2) (by rw [List.length_append]; exact hz) q2
    simpa using w
def rSlN (K : PySem.W.Frag) : V → Option Int → Option Int → Hp → VK → Prop := fun x lo hi H Q => ∃ a xs, x = .ref a ∧ SqT K H a xs ∧
  (HT.sIx xs.length 0 lo = 0 ∧ HT.sIx xs.length xs.length hi = xs.length → Q (.ref a) H) ∧ NewT H (cutV xs lo hi) Q
theorem sl_tupN : SlR X (rSlN X.K) := by
  intro pins s σ H x v vl vu lo hi sl Q I rx hs pl pu ⟨a, xs, ex, hx, q1, q2⟩
  subst ex
  cases rx
  obtain ⟨its, r, ht, hz⟩ := I.tuple hx
  have hlen : its.toArray.size = xs.length := by rw [List.size_toArray, r.length]
  refine ⟨"tuple", _, PyProof.Rows.slot_tuple_getitem.lookup, ht.typeIs, ?_⟩
  by_cases hw : HT.sIx xs.length 0 lo = 0 ∧ HT.sIx xs.length xs.length hi = xs.length
  · exact getItem_tuple_whole ht hs pl pu (hlen.symm ▸ hw) ⟨.ref a, H, I, rfl, q1 hw⟩
  · refine HT.getItem_tuple_cut ht hs pl pu (hlen.symm ▸ hw) ?_ (hlen.symm ▸ hz)
    rw [hlen]
    exact laid_tup I ((r.drop _).take _) (Nat.le_trans (cutV_length xs lo hi) hz) q2
theorem call_tupleN : CallR X (.type "tuple") (fun xs H Q => ∃ p ys, xs = [.ref p] ∧ ((SqL X.K H p ys ∧ NewT H ys Q) ∨ (SqT X.K H p ys ∧ Q (.ref p) H))) := by
  intro pins s σ H xs us Q I r ⟨p, ys, e, h⟩
  subst e
  obtain ⟨u, rfl, rx⟩ := vals1 r
  cases rx
  rcases h with ⟨hq, q⟩ | ⟨hq, q⟩
  · obtain ⟨its, r2, pl, hz⟩ := I.list hq
    refine call_tuple_list pl.isList (fun h2 kp => ?_) (by rw [List.size_toArray, ← r2.length]; exact hz)
    have I2 : Inv X pins σ H { s with heap := h2 } := I.kept (t' := s.toks) kp
    exact laid_tup I2 r2 hz q
  · obtain ⟨its, r2, pl, hz⟩ := I.tuple hq
    exact call_tuple_same pl ⟨.ref p, H, I, rfl, q⟩
def tTupN (t : TA) : TE := fun σ H Q => t σ H fun xs H1 => xs.length ≤ sizeLine ∧ NewT H1 xs Q
theorem pe_tupN {es : List Expr} {t : TA} {pos : Pos} {x1} (h : PA X es t) : PE X (.Tuple es x1 pos) (tTupN t) := by
  refine ⟨fun pins s σ H Q I hq => wpAny_Tuple_spliced (thn (h.run pos pins s σ H _ I hq) fun us s1 ⟨xs, H1, I1, r, z, q⟩ => ⟨by rw [← r.length]; exact z, ?_⟩)⟩
  have w := laid_tup I1 r z q
  exact w
end
end Sn

set_option Elab.async false
set_option linter.all false
set_option maxRecDepth 100000
/-! layer 4: computations of expressions and their rules -/
namespace Sn
open PySem PySem.Spec PyProof.Rows L2
section
variable {P : Program} {w : World} {K : PySem.W.Frag} {CA : Nat → Option Addr}
variable {F F' F'' : Addr → Prop} {ρ ρ' ρ'' : List Addr} {H H0 H1 H' H'' Hs : Hp} {v : V} {d e : D} {vs : List V} {ds : List D} {env : En} {st st' : Store} {σ : St} {a p : Addr} {W : WX}
/-- what a value may be read as, by its kind -/
theorem rkD_b {k : Kd} (h : rkD P w K k Hs F ρ H v d) : rkD P w K .b Hs F ρ H v d := by
  cases k with
  | b => exact h
  | v => exact .inl h
  | n =>
    obtain ⟨a, e, f, n, z, h⟩ := h
    exact .inr ⟨a, e, n, h⟩
theorem After.kb {k : Kd} {Q : VK} {m : R (D × Store)} (h : After P w K CA W (rkD P w K .b) H0 F ρ env σ H Q m) : After P w K CA W (rkD P w K k) H0 F ρ env σ H Q m := by
  cases m with
  | ok p => exact fun v H' F' ρ' x r k => h v H' F' ρ' x r (rkD_b k)
  | exc x s => exact h
  | err => exact h
/-- a new list is given away -/
theorem Rel.freeze (r0 : Rel P w K CA H0 F ρ env st σ H) (x : Ext F ρ H F' ρ' H') (r : Rel P w K CA H0 F' ρ' env st' σ H') (f : ¬ F' a) (n : a ∉ ρ') (z : H a = none) (c : RepC P w K F' ρ' H' a d) :
    Ext F ρ H (fun b => F' b ∨ b = a) ρ' H' ∧ Rel P w K CA H0 (fun b => F' b ∨ b = a) ρ' env st' σ H' ∧ Rep P w K (fun b => F' b ∨ b = a) ρ' H' (.ref a) d := by
  have k : Keeps F' ρ' H' (fun b => F' b ∨ b = a) ρ' H' := ⟨fun b h => .inl h, ⟨[], by simp⟩, fun _ _ h _ => h, fun _ _ h => h, fun _ _ _ h => h⟩
  refine ⟨⟨⟨fun b h => .inl (x.f b h), x.r, x.keepF, x.keepT, x.keepZ⟩, x.keep, x.live, fun b h => ?_, x.rnew⟩, ⟨⟨r.len, r.nd, fun b m h => ?_, fun b h => h.elim (r.fin b) fun e => e ▸ c.some, fun i o b e1 e2 => (r.obj i o b e1 e2).mono k rfl⟩, r.elen, r.old, fun i d e => ?_, fun i d e => ?_, r.inj⟩, (c.mono k rfl).rep (.inr rfl)⟩
  · rcases h with h | h
    · exact x.fnew b h
    · exact .inr (h ▸ z)
  · rcases h with h | h
    · exact r.dis b m h
    · exact n (h ▸ m)
  · obtain ⟨v, e1, q⟩ := r.val i d e
    exact ⟨v, e1, q.mono k⟩
  · obtain ⟨b, e1, q1, q2, q3, q4⟩ := r.own i d e
    refine ⟨b, e1, fun h => ?_, q2, q3, q4.mono k rfl⟩
    rcases h with h | h
    · exact q1 h
    · obtain ⟨b', e2, _, _, _, q5⟩ := r0.own i d e
      rw [e1] at e2
      cases e2
      obtain ⟨o, eo⟩ := q5.some
      rw [h, z] at eo
      cases eo
theorem After.kv {Q : VK} {m : R (D × Store)} (r0 : Rel P w K CA H0 F ρ env st σ H) (h : After P w K CA W (rkD P w K .v) H0 F ρ env σ H Q m) : After P w K CA W (rkD P w K .n) H0 F ρ env σ H Q m := by
  cases m with
  | ok p =>
    intro v H' F' ρ' x r k
    obtain ⟨a, rfl, f, n, z, c⟩ := k
    obtain ⟨x', r', q⟩ := r0.freeze x r f n z c
    exact h (.ref a) H' _ ρ' x' r' q
  | exc x s => exact h
  | err => exact h
end

section
variable {X : Cx} {t t' : TE} {ex a b : Expr} {CA : Nat → Option Addr} {W : WX} {f fa fb fc : En → Store → R (D × Store)} {k ka kb : Kd} {pos : Pos}
theorem peI (h : PE X ex t) (i : ∀ σ H Q, t' σ H Q → t σ H Q) : PE X ex t' := ⟨fun pins s σ H Q I q => h.run pins s σ H Q I (i σ H Q q)⟩
theorem pe_kb (h : PE X ex (tD X.prog X.w X.K CA W k f)) : PE X ex (tD X.prog X.w X.K CA W .b f) := peI h fun σ H Q ⟨H0, F, ρ, env, st, r, q⟩ => ⟨H0, F, ρ, env, st, r, q.kb⟩
theorem pe_kv (h : PE X ex (tD X.prog X.w X.K CA W .n f)) : PE X ex (tD X.prog X.w X.K CA W .v f) := peI h fun σ H Q ⟨H0, F, ρ, env, st, r, q⟩ => ⟨H0, F, ρ, env, st, r, q.kv r⟩

/-! ### names and constants -/
def cPure (d : D) : En → Store → R (D × Store) := fun _ st => .ok (d, st)
def cVar (i : Nat) : En → Store → R (D × Store) := fun env st => match env[i]? with
  | some (some (.val d)) => .ok (d, st)
  | _ => .err
def cOwn (i : Nat) : En → Store → R (D × Store) := fun env st => match env[i]? with
  | some (some (.own d)) => .ok (d, st)
  | _ => .err
theorem s_const {v : V} {d : D} (h : PE X ex (tC v)) (r : ∀ F ρ H, Rep X.prog X.w X.K F ρ H v d) : PE X ex (tD X.prog X.w X.K CA W .v (cPure d)) :=
  peI h fun σ H Q ⟨H0, F, ρ, env, st, rel, q⟩ => After.ok rel (r F ρ H) q
theorem s_var {i : Nat} (h : PE X ex (tVar i)) : PE X ex (tD X.prog X.w X.K CA W .v (cVar i)) := by
  refine peI h fun σ H Q ⟨H0, F, ρ, env, st, rel, q⟩ => ?_
  unfold cVar at q
  split at q
  · rename_i d e
    obtain ⟨v, e1, r⟩ := rel.val i d e
    exact ⟨v, e1, After.ok rel r q⟩
  · exact q.elim
theorem s_own {i : Nat} (h : PE X ex (tVar i)) : PE X ex (tD X.prog X.w X.K CA W .b (cOwn i)) := by
  refine peI h fun σ H Q ⟨H0, F, ρ, env, st, rel, q⟩ => ?_
  unfold cOwn at q
  split at q
  · rename_i d e
    obtain ⟨a, e1, f, n, z, r⟩ := rel.own i d e
    exact ⟨.ref a, e1, After.ok rel (show rkD X.prog X.w X.K .b H F ρ H (.ref a) d from .inr ⟨a, rfl, n, r⟩) q⟩
  · exact q.elim

/-! ### one part, two parts -/
def c1 (f : En → Store → R (D × Store)) (g : D → Store → R (D × Store)) : En → Store → R (D × Store) := fun env st => (f env st).bind fun p => g p.1 p.2
def c2 (f f' : En → Store → R (D × Store)) (g : D → D → Store → R (D × Store)) : En → Store → R (D × Store) := fun env st => (f env st).bind fun p => (f' env p.2).bind fun q => g p.1 q.1 q.2
/-- what is left behind the parts -/
def rG1 (P : Program) (w : World) (K : PySem.W.Frag) (CA : Nat → Option Addr) (W : WX) (k : Kd) (g : D → Store → R (D × Store)) : V → Hp → VK → Prop := fun x H Q =>
  ∃ σ H0 F ρ env st d, Rel P w K CA H0 F ρ env st σ H ∧ RepB P w K F ρ H x d ∧ After P w K CA W (rkD P w K k) H0 F ρ env σ H Q (g d st)
def rG2 (P : Program) (w : World) (K : PySem.W.Frag) (CA : Nat → Option Addr) (W : WX) (k : Kd) (g : D → D → Store → R (D × Store)) : R2 := fun x y H Q =>
  ∃ σ H0 F ρ env st d e, Rel P w K CA H0 F ρ env st σ H ∧ RepB P w K F ρ H x d ∧ RepB P w K F ρ H y e ∧ After P w K CA W (rkD P w K k) H0 F ρ env σ H Q (g d e st)
theorem t_c1 {g : D → Store → R (D × Store)} {σ : St} {H : Hp} {Q : VK} (h : tD X.prog X.w X.K CA W k (c1 f g) σ H Q) :
    tD X.prog X.w X.K CA W .b f σ H fun x H1 => rG1 X.prog X.w X.K CA W k g x H1 Q := by
  obtain ⟨H0, F, ρ, env, st, rel, q⟩ := h
  refine ⟨H0, F, ρ, env, st, rel, (After.bind (RK' := rkD X.prog X.w X.K .b) (rkD_ok k) q).imp fun v H1 h => ?_⟩
  obtain ⟨F1, ρ1, d, st1, x, r1, k1, _, q1⟩ := h
  exact ⟨σ, H0, F1, ρ1, env, st1, d, r1, k1, q1⟩
theorem t_c2 {g : D → D → Store → R (D × Store)} {σ : St} {H : Hp} {Q : VK} (h : tD X.prog X.w X.K CA W k (c2 fa fb g) σ H Q) :
    tD X.prog X.w X.K CA W .b fa σ H fun x H1 => tD X.prog X.w X.K CA W .b fb σ H1 fun y H2 => rG2 X.prog X.w X.K CA W k g x y H2 Q := by
  obtain ⟨H0, F, ρ, env, st, rel, q⟩ := h
  refine ⟨H0, F, ρ, env, st, rel, (After.bind (RK' := rkD X.prog X.w X.K .b) (rkD_ok k) q).imp fun v H1 h => ?_⟩
  obtain ⟨F1, ρ1, d, st1, x, r1, k1, _, q1⟩ := h
  refine ⟨H0, F1, ρ1, env, st1, r1, (After.bind (RK' := rkD X.prog X.w X.K .b) (rkD_ok k) q1).imp fun u H2 h => ?_⟩
  obtain ⟨F2, ρ2, e, st2, x2, r2, k2, _, q2⟩ := h
  exact ⟨σ, H0, F2, ρ2, env, st2, d, e, r2, RepB.mono x2 k1, k2, q2⟩
theorem s_op {op : Operator} {g : D → D → Store → R (D × Store)} (ho : OpR X (binaryOp op) (rG2 X.prog X.w X.K CA W k g)) (ha : PE X a (tD X.prog X.w X.K CA W .b fa)) (hb : PE X b (tD X.prog X.w X.K CA W .b fb)) :
    PE X (.BinOp a op b pos) (tD X.prog X.w X.K CA W k (c2 fa fb g)) := peI (pe_op ho ha hb) fun _ _ _ h => t_c2 h
theorem s_cmp {op : CmpOp} {g : D → D → Store → R (D × Store)} (ho : OpR X (compareOp op) (rG2 X.prog X.w X.K CA W k g)) (ha : PE X a (tD X.prog X.w X.K CA W .b fa)) (hb : PE X b (tD X.prog X.w X.K CA W .b fb)) (hm : behindInMarks op b = false) :
    PE X (.Compare a [op] [b] pos) (tD X.prog X.w X.K CA W k (c2 fa fb g)) := peI (pe_cmpR ho ha hb hm) fun _ _ _ h => t_c2 h
theorem s_un {op : UnaryOp} {g : D → Store → R (D × Store)} (ho : UnR X (unaryOp op) (rG1 X.prog X.w X.K CA W k g)) (ha : PE X a (tD X.prog X.w X.K CA W .b fa)) :
    PE X (.UnaryOp op a pos) (tD X.prog X.w X.K CA W k (c1 fa g)) := peI (pe_un ho ha) fun _ _ _ h => t_c1 h
end

/-! ### ends -/
section
variable {P : Program} {w : World} {K : PySem.W.Frag} {CA : Nat → Option Addr}
variable {F F' F'' : Addr → Prop} {ρ ρ' ρ'' : List Addr} {H H0 H1 H' H'' Hs : Hp} {v : V} {d e : D} {vs : List V} {ds : List D} {env : En} {st st' : Store} {σ : St} {a p : Addr} {W : WX} {Q : VK}
/-- a value that needs no place -/
theorem fin_v (r : Rel P w K CA H0 F ρ env st σ H) (q : Rep P w K F ρ H v d) (h : After P w K CA W (rkD P w K .v) H0 F ρ env σ H Q (.ok (d, st))) : Q v H := After.ok r q h
theorem fin_tup (r : Rel P w K CA H0 F ρ env st σ H) (q : Reps P w K F ρ H vs ds) (hl : ds.length ≤ sizeLine) (h : After P w K CA W (rkD P w K .v) H0 F ρ env σ H Q (.ok (.tup ds, st))) : NewT H vs Q := fun o p ho hd n =>
  h (.ref p) _ F ρ (ext_new n) (r.new n) (.tup (.inl ⟨o, upd_same, ho, hd⟩) (q.mono (ext_new n).toKeeps) hl)
theorem fin_lst (r : Rel P w K CA H0 F ρ env st σ H) (q : Reps P w K F ρ H vs ds) (hl : ds.length ≤ sizeLine) (h : After P w K CA W (rkD P w K .n) H0 F ρ env σ H Q (.ok (.lst ds, st))) (n : H p = none) : Q (.ref p) (upd H p (.lst vs)) :=
  h (.ref p) _ F ρ (ext_new n) (r.new n) ⟨p, rfl, r.notF n, r.notρ n, n, .inl ⟨vs, ds, rfl, upd_same, q.mono (ext_new n).toKeeps, hl⟩⟩
end
end Sn

set_option Elab.async false
set_option linter.all false
set_option maxRecDepth 100000
/-! layer 5: operators -/
namespace Sn
open PySem PySem.Spec PyProof.Rows L2
def D.isNon : D → Bool
  | .non => true
  | _ => false
section
variable {P : Program} {w : World} {K : PySem.W.Frag} {CA : Nat → Option Addr}
variable {F F' F'' : Addr → Prop} {ρ ρ' ρ'' : List Addr} {H H0 H1 H' H'' Hs : Hp} {v x y : V} {d e : D} {vs : List V} {ds : List D} {env : En} {st st' : Store} {σ : St} {a p : Addr} {W : WX} {Q : VK}
theorem RepB.intE {i : Int} (h : RepB P w K F ρ H x (.int i)) : x = .int i := by
  rcases h with h | ⟨a, rfl, n, h⟩
  · cases h
    rfl
  · rcases h with ⟨_, _, h, _⟩ | ⟨_, _, h, _⟩ | ⟨_, _, _, h, _⟩ <;> cases h
theorem RepB.strE {i : Str} (h : RepB P w K F ρ H x (.str i)) : x = .str i := by
  rcases h with h | ⟨a, rfl, n, h⟩
  · cases h
    rfl
  · rcases h with ⟨_, _, h, _⟩ | ⟨_, _, h, _⟩ | ⟨_, _, _, h, _⟩ <;> cases h
theorem RepB.blE {i : Bool} (h : RepB P w K F ρ H x (.bl i)) : x = .bl i := by
  rcases h with h | ⟨a, rfl, n, h⟩
  · cases h
    rfl
  · rcases h with ⟨_, _, h, _⟩ | ⟨_, _, h, _⟩ | ⟨_, _, _, h, _⟩ <;> cases h
theorem RepB.nonE (h : RepB P w K F ρ H x .non) : x = .non := by
  rcases h with h | ⟨a, rfl, n, h⟩
  · cases h
    rfl
  · rcases h with ⟨_, _, h, _⟩ | ⟨_, _, h, _⟩ | ⟨_, _, _, h, _⟩ <;> cases h
theorem RepB.refE {n : Nat} (h : RepB P w K F ρ H x (.ref n)) : ∃ a, x = .ref a ∧ ρ[n]? = some a := by
  rcases h with h | ⟨a, rfl, n, h⟩
  · cases h with
    | ref e => exact ⟨_, rfl, e⟩
  · rcases h with ⟨_, _, h, _⟩ | ⟨_, _, h, _⟩ | ⟨_, _, _, h, _⟩ <;> cases h
theorem RepB.tupE (h : RepB P w K F ρ H x (.tup ds)) : ∃ a vs, x = .ref a ∧ SqT K H a vs ∧ Reps P w K F ρ H vs ds ∧ ds.length ≤ sizeLine := by
  rcases h with h | ⟨a, rfl, n, h⟩
  · cases h with
    | tup h q z => exact ⟨_, _, rfl, h.seq, q, z⟩
  · rcases h with ⟨_, _, h, _⟩ | ⟨_, _, h, _⟩ | ⟨_, _, _, h, _⟩ <;> cases h
theorem RepB.tupN (h : RepB P w K F ρ H x (.tup ds)) : ∃ a vs, x = .ref a ∧ SqN K H a vs ∧ Reps P w K F ρ H vs ds ∧ ds.length ≤ sizeLine := by
  rcases h with h | ⟨a, rfl, n, h⟩
  · cases h with
    | tup h q z => exact ⟨_, _, rfl, h, q, z⟩
  · rcases h with ⟨_, _, h, _⟩ | ⟨_, _, h, _⟩ | ⟨_, _, _, h, _⟩ <;> cases h
theorem RepB.lstE (h : RepB P w K F ρ H x (.lst ds)) : ∃ a vs, x = .ref a ∧ H a = some (.lst vs) ∧ Reps P w K F ρ H vs ds ∧ ds.length ≤ sizeLine := by
  rcases h with h | ⟨a, rfl, n, h⟩
  · cases h with
    | lst f h q z => exact ⟨_, _, rfl, h, q, z⟩
  · rcases h with ⟨_, _, h, h2, h3, h4⟩ | ⟨_, _, h, _⟩ | ⟨_, _, _, h, _⟩ <;> cases h
    exact ⟨_, _, rfl, h2, h3, h4⟩
theorem RepB.scrE (h : RepB P w K F ρ H x (.scr ds)) : ∃ a vs, x = .ref a ∧ SqL K H a vs ∧ Reps P w K F ρ H vs ds ∧ ds.length ≤ sizeLine := by
  rcases h with h | ⟨a, rfl, n, h⟩
  · cases h with
    | scr h q z => exact ⟨_, _, rfl, h.seq, q, z⟩
  · rcases h with ⟨_, _, h, _⟩ | ⟨_, _, h, _⟩ | ⟨_, _, _, h, _⟩ <;> cases h
theorem RepB.isNon (h : RepB P w K F ρ H x d) : decide (x = .non) = d.isNon := by
  rcases h with h | ⟨a, rfl, n, h⟩
  · cases h <;> first | rfl | exact decide_eq_false (fun z => nomatch z)
  · rcases h with ⟨_, _, rfl, _⟩ | ⟨_, _, rfl, _⟩ | ⟨_, _, _, rfl, _⟩ <;> exact decide_eq_false (fun z => nomatch z)
/-- items of a list, a tuple -/
theorem RepB.itemsE (hi : d.items = some ds) (h : RepB P w K F ρ H x d) : ∃ a vs, x = .ref a ∧ (SqL K H a vs ∨ SqT K H a vs) ∧ Reps P w K F ρ H vs ds ∧ ds.length ≤ sizeLine := by
  cases d with
  | tup xs =>
    cases hi
    obtain ⟨a, vs, e, h1, h2⟩ := h.tupE
    exact ⟨a, vs, e, .inr h1, h2⟩
  | lst xs =>
    cases hi
    obtain ⟨a, vs, e, h1, h2⟩ := h.lstE
    exact ⟨a, vs, e, .inl (SqL.of h1), h2⟩
  | non => cases hi
  | bl _ => cases hi
  | int _ => cases hi
  | str _ => cases hi
  | dct _ => cases hi
  | scr _ => cases hi
  | ref _ => cases hi
  | fn _ => cases hi
theorem fin_lstV (r : Rel P w K CA H0 F ρ env st σ H) (q : Reps P w K F ρ H vs ds) (hl : ds.length ≤ sizeLine) (h : After P w K CA W (rkD P w K .v) H0 F ρ env σ H Q (.ok (.lst ds, st))) (n : H p = none) : Q (.ref p) (upd H p (.lst vs)) :=
  fin_lst r q hl (After.kv r h) n
end

/-! ### the operators -/
def gAdd : D → D → Store → R (D × Store)
  | .int i, .int j, st => .ok (.int (i + j), st)
  | .str a, .str b, st => if a.length + b.length ≤ sizeLine then .ok (.str (a ++ b), st) else .err
  | .tup a, .tup b, st => if a.length + b.length ≤ sizeLine then .ok (.tup (a ++ b), st) else .err
  | .lst a, .lst b, st => if a.length + b.length ≤ sizeLine then .ok (.lst (a ++ b), st) else .err
  | _, _, _ => .err
/-- list + list, to be the frame's own -/
def gCat : D → D → Store → R (D × Store)
  | .lst a, .lst b, st => if a.length + b.length ≤ sizeLine then .ok (.lst (a ++ b), st) else .err
  | _, _, _ => .err
def gSub : D → D → Store → R (D × Store)
  | .int i, .int j, st => .ok (.int (i - j), st)
  | _, _, _ => .err
def gMul : D → D → Store → R (D × Store)
  | .int i, .int j, st => if (-(2 ^ 64) < i ∧ i < 2 ^ 64) ∨ (-(2 ^ 64) < j ∧ j < 2 ^ 64) then .ok (.int (i * j), st) else .err
  | _, _, _ => .err
def gDiv : D → D → Store → R (D × Store)
  | .int i, .int j, st => if 0 < j ∧ j < 1073741824 then .ok (.int (i / j), st) else .err
  | _, _, _ => .err
def gMod : D → D → Store → R (D × Store)
  | .int i, .int j, st => if 0 < j then .ok (.int (i % j), st) else .err
  | _, _, _ => .err
def gPow : D → D → Store → R (D × Store)
  | .int i, .int j, st => if 0 ≤ j ∧ j ≤ 1000000 ∧ i.natAbs < 2 ^ 64 then .ok (.int (i ^ j.toNat), st) else .err
  | _, _, _ => .err
def gNeg : D → Store → R (D × Store)
  | .int i, st => .ok (.int (-i), st)
  | _, _ => .err
def gLt : D → D → Store → R (D × Store)
  | .int i, .int j, st => .ok (.bl (decide (i < j)), st)
  | .str i, .str j, st => .ok (.bl (decide (i.cps.toList < j.cps.toList)), st)
  | _, _, _ => .err
def gLe : D → D → Store → R (D × Store)
  | .int i, .int j, st => .ok (.bl (decide (i ≤ j)), st)
  | _, _, _ => .err
def gGt : D → D → Store → R (D × Store)
  | .int i, .int j, st => .ok (.bl (decide (j < i)), st)
  | _, _, _ => .err
def gGe : D → D → Store → R (D × Store)
  | .int i, .int j, st => .ok (.bl (decide (j ≤ i)), st)
  | _, _, _ => .err
def gIsN : D → D → Store → R (D × Store)
  | d, .non, st => .ok (.bl d.isNon, st)
  | _, _, _ => .err
def gNotN : D → D → Store → R (D × Store)
  | d, .non, st => .ok (.bl (!d.isNon), st)
  | _, _, _ => .err
def gEq (d e : D) (st : Store) : R (D × Store) := if D.can d e = true then .ok (.bl (D.eqv d e), st) else .err
def gNe (d e : D) (st : Store) : R (D × Store) := if D.can d e = true then .ok (.bl (!D.eqv d e), st) else .err
def gIn (d e : D) (st : Store) : R (D × Store) := match e.items with
  | some xs => if D.can d e = true then .ok (.bl (xs.any fun z => D.eqv z d), st) else .err
  | none => .err
def gNotIn (d e : D) (st : Store) : R (D × Store) := match e.items with
  | some xs => if D.can d e = true then .ok (.bl (!xs.any fun z => D.eqv z d), st) else .err
  | none => .err
section
variable {X : Cx} {CA : Nat → Option Addr} {W : WX}
theorem o_add : OpR X (binaryOp .Add) (rG2 X.prog X.w X.K CA W .v gAdd) := by
  rintro pins s σ H x y v u Q I rx ry ⟨σ', H0, F, ρ, env, st, d, e, rel, k1, k2, q⟩
  unfold gAdd at q
  split at q
  · obtain rfl := k1.intE
    obtain rfl := k2.intE
    exact op_add pins s σ H _ _ v u Q I rx ry ⟨_, _, rfl, rfl, fin_v rel (.int _) q⟩
  · split at q
    · rename_i h
      obtain rfl := k1.strE
      obtain rfl := k2.strE
      exact op_add_str pins s σ H _ _ v u Q I rx ry ⟨_, _, rfl, rfl, h, fin_v rel (.str _) q⟩
    · exact q.elim
  · split at q
    · rename_i h
      obtain ⟨a, xs, rfl, h1, r1, z1⟩ := k1.tupN
      obtain ⟨b, ys, rfl, h2, r2, z2⟩ := k2.tupN
      refine op_catN pins s σ H _ _ v u Q I rx ry ⟨a, b, xs, ys, rfl, rfl, h1.seq, h2.seq, by rw [r1.length, r2.length]; exact h, fun z => ?_, fun z3 => ?_, ?_⟩
      · subst z
        cases r1
        exact fin_v rel (.tup h2 r2 z2) q
      · subst z3
        cases r2
        rw [List.append_nil] at q
        exact fin_v rel (.tup h1 r1 z1) q
      · exact fin_tup rel (r1.append r2) (by rw [List.length_append]; exact h) q
    · exact q.elim
  · split at q
    · rename_i h
      obtain ⟨a, xs, rfl, h1, r1, z1⟩ := k1.lstE
      obtain ⟨b, ys, rfl, h2, r2, z2⟩ := k2.lstE
      exact op_cat pins s σ H _ _ v u Q I rx ry ⟨a, b, xs, ys, rfl, rfl, h1, h2, by rw [r1.length, r2.length]; exact h, fun p n => fin_lstV rel (r1.append r2) (by rw [List.length_append]; exact h) q n⟩
    · exact q.elim
  · exact q.elim
theorem o_cat : OpR X (binaryOp .Add) (rG2 X.prog X.w X.K CA W .n gCat) := by
  rintro pins s σ H x y v u Q I rx ry ⟨σ', H0, F, ρ, env, st, d, e, rel, k1, k2, q⟩
  unfold gCat at q
  split at q
  · split at q
    · rename_i h
      obtain ⟨a, xs, rfl, h1, r1, z1⟩ := k1.lstE
      obtain ⟨b, ys, rfl, h2, r2, z2⟩ := k2.lstE
      exact op_cat pins s σ H _ _ v u Q I rx ry ⟨a, b, xs, ys, rfl, rfl, h1, h2, by rw [r1.length, r2.length]; exact h, fun p n => fin_lst rel (r1.append r2) (by rw [List.length_append]; exact h) q n⟩
    · exact q.elim
  · exact q.elim
theorem o_sub : OpR X (binaryOp .Sub) (rG2 X.prog X.w X.K CA W .v gSub) := by
  rintro pins s σ H x y v u Q I rx ry ⟨σ', H0, F, ρ, env, st, d, e, rel, k1, k2, q⟩
  unfold gSub at q
  split at q
  · obtain rfl := k1.intE
    obtain rfl := k2.intE
    exact op_sub pins s σ H _ _ v u Q I rx ry ⟨_, _, rfl, rfl, fin_v rel (.int _) q⟩
  · exact q.elim
theorem o_mul : OpR X (binaryOp .Mult) (rG2 X.prog X.w X.K CA W .v gMul) := by
  rintro pins s σ H x y v u Q I rx ry ⟨σ', H0, F, ρ, env, st, d, e, rel, k1, k2, q⟩
  unfold gMul at q
  split at q
  · split at q
    · rename_i h
      obtain rfl := k1.intE
      obtain rfl := k2.intE
      exact op_mul pins s σ H _ _ v u Q I rx ry ⟨_, _, rfl, rfl, h, fin_v rel (.int _) q⟩
    · exact q.elim
  · exact q.elim
theorem o_div : OpR X (binaryOp .FloorDiv) (rG2 X.prog X.w X.K CA W .v gDiv) := by
  rintro pins s σ H x y v u Q I rx ry ⟨σ', H0, F, ρ, env, st, d, e, rel, k1, k2, q⟩
  unfold gDiv at q
  split at q
  · split at q
    · rename_i h
      obtain rfl := k1.intE
      obtain rfl := k2.intE
      exact op_fdiv pins s σ H _ _ v u Q I rx ry ⟨_, _, rfl, rfl, h, fin_v rel (.int _) q⟩
    · exact q.elim
  · exact q.elim
theorem o_mod : OpR X (binaryOp .Mod) (rG2 X.prog X.w X.K CA W .v gMod) := by
  rintro pins s σ H x y v u Q I rx ry ⟨σ', H0, F, ρ, env, st, d, e, rel, k1, k2, q⟩
  unfold gMod at q
  split at q
  · split at q
    · rename_i h
      obtain rfl := k1.intE
      obtain rfl := k2.intE
      exact op_mod pins s σ H _ _ v u Q I rx ry ⟨_, _, rfl, rfl, h, fin_v rel (.int _) q⟩
    · exact q.elim
  · exact q.elim
theorem o_pow : OpR X (binaryOp .Pow) (rG2 X.prog X.w X.K CA W .v gPow) := by
  rintro pins s σ H x y v u Q I rx ry ⟨σ', H0, F, ρ, env, st, d, e, rel, k1, k2, q⟩
  unfold gPow at q
  split at q
  · split at q
    · rename_i h
      obtain rfl := k1.intE
      obtain rfl := k2.intE
      exact op_pow pins s σ H _ _ v u Q I rx ry ⟨_, _, rfl, rfl, h, fin_v rel (.int _) q⟩
    · exact q.elim
  · exact q.elim
theorem o_neg : UnR X (unaryOp .USub) (rG1 X.prog X.w X.K CA W .v gNeg) := by
  rintro pins s σ H x v Q I rx ⟨σ', H0, F, ρ, env, st, d, rel, k1, q⟩
  unfold gNeg at q
  split at q
  · obtain rfl := k1.intE
    exact un_neg pins s σ H _ v Q I rx ⟨_, rfl, fin_v rel (.int _) q⟩
  · exact q.elim
theorem o_lt : OpR X (compareOp .Lt) (rG2 X.prog X.w X.K CA W .v gLt) := by
  rintro pins s σ H x y v u Q I rx ry ⟨σ', H0, F, ρ, env, st, d, e, rel, k1, k2, q⟩
  unfold gLt at q
  split at q
  · obtain rfl := k1.intE
    obtain rfl := k2.intE
    exact op_lt pins s σ H _ _ v u Q I rx ry ⟨_, _, rfl, rfl, fin_v rel (.bl _) q⟩
  · obtain rfl := k1.strE
    obtain rfl := k2.strE
    exact op_lt_str pins s σ H _ _ v u Q I rx ry ⟨_, _, rfl, rfl, fin_v rel (.bl _) q⟩
  · exact q.elim
theorem o_le : OpR X (compareOp .LtE) (rG2 X.prog X.w X.K CA W .v gLe) := by
  rintro pins s σ H x y v u Q I rx ry ⟨σ', H0, F, ρ, env, st, d, e, rel, k1, k2, q⟩
  unfold gLe at q
  split at q
  · obtain rfl := k1.intE
    obtain rfl := k2.intE
    exact op_le pins s σ H _ _ v u Q I rx ry ⟨_, _, rfl, rfl, fin_v rel (.bl _) q⟩
  · exact q.elim
theorem o_gt : OpR X (compareOp .Gt) (rG2 X.prog X.w X.K CA W .v gGt) := by
  rintro pins s σ H x y v u Q I rx ry ⟨σ', H0, F, ρ, env, st, d, e, rel, k1, k2, q⟩
  unfold gGt at q
  split at q
  · obtain rfl := k1.intE
    obtain rfl := k2.intE
    exact op_gt pins s σ H _ _ v u Q I rx ry ⟨_, _, rfl, rfl, fin_v rel (.bl _) q⟩
  · exact q.elim
theorem o_ge : OpR X (compareOp .GtE) (rG2 X.prog X.w X.K CA W .v gGe) := by
  rintro pins s σ H x y v u Q I rx ry ⟨σ', H0, F, ρ, env, st, d, e, rel, k1, k2, q⟩
  unfold gGe at q
  split at q
  · obtain rfl := k1.intE
    obtain rfl := k2.intE
    exact op_ge pins s σ H _ _ v u Q I rx ry ⟨_, _, rfl, rfl, fin_v rel (.bl _) q⟩
  · exact q.elim
theorem o_isN : OpR X (compareOp .Is) (rG2 X.prog X.w X.K CA W .v gIsN) := by
  rintro pins s σ H x y v u Q I rx ry ⟨σ', H0, F, ρ, env, st, d, e, rel, k1, k2, q⟩
  unfold gIsN at q
  split at q
  · obtain rfl := k2.nonE
    refine op_isN pins s σ H _ _ v u Q I rx ry ⟨rfl, ?_⟩
    rw [k1.isNon]
    exact fin_v rel (.bl _) q
  · exact q.elim
theorem o_notN : OpR X (compareOp .IsNot) (rG2 X.prog X.w X.K CA W .v gNotN) := by
  rintro pins s σ H x y v u Q I rx ry ⟨σ', H0, F, ρ, env, st, d, e, rel, k1, k2, q⟩
  unfold gNotN at q
  split at q
  · obtain rfl := k2.nonE
    refine op_notN pins s σ H _ _ v u Q I rx ry ⟨rfl, ?_⟩
    rw [k1.isNon]
    exact fin_v rel (.bl _) q
  · exact q.elim
theorem o_eq (hu : X.A.units + 64 < cLine) : OpR X (compareOp .Eq) (rG2 X.prog X.w X.K CA W .v gEq) := by
  rintro pins s σ H x y v u Q I rx ry ⟨σ', H0, F, ρ, env, st, d, e, rel, k1, k2, q⟩
  unfold gEq at q
  split at q
  · rename_i h
    exact rb_eq I hu h k1 k2 rx ry ⟨.bl _, H, I, rfl, fin_v rel (.bl _) q⟩
  · exact q.elim
theorem o_ne (hu : X.A.units + 64 < cLine) : OpR X (compareOp .NotEq) (rG2 X.prog X.w X.K CA W .v gNe) := by
  rintro pins s σ H x y v u Q I rx ry ⟨σ', H0, F, ρ, env, st, d, e, rel, k1, k2, q⟩
  unfold gNe at q
  split at q
  · rename_i h
    exact rb_ne I hu h k1 k2 rx ry ⟨.bl _, H, I, rfl, fin_v rel (.bl _) q⟩
  · exact q.elim
theorem o_in (hu : X.A.units + 64 < cLine) : OpR X (compareOp .In) (rG2 X.prog X.w X.K CA W .v gIn) := by
  rintro pins s σ H x y v u Q I rx ry ⟨σ', H0, F, ρ, env, st, d, e, rel, k1, k2, q⟩
  unfold gIn at q
  split at q
  · rename_i xs hi
    split at q
    · rename_i h
      exact (rb_in I hu hi h k1 k2 rx ry).1 ⟨.bl _, H, I, rfl, fin_v rel (.bl _) q⟩
    · exact q.elim
  · exact q.elim
theorem o_notIn (hu : X.A.units + 64 < cLine) : OpR X (compareOp .NotIn) (rG2 X.prog X.w X.K CA W .v gNotIn) := by
  rintro pins s σ H x y v u Q I rx ry ⟨σ', H0, F, ρ, env, st, d, e, rel, k1, k2, q⟩
  unfold gNotIn at q
  split at q
  · rename_i xs hi
    split at q
    · rename_i h
      exact (rb_in I hu hi h k1 k2 rx ry).2 ⟨.bl _, H, I, rfl, fin_v rel (.bl _) q⟩
    · exact q.elim
  · exact q.elim
end
end Sn

set_option Elab.async false
set_option linter.all false
set_option maxRecDepth 100000
/-! layer 6: and, or, not, chains, displays, subscripts, calls -/
namespace Sn
open PySem PySem.Spec PyProof.Rows L2
def cT (f : En → Store → R (D × Store)) : En → Store → R (Bool × Store) := fun env st => (f env st).bind fun p => match p.1 with
  | .bl b => .ok (b, p.2)
  | _ => .err
def cAnd (f g : En → Store → R (D × Store)) : En → Store → R (D × Store) := fun env st => (f env st).bind fun p => match p.1 with
  | .bl true => g env p.2
  | .bl false => .ok (.bl false, p.2)
  | _ => .err
def cOr (f g : En → Store → R (D × Store)) : En → Store → R (D × Store) := fun env st => (f env st).bind fun p => match p.1 with
  | .bl true => .ok (.bl true, p.2)
  | .bl false => g env p.2
  | _ => .err
def cNot (f : En → Store → R (D × Store)) : En → Store → R (D × Store) := fun env st => (f env st).bind fun p => match p.1 with
  | .bl b => .ok (.bl (!b), p.2)
  | _ => .err
def cIte (t : En → Store → R (Bool × Store)) (f g : En → Store → R (D × Store)) : En → Store → R (D × Store) := fun env st => (t env st).bind fun p => if p.1 = true then f env p.2 else g env p.2
def cChain (f f' f'' : En → Store → R (D × Store)) (g g' : D → D → Store → R (D × Store)) : En → Store → R (D × Store) := fun env st =>
  (f env st).bind fun p => (f' env p.2).bind fun q => (g p.1 q.1 q.2).bind fun r => match r.1 with
    | .bl true => (f'' env r.2).bind fun s => g' q.1 s.1 s.2
    | .bl false => .ok (.bl false, r.2)
    | _ => .err
section
variable {X : Cx} {t t' : TE} {ex a b c : Expr} {es rest : List Expr} {CA : Nat → Option Addr} {W : WX} {f fa fb fc : En → Store → R (D × Store)} {ft : En → Store → R (Bool × Store)} {k ka kb : Kd} {pos : Pos}
theorem ptI {t t' : TT} (h : PT X ex t) (i : ∀ σ H Q, t' σ H Q → t σ H Q) : PT X ex t' := ⟨fun pins s σ H Q I q => h.run pins s σ H Q I (i σ H Q q)⟩
theorem paI {t t' : TA} (h : PA X es t) (i : ∀ σ H Q, t' σ H Q → t σ H Q) : PA X es t' := ⟨fun pos pins s σ H Q I q => h.run pos pins s σ H Q I (i σ H Q q)⟩
/-- a value as a test -/
theorem t_cT {σ : St} {H : Hp} {Q : Bool → Hp → Prop} (h : tT X.prog X.w X.K CA W (cT f) σ H Q) : tD X.prog X.w X.K CA W k f σ H fun x H1 => ∃ c, x = .bl c ∧ Q c H1 := by
  obtain ⟨H0, F, ρ, env, st, rel, q⟩ := h
  refine ⟨H0, F, ρ, env, st, rel, (After.bind (RK' := rkD X.prog X.w X.K k) rkB_ok q).imp fun v H1 h => ?_⟩
  obtain ⟨F1, ρ1, d, st1, x, r1, k1, _, q1⟩ := h
  revert q1
  cases d with
  | bl b =>
    intro q1
    exact ⟨b, (rkD_b k1).blE, After.ok r1 rfl q1⟩
  | _ => exact fun q1 => q1.elim
theorem s_tval (h : PE X ex (tD X.prog X.w X.K CA W k f)) (he : ∀ whole, isTrue ex X.env whole = (do let v ← whole; standAt ex.pos; holding [v] (truthy v))) : PT X ex (tT X.prog X.w X.K CA W (cT f)) :=
  ptI (pt_val h he) fun _ _ _ q => t_cT q
theorem s_tcmp {op : CmpOp} {g : D → D → Store → R (D × Store)} (ho : OpR X (compareOp op) (rG2 X.prog X.w X.K CA W k g)) (ha : PE X a (tD X.prog X.w X.K CA W .b fa)) (hb : PE X b (tD X.prog X.w X.K CA W .b fb)) (hm : behindInMarks op b = false) :
    PT X (.Compare a [op] [b] pos) (tT X.prog X.w X.K CA W (cT (c2 fa fb g))) := ptI (pt_cmpR ho ha hb hm) fun σ H Q h => t_c2 (t_cT h)

theorem s_and (ha : PE X a (tD X.prog X.w X.K CA W ka fa)) (hb : PE X (.BoolOp .And (b :: rest) pos) (tD X.prog X.w X.K CA W .v fb)) : PE X (.BoolOp .And (a :: b :: rest) pos) (tD X.prog X.w X.K CA W .v (cAnd fa fb)) := by
  refine peI (pe_and ha hb) fun σ H Q ⟨H0, F, ρ, env, st, rel, q⟩ => ?_
  refine ⟨H0, F, ρ, env, st, rel, (After.bind (RK' := rkD X.prog X.w X.K ka) (rkD_ok .v) q).imp fun v H1 h => ?_⟩
  obtain ⟨F1, ρ1, d, st1, x, r1, k1, _, q1⟩ := h
  revert q1
  cases d with
  | bl b =>
    refine fun q1 => ⟨b, (rkD_b k1).blE, ?_⟩
    cases b with
    | true => exact ⟨H0, F1, ρ1, env, st1, r1, q1⟩
    | false => exact After.ok r1 (.bl false) q1
  | _ => exact fun q1 => q1.elim
theorem s_or (ha : PE X a (tD X.prog X.w X.K CA W ka fa)) (hb : PE X (.BoolOp .Or (b :: rest) pos) (tD X.prog X.w X.K CA W .v fb)) : PE X (.BoolOp .Or (a :: b :: rest) pos) (tD X.prog X.w X.K CA W .v (cOr fa fb)) := by
  refine peI (pe_or ha hb) fun σ H Q ⟨H0, F, ρ, env, st, rel, q⟩ => ?_
  refine ⟨H0, F, ρ, env, st, rel, (After.bind (RK' := rkD X.prog X.w X.K ka) (rkD_ok .v) q).imp fun v H1 h => ?_⟩
  obtain ⟨F1, ρ1, d, st1, x, r1, k1, _, q1⟩ := h
  revert q1
  cases d with
  | bl b =>
    refine fun q1 => ⟨b, (rkD_b k1).blE, ?_⟩
    cases b with
    | false => exact ⟨H0, F1, ρ1, env, st1, r1, q1⟩
    | true => exact After.ok r1 (.bl true) q1
  | _ => exact fun q1 => q1.elim
theorem s_not (ha : PE X a (tD X.prog X.w X.K CA W ka fa)) : PE X (.UnaryOp .Not a pos) (tD X.prog X.w X.K CA W .v (cNot fa)) := by
  refine peI (pe_not ha) fun σ H Q ⟨H0, F, ρ, env, st, rel, q⟩ => ?_
  refine ⟨H0, F, ρ, env, st, rel, (After.bind (RK' := rkD X.prog X.w X.K ka) (rkD_ok .v) q).imp fun v H1 h => ?_⟩
  obtain ⟨F1, ρ1, d, st1, x, r1, k1, _, q1⟩ := h
  revert q1
  cases d with
  | bl b => exact fun q1 => ⟨b, (rkD_b k1).blE, After.ok r1 (.bl _) q1⟩
  | _ => exact fun q1 => q1.elim
/-- the same as tests -/
theorem s_tnot (ha : PT X a (tT X.prog X.w X.K CA W (cT fa))) : PT X (.UnaryOp .Not a pos) (tT X.prog X.w X.K CA W (cT (cNot fa))) := by
  refine ptI (pt_not ha) fun σ H Q ⟨H0, F, ρ, env, st, rel, q⟩ => ⟨H0, F, ρ, env, st, rel, ?_⟩
  revert q
  unfold cT cNot
  cases fa env st with
  | err => exact fun q => q
  | exc x s => exact fun q => q
  | ok p =>
    obtain ⟨d, st1⟩ := p
    cases d with
    | bl b => exact fun q v H' F' ρ' x r k => q (!v) H' F' ρ' x r (congrArg (fun z => !z) (show v = b from k))
    | _ => exact fun q => q
/-- and, or: whatever the whole is -/
theorem pwI {t t' : TT} (h : PW X ex t) (i : ∀ σ H Q, t' σ H Q → t σ H Q) : PW X ex t' := ⟨fun wh pins s σ H Q I q => h.run wh pins s σ H Q I (i σ H Q q)⟩
theorem s_tand (ha : PT X a (tT X.prog X.w X.K CA W (cT fa))) (hb : PW X (.BoolOp .And (b :: rest) pos) (tT X.prog X.w X.K CA W (cT fb))) : PW X (.BoolOp .And (a :: b :: rest) pos) (tT X.prog X.w X.K CA W (cT (cAnd fa fb))) := by
  refine pwI (pw_and ha hb) fun σ H Q ⟨H0, F, ρ, env, st, rel, q⟩ => ⟨H0, F, ρ, env, st, rel, ?_⟩
  have q' : After X.prog X.w X.K CA W rkB H0 F ρ env σ H Q ((cT fa env st).bind fun p => if p.1 = true then cT fb env p.2 else .ok (false, p.2)) := by
    revert q
    unfold cT cAnd
    cases fa env st with
    | err => exact fun q => q
    | exc x s => exact fun q => q
    | ok p =>
      obtain ⟨d, st1⟩ := p
      cases d with
      | bl b => cases b <;> exact fun q => q
      | _ => exact fun q => q
  refine (After.bind (RK' := rkB) rkB_ok q').imp fun v H1 h => ?_
  obtain ⟨F1, ρ1, d, st1, x, r1, k1, _, q1⟩ := h
  have k1' : v = d := k1
  subst k1'
  cases v with
  | true => exact ⟨H0, F1, ρ1, env, st1, r1, q1⟩
  | false => exact After.ok r1 rfl q1
theorem s_tor (ha : PT X a (tT X.prog X.w X.K CA W (cT fa))) (hb : PW X (.BoolOp .Or (b :: rest) pos) (tT X.prog X.w X.K CA W (cT fb))) : PW X (.BoolOp .Or (a :: b :: rest) pos) (tT X.prog X.w X.K CA W (cT (cOr fa fb))) := by
  refine pwI (pw_or ha hb) fun σ H Q ⟨H0, F, ρ, env, st, rel, q⟩ => ⟨H0, F, ρ, env, st, rel, ?_⟩
  have q' : After X.prog X.w X.K CA W rkB H0 F ρ env σ H Q ((cT fa env st).bind fun p => if p.1 = true then .ok (true, p.2) else cT fb env p.2) := by
    revert q
    unfold cT cOr
    cases fa env st with
    | err => exact fun q => q
    | exc x s => exact fun q => q
    | ok p =>
      obtain ⟨d, st1⟩ := p
      cases d with
      | bl b => cases b <;> exact fun q => q
      | _ => exact fun q => q
  refine (After.bind (RK' := rkB) rkB_ok q').imp fun v H1 h => ?_
  obtain ⟨F1, ρ1, d, st1, x, r1, k1, _, q1⟩ := h
  have k1' : v = d := k1
  subst k1'
  cases v with
  | false => exact ⟨H0, F1, ρ1, env, st1, r1, q1⟩
  | true => exact After.ok r1 rfl q1
theorem s_and1 (ha : PT X a (tT X.prog X.w X.K CA W (cT fa))) : PW X (.BoolOp .And [a] pos) (tT X.prog X.w X.K CA W (cT fa)) := pw_and1 ha
theorem s_or1 (ha : PT X a (tT X.prog X.w X.K CA W (cT fa))) : PW X (.BoolOp .Or [a] pos) (tT X.prog X.w X.K CA W (cT fa)) := pw_or1 ha
theorem s_ite (hc : PT X c (tT X.prog X.w X.K CA W ft)) (ha : PE X a (tD X.prog X.w X.K CA W k fa)) (hb : PE X b (tD X.prog X.w X.K CA W k fb)) : PE X (.IfExp c a b pos) (tD X.prog X.w X.K CA W k (cIte ft fa fb)) := by
  refine peI (pe_ifExp hc ha hb) fun σ H Q ⟨H0, F, ρ, env, st, rel, q⟩ => ⟨H0, F, ρ, env, st, rel, (After.bind (RK' := rkB) (rkD_ok k) q).imp fun v H1 h => ?_⟩
  obtain ⟨F1, ρ1, d, st1, x, r1, k1, _, q1⟩ := h
  have k1' : v = d := k1
  subst k1'
  cases v with
  | true => exact ⟨H0, F1, ρ1, env, st1, r1, q1⟩
  | false => exact ⟨H0, F1, ρ1, env, st1, r1, q1⟩
theorem t_chain {g g' : D → D → Store → R (D × Store)} {σ : St} {H : Hp} {Q : VK} (h : tD X.prog X.w X.K CA W .v (cChain fa fb fc g g') σ H Q) :
    tChain (rG2 X.prog X.w X.K CA W .v g) (fun x y H Q => (rG2 X.prog X.w X.K CA W .v g') x y H Q) (tD X.prog X.w X.K CA W .b fa) (tD X.prog X.w X.K CA W .b fb) (tD X.prog X.w X.K CA W .b fc) σ H Q := by
  obtain ⟨H0, F, ρ, env, st, rel, q⟩ := h
  refine ⟨H0, F, ρ, env, st, rel, (After.bind (RK' := rkD X.prog X.w X.K .b) (rkD_ok .v) q).imp fun v H1 h => ?_⟩
  obtain ⟨F1, ρ1, d, st1, x, r1, k1, _, q1⟩ := h
  refine ⟨H0, F1, ρ1, env, st1, r1, (After.bind (RK' := rkD X.prog X.w X.K .b) (rkD_ok .v) q1).imp fun u H2 h => ?_⟩
  obtain ⟨F2, ρ2, e, st2, x2, r2, k2, _, q2⟩ := h
  refine ⟨σ, H0, F2, ρ2, env, st2, d, e, r2, RepB.mono x2 k1, k2, (After.bind (RK' := rkD X.prog X.w X.K .v) (rkD_ok .v) q2).imp fun z H3 h => ?_⟩
  obtain ⟨F3, ρ3, c, st3, x3, r3, k3, _, q3⟩ := h
  revert q3
  cases c with
  | bl b =>
    refine fun q3 => ⟨b, (show RepB X.prog X.w X.K F3 ρ3 H3 z (.bl b) from .inl k3).blE, ?_⟩
    cases b with
    | false => exact After.ok r3 (.bl false) q3
    | true =>
      refine ⟨H0, F3, ρ3, env, st3, r3, (After.bind (RK' := rkD X.prog X.w X.K .b) (rkD_ok .v) q3).imp fun y H4 h => ?_⟩
      obtain ⟨F4, ρ4, e', st4, x4, r4, k4, _, q4⟩ := h
      exact ⟨σ, H0, F4, ρ4, env, st4, e, e', r4, RepB.mono x4 (RepB.mono x3 k2), k4, q4⟩
  | _ => exact fun q3 => q3.elim
theorem s_chain {op op' : CmpOp} {g g' : D → D → Store → R (D × Store)} (ho : OpR X (compareOp op) (rG2 X.prog X.w X.K CA W .v g)) (ho' : OpR X (compareOp op') (rG2 X.prog X.w X.K CA W .v g')) (ha : PE X a (tD X.prog X.w X.K CA W .b fa)) (hb : PE X b (tD X.prog X.w X.K CA W .b fb)) (hc : PE X c (tD X.prog X.w X.K CA W .b fc))
    (hm : lastMarks [op, op'] [b, c] = false) : PE X (.Compare a [op, op'] [b, c] pos) (tD X.prog X.w X.K CA W .v (cChain fa fb fc g g')) := peI (pe_chain ho ho' ha hb hc hm) fun _ _ _ h => t_chain h
theorem s_tchain {op op' : CmpOp} {g g' : D → D → Store → R (D × Store)} (ho : OpR X (compareOp op) (rG2 X.prog X.w X.K CA W .v g)) (ho' : OpR X (compareOp op') (rG2 X.prog X.w X.K CA W .v g')) (ha : PE X a (tD X.prog X.w X.K CA W .b fa)) (hb : PE X b (tD X.prog X.w X.K CA W .b fb)) (hc : PE X c (tD X.prog X.w X.K CA W .b fc))
    (hm : lastMarks [op, op'] [b, c] = false) : PT X (.Compare a [op, op'] [b, c] pos) (tT X.prog X.w X.K CA W (cT (cChain fa fb fc g g'))) := ptI (pt_chain ho ho' ha hb hc hm) fun _ _ _ h => t_chain (t_cT h)
end

/-! ### rows of expressions, displays -/
abbrev FL := En → Store → R (List D × Store)
def lNil : FL := fun _ st => .ok ([], st)
def lCons (f : En → Store → R (D × Store)) (g : FL) : FL := fun env st => (f env st).bind fun p => (g env p.2).bind fun q => .ok (p.1 :: q.1, q.2)
def cTup (g : FL) : En → Store → R (D × Store) := fun env st => (g env st).bind fun p => if p.1.length ≤ sizeLine then .ok (.tup p.1, p.2) else .err
def cLst (g : FL) : En → Store → R (D × Store) := fun env st => (g env st).bind fun p => if p.1.length ≤ sizeLine then .ok (.lst p.1, p.2) else .err
def notStar : Expr → Bool
  | .Starred _ _ => false
  | _ => true
theorem star_of {e : Expr} {es : List Expr} {env : Env} (h : notStar e = true) : starEach (e :: es) env = (false, eval e env) :: starEach es env := by
  cases e <;> first | rfl | cases h
theorem any_of {pos : Pos} {env : Env} : ∀ {es : List Expr}, es.all notStar = true → (backTo pos (starEach es env)).any (·.1) = false
  | [], _ => rfl
  | e :: es, h => by
    rw [List.all_cons, Bool.and_eq_true] at h
    rw [star_of h.1]
    have ih := any_of (pos := pos) (env := env) h.2
    unfold backTo at ih ⊢
    rw [List.map_cons, List.any_cons, ih]
    rfl
section
variable {X : Cx} {t t' : TE} {ex a b c : Expr} {es rest : List Expr} {CA : Nat → Option Addr} {W : WX} {f fa fb fc : En → Store → R (D × Store)} {k ka kb : Kd} {pos : Pos} {g : FL}
theorem s_lnil : PA X [] (tL X.prog X.w X.K CA W lNil) := paI pa_nil fun σ H Q ⟨H0, F, ρ, env, st, rel, q⟩ => After.ok rel .nil q
theorem s_lcons (ha : PE X a (tD X.prog X.w X.K CA W .v fa)) (hr : PA X es (tL X.prog X.w X.K CA W g)) (hs : notStar a = true) : PA X (a :: es) (tL X.prog X.w X.K CA W (lCons fa g)) := by
  refine paI (pa_cons ha hr (star_of hs)) fun σ H Q ⟨H0, F, ρ, env, st, rel, q⟩ => ?_
  refine ⟨H0, F, ρ, env, st, rel, (After.bind (RK' := rkD X.prog X.w X.K .v) rkL_ok q).imp fun v H1 h => ?_⟩
  obtain ⟨F1, ρ1, d, st1, x, r1, k1, _, q1⟩ := h
  refine ⟨H0, F1, ρ1, env, st1, r1, (After.bind (RK' := rkL X.prog X.w X.K) rkL_ok q1).imp fun vs H2 h => ?_⟩
  obtain ⟨F2, ρ2, ds, st2, x2, r2, k2, _, q2⟩ := h
  exact After.ok r2 (.cons (Rep.mono x2.toKeeps k1) k2) q2
theorem s_tup {x1} (h : PA X es (tL X.prog X.w X.K CA W g)) : PE X (.Tuple es x1 pos) (tD X.prog X.w X.K CA W .v (cTup g)) := by
  refine peI (pe_tupN h) fun σ H Q ⟨H0, F, ρ, env, st, rel, q⟩ => ?_
  refine ⟨H0, F, ρ, env, st, rel, (After.bind (RK' := rkL X.prog X.w X.K) (rkD_ok .v) q).imp fun vs H1 h => ?_⟩
  obtain ⟨F1, ρ1, ds, st1, x, r1, k1, _, q1⟩ := h
  split at q1
  · rename_i hl
    refine ⟨by rw [Reps.length k1]; exact hl, fin_tup r1 k1 hl q1⟩
  · exact q1.elim
theorem s_lst (h : PA X es (tL X.prog X.w X.K CA W g)) : PE X (.List es pos) (tD X.prog X.w X.K CA W .n (cLst g)) := by
  refine peI (pe_lst h) fun σ H Q ⟨H0, F, ρ, env, st, rel, q⟩ => ?_
  refine ⟨H0, F, ρ, env, st, rel, (After.bind (RK' := rkL X.prog X.w X.K) (rkD_ok .n) q).imp fun vs H1 h => ?_⟩
  obtain ⟨F1, ρ1, ds, st1, x, r1, k1, _, q1⟩ := h
  split at q1
  · rename_i hl
    refine ⟨by rw [Reps.length k1]; exact hl, fun p n => fin_lst r1 k1 hl q1 n⟩
  · exact q1.elim
end

/-! ### subscripts -/
def atD (xs : List D) (i : Int) : Option D := if 0 ≤ i then xs[i.toNat]? else if -(xs.length : Int) ≤ i then xs[(i + xs.length).toNat]? else none
def cutD (xs : List D) (lo hi : Option Int) : List D :=
  (xs.drop (HT.sIx xs.length 0 lo)).take (HT.sIx xs.length xs.length hi - HT.sIx xs.length 0 lo)
end Sn

set_option Elab.async false
set_option linter.all false
set_option maxRecDepth 100000
/-! layer 7: subscripts, slices, calls of built-ins by one value -/
namespace Sn
open PySem PySem.Spec PyProof.Rows L2
theorem atI_lt {α : Type} {xs : List α} {i : Int} {v : α} (h : atI xs i = some v) : ∃ j : Nat, xs[j]? = some v ∧ ∀ {β : Type} (ys : List β), ys.length = xs.length → atI ys i = ys[j]? := by
  unfold atI at h
  cases e : ixN xs.length i with
  | none => rw [e] at h; cases h
  | some j =>
    rw [e] at h
    refine ⟨j, h, fun ys hl => ?_⟩
    unfold atI
    rw [hl, e]
    rfl
/-- x[i] -/
def gIx : D → D → Store → R (D × Store)
  | .tup xs, .int i, st => match atI xs i with
    | some d => .ok (d, st)
    | none => .err
  | .lst xs, .int i, st => match atI xs i with
    | some d => .ok (d, st)
    | none => .err
  | .ref n, .int i, st => match st[n]? with
    | some (.lst xs) => match atI xs i with
      | some d => .ok (d, st)
      | none => .err
    | _ => .err
  | .str z, .int i, st => if z.length ≤ sizeLine then match atI z.cps.toList i with
      | some c => .ok (.str ⟨#[c]⟩, st)
      | none => .err
    else .err
  | _, _, _ => .err
def isSlice : Expr → Bool
  | .Slice _ _ _ _ => true
  | _ => false
theorem plainIx_of {b : Expr} (h : isSlice b = false) : PlainIx b := by
  intro o i
  cases b <;> first | rfl | (exact absurd h (by simp [isSlice]))
section
variable {P : Program} {w : World} {K : PySem.W.Frag} {CA : Nat → Option Addr}
variable {F F' F'' : Addr → Prop} {ρ ρ' ρ'' : List Addr} {H H0 H1 H' H'' Hs : Hp} {v x y : V} {d e : D} {vs : List V} {ds : List D} {env : En} {st st' : Store} {σ : St} {a p : Addr} {W : WX} {Q : VK}
theorem Reps.atI {i : Int} (r : Reps P w K F ρ H vs ds) (h : atI ds i = some d) : ∃ v, L2.atI vs i = some v ∧ Rep P w K F ρ H v d := by
  obtain ⟨j, h1, h2⟩ := atI_lt h
  obtain ⟨v, e, q⟩ := r.get h1
  exact ⟨v, by rw [h2 vs r.length, e], q⟩
theorem StRel.getL {n : Nat} (s : StRel P w K CA F ρ st H) (h : st[n]? = some (.lst ds)) (e : ρ[n]? = some a) : ∃ vs, H a = some (.lst vs) ∧ Reps P w K F ρ H vs ds ∧ ds.length ≤ sizeLine := s.obj n _ a h e
end
section
variable {X : Cx} {t t' : TE} {ex a b c : Expr} {es rest : List Expr} {CA : Nat → Option Addr} {W : WX} {f fa fb fc : En → Store → R (D × Store)} {k ka kb : Kd} {pos : Pos} {g : FL}
theorem o_ix : IxR X (rG2 X.prog X.w X.K CA W .v gIx) := by
  rintro value slice pins s σ H x y v u Q I rx ry ⟨σ', H0, F, ρ, env, st, d, e, rel, k1, k2, q⟩ hs
  unfold gIx at q
  split at q
  · split at q
    · rename_i h
      obtain ⟨a, vs, rfl, h1, r1, z1⟩ := k1.tupE
      obtain rfl := k2.intE
      obtain ⟨z, hz, rz⟩ := r1.atI h
      exact ix_tup value slice pins s σ H _ _ v u Q I rx ry ⟨a, vs, _, z, rfl, rfl, h1, hz, fin_v rel rz q⟩ hs
    · exact q.elim
  · split at q
    · rename_i h
      obtain ⟨a, vs, rfl, h1, r1, z1⟩ := k1.lstE
      obtain rfl := k2.intE
      obtain ⟨z, hz, rz⟩ := r1.atI h
      exact ix_list value slice pins s σ H _ _ v u Q I rx ry ⟨a, vs, _, z, rfl, rfl, SqL.of h1, hz, fin_v rel rz q⟩ hs
    · exact q.elim
  · split at q
    · rename_i xs hst
      split at q
      · rename_i h
        obtain ⟨a, rfl, hr⟩ := k1.refE
        obtain rfl := k2.intE
        obtain ⟨vs, h1, r1, z1⟩ := rel.getL hst hr
        obtain ⟨z, hz, rz⟩ := r1.atI h
        exact ix_list value slice pins s σ H _ _ v u Q I rx ry ⟨a, vs, _, z, rfl, rfl, SqL.of h1, hz, fin_v rel rz q⟩ hs
      · exact q.elim
    · exact q.elim
  · split at q
    · rename_i hl
      split at q
      · rename_i h
        obtain rfl := k1.strE
        obtain rfl := k2.intE
        exact ix_str value slice pins s σ H _ _ v u Q I rx ry ⟨_, _, _, rfl, rfl, hl, h, fin_v rel (.str _) q⟩ hs
      · exact q.elim
    · exact q.elim
  · exact q.elim
theorem s_ix (ha : PE X a (tD X.prog X.w X.K CA W .b fa)) (hb : PE X b (tD X.prog X.w X.K CA W .b fb)) (hs : isSlice b = false) : PE X (.Subscript a b pos) (tD X.prog X.w X.K CA W .v (c2 fa fb gIx)) :=
  peI (pe_ix o_ix ha hb (plainIx_of hs)) fun _ _ _ h => t_c2 h

/-! ### slices -/
def rkO : RKT (Option Int) (Option Int) := fun _ _ _ _ b c => b = c
theorem rkO_ok : RKOk rkO := ⟨fun _ h => h, fun _ h => h⟩
abbrev tO (P : Program) (w : World) (K : PySem.W.Frag) (CA : Nat → Option Addr) (W : WX) (f : En → Store → R (Option Int × Store)) : TO := tQ P w K CA W rkO f
def oNone : En → Store → R (Option Int × Store) := fun _ st => .ok (none, st)
def oSome (f : En → Store → R (D × Store)) : En → Store → R (Option Int × Store) := fun env st => (f env st).bind fun p => match p.1 with
  | .int i => .ok (some i, p.2)
  | _ => .err
theorem poI {o : Option Expr} {t t' : TO} (h : PO X o t) (i : ∀ σ H Q, t' σ H Q → t σ H Q) : PO X o t' := ⟨fun pins s σ H Q I q => h.run pins s σ H Q I (i σ H Q q)⟩
theorem s_onone : PO X none (tO X.prog X.w X.K CA W oNone) := poI po_none fun σ H Q ⟨H0, F, ρ, env, st, rel, q⟩ => After.ok rel rfl q
theorem s_osome (h : PE X a (tD X.prog X.w X.K CA W k f)) : PO X (some a) (tO X.prog X.w X.K CA W (oSome f)) := by
  refine poI (po_some h) fun σ H Q ⟨H0, F, ρ, env, st, rel, q⟩ => ⟨H0, F, ρ, env, st, rel, (After.bind (RK' := rkD X.prog X.w X.K k) rkO_ok q).imp fun v H1 h => ?_⟩
  obtain ⟨F1, ρ1, d, st1, x, r1, k1, _, q1⟩ := h
  revert q1
  cases d with
  | int i => exact fun q1 => ⟨i, (rkD_b k1).intE, After.ok r1 rfl q1⟩
  | _ => exact fun q1 => q1.elim
def gSl (d : D) (lo hi : Option Int) (st : Store) : R (D × Store) := match d with
  | .tup xs => .ok (.tup (cutD xs lo hi), st)
  | .lst xs => .ok (.lst (cutD xs lo hi), st)
  | .str z => if z.length ≤ sizeLine then .ok (.str (cutS z lo hi), st) else .err
  | _ => .err
/-- a list's slice, to be the frame's own -/
def gSlN (d : D) (lo hi : Option Int) (st : Store) : R (D × Store) := match d with
  | .lst xs => .ok (.lst (cutD xs lo hi), st)
  | _ => .err
def cSl (f : En → Store → R (D × Store)) (l h : En → Store → R (Option Int × Store)) (g : D → Option Int → Option Int → Store → R (D × Store)) : En → Store → R (D × Store) := fun env st =>
  (f env st).bind fun p => (l env p.2).bind fun q => (h env q.2).bind fun r => g p.1 q.1 r.1 r.2
def rGS (P : Program) (w : World) (K : PySem.W.Frag) (CA : Nat → Option Addr) (W : WX) (k : Kd) (g : D → Option Int → Option Int → Store → R (D × Store)) : V → Option Int → Option Int → Hp → VK → Prop := fun x lo hi H Q =>
  ∃ σ H0 F ρ env st d, Rel P w K CA H0 F ρ env st σ H ∧ RepB P w K F ρ H x d ∧ After P w K CA W (rkD P w K k) H0 F ρ env σ H Q (g d lo hi st)
theorem Reps.cut {P : Program} {w : World} {K : PySem.W.Frag} {F : Addr → Prop} {ρ : List Addr} {H : Hp} {vs : List V} {ds : List D} (r : Reps P w K F ρ H vs ds) (lo hi : Option Int) : Reps P w K F ρ H (cutV vs lo hi) (cutD ds lo hi) := by
  unfold cutV cutD
  rw [r.length]
  exact (r.drop _).take _
theorem cutD_all {xs : List D} {lo hi : Option Int} (h : HT.sIx xs.length 0 lo = 0 ∧ HT.sIx xs.length xs.length hi = xs.length) : cutD xs lo hi = xs := by
  unfold cutD
  rw [h.1, h.2]
  simp
theorem cutD_length (xs : List D) (lo hi : Option Int) : (cutD xs lo hi).length ≤ xs.length := by
  unfold cutD
  rw [List.length_take, List.length_drop]
  omega
theorem o_sl : SlR X (rGS X.prog X.w X.K CA W .v gSl) := by
  rintro pins s σ H x v vl vu lo hi sl Q I rx hs pl pu ⟨σ', H0, F, ρ, env, st, d, rel, k1, q⟩
  unfold gSl at q
  split at q
  · obtain ⟨a, vs, rfl, h1, r1, z1⟩ := k1.tupN
    refine sl_tupN pins s σ H _ v vl vu lo hi sl Q I rx hs pl pu ⟨a, vs, rfl, h1.seq, fun z => ?_, fin_tup rel (r1.cut lo hi) (Nat.le_trans (cutD_length _ lo hi) z1) q⟩
    rw [r1.length] at z
    rw [cutD_all z] at q
    exact fin_v rel (.tup h1 r1 z1) q
  · obtain ⟨a, vs, rfl, h1, r1, z1⟩ := k1.lstE
    exact sl_list pins s σ H _ v vl vu lo hi sl Q I rx hs pl pu ⟨a, vs, rfl, SqL.of h1, fun p n => fin_lstV rel (r1.cut lo hi) (Nat.le_trans (cutD_length _ lo hi) z1) q n⟩
  · split at q
    · rename_i hl
      obtain rfl := k1.strE
      exact sl_str pins s σ H _ v vl vu lo hi sl Q I rx hs pl pu ⟨_, rfl, hl, fin_v rel (.str _) q⟩
    · exact q.elim
  · exact q.elim
theorem o_slN : SlR X (rGS X.prog X.w X.K CA W .n gSlN) := by
  rintro pins s σ H x v vl vu lo hi sl Q I rx hs pl pu ⟨σ', H0, F, ρ, env, st, d, rel, k1, q⟩
  unfold gSlN at q
  split at q
  · obtain ⟨a, vs, rfl, h1, r1, z1⟩ := k1.lstE
    exact sl_list pins s σ H _ v vl vu lo hi sl Q I rx hs pl pu ⟨a, vs, rfl, SqL.of h1, fun p n => fin_lst rel (r1.cut lo hi) (Nat.le_trans (cutD_length _ lo hi) z1) q n⟩
  · exact q.elim
theorem s_slice {lo hi : Option Expr} {p2 : Pos} {fl fh : En → Store → R (Option Int × Store)} {gs : D → Option Int → Option Int → Store → R (D × Store)} (hr : SlR X (rGS X.prog X.w X.K CA W k gs)) (ha : PE X a (tD X.prog X.w X.K CA W .b fa)) (hl : PO X lo (tO X.prog X.w X.K CA W fl)) (hh : PO X hi (tO X.prog X.w X.K CA W fh)) :
    PE X (.Subscript a (.Slice lo hi none p2) pos) (tD X.prog X.w X.K CA W k (cSl fa fl fh gs)) := by
  refine peI (pe_slice hr ha hl hh) fun σ H Q ⟨H0, F, ρ, env, st, rel, q⟩ => ⟨H0, F, ρ, env, st, rel, (After.bind (RK' := rkD X.prog X.w X.K .b) (rkD_ok k) q).imp fun v H1 h => ?_⟩
  obtain ⟨F1, ρ1, d, st1, x, r1, k1, _, q1⟩ := h
  refine ⟨H0, F1, ρ1, env, st1, r1, (After.bind (RK' := rkO) (rkD_ok k) q1).imp fun l H2 h => ?_⟩
  obtain ⟨F2, ρ2, l', st2, x2, r2, k2, _, q2⟩ := h
  have k2' : l = l' := k2
  subst k2'
  refine ⟨H0, F2, ρ2, env, st2, r2, (After.bind (RK' := rkO) (rkD_ok k) q2).imp fun m H3 h => ?_⟩
  obtain ⟨F3, ρ3, m', st3, x3, r3, k3, _, q3⟩ := h
  have k3' : m = m' := k3
  subst k3'
  exact ⟨σ, H0, F3, ρ3, env, st3, d, r3, RepB.mono x3 (RepB.mono x2 k1), q3⟩

/-! ### built-ins of one value, of two -/
theorem s_b1 {x : Str} {id : String} {p : Pos} {r : List V → Hp → VK → Prop} {gb : D → Store → R (D × Store)} (hc : CallR X (.builtin id) r) (hr : ∀ x H Q, rG1 X.prog X.w X.K CA W k gb x H Q → r [x] H Q) (hg : Gl X x) (hm : X.mg x = none) (hv : bootBuiltins x = some (.builtin id))
    (ha : PE X a (tD X.prog X.w X.K CA W .b fa)) (hs : notStar a = true) (hn : x ≠ "__name__") (hdb : (x == ("__debug__" : Str)) = false) : PE X (.Call (.Name x p) [a] [] pos) (tD X.prog X.w X.K CA W k (c1 fa gb)) :=
  peI (pe_callB hc hg hm hv (pa_cons ha pa_nil (star_of hs)) hn hdb (star_of hs) (any_of rfl)) fun σ H Q h => tQ.imp (t_c1 h) fun x H1 q => hr x H1 Q q
theorem s_ty1 {x : Str} {T : String} {p : Pos} {r : List V → Hp → VK → Prop} {gb : D → Store → R (D × Store)} (hc : CallR X (.type T) r) (hr : ∀ x H Q, rG1 X.prog X.w X.K CA W k gb x H Q → r [x] H Q) (hg : Gl X x) (hm : X.mg x = none) (hv : bootBuiltins x = some (.type T))
    (ha : PE X a (tD X.prog X.w X.K CA W .b fa)) (hs : notStar a = true) (hn : x ≠ "__name__") (hdb : (x == ("__debug__" : Str)) = false) : PE X (.Call (.Name x p) [a] [] pos) (tD X.prog X.w X.K CA W k (c1 fa gb)) :=
  peI (pe_callTy hc hg hm hv (pa_cons ha pa_nil (star_of hs)) hn hdb (star_of hs) (any_of rfl)) fun σ H Q h => tQ.imp (t_c1 h) fun x H1 q => hr x H1 Q q
end
end Sn

set_option Elab.async false
set_option linter.all false
set_option maxRecDepth 100000
/-! layer 8: built-ins -/
namespace Sn
open PySem PySem.Spec PyProof.Rows L2
def gLen : D → Store → R (D × Store)
  | .tup xs, st => .ok (.int xs.length, st)
  | .lst xs, st => .ok (.int xs.length, st)
  | .str x, st => if x.length ≤ sizeLine then .ok (.int x.length, st) else .err
  | .ref n, st => match st[n]? with
    | some (.lst xs) => .ok (.int xs.length, st)
    | _ => .err
  | _, _ => .err
def gAbs : D → Store → R (D × Store)
  | .int i, st => .ok (.int (if i < 0 then -i else i), st)
  | _, _ => .err
def gInt : D → Store → R (D × Store)
  | .int i, st => .ok (.int i, st)
  | .bl b, st => .ok (.int (if b then 1 else 0), st)
  | _, _ => .err
def blsOf : List D → Option (List Bool)
  | [] => some []
  | .bl b :: xs => (blsOf xs).map (b :: ·)
  | _ => none
def intsOf : List D → Option (List Int)
  | [] => some []
  | .int i :: xs => (intsOf xs).map (i :: ·)
  | _ => none
def gAll : D → Store → R (D × Store)
  | .lst xs, st => match blsOf xs with
    | some bs => .ok (.bl (bs.all id), st)
    | none => .err
  | _, _ => .err
def gAny : D → Store → R (D × Store)
  | .lst xs, st => match blsOf xs with
    | some bs => .ok (.bl (bs.any id), st)
    | none => .err
  | _, _ => .err
def gSum : D → Store → R (D × Store)
  | .lst xs, st => match intsOf xs with
    | some bs => .ok (.int bs.sum, st)
    | none => .err
  | _, _ => .err
def minI : List Int → Option Int
  | [] => none
  | x :: xs => some (xs.foldl (fun a b => if b < a then b else a) x)
def maxI : List Int → Option Int
  | [] => none
  | x :: xs => some (xs.foldl (fun a b => if a < b then b else a) x)
def gMin : D → Store → R (D × Store)
  | .lst xs, st => match (intsOf xs).bind minI with
    | some i => .ok (.int i, st)
    | none => .err
  | _, _ => .err
def gMax : D → Store → R (D × Store)
  | .lst xs, st => match (intsOf xs).bind maxI with
    | some i => .ok (.int i, st)
    | none => .err
  | _, _ => .err
def gTuple : D → Store → R (D × Store)
  | .lst xs, st => .ok (.tup xs, st)
  | .tup xs, st => .ok (.tup xs, st)
  | _, _ => .err
def gList : D → Store → R (D × Store)
  | .lst xs, st => .ok (.lst xs, st)
  | .tup xs, st => .ok (.lst xs, st)
  | .scr xs, st => .ok (.lst xs, st)
  | _, _ => .err
def tyName : D → Option String
  | .non => some "NoneType"
  | .bl _ => some "bool"
  | .int _ => some "int"
  | .str _ => some "str"
  | .tup _ => some "tuple"
  | .lst _ => some "list"
  | _ => none
def gIsi (T : String) (d : D) (st : Store) : R (D × Store) := match (tyName d).bind fun n => kitB n T with
  | some b => .ok (.bl b, st)
  | none => .err
def leD (a b : D) : Bool := PySem.W.dataLe false D.toP a b
def sortOk (xs : List D) : Bool := D.plains xs && (xs.all fun a => xs.all fun b => PySem.W.alike a.toP b.toP) && ((xs.all fun a => match a with | .tup (_ :: _) => true | _ => false) || (xs.all fun a => match a with | .tup _ => false | .non => false | _ => true)) && xs.all fun a => decide (a.depth ≤ 40)
def gSorted : D → Store → R (D × Store)
  | .lst xs, st => if sortOk xs = true then .ok (.lst (xs.mergeSort leD), st) else .err
  | .tup xs, st => if sortOk xs = true then .ok (.lst (xs.mergeSort leD), st) else .err
  | _, _ => .err
section
variable {P : Program} {w : World} {K : PySem.W.Frag} {CA : Nat → Option Addr}
variable {F F' F'' : Addr → Prop} {ρ ρ' ρ'' : List Addr} {H H0 H1 H' H'' Hs : Hp} {v x y : V} {d e : D} {vs : List V} {ds : List D} {env : En} {st st' : Store} {σ : St} {a p : Addr} {W : WX} {Q : VK}
theorem Reps.bls : ∀ {ds : List D} {vs : List V} {bs : List Bool}, blsOf ds = some bs → Reps P w K F ρ H vs ds → vs = bs.map V.bl
  | [], _, _, h, .nil => by cases h; rfl
  | d :: ds, _, bs, h, .cons r s => by
    cases r <;> simp only [blsOf, reduceCtorEq] at h
    rename_i b
    cases e : blsOf ds with
    | none => rw [e] at h; cases h
    | some cs =>
      rw [e] at h
      cases h
      rw [Reps.bls e s]
      rfl
theorem Reps.ints : ∀ {ds : List D} {vs : List V} {bs : List Int}, intsOf ds = some bs → Reps P w K F ρ H vs ds → vs = bs.map V.int
  | [], _, _, h, .nil => by cases h; rfl
  | d :: ds, _, bs, h, .cons r s => by
    cases r <;> simp only [intsOf, reduceCtorEq] at h
    rename_i b
    cases e : intsOf ds with
    | none => rw [e] at h; cases h
    | some cs =>
      rw [e] at h
      cases h
      rw [Reps.ints e s]
      rfl
theorem minI_spec : ∀ {xs : List Int} {i : Int}, minI xs = some i → ∀ m, m ∈ xs → (∀ y ∈ xs, m ≤ y) → m = i
  | x :: xs, i, h, m, hm, hl => by
    have key : ∀ (l : List Int) (a : Int), (l.foldl (fun a b => if b < a then b else a) a ∈ a :: l) ∧ ∀ y ∈ a :: l, l.foldl (fun a b => if b < a then b else a) a ≤ y := by
      intro l
      induction l with
      | nil => intro a; simp
      | cons b l ih =>
        intro a
        rw [List.foldl_cons]
        obtain ⟨h1, h2⟩ := ih (if b < a then b else a)
        refine ⟨?_, fun y hy => ?_⟩
        · rcases List.mem_cons.mp h1 with e | e
          · rw [e]
            split <;> simp
          · exact List.mem_cons_of_mem _ (List.mem_cons_of_mem _ e)
        · have h3 := h2 _ List.mem_cons_self
          have h4 : (if b < a then b else a) ≤ a := by split <;> omega
          have h5 : (if b < a then b else a) ≤ b := by split <;> omega
          rcases List.mem_cons.mp hy with e | hy
          · rw [e]
            exact Int.le_trans h3 h4
          · rcases List.mem_cons.mp hy with e | hy
            · rw [e]
              exact Int.le_trans h3 h5
            · exact h2 y (List.mem_cons_of_mem _ hy)
    have h' : xs.foldl (fun a b => if b < a then b else a) x = i := Option.some.inj h
    obtain ⟨h1, h2⟩ := key xs x
    rw [h'] at h1 h2
    exact Int.le_antisymm (hl _ h1) (h2 _ hm)
theorem maxI_spec : ∀ {xs : List Int} {i : Int}, maxI xs = some i → ∀ m, m ∈ xs → (∀ y ∈ xs, y ≤ m) → m = i
  | x :: xs, i, h, m, hm, hl => by
    have key : ∀ (l : List Int) (a : Int), (l.foldl (fun a b => if a < b then b else a) a ∈ a :: l) ∧ ∀ y ∈ a :: l, y ≤ l.foldl (fun a b => if a < b then b else a) a := by
      intro l
      induction l with
      | nil => intro a; simp
      | cons b l ih =>
        intro a
        rw [List.foldl_cons]
        obtain ⟨h1, h2⟩ := ih (if a < b then b else a)
        refine ⟨?_, fun y hy => ?_⟩
        · rcases List.mem_cons.mp h1 with e | e
          · rw [e]
            split <;> simp
          · exact List.mem_cons_of_mem _ (List.mem_cons_of_mem _ e)
        · have h3 := h2 _ List.mem_cons_self
          have h4 : a ≤ (if a < b then b else a) := by split <;> omega
          have h5 : b ≤ (if a < b then b else a) := by split <;> omega
          rcases List.mem_cons.mp hy with e | hy
          · rw [e]
            exact Int.le_trans h4 h3
          · rcases List.mem_cons.mp hy with e | hy
            · rw [e]
              exact Int.le_trans h5 h3
            · exact h2 y (List.mem_cons_of_mem _ hy)
    have h' : xs.foldl (fun a b => if a < b then b else a) x = i := Option.some.inj h
    obtain ⟨h1, h2⟩ := key xs x
    rw [h'] at h1 h2
    exact Int.le_antisymm (h2 _ hm) (hl _ h1)
end
section
variable {X : Cx} {t t' : TE} {ex a b c : Expr} {es rest : List Expr} {CA : Nat → Option Addr} {W : WX} {f fa fb fc : En → Store → R (D × Store)} {k ka kb : Kd} {pos p p2 : Pos}
theorem s_len (hg : Gl X "len") (hm : X.mg "len" = none) (ha : PE X a (tD X.prog X.w X.K CA W .b fa)) (hs : notStar a = true) : PE X (.Call (.Name "len" p) [a] [] pos) (tD X.prog X.w X.K CA W .v (c1 fa gLen)) := by
  refine s_b1 call_len (fun x H Q h => ?_) hg hm PySem.boot_len ha hs (by decide) (by decide)
  obtain ⟨σ, H0, F, ρ, env, st, d, rel, k1, q⟩ := h
  unfold gLen at q
  split at q
  · obtain ⟨a, vs, rfl, h1, r1, z1⟩ := k1.tupE
    exact ⟨.ref a, _, rfl, .inr ⟨vs, h1, r1.length.symm⟩, fin_v rel (.int _) q⟩
  · obtain ⟨a, vs, rfl, h1, r1, z1⟩ := k1.lstE
    exact ⟨.ref a, _, rfl, .inl ⟨vs, SqL.of h1, r1.length.symm⟩, fin_v rel (.int _) q⟩
  · split at q
    · rename_i hl
      obtain rfl := k1.strE
      exact ⟨_, _, rfl, ⟨hl, rfl⟩, fin_v rel (.int _) q⟩
    · exact q.elim
  · split at q
    · rename_i xs hst
      obtain ⟨a, rfl, hr⟩ := k1.refE
      obtain ⟨vs, h1, r1, z1⟩ := rel.getL hst hr
      exact ⟨.ref a, _, rfl, .inl ⟨vs, SqL.of h1, r1.length.symm⟩, fin_v rel (.int _) q⟩
    · exact q.elim
  · exact q.elim
theorem s_abs (hg : Gl X "abs") (hm : X.mg "abs" = none) (ha : PE X a (tD X.prog X.w X.K CA W .b fa)) (hs : notStar a = true) : PE X (.Call (.Name "abs" p) [a] [] pos) (tD X.prog X.w X.K CA W .v (c1 fa gAbs)) := by
  refine s_b1 call_abs (fun x H Q h => ?_) hg hm (by decide +kernel) ha hs (by decide) (by decide)
  obtain ⟨σ, H0, F, ρ, env, st, d, rel, k1, q⟩ := h
  unfold gAbs at q
  split at q
  · obtain rfl := k1.intE
    exact ⟨_, rfl, fin_v rel (.int _) q⟩
  · exact q.elim
theorem s_int (hg : Gl X "int") (hm : X.mg "int" = none) (ha : PE X a (tD X.prog X.w X.K CA W .b fa)) (hs : notStar a = true) : PE X (.Call (.Name "int" p) [a] [] pos) (tD X.prog X.w X.K CA W .v (c1 fa gInt)) := by
  refine s_ty1 call_int1 (fun x H Q h => ?_) hg hm (by decide +kernel) ha hs (by decide) (by decide)
  obtain ⟨σ, H0, F, ρ, env, st, d, rel, k1, q⟩ := h
  unfold gInt at q
  split at q
  · obtain rfl := k1.intE
    exact .inl ⟨_, rfl, fin_v rel (.int _) q⟩
  · obtain rfl := k1.blE
    exact .inr ⟨_, rfl, fin_v rel (.int _) q⟩
  · exact q.elim
theorem s_all (hc : X.calm = true) (hg : Gl X "all") (hm : X.mg "all" = none) (ha : PE X a (tD X.prog X.w X.K CA W .b fa)) (hs : notStar a = true) : PE X (.Call (.Name "all" p) [a] [] pos) (tD X.prog X.w X.K CA W .v (c1 fa gAll)) := by
  refine s_b1 (cr_all hc) (fun x H Q h => ?_) hg hm (by decide +kernel) ha hs (by decide) (by decide)
  obtain ⟨σ, H0, F, ρ, env, st, d, rel, k1, q⟩ := h
  unfold gAll at q
  split at q
  · split at q
    · rename_i bs hb
      obtain ⟨a, vs, rfl, h1, r1, z1⟩ := k1.lstE
      refine ⟨a, bs, rfl, ?_, fin_v rel (.bl _) q⟩
      rw [← Reps.bls hb r1]
      exact SqL.of h1
    · exact q.elim
  · exact q.elim
theorem s_any (hc : X.calm = true) (hg : Gl X "any") (hm : X.mg "any" = none) (ha : PE X a (tD X.prog X.w X.K CA W .b fa)) (hs : notStar a = true) : PE X (.Call (.Name "any" p) [a] [] pos) (tD X.prog X.w X.K CA W .v (c1 fa gAny)) := by
  refine s_b1 (cr_any hc) (fun x H Q h => ?_) hg hm (by decide +kernel) ha hs (by decide) (by decide)
  obtain ⟨σ, H0, F, ρ, env, st, d, rel, k1, q⟩ := h
  unfold gAny at q
  split at q
  · split at q
    · rename_i bs hb
      obtain ⟨a, vs, rfl, h1, r1, z1⟩ := k1.lstE
      refine ⟨a, bs, rfl, ?_, fin_v rel (.bl _) q⟩
      rw [← Reps.bls hb r1]
      exact SqL.of h1
    · exact q.elim
  · exact q.elim
theorem s_sum (hc : X.calm = true) (hg : Gl X "sum") (hm : X.mg "sum" = none) (ha : PE X a (tD X.prog X.w X.K CA W .b fa)) (hs : notStar a = true) : PE X (.Call (.Name "sum" p) [a] [] pos) (tD X.prog X.w X.K CA W .v (c1 fa gSum)) := by
  refine s_b1 (cr_sum hc) (fun x H Q h => ?_) hg hm (by decide +kernel) ha hs (by decide) (by decide)
  obtain ⟨σ, H0, F, ρ, env, st, d, rel, k1, q⟩ := h
  unfold gSum at q
  split at q
  · split at q
    · rename_i bs hb
      obtain ⟨a, vs, rfl, h1, r1, z1⟩ := k1.lstE
      refine ⟨a, bs, rfl, ?_, fin_v rel (.int _) q⟩
      rw [← Reps.ints hb r1]
      exact SqL.of h1
    · exact q.elim
  · exact q.elim
theorem s_min (hc : X.calm = true) (hg : Gl X "min") (hm : X.mg "min" = none) (ha : PE X a (tD X.prog X.w X.K CA W .b fa)) (hs : notStar a = true) : PE X (.Call (.Name "min" p) [a] [] pos) (tD X.prog X.w X.K CA W .v (c1 fa gMin)) := by
  refine s_b1 (cr_min hc) (fun x H Q h => ?_) hg hm (by decide +kernel) ha hs (by decide) (by decide)
  obtain ⟨σ, H0, F, ρ, env, st, d, rel, k1, q⟩ := h
  unfold gMin at q
  split at q
  · split at q
    · rename_i i hb
      obtain ⟨bs, h1, h2⟩ := Option.bind_eq_some_iff.mp hb
      obtain ⟨a, vs, rfl, h3, r1, z1⟩ := k1.lstE
      refine ⟨a, bs, rfl, ?_, ?_, fun m m1 m2 => ?_⟩
      · rw [← Reps.ints h1 r1]
        exact SqL.of h3
      · cases bs with
        | nil => cases h2
        | cons => simp
      · rw [minI_spec h2 m m1 m2]
        exact fin_v rel (.int _) q
    · exact q.elim
  · exact q.elim
theorem s_max (hc : X.calm = true) (hg : Gl X "max") (hm : X.mg "max" = none) (ha : PE X a (tD X.prog X.w X.K CA W .b fa)) (hs : notStar a = true) : PE X (.Call (.Name "max" p) [a] [] pos) (tD X.prog X.w X.K CA W .v (c1 fa gMax)) := by
  refine s_b1 (cr_max hc) (fun x H Q h => ?_) hg hm (by decide +kernel) ha hs (by decide) (by decide)
  obtain ⟨σ, H0, F, ρ, env, st, d, rel, k1, q⟩ := h
  unfold gMax at q
  split at q
  · split at q
    · rename_i i hb
      obtain ⟨bs, h1, h2⟩ := Option.bind_eq_some_iff.mp hb
      obtain ⟨a, vs, rfl, h3, r1, z1⟩ := k1.lstE
      refine ⟨a, bs, rfl, ?_, ?_, fun m m1 m2 => ?_⟩
      · rw [← Reps.ints h1 r1]
        exact SqL.of h3
      · cases bs with
        | nil => cases h2
        | cons => simp
      · rw [maxI_spec h2 m m1 m2]
        exact fin_v rel (.int _) q
    · exact q.elim
  · exact q.elim
theorem s_tuple (hg : Gl X "tuple") (hm : X.mg "tuple" = none) (ha : PE X a (tD X.prog X.w X.K CA W .b fa)) (hs : notStar a = true) : PE X (.Call (.Name "tuple" p) [a] [] pos) (tD X.prog X.w X.K CA W .v (c1 fa gTuple)) := by
  refine s_ty1 call_tupleN (fun x H Q h => ?_) hg hm (by decide +kernel) ha hs (by decide) (by decide)
  obtain ⟨σ, H0, F, ρ, env, st, d, rel, k1, q⟩ := h
  unfold gTuple at q
  split at q
  · obtain ⟨a, vs, rfl, h1, r1, z1⟩ := k1.lstE
    exact ⟨a, vs, rfl, .inl ⟨SqL.of h1, fin_tup rel r1 z1 q⟩⟩
  · obtain ⟨a, vs, rfl, h1, r1, z1⟩ := k1.tupN
    exact ⟨a, vs, rfl, .inr ⟨h1.seq, fin_v rel (.tup h1 r1 z1) q⟩⟩
  · exact q.elim
theorem s_list (hg : Gl X "list") (hm : X.mg "list" = none) (ha : PE X a (tD X.prog X.w X.K CA W .b fa)) (hs : notStar a = true) : PE X (.Call (.Name "list" p) [a] [] pos) (tD X.prog X.w X.K CA W .n (c1 fa gList)) := by
  refine s_ty1 call_list_of (fun x H Q h => ?_) hg hm (by decide +kernel) ha hs (by decide) (by decide)
  obtain ⟨σ, H0, F, ρ, env, st, d, rel, k1, q⟩ := h
  unfold gList at q
  split at q
  · obtain ⟨a, vs, rfl, h1, r1, z1⟩ := k1.lstE
    exact ⟨a, vs, rfl, .inl (SqL.of h1), fun l n => fin_lst rel r1 z1 q n⟩
  · obtain ⟨a, vs, rfl, h1, r1, z1⟩ := k1.tupE
    exact ⟨a, vs, rfl, .inr h1, fun l n => fin_lst rel r1 z1 q n⟩
  · obtain ⟨a, vs, rfl, h1, r1, z1⟩ := k1.scrE
    exact ⟨a, vs, rfl, .inl h1, fun l n => fin_lst rel r1 z1 q n⟩
  · exact q.elim
/-- types that isinstance asks for -/
def tyOf? (x : Str) : Option String := if x = "int" then some "int" else if x = "bool" then some "bool" else if x = "tuple" then some "tuple" else if x = "str" then some "str" else if x = "list" then some "list" else none
theorem tyOf_boot {x : Str} {T : String} (h : tyOf? x = some T) : bootBuiltins x = some (.type T) ∧ x ≠ "__name__" ∧ (x == ("__debug__" : Str)) = false := by
  unfold tyOf? at h
  split at h
  · rename_i e; subst e; cases h; decide +kernel
  split at h
  · rename_i e; subst e; cases h; decide +kernel
  split at h
  · rename_i e; subst e; cases h; decide +kernel
  split at h
  · rename_i e; subst e; cases h; decide +kernel
  split at h
  · rename_i e; subst e; cases h; decide +kernel
  cases h
theorem s_isi {T : String} {x : Str} (hT : tyOf? x = some T) (hg : Gl X "isinstance") (hm : X.mg "isinstance" = none) (hg2 : Gl X x) (hm2 : X.mg x = none) (ha : PE X a (tD X.prog X.w X.K CA W .b fa)) (hs : notStar a = true) :
    PE X (.Call (.Name "isinstance" p) [a, .Name x p2] [] pos) (tD X.prog X.w X.K CA W .v (c1 fa (gIsi T))) := by
  obtain ⟨h1, h2, h3⟩ := tyOf_boot hT
  refine peI (pe_callB call_isi hg hm (by decide +kernel) (pa_cons ha (pa_cons (pe_bltn (v := .ty T) hg2 hm2 h1 rfl h2 h3) pa_nil (star_of rfl)) (star_of hs)) (by decide) (by decide) (star_of hs) (any_of (by simp [hs, notStar]))) fun σ H Q h => tQ.imp (t_c1 h) fun x H1 q => ?_
  obtain ⟨σ, H0, F, ρ, env, st, d, rel, k1, q⟩ := q
  unfold gIsi at q
  split at q
  · rename_i b hb
    obtain ⟨n, e1, e2⟩ := Option.bind_eq_some_iff.mp hb
    refine ⟨x, .ty T, .type n, .type T, b, rfl, .ty T, ?_, kit_ty e2, fin_v rel (.bl _) q⟩
    cases d with
    | non => cases e1; obtain rfl := k1.nonE; exact .base .non
    | bl c => cases e1; obtain rfl := k1.blE; exact .base (.bl _)
    | int i => cases e1; obtain rfl := k1.intE; exact .base (.int _)
    | str z => cases e1; obtain rfl := k1.strE; exact .base (.str _)
    | tup xs =>
      cases e1
      obtain ⟨a, vs, rfl, h4, r1, z1⟩ := k1.tupE
      rcases h4 with (h4 | ⟨o, h4⟩) | ⟨o, its, n, h4, h5, _⟩
      · exact .base (.tup h4)
      · exact .fTuple h4
      · exact .kTuple h4 h5
    | lst xs =>
      cases e1
      obtain ⟨a, vs, rfl, h4, r1, z1⟩ := k1.lstE
      exact .base (.lst h4)
    | dct _ => cases e1
    | scr _ => cases e1
    | ref _ => cases e1
    | fn _ => cases e1
  · exact q.elim
end
end Sn

set_option Elab.async false
set_option linter.all false
set_option maxRecDepth 100000
/-! layer 9: what is walked: lists and tuples, enumerate, zip -/
namespace Sn
open PySem PySem.Spec PyProof.Rows L2
/-- a list (true), a tuple (false) -/
def SqX (K : PySem.W.Frag) : Bool → Hp → Addr → List V → Prop
  | true => SqL K
  | false => SqT K
def IsAt : Bool → Heap → Addr → Array Value → Prop
  | true => fun h a its => h.IsList a its
  | false => fun h a its => h.IsTuple a its
def ItX : Bool → Heap → Addr → Addr → Nat → Prop
  | true => fun h it a i => h.IsListIter it a i
  | false => fun h it a i => h.IsTupleIter it a i
def itObj (b : Bool) (a : Addr) : Obj := { cls := .type (if b = true then "list_iterator" else "tuple_iterator"), data := .fields #[.ref a, .int 0 0] }
theorem drawsX {prog : Program} {w : World} {A : Around} (hh : A.handled = none) (b : Bool) (it a : Addr) (hne : a ≠ it) (its : Array Value) :
    Draws prog w A it [it, a] its.size (fun i v => its[i]? = some v) (fun i h => ItX b h it a i ∧ IsAt b h a its) := by
  cases b
  · exact Draws.tuple hh it a hne its
  · exact Draws.list hh it a hne its
theorem beginsX (b : Bool) (a : Addr) (its : Array Value) : Begins (.ref a) (itObj b a) fun h => IsAt b h a its := by
  cases b
  · exact begins_tuple a its
  · exact begins_list a its
theorem ItX.new {b : Bool} {h : Heap} {it a : Addr} (e : h.get? it = some (itObj b a)) : ItX b h it a 0 := by
  cases b
  · exact ⟨_, e, rfl, rfl⟩
  · exact ⟨_, e, rfl, rfl⟩
theorem ItX.obj {b : Bool} {h : Heap} {it a : Addr} {i : Nat} (x : ItX b h it a i) : ∃ o, h.get? it = some o ∧ ∀ v, o.data ≠ .cell v := by
  cases b <;> (obtain ⟨o, e, c, d⟩ := x; exact ⟨o, e, fun v z => by rw [d] at z; cases z⟩)
theorem ItX.at {b : Bool} {h h' : Heap} {it a : Addr} {i : Nat} (x : ItX b h it a i) (k : ∀ o, h.get? it = some o → h'.get? it = some o) : ItX b h' it a i := by
  cases b
  · exact Heap.IsTupleIter.at x k
  · exact Heap.IsListIter.at x k
theorem IsAt.lt {b : Bool} {h : Heap} {a : Addr} {its : Array Value} (x : IsAt b h a its) : a < h.objs.size := by
  cases b <;> (obtain ⟨o, e, _⟩ := x; exact Heap.lt_size e)
theorem inv_sq {X : Cx} {pins : List (Addr × Obj)} {σ : L2.St} {H : Hp} {s : Shared} {b : Bool} {a : Addr} {xs : List V} (I : Inv X pins σ H s) (h : SqX X.K b H a xs) : ∃ its : List Value, Vals xs its ∧ IsAt b s.heap a its.toArray ∧ xs.length ≤ sizeLine := by
  cases b
  · obtain ⟨its, r, p, z⟩ := I.tuple h
    exact ⟨its, r, (show s.heap.IsTuple a its.toArray from p), z⟩
  · obtain ⟨its, r, p, z⟩ := I.list h
    exact ⟨its, r, p.isList, z⟩
theorem inv_sqj {X : Cx} {pins : List (Addr × Obj)} {σ : L2.St} {H : Hp} {s : Shared} {b : Bool} {a : Addr} {xs ys : List V} (I : Inv X pins σ H s) (h : SqX X.K b H a xs) (h' : SqX X.K b H a ys) : xs = ys := by
  cases b
  · exact I.tuple_inj h h'
  · exact I.list_inj h h'
/-- enumerate: each item in a new pair -/
def IteX (K : PySem.W.Frag) (b : Bool) (a : Addr) : It :=
  ⟨fun i H => ∃ (xs : List V) (x : V), SqX K b H a xs ∧ xs[i]? = some x, fun i H v H' => ∃ T x o, v = .ref T ∧ H T = none ∧ H' = upd H T (.frz o (.tup [.int (i : Nat), x])) ∧ o.cls = .type "tuple" ∧ o.dict = none ∧ ∀ xs, SqX K b H a xs → xs[i]? = some x, fun i H => ∃ xs : List V, SqX K b H a xs ∧ xs.length = i⟩
def ItzX (K : PySem.W.Frag) (b c : Bool) (a d : Addr) : It :=
  ⟨fun i H => ∃ (xs ys : List V) (x y : V), SqX K b H a xs ∧ SqX K c H d ys ∧ xs[i]? = some x ∧ ys[i]? = some y,
    fun i H v H' => ∃ T x y o, v = .ref T ∧ H T = none ∧ H' = upd H T (.frz o (.tup [x, y])) ∧ o.cls = .type "tuple" ∧ o.dict = none ∧ (∀ xs, SqX K b H a xs → xs[i]? = some x) ∧ ∀ ys, SqX K c H d ys → ys[i]? = some y,
    fun i H => ∃ xs ys : List V, SqX K b H a xs ∧ SqX K c H d ys ∧ (xs.length = i ∨ ys.length = i) ∧ i ≤ xs.length ∧ i ≤ ys.length⟩
theorem turn_enumX {P : Program} {w : World} {K : PySem.W.Frag} {elts : List Expr} {kk : Nat} {tpos : Pos} (b : Bool) (a e it : Addr) :
    Turn P w K (.Tuple elts kk tpos) (IteX K b a) [e, it] e (fun i h => (∃ old, IsEnum h e it ((i : Nat) : Int) old) ∧ ItX b h it a i ∧ e ≠ it ∧ a ≠ it ∧ e ≠ a) where
  mem := by simp
  obj := fun i h st c hc => by
    obtain ⟨⟨old, he⟩, hi, _⟩ := st
    have hc' : c = e ∨ c = it := by simpa using hc
    rcases hc' with rfl | rfl
    · exact ⟨_, he, fun v q => nomatch q⟩
    · exact hi.obj
  keep := fun i h h' st k => ⟨st.1.imp fun old he => k e (by simp) _ he, st.2.1.at fun o q => k it (by simp) o q, st.2.2⟩
  item := by
    intro X hP hw hK hcm i pins s σ H E I hf st hg
    subst hP hw hK
    obtain ⟨⟨old, he⟩, hit, hne, hai, hea⟩ := st
    obtain ⟨xs, x, hq, hx⟩ := hg
    obtain ⟨its, rv, p, hz⟩ := inv_sq I hq
    obtain ⟨u, hu, ru⟩ := rv.get hx
    have hel : e < s.heap.objs.size := Heap.lt_size he
    have hil : it < s.heap.objs.size := by
      obtain ⟨o, q, _⟩ := hit.obj
      exact Heap.lt_size q
    have hlt : i < its.toArray.size := by
      have := (List.getElem?_eq_some_iff.mp hu).1
      simpa using this
    refine wpAny_pyNext_enum_itemD (drawsX (A := X.A.in1) (I.ok.hd hcm) b it a hai its.toArray) he ⟨hit, p⟩ hlt hne (by simp [hne, hea]) fun y h' tk hy ho st' hT hsz hk => ?_
    have hyu : y = u := by
      have hy' : its[i]? = some y := by simpa using hy
      rw [hu] at hy'
      exact (Option.some.inj hy').symm
    subst hyu
    refine ⟨_, rfl, wpAny_letOwnedTupleGo_enum (s := { s with heap := h', toks := tk + 1 }) ho fun h'' he' sb => ?_⟩
    have hT2 : h''.get? s.heap.objs.size = some { cls := .type "tuple", data := .seq #[.int i tk, y] } := (sb.2 _ (Nat.ne_of_gt hel)).trans hT
    have new : ObjOk X.prog X.w (upd H s.heap.objs.size (.frz { cls := .type "tuple", data := .seq #[.int i tk, y] } (.tup [.int (i : Nat), x]))) h'' s.heap.objs.size (.frz { cls := .type "tuple", data := .seq #[.int i tk, y] } (.tup [.int (i : Nat), x])) :=
      ⟨hT2, by show 2 ≤ sizeLine; decide, [.int i tk, y], .cons ⟨_, rfl⟩ (.cons ru .nil), ⟨_, hT2, rfl, _, rfl⟩⟩
    have I1 : Inv X pins σ (upd H s.heap.objs.size (.frz { cls := .type "tuple", data := .seq #[.int i tk, y] } (.tup [.int (i : Nat), x]))) { s with heap := h'', toks := tk + 1 } :=
      I.turnedNew (ch := [e, it]) (fun c ob hc q => by
        have n1 : c ≠ e := fun z => hc (by simp [z])
        have n2 : c ≠ it := fun z => hc (by simp [z])
        exact (sb.2 c n1).trans (hk c ob n1 n2 q)) hf (Nat.le_refl _) new
    refine ⟨.ref s.heap.objs.size, _, I1, rfl, ⟨_, x, _, rfl, I.hok.fresh (Nat.le_refl _), rfl, rfl, rfl, fun ys hy => by rw [inv_sqj I hy hq]; exact hx⟩, ⟨⟨y, ?_⟩, st'.1.at fun o q => (sb.2 it (Ne.symm hne)).trans q, hne, hai, hea⟩, fun c hc => ?_⟩
    · have e1 : ((i + 1 : Nat) : Int) = (i : Int) + 1 := by omega
      rw [e1]
      exact he'
    · have hc' : c < s.heap.objs.size := by
        have hc' : c = e ∨ c = it := by simpa using hc
        rcases hc' with rfl | rfl
        · exact hel
        · exact hil
      rw [upd_ne (Nat.ne_of_lt hc')]
      exact (hf c hc).1
  done := by
    intro X hP hw hK hcm i pins s σ H E I hf st hg
    subst hP hw hK
    obtain ⟨⟨old, he⟩, hit, hne, hai, hea⟩ := st
    obtain ⟨xs, hq, hx⟩ := hg
    obtain ⟨its, rv, p, hz⟩ := inv_sq I hq
    obtain ⟨f0, f1, f2, f3, f4, f5⟩ := hf it (by simp)
    have hl : i = its.toArray.size := by
      have := rv.length
      simp
      omega
    subst hl
    exact wpAny_pyNext_enum_endD (drawsX (A := X.A.in1) (I.ok.hd hcm) b it a hai its.toArray) he ⟨hit, p⟩ fun h' eb => ⟨rfl, I.turned (t' := s.toks) (fun c o hc q => eb c o hc q) f0 f1 f3 f4 f5⟩
  self := fun A i s Q E st h => let ⟨⟨_, he⟩, _⟩ := st; wpAny_pyIter_enum he h
set_option maxHeartbeats 1000000 in
theorem meets_enum1 {v : Value} {o : Obj} {H : Heap → Prop} (B : Begins v o H) :
    Meets (Builtin.«enumerate.__new__» ⟨[.type "enumerate", v], []⟩) (fun _ R s => H s.heap ∧
      R (.ok (.ret (.ref (s.heap.push o).objs.size))) { s with heap := (s.heap.push o).push { cls := .type "enumerate", data := .fields #[.none, .bool false, .ref s.heap.objs.size, rawInt 0, .none, .none] } }) :=
  .of_wp fun prog w A R s h => by
    obtain ⟨hp, g, d, tk, os⟩ := s
    obtain ⟨h1, h⟩ := h
    have hsub := sub_enumerate
    have q1 : ∀ {A' : Around} {E : Value → Shared → Prop} {Q : Value → Shared → Prop}, Q (.ref hp.objs.size) ⟨hp.push o, g, d, tk, os⟩ → wpAny (model prog w) A' (pyIter v) Q E ⟨hp, g, d, tk, os⟩ :=
      fun q => B.iter prog w _ _ ⟨hp, g, d, tk, os⟩ _ h1 q
    wp_walk using q1
    refine wpAny_stack_any fun st => wpAny_pure ?_
    split
    · rename_i c _ _ _ _ _
      cases (c == Value.type "enumerate")
      · wp_walk using q1
        exact ⟨_, rfl, h⟩
      · wp_walk using q1
        exact ⟨_, rfl, h⟩
    · wp_walk using q1
      exact ⟨_, rfl, h⟩
theorem enum1_begins {prog : Program} {w : World} {A : Around} {E : Value → Shared → Prop} {s : Shared} {v : Value} {o : Obj} {H : Heap → Prop} {Q : Value → Shared → Prop} (B : Begins v o H) (h1 : H s.heap)
    (h : ∀ h', IsEnum h' (s.heap.objs.size + 1) s.heap.objs.size 0 .none → h'.get? s.heap.objs.size = some o → h'.objs.size = s.heap.objs.size + 2 →
      (∀ b o, s.heap.get? b = some o → h'.get? b = some o) → Q (.ref (s.heap.objs.size + 1)) { s with heap := h' }) :
    wpAny (model prog w) A (call (.type "enumerate") [v]) Q E s := by
  refine callType_new F.called_enumerate (by decide) (F.typeCall_enumerate_1 _) (F.newCall_enumerate_1 _) (fun obj => F.args_object_init_2 obj _) F.entry_enumerate_new
    (meets_enum1 B) ⟨h1, ?_⟩
  have hz : (s.heap.push o).objs.size = s.heap.objs.size + 1 := Heap.size_push ..
  show _ ∧ _
  rw [hz]
  have he := Heap.get?_push_size (s.heap.push o) (o := { cls := .type "enumerate", data := .fields #[.none, .bool false, .ref s.heap.objs.size, rawInt 0, .none, .none] }) rfl
  rw [hz] at he
  refine ⟨⟨_, he, rfl⟩, h _ he (Heap.get?_push_of_some _ (Heap.get?_push_size _ B.free)) (by rw [Heap.size_push, hz]) fun b o x => Heap.get?_push_of_some _ (Heap.get?_push_of_some _ x)⟩
def iEnumX (K : PySem.W.Frag) (ta : TA) : TI := fun σ H R => ta σ H fun vs H1 => ∃ a b xs, vs = [.ref a] ∧ SqX K b H1 a xs ∧ R (IteX K b a) H1
theorem pi_enumX {X : Cx} {e : Expr} {ta : TA} {p pos tpos : Pos} {elts : List Expr} {kk : Nat} (hg : Gl X "enumerate") (hm : X.mg "enumerate" = none) (ha : PA X [e] ta) (hs : starEach [e] X.env = [(false, eval e X.env)]) :
    PI X (.Tuple elts kk tpos) (.Call (.Name "enumerate" p) [e] [] pos) (iEnumX X.K ta) := by
  refine ⟨fun pins s σ H R I h => ?_⟩
  refine Call_ (ld_blt I hg hm boot_enumerate (PyProof.Rows.callWith_type1 (thn (ha.run pos pins s σ H _ I h) fun us s1 ⟨vs, H1, I1, r1, q1⟩ => ?_) hs rfl))
  obtain ⟨a, b, xs, rfl, hq, q⟩ := q1
  cases r1 with
  | cons r rr =>
    cases rr
    cases r
    obtain ⟨its, rv, p', hz⟩ := inv_sq I1 hq
    have hla := p'.lt
    refine enum1_begins (beginsX b a its.toArray) p' fun h' he hit hsz hk => wpAny_pyIter_enum he ?_
    have I2 : Inv X pins σ H1 { s1 with heap := h' } := I1.kept (t' := s1.toks) hk
    refine ⟨s1.heap.objs.size + 1, [s1.heap.objs.size + 1, s1.heap.objs.size], _, _, H1, rfl, I2, turn_enumX b a (s1.heap.objs.size + 1) s1.heap.objs.size, ⟨⟨.none, he⟩, ItX.new hit, Nat.succ_ne_self _, Nat.ne_of_lt hla, Nat.ne_of_gt (Nat.lt_succ_of_lt hla)⟩, fun c hc => ?_, q⟩
    have hc' : c = s1.heap.objs.size + 1 ∨ c = s1.heap.objs.size := by simpa using hc
    have hle : s1.heap.objs.size ≤ c := by
      rcases hc' with rfl | rfl
      · exact Nat.le_add_right _ _
      · exact Nat.le_refl _
    exact I1.fpOk hle (I1.hok.fresh hle)
end Sn

set_option Elab.async false
set_option linter.all false
set_option maxRecDepth 100000
/-! layer 10: zip; sources as rows of pure values -/
namespace Sn
open PySem PySem.Spec PyProof.Rows L2
theorem turn_zipX {P : Program} {w : World} {K : PySem.W.Frag} {elts : List Expr} {kk : Nat} {tpos : Pos} (b c : Bool) {a d z TI TO i1 i2 : Addr} (S : ZipSep2 z TI TO i1 i2 [i1, a] [i2, d]) :
    Turn P w K (.Tuple elts kk tpos) (ItzX K b c a d) [z, TI, TO, i1, i2] z (fun i h => IsZip h z TI TO .none ∧ IsTupOf2 h TI (.ref i1) (.ref i2) ∧ (∃ a1 a2, IsTupOf2 h TO a1 a2) ∧ ItX b h i1 a i ∧ ItX c h i2 d i) where
  mem := by simp
  obj := fun i h st e hc => by
    obtain ⟨hz, hTI, ⟨a1, a2, hTO⟩, h1, h2⟩ := st
    have hc' : e = z ∨ e = TI ∨ e = TO ∨ e = i1 ∨ e = i2 := by simpa using hc
    rcases hc' with rfl | rfl | rfl | rfl | rfl
    · exact ⟨_, hz, fun v q => nomatch q⟩
    · exact ⟨_, hTI, fun v q => nomatch q⟩
    · exact ⟨_, hTO, fun v q => nomatch q⟩
    · exact h1.obj
    · exact h2.obj
  keep := fun i h h' st k => ⟨k z (by simp) _ st.1, k TI (by simp) _ st.2.1, st.2.2.1.imp fun a1 q => q.imp fun a2 q => k TO (by simp) _ q, st.2.2.2.1.at fun o q => k i1 (by simp) o q, st.2.2.2.2.at fun o q => k i2 (by simp) o q⟩
  item := by
    intro X hP hw hK hcm i pins s σ H E I hf st hg
    subst hP hw hK
    obtain ⟨hz, hTI, ⟨a1, a2, hTO⟩, h1, h2⟩ := st
    obtain ⟨xs, ys, x, y, hq, hq2, hx, hy⟩ := hg
    obtain ⟨its, rv, p, _⟩ := inv_sq I hq
    obtain ⟨its2, rv2, p2, _⟩ := inv_sq I hq2
    obtain ⟨u, hu, ru⟩ := rv.get hx
    obtain ⟨u2, hu2, ru2⟩ := rv2.get hy
    have hlt : i < its.toArray.size := by
      have := (List.getElem?_eq_some_iff.mp hu).1
      simpa using this
    have hlt2 : i < its2.toArray.size := by
      have := (List.getElem?_eq_some_iff.mp hu2).1
      simpa using this
    have ha1 : a ≠ i1 := fun e => S.zf1 (by
      exfalso
      obtain ⟨o, q, _⟩ := h1.obj
      subst e
      cases b
      · obtain ⟨o1, q1, c1, _⟩ := p
        obtain ⟨o2, q2, c2, d2⟩ := h1
        obtain ⟨n, d1⟩ := (show ∃ n, o1.data = .seq its.toArray n from by assumption)
        rw [q1] at q2; cases q2
        rw [d1] at d2; cases d2
      · obtain ⟨o1, q1, c1, n, d1⟩ := p
        obtain ⟨o2, q2, c2, d2⟩ := h1
        rw [q1] at q2; cases q2
        rw [d1] at d2; cases d2)
    have hd2 : d ≠ i2 := fun e => S.zf2 (by
      exfalso
      obtain ⟨o, q, _⟩ := h2.obj
      subst e
      cases c
      · obtain ⟨o1, q1, c1, _⟩ := p2
        obtain ⟨o2, q2, c2, d2⟩ := h2
        obtain ⟨n, d1⟩ := (show ∃ n, o1.data = .seq its2.toArray n from by assumption)
        rw [q1] at q2; cases q2
        rw [d1] at d2; cases d2
      · obtain ⟨o1, q1, c1, n, d1⟩ := p2
        obtain ⟨o2, q2, c2, d2⟩ := h2
        rw [q1] at q2; cases q2
        rw [d1] at d2; cases d2)
    refine wpAny_pyNext_zipD2_item S (drawsX (A := X.A.in1) (I.ok.hd hcm) b i1 a ha1 its.toArray) (drawsX (A := X.A.in1) (I.ok.hd hcm) c i2 d hd2 its2.toArray) hz hTI hTO ⟨h1, p⟩ ⟨h2, p2⟩ hlt hlt2 fun y1 y2 h' tk e1 e2 hz' hTO' st1 st2 hT hsz hk => ?_
    have f1 : y1 = u := by
      have e1' : its[i]? = some y1 := by simpa using e1
      rw [hu] at e1'
      exact (Option.some.inj e1').symm
    have f2 : y2 = u2 := by
      have e2' : its2[i]? = some y2 := by simpa using e2
      rw [hu2] at e2'
      exact (Option.some.inj e2').symm
    subst f1 f2
    have zl : z < s.heap.objs.size := Heap.lt_size hz
    refine ⟨_, rfl, wpAny_letOwnedTupleGo_zip (s := { s with heap := h', toks := tk }) hz' fun h'' hz'' sb => ?_⟩
    have hT2 : h''.get? s.heap.objs.size = some { cls := .type "tuple", data := .seq #[y1, y2] } := (sb.2 _ (Nat.ne_of_gt zl)).trans hT
    have new : ObjOk X.prog X.w (upd H s.heap.objs.size (.frz { cls := .type "tuple", data := .seq #[y1, y2] } (.tup [x, y]))) h'' s.heap.objs.size (.frz { cls := .type "tuple", data := .seq #[y1, y2] } (.tup [x, y])) :=
      ⟨hT2, by show 2 ≤ sizeLine; decide, [y1, y2], .cons ru (.cons ru2 .nil), ⟨_, hT2, rfl, _, rfl⟩⟩
    have I1 : Inv X pins σ (upd H s.heap.objs.size (.frz { cls := .type "tuple", data := .seq #[y1, y2] } (.tup [x, y]))) { s with heap := h'', toks := tk } :=
      I.turnedNew (ch := [z, TI, TO, i1, i2]) (fun e ob hc q => by
        have n1 : e ≠ z := fun q' => hc (by simp [q'])
        have n2 : e ≠ TO := fun q' => hc (by simp [q'])
        have n3 : e ≠ i1 := fun q' => hc (by simp [q'])
        have n4 : e ≠ i2 := fun q' => hc (by simp [q'])
        exact (sb.2 e n1).trans (hk e ob n1 n2 n3 n4 q)) hf (Nat.le_refl _) new
    have nTI : TI ≠ TO := S.TITO
    have hTI2 : h''.get? TI = _ := (sb.2 TI S.TIz).trans (hk TI _ S.TIz nTI S.TIi1 S.TIi2 hTI)
    refine ⟨.ref s.heap.objs.size, _, I1, rfl, ⟨_, x, y, _, rfl, I.hok.fresh (Nat.le_refl _), rfl, rfl, rfl, fun ws hw => by rw [inv_sqj I hw hq]; exact hx, fun ws hw => by rw [inv_sqj I hw hq2]; exact hy⟩, ⟨hz'', hTI2, ⟨y1, y2, (sb.2 TO S.TOz).trans hTO'⟩, st1.1.at fun o q => (sb.2 i1 (fun e => S.zf1 (by simp [e]))).trans q, st2.1.at fun o q => (sb.2 i2 (fun e => S.zf2 (by simp [e]))).trans q⟩, fun e hc => ?_⟩
    have he : e < s.heap.objs.size := by
      have hc' : e = z ∨ e = TI ∨ e = TO ∨ e = i1 ∨ e = i2 := by simpa using hc
      rcases hc' with rfl | rfl | rfl | rfl | rfl
      · exact zl
      · exact Heap.lt_size hTI
      · exact Heap.lt_size hTO
      · obtain ⟨o, q, _⟩ := h1.obj
        exact Heap.lt_size q
      · obtain ⟨o, q, _⟩ := h2.obj
        exact Heap.lt_size q
    rw [upd_ne (Nat.ne_of_lt he)]
    exact (hf e hc).1
  done := by
    intro X hP hw hK hcm i pins s σ H E I hf st hg
    subst hP hw hK
    obtain ⟨hz, hTI, ⟨a1, a2, hTO⟩, h1, h2⟩ := st
    obtain ⟨xs, ys, hq, hq2, hend, hl1, hl2⟩ := hg
    obtain ⟨its, rv, p, _⟩ := inv_sq I hq
    obtain ⟨its2, rv2, p2, _⟩ := inv_sq I hq2
    have ha1 : a ≠ i1 := fun e => by
      subst e
      cases b
      · obtain ⟨o1, q1, c1, _⟩ := p
        obtain ⟨o2, q2, c2, d2⟩ := h1
        obtain ⟨n, d1⟩ := (show ∃ n, o1.data = .seq its.toArray n from by assumption)
        rw [q1] at q2; cases q2
        rw [d1] at d2; cases d2
      · obtain ⟨o1, q1, c1, n, d1⟩ := p
        obtain ⟨o2, q2, c2, d2⟩ := h1
        rw [q1] at q2; cases q2
        rw [d1] at d2; cases d2
    have hd2 : d ≠ i2 := fun e => by
      subst e
      cases c
      · obtain ⟨o1, q1, c1, _⟩ := p2
        obtain ⟨o2, q2, c2, d2⟩ := h2
        obtain ⟨n, d1⟩ := (show ∃ n, o1.data = .seq its2.toArray n from by assumption)
        rw [q1] at q2; cases q2
        rw [d1] at d2; cases d2
      · obtain ⟨o1, q1, c1, n, d1⟩ := p2
        obtain ⟨o2, q2, c2, d2⟩ := h2
        rw [q1] at q2; cases q2
        rw [d1] at d2; cases d2
    have l1 := rv.length
    have l2 := rv2.length
    refine wpAny_pyNext_zipD2_end S (drawsX (A := X.A.in1) (I.ok.hd hcm) b i1 a ha1 its.toArray) (drawsX (A := X.A.in1) (I.ok.hd hcm) c i2 d hd2 its2.toArray) hz hTI hTO ⟨h1, p⟩ ⟨h2, p2⟩ (by simp; omega) (by simp; omega) (by simp; omega) fun h' tk hk => ⟨rfl, ?_⟩
    exact I.turnedL (t' := tk) (ch := [z, TI, TO, i1, i2]) (fun e o hc q => by
      have n1 : e ≠ z := fun q' => hc (by simp [q'])
      have n2 : e ≠ TO := fun q' => hc (by simp [q'])
      have n3 : e ≠ i1 := fun q' => hc (by simp [q'])
      have n4 : e ≠ i2 := fun q' => hc (by simp [q'])
      exact hk e o n1 n2 n3 n4 q) hf
  self := fun A i s Q E st h => wpAny_pyIter_zip st.1 h
def iZipX (K : PySem.W.Frag) (ta : TA) : TI := fun σ H R => ta σ H fun vs H1 => ∃ a d b c xs ys, vs = [.ref a, .ref d] ∧ SqX K b H1 a xs ∧ SqX K c H1 d ys ∧ R (ItzX K b c a d) H1
theorem pi_zipX {X : Cx} {e e2 : Expr} {ta : TA} {p pos tpos : Pos} {elts : List Expr} {kk : Nat} (hg : Gl X "zip") (hm : X.mg "zip" = none) (ha : PA X [e, e2] ta)
    (hs : starEach [e, e2] X.env = (false, eval e X.env) :: starEach [e2] X.env) (hpl : (backTo pos (starEach [e2] X.env)).any (·.1) = false) :
    PI X (.Tuple elts kk tpos) (.Call (.Name "zip" p) [e, e2] [] pos) (iZipX X.K ta) := by
  refine ⟨fun pins s σ H R I h => ?_⟩
  refine Call_ (ld_blt I hg hm PyProof.Rows.boot_zip (PyProof.Rows.callWith_type1 (thn (ha.run pos pins s σ H _ I h) fun us s1 ⟨vs, H1, I1, r1, q1⟩ => ?_) hs hpl))
  obtain ⟨a, d, b, c, xs, ys, rfl, hqx, hqy, q⟩ := q1
  cases r1 with
  | cons r rr =>
    cases rr with
    | cons r' rr =>
      cases rr
      cases r
      cases r'
      obtain ⟨its, rv, p1, _⟩ := inv_sq I1 hqx
      obtain ⟨its2, rv2, p2, _⟩ := inv_sq I1 hqy
      have la := p1.lt
      have lb := p2.lt
      refine zip_begins2 (beginsX b a its.toArray) (beginsX c d its2.toArray) p1 p2 fun h' hz hTI hTO h1 h2 hsz hk => wpAny_pyIter_zip hz ?_
      have I2 : Inv X pins σ H1 { s1 with heap := h' } := I1.kept (t' := s1.toks) hk
      have S : ZipSep2 (s1.heap.objs.size + 4) (s1.heap.objs.size + 2) (s1.heap.objs.size + 3) s1.heap.objs.size (s1.heap.objs.size + 1) [s1.heap.objs.size, a] [s1.heap.objs.size + 1, d] :=
        zip_sep2 (fp1 := [a]) (fp2 := [d]) (by simpa using la) (by simpa using lb)
      refine ⟨s1.heap.objs.size + 4, [s1.heap.objs.size + 4, s1.heap.objs.size + 2, s1.heap.objs.size + 3, s1.heap.objs.size, s1.heap.objs.size + 1], _, _, H1, rfl, I2, turn_zipX b c S, ⟨hz, hTI, ⟨_, _, hTO⟩, ItX.new h1, ItX.new h2⟩, fun e he => ?_, q⟩
      have e' : e = s1.heap.objs.size + 4 ∨ e = s1.heap.objs.size + 2 ∨ e = s1.heap.objs.size + 3 ∨ e = s1.heap.objs.size ∨ e = s1.heap.objs.size + 1 := by simpa using he
      have hle : s1.heap.objs.size ≤ e := by
        rcases e' with rfl | rfl | rfl | rfl | rfl
        · exact Nat.le_add_right _ _
        · exact Nat.le_add_right _ _
        · exact Nat.le_add_right _ _
        · exact Nat.le_refl _
        · exact Nat.le_add_right _ _
      exact I1.fpOk hle (I1.hok.fresh hle)
end Sn

set_option Elab.async false
set_option linter.all false
set_option maxRecDepth 100000
/-! layer 11: sources as rows of pure values; targets; list comprehensions -/
namespace Sn
open PySem PySem.Spec PyProof.Rows L2
/-- an iterator that yields what stands for the values ds -/
structure IterD (P : Program) (w : World) (K : PySem.W.Frag) (F : Addr → Prop) (ρ : List Addr) (H : Hp) (J : It) (ds : List D) : Prop where
  len : ds.length ≤ sizeLine
  go : ∀ F' ρ' H' (i : Nat) d, Keeps F ρ H F' ρ' H' → ds[i]? = some d → J.go i H'
  stop : ∀ F' ρ' H', Keeps F ρ H F' ρ' H' → J.stop ds.length H'
  yld : ∀ F' ρ' H' (i : Nat) d x H'', Keeps F ρ H F' ρ' H' → ds[i]? = some d → J.yld i H' x H'' →
    (H'' = H' ∧ Rep P w K F' ρ' H' x d) ∨ ∃ T vs es o, d = .tup es ∧ x = .ref T ∧ H' T = none ∧ H'' = upd H' T (.frz o (.tup vs)) ∧ o.cls = .type "tuple" ∧ o.dict = none ∧ Reps P w K F' ρ' H' vs es ∧ es.length ≤ sizeLine
def rkI (P : Program) (w : World) (K : PySem.W.Frag) : RKT (List D) It := fun _ F ρ H J ds => IterD P w K F ρ H J ds
section
variable {P : Program} {w : World} {K : PySem.W.Frag} {CA : Nat → Option Addr}
variable {F F' F'' : Addr → Prop} {ρ ρ' ρ'' : List Addr} {H H0 H1 H' H'' Hs : Hp} {v x y : V} {d e : D} {vs : List V} {ds : List D} {env env' : En} {st st' : Store} {σ : St} {a p : Addr} {W : WX} {Q : VK}
theorem rkI_ok : RKOk (rkI P w K) := ⟨fun _ h => h, fun x h => ⟨h.len, fun F' ρ' H' i d k => h.go F' ρ' H' i d (x.toKeeps.trans k), fun F' ρ' H' k => h.stop F' ρ' H' (x.toKeeps.trans k), fun F' ρ' H' i d y H'' k => h.yld F' ρ' H' i d y H'' (x.toKeeps.trans k)⟩⟩
theorem seqT_of_rep (k : Rep P w K F ρ H (.ref a) (.tup ds)) : ∃ vs, SqT K H a vs ∧ Reps P w K F ρ H vs ds ∧ ds.length ≤ sizeLine := by
  cases k with
  | tup h q z => exact ⟨_, h.seq, q, z⟩
/-- what may be walked: a tuple's or a list's items, a text's signs -/
def walkOf : D → Option (List D)
  | .tup xs => some xs
  | .lst xs => some xs
  | .str z => if z.length ≤ sizeLine then some (z.cps.toList.map fun c => .str ⟨#[c]⟩) else none
  | _ => none
theorem Keeps.sqT (k : Keeps F ρ H F' ρ' H') (h : SqT K H a vs) : SqT K H' a vs := k.seqT h
theorem iter_tup (h : SqT K H a vs) (r : Reps P w K F ρ H vs ds) (z : ds.length ≤ sizeLine) : IterD P w K F ρ H (Itt K a) ds := by
  refine ⟨z, fun F' ρ' H' i d k e => ?_, fun F' ρ' H' k => ?_, fun F' ρ' H' i d x H'' k e y => ?_⟩
  · obtain ⟨v, e1, _⟩ := r.get e
    exact ⟨vs, v, k.seqT h, e1⟩
  · exact ⟨vs, k.seqT h, by rw [r.length]; exact Nat.le_refl _⟩
  · obtain ⟨rfl, y⟩ := y
    obtain ⟨v, e1, q⟩ := r.get e
    have e2 := y vs (k.seqT h)
    rw [e1] at e2
    cases e2
    exact .inl ⟨rfl, q.mono k⟩
theorem iter_lst (f : F a) (h : H a = some (.lst vs)) (r : Reps P w K F ρ H vs ds) (z : ds.length ≤ sizeLine) : IterD P w K F ρ H (Itl K a) ds := by
  refine ⟨z, fun F' ρ' H' i d k e => ?_, fun F' ρ' H' k => ?_, fun F' ρ' H' i d x H'' k e y => ?_⟩
  · obtain ⟨v, e1, _⟩ := r.get e
    exact ⟨vs, v, SqL.of (k.keepF _ _ h f), e1⟩
  · exact ⟨vs, SqL.of (k.keepF _ _ h f), by rw [r.length]; exact Nat.le_refl _⟩
  · obtain ⟨rfl, y⟩ := y
    obtain ⟨v, e1, q⟩ := r.get e
    have e2 := y vs (SqL.of (k.keepF _ _ h f))
    rw [e1] at e2
    cases e2
    exact .inl ⟨rfl, q.mono k⟩
theorem iter_str {z : Str} (hz : z.length ≤ sizeLine) : IterD P w K F ρ H (Its z) (z.cps.toList.map fun c => D.str ⟨#[c]⟩) := by
  refine ⟨by rw [List.length_map, Array.length_toList]; exact hz, fun F' ρ' H' i d k e => ?_, fun F' ρ' H' k => ?_, fun F' ρ' H' i d x H'' k e y => ?_⟩
  · have := (List.getElem?_eq_some_iff.mp e).1
    rw [List.length_map, Array.length_toList] at this
    exact this
  · show z.cps.size ≤ _
    rw [List.length_map, Array.length_toList]
    exact Nat.le_refl _
  · obtain ⟨rfl, c, hc, rfl⟩ := y
    rw [List.getElem?_map, Array.getElem?_toList, hc] at e
    cases e
    exact .inl ⟨rfl, .str _⟩
theorem iter_rng {lo : Int} {n : Nat} (hn : n ≤ sizeLine) : IterD P w K F ρ H (Itr lo n) ((List.range n).map fun i => D.int (lo + (i : Nat))) := by
  refine ⟨by simpa using hn, fun F' ρ' H' i d k e => ?_, fun F' ρ' H' k => ?_, fun F' ρ' H' i d x H'' k e y => ?_⟩
  · have := (List.getElem?_eq_some_iff.mp e).1
    show i < n
    simpa using this
  · show n ≤ _
    simp
  · obtain ⟨rfl, rfl⟩ := y
    rw [List.getElem?_map] at e
    have hi : i < n := by
      by_cases h : i < n
      · exact h
      · rw [List.getElem?_eq_none (by simp; omega)] at e
        cases e
    rw [List.getElem?_range hi] at e
    cases e
    exact .inl ⟨rfl, .int _⟩
theorem iter_rngC {lo c : Int} {n : Nat} (hn : n ≤ sizeLine) : IterD P w K F ρ H (Itc lo c n) ((List.range n).map fun i => D.int (lo + (i : Nat) * c)) := by
  refine ⟨by simpa using hn, fun F' ρ' H' i d k e => ?_, fun F' ρ' H' k => ?_, fun F' ρ' H' i d x H'' k e y => ?_⟩
  · have := (List.getElem?_eq_some_iff.mp e).1
    show i < n
    simpa using this
  · show n ≤ _
    simp
  · obtain ⟨rfl, rfl⟩ := y
    rw [List.getElem?_map] at e
    have hi : i < n := by
      by_cases h : i < n
      · exact h
      · rw [List.getElem?_eq_none (by simp; omega)] at e
        cases e
    rw [List.getElem?_range hi] at e
    cases e
    exact .inl ⟨rfl, .int _⟩
/-- a list or a tuple as it stands for its items -/
theorem sqx_of {b : Bool} (h : b = true → F a) (q : SqX K b H a vs) (hb : b = true → H a = some (.lst vs)) (k : Keeps F ρ H F' ρ' H') : SqX K b H' a vs := by
  cases b
  · exact k.seqT q
  · exact SqL.of (k.keepF _ _ (hb rfl) (h rfl))
theorem items_at (hi : d.items = some ds) (k : Rep P w K F ρ H v d) : ∃ a b vs, v = .ref a ∧ SqX K b H a vs ∧ Reps P w K F ρ H vs ds ∧ ds.length ≤ sizeLine ∧ ∀ F' ρ' H', Keeps F ρ H F' ρ' H' → SqX K b H' a vs := by
  cases d with
  | tup xs =>
    cases hi
    cases k with
    | tup h q z => exact ⟨_, false, _, rfl, h.seq, q, z, fun F' ρ' H' k => k.seqT h.seq⟩
  | lst xs =>
    cases hi
    cases k with
    | lst f h q z => exact ⟨_, true, _, rfl, SqL.of h, q, z, fun F' ρ' H' k => SqL.of (k.keepF _ _ h f)⟩
  | non => cases hi
  | bl _ => cases hi
  | int _ => cases hi
  | str _ => cases hi
  | dct _ => cases hi
  | scr _ => cases hi
  | ref _ => cases hi
  | fn _ => cases hi
def enumD (n : Nat) : List D → List D
  | [] => []
  | x :: xs => .tup [.int n, x] :: enumD (n + 1) xs
theorem enumD_len : ∀ (xs : List D) (n : Nat), (enumD n xs).length = xs.length
  | [], _ => rfl
  | x :: xs, n => by rw [enumD, List.length_cons, enumD_len xs, List.length_cons]
theorem enumD_get : ∀ (xs : List D) (n i : Nat), (enumD n xs)[i]? = xs[i]?.map fun x => D.tup [.int ((n + i : Nat) : Int), x]
  | [], _, _ => by simp [enumD]
  | x :: xs, n, 0 => by simp [enumD]
  | x :: xs, n, i + 1 => by
    rw [enumD, List.getElem?_cons_succ, enumD_get xs (n + 1) i, List.getElem?_cons_succ]
    rw [show n + 1 + i = n + (i + 1) by omega]
theorem iter_enum {b : Bool} (h : ∀ F' ρ' H', Keeps F ρ H F' ρ' H' → SqX K b H' a vs) (r : Reps P w K F ρ H vs ds) (z : ds.length ≤ sizeLine) : IterD P w K F ρ H (IteX K b a) (enumD 0 ds) := by
  refine ⟨by rw [enumD_len]; exact z, fun F' ρ' H' i d k e => ?_, fun F' ρ' H' k => ?_, fun F' ρ' H' i d x H'' k e y => ?_⟩
  · rw [enumD_get] at e
    obtain ⟨d', e', _⟩ := Option.map_eq_some_iff.mp e
    obtain ⟨v, e1, _⟩ := r.get e'
    exact ⟨vs, v, h _ _ _ k, e1⟩
  · exact ⟨vs, h _ _ _ k, by rw [enumD_len, r.length]⟩
  · rw [enumD_get] at e
    obtain ⟨d', e', rfl⟩ := Option.map_eq_some_iff.mp e
    obtain ⟨v, e1, q⟩ := r.get e'
    obtain ⟨T, u, o, rfl, n, rfl, oc, od, y⟩ := y
    have e2 := y vs (h _ _ _ k)
    rw [e1] at e2
    cases e2
    exact .inr ⟨T, _, _, o, rfl, rfl, n, rfl, oc, od, .cons (by rw [Nat.zero_add]; exact .int _) (.cons (q.mono k) .nil), by show 2 ≤ sizeLine; decide⟩
def zipD : List D → List D → List D
  | x :: xs, y :: ys => .tup [x, y] :: zipD xs ys
  | _, _ => []
theorem zipD_len : ∀ (xs ys : List D), (zipD xs ys).length = min xs.length ys.length
  | [], _ => by simp [zipD]
  | _ :: _, [] => by simp [zipD]
  | x :: xs, y :: ys => by
    rw [zipD, List.length_cons, zipD_len xs ys, List.length_cons, List.length_cons]
    omega
theorem zipD_get : ∀ (xs ys : List D) (i : Nat) (d : D), (zipD xs ys)[i]? = some d → ∃ x y, xs[i]? = some x ∧ ys[i]? = some y ∧ d = .tup [x, y]
  | [], _, _, _, h => by simp [zipD] at h
  | _ :: _, [], _, _, h => by simp [zipD] at h
  | x :: xs, y :: ys, 0, _, h => by
    simp [zipD] at h
    exact ⟨x, y, rfl, rfl, h.symm⟩
  | x :: xs, y :: ys, i + 1, d, h => by
    rw [zipD, List.getElem?_cons_succ] at h
    obtain ⟨x', y', h1, h2, h3⟩ := zipD_get xs ys i d h
    exact ⟨x', y', by simpa using h1, by simpa using h2, h3⟩
theorem iter_zip {b c : Bool} {a' : Addr} {ws : List V} {es : List D} (h : ∀ F' ρ' H', Keeps F ρ H F' ρ' H' → SqX K b H' a vs) (r : Reps P w K F ρ H vs ds) (z : ds.length ≤ sizeLine)
    (h' : ∀ F' ρ' H', Keeps F ρ H F' ρ' H' → SqX K c H' a' ws) (r' : Reps P w K F ρ H ws es) : IterD P w K F ρ H (ItzX K b c a a') (zipD ds es) := by
  have hl := zipD_len ds es
  have l1 := r.length
  have l2 := r'.length
  refine ⟨by omega, fun F' ρ' H' i d k e => ?_, fun F' ρ' H' k => ?_, fun F' ρ' H' i d x H'' k e y => ?_⟩
  · obtain ⟨x, y, e1, e2, rfl⟩ := zipD_get _ _ _ _ e
    obtain ⟨v, e1, _⟩ := r.get e1
    obtain ⟨u, e2, _⟩ := r'.get e2
    exact ⟨vs, ws, v, u, h _ _ _ k, h' _ _ _ k, e1, e2⟩
  · exact ⟨vs, ws, h _ _ _ k, h' _ _ _ k, by omega, by omega, by omega⟩
  · obtain ⟨x', y', e1, e2, rfl⟩ := zipD_get _ _ _ _ e
    obtain ⟨v, e1, q1⟩ := r.get e1
    obtain ⟨u, e2, q2⟩ := r'.get e2
    obtain ⟨T, p, q, o, rfl, n, rfl, oc, od, y1, y2⟩ := y
    have f1 := y1 vs (h _ _ _ k)
    have f2 := y2 ws (h' _ _ _ k)
    rw [e1] at f1
    rw [e2] at f2
    cases f1
    cases f2
    exact .inr ⟨T, _, _, o, rfl, rfl, n, rfl, oc, od, .cons (q1.mono k) (.cons (q2.mono k) .nil), by show 2 ≤ sizeLine; decide⟩
end
/-! ### the sources' computations -/
abbrev tI (P : Program) (w : World) (K : PySem.W.Frag) (CA : Nat → Option Addr) (W : WX) (f : FL) : TI := tQ P w K CA W (rkI P w K) f
def srcE (f : En → Store → R (D × Store)) : FL := fun env st => (f env st).bind fun p => match walkOf p.1 with
  | some ds => .ok (ds, p.2)
  | none => .err
def srcR1 (f : En → Store → R (D × Store)) : FL := fun env st => (f env st).bind fun p => match p.1 with
  | .int j => if j ≤ 16777216 ∧ -(2 ^ 62) ≤ j then .ok ((List.range j.toNat).map (fun i => .int (0 + (i : Nat))), p.2) else .err
  | _ => .err
def srcR2 (f g : En → Store → R (D × Store)) : FL := fun env st => (f env st).bind fun p => (g env p.2).bind fun q => match p.1, q.1 with
  | .int i, .int j => if (-(2 ^ 62) ≤ i ∧ i < 2 ^ 62 ∧ -(2 ^ 62) ≤ j ∧ j < 2 ^ 62) ∧ j - i ≤ 16777216 then .ok ((List.range (j - i).toNat).map (fun n => .int (i + (n : Nat))), q.2) else .err
  | _, _ => .err
def srcEn (f : En → Store → R (D × Store)) : FL := fun env st => (f env st).bind fun p => match p.1.items with
  | some ds => .ok (enumD 0 ds, p.2)
  | none => .err
def srcZp (f g : En → Store → R (D × Store)) : FL := fun env st => (f env st).bind fun p => (g env p.2).bind fun q => match p.1.items, q.1.items with
  | some ds, some es => .ok (zipD ds es, q.2)
  | _, _ => .err
section
variable {X : Cx} {tg ex a b : Expr} {CA : Nat → Option Addr} {W : WX} {f fa fb : En → Store → R (D × Store)} {p pos tpos : Pos}
theorem piI {wi wi' : TI} (h : PI X tg ex wi) (i : ∀ σ H R, wi' σ H R → wi σ H R) : PI X tg ex wi' := ⟨fun pins s σ H R I q => h.run pins s σ H R I (i σ H R q)⟩
theorem s_srcE (h : PE X ex (tD X.prog X.w X.K CA W .v f)) : PI X tg ex (tI X.prog X.w X.K CA W (srcE f)) := by
  refine ⟨fun pins s σ H R I ⟨H0, F, ρ, env, st, rel, q⟩ => ?_⟩
  have q' := After.bind (RK' := rkD X.prog X.w X.K .v) rkI_ok q
  cases e : f env st with
  | err => rw [e] at q'; exact q'.elim
  | exc x s' =>
    refine (pi_tup h).run pins s σ H R I ⟨H0, F, ρ, env, st, rel, ?_⟩
    rw [e] at q' ⊢
    exact q'
  | ok p =>
    obtain ⟨d, st1⟩ := p
    have case : ∀ {d' : D} {st' : Store}, f env st = .ok (d', st') → d' = d := fun h => by
      rw [e] at h
      cases h
      rfl
    cases d with
    | tup ds =>
      refine (pi_tup h).run pins s σ H R I ⟨H0, F, ρ, env, st, rel, q'.imp fun v H1 h => ?_⟩
      obtain ⟨F1, ρ1, d, st1, x, r1, k1, hm, q1⟩ := h
      obtain rfl := case hm
      have k1' : Rep X.prog X.w X.K F1 ρ1 H1 v (.tup ds) := k1
      cases k1' with
      | tup hs hr hz => exact ⟨_, rfl, ⟨_, hs.seq⟩, After.ok r1 (iter_tup hs.seq hr hz) q1⟩
    | lst ds =>
      refine (pi_list h).run pins s σ H R I ⟨H0, F, ρ, env, st, rel, q'.imp fun v H1 h => ?_⟩
      obtain ⟨F1, ρ1, d, st1, x, r1, k1, hm, q1⟩ := h
      obtain rfl := case hm
      have k1' : Rep X.prog X.w X.K F1 ρ1 H1 v (.lst ds) := k1
      cases k1' with
      | lst hf hs hr hz => exact ⟨_, rfl, ⟨_, SqL.of hs⟩, After.ok r1 (iter_lst hf hs hr hz) q1⟩
    | str z =>
      refine (pi_str h).run pins s σ H R I ⟨H0, F, ρ, env, st, rel, q'.imp fun v H1 h => ?_⟩
      obtain ⟨F1, ρ1, d, st1, x, r1, k1, hm, q1⟩ := h
      obtain rfl := case hm
      have k1' : Rep X.prog X.w X.K F1 ρ1 H1 v (.str z) := k1
      cases k1'
      have q1' : After X.prog X.w X.K CA W (rkI X.prog X.w X.K) H0 F1 ρ1 env σ H1 R (match walkOf (.str z) with
        | some ds => .ok (ds, st1)
        | none => .err) := q1
      by_cases hl : z.length ≤ sizeLine
      · rw [show walkOf (.str z) = some (z.cps.toList.map fun c => .str ⟨#[c]⟩) from if_pos hl] at q1'
        exact ⟨z, rfl, After.ok r1 (iter_str hl) q1'⟩
      · rw [show walkOf (.str z) = none from if_neg hl] at q1'
        exact q1'.elim
    | _ =>
      have q2 := q
      unfold srcE at q2
      rw [e] at q2
      exact q2.elim
theorem s_srcR1 (hg : Gl X "range") (hm : X.mg "range" = none) (ha : PE X a (tD X.prog X.w X.K CA W .b fa)) (hs : notStar a = true) : PI X tg (.Call (.Name "range" p) [a] [] pos) (tI X.prog X.w X.K CA W (srcR1 fa)) := by
  refine piI (pi_range1 hg hm (pa_cons ha pa_nil (star_of hs)) (star_of hs)) fun σ H R ⟨H0, F, ρ, env, st, rel, q⟩ => ?_
  refine ⟨H0, F, ρ, env, st, rel, (After.bind (RK' := rkD X.prog X.w X.K .b) rkI_ok q).imp fun v H1 h => ?_⟩
  obtain ⟨F1, ρ1, d, st1, x, r1, k1, _, q1⟩ := h
  revert q1
  cases d with
  | int j =>
    intro q1
    obtain rfl := (show RepB _ _ _ _ _ _ _ _ from k1).intE
    have q2 : After X.prog X.w X.K CA W (rkI X.prog X.w X.K) H0 F1 ρ1 env σ H1 R (if j ≤ 16777216 ∧ -(2 ^ 62) ≤ j then .ok ((List.range j.toNat).map (fun i => .int (0 + (i : Nat))), st1) else .err) := q1
    split at q2
    · rename_i hj
      have hs := sizeLine_eq
      exact ⟨j, rfl, hj.2, by omega, After.ok r1 (iter_rng (by omega)) q2⟩
    · exact q2.elim
  | _ => exact fun q1 => q1.elim
theorem s_srcR2 (hg : Gl X "range") (hm : X.mg "range" = none) (ha : PE X a (tD X.prog X.w X.K CA W .b fa)) (hb : PE X b (tD X.prog X.w X.K CA W .b fb)) (hs : notStar a = true) (hs2 : notStar b = true) : PI X tg (.Call (.Name "range" p) [a, b] [] pos) (tI X.prog X.w X.K CA W (srcR2 fa fb)) := by
  refine piI (pi_range2 hg hm (pa_cons ha (pa_cons hb pa_nil (star_of hs2)) (star_of hs)) (by rw [star_of hs, star_of hs2]; rfl) (star_of hs2)) fun σ H R ⟨H0, F, ρ, env, st, rel, q⟩ => ?_
  refine ⟨H0, F, ρ, env, st, rel, (After.bind (RK' := rkD X.prog X.w X.K .b) rkI_ok q).imp fun v H1 h => ?_⟩
  obtain ⟨F1, ρ1, d, st1, x, r1, k1, _, q1⟩ := h
  refine ⟨H0, F1, ρ1, env, st1, r1, (After.bind (RK' := rkD X.prog X.w X.K .b) rkI_ok q1).imp fun u H2 h => ?_⟩
  obtain ⟨F2, ρ2, e, st2, x2, r2, k2, _, q2⟩ := h
  have k1' := RepB.mono x2 (show RepB _ _ _ _ _ _ _ _ from k1)
  revert q2
  cases d with
  | int i =>
    cases e with
    | int j =>
      intro q2
      obtain rfl := k1'.intE
      obtain rfl := (show RepB _ _ _ _ _ _ _ _ from k2).intE
      have q3 : After X.prog X.w X.K CA W (rkI X.prog X.w X.K) H0 F2 ρ2 env σ H2 R (if (-(2 ^ 62) ≤ i ∧ i < 2 ^ 62 ∧ -(2 ^ 62) ≤ j ∧ j < 2 ^ 62) ∧ j - i ≤ 16777216 then .ok ((List.range (j - i).toNat).map (fun n => .int (i + (n : Nat))), st2) else .err) := q2
      split at q3
      · rename_i hj
        have hs := sizeLine_eq
        exact ⟨i, j, rfl, hj.1, After.ok r2 (iter_rng (by omega)) q3⟩
      · exact q3.elim
    | _ => exact fun q2 => q2.elim
  | _ => exact fun q2 => q2.elim
theorem s_srcEn {elts : List Expr} {kk : Nat} (hg : Gl X "enumerate") (hm : X.mg "enumerate" = none) (ha : PE X a (tD X.prog X.w X.K CA W .v fa)) (hs : notStar a = true) : PI X (.Tuple elts kk tpos) (.Call (.Name "enumerate" p) [a] [] pos) (tI X.prog X.w X.K CA W (srcEn fa)) := by
  refine piI (pi_enumX hg hm (pa_cons ha pa_nil (star_of hs)) (star_of hs)) fun σ H R ⟨H0, F, ρ, env, st, rel, q⟩ => ?_
  refine ⟨H0, F, ρ, env, st, rel, (After.bind (RK' := rkD X.prog X.w X.K .v) rkI_ok q).imp fun v H1 h => ?_⟩
  obtain ⟨F1, ρ1, d, st1, x, r1, k1, _, q1⟩ := h
  have q1' : After X.prog X.w X.K CA W (rkI X.prog X.w X.K) H0 F1 ρ1 env σ H1 R (match d.items with
    | some ds => .ok (enumD 0 ds, st1)
    | none => .err) := q1
  split at q1'
  · rename_i ds hi
    obtain ⟨a, b, vs, rfl, hq, r, z, hk⟩ := items_at hi k1
    exact ⟨a, b, vs, rfl, hq, After.ok r1 (iter_enum hk r z) q1'⟩
  · exact q1'.elim
theorem s_srcZp {elts : List Expr} {kk : Nat} (hg : Gl X "zip") (hm : X.mg "zip" = none) (ha : PE X a (tD X.prog X.w X.K CA W .v fa)) (hb : PE X b (tD X.prog X.w X.K CA W .v fb)) (hs : notStar a = true) (hs2 : notStar b = true) :
    PI X (.Tuple elts kk tpos) (.Call (.Name "zip" p) [a, b] [] pos) (tI X.prog X.w X.K CA W (srcZp fa fb)) := by
  refine piI (pi_zipX hg hm (pa_cons ha (pa_cons hb pa_nil (star_of hs2)) (star_of hs)) (star_of hs) (any_of (by simp [hs2]))) fun σ H R ⟨H0, F, ρ, env, st, rel, q⟩ => ?_
  refine ⟨H0, F, ρ, env, st, rel, (After.bind (RK' := rkD X.prog X.w X.K .v) rkI_ok q).imp fun v H1 h => ?_⟩
  obtain ⟨F1, ρ1, d, st1, x, r1, k1, _, q1⟩ := h
  refine ⟨H0, F1, ρ1, env, st1, r1, (After.bind (RK' := rkD X.prog X.w X.K .v) rkI_ok q1).imp fun u H2 h => ?_⟩
  obtain ⟨F2, ρ2, e, st2, x2, r2, k2, _, q2⟩ := h
  have q2' : After X.prog X.w X.K CA W (rkI X.prog X.w X.K) H0 F2 ρ2 env σ H2 R (match d.items, e.items with
    | some ds, some es => .ok (zipD ds es, st2)
    | _, _ => .err) := q2
  split at q2'
  · rename_i ds es hi hi2
    obtain ⟨a, b, vs, rfl, hq, r, z, hk⟩ := items_at hi (Rep.mono x2.toKeeps k1)
    obtain ⟨a', c, ws, rfl, hq2, r', z', hk'⟩ := items_at hi2 k2
    exact ⟨a, a', b, c, vs, ws, rfl, hq, hq2, After.ok r2 (iter_zip hk r z hk' r') q2'⟩
  · exact q2'.elim
end
end Sn

set_option Elab.async false
set_option linter.all false
set_option maxRecDepth 100000
/-! layer 12: targets; list comprehensions -/
namespace Sn
open PySem PySem.Spec PyProof.Rows L2
mutual
inductive Tg where
  | nm (i : Nat)
  | tp (ts : TgL)
inductive TgL where
  | nil
  | cons (t : Tg) (ts : TgL)
end
mutual
def Tg.slots : Tg → List Nat
  | .nm i => [i]
  | .tp ts => ts.slots
def TgL.slots : TgL → List Nat
  | .nil => []
  | .cons t ts => t.slots ++ ts.slots
end
def TgL.length : TgL → Nat
  | .nil => 0
  | .cons _ ts => ts.length + 1
mutual
def Tg.put : Tg → D → En → Option En
  | .nm i, d, env => some (env.set i (some (.val d)))
  | .tp ts, .tup ds, env => if ds.length = ts.length then ts.put ds env else none
  | .tp _, _, _ => none
def TgL.put : TgL → List D → En → Option En
  | .nil, [], env => some env
  | .cons t ts, d :: ds, env => (t.put d env).bind fun env' => ts.put ds env'
  | _, _, _ => none
end
section
variable {P : Program} {w : World} {K : PySem.W.Frag} {CA : Nat → Option Addr}
variable {F F' F'' : Addr → Prop} {ρ ρ' ρ'' : List Addr} {H H0 H1 H' H'' Hs : Hp} {v x y : V} {d e : D} {vs : List V} {ds : List D} {env env' : En} {st st' : Store} {σ σ' : L2.St} {a p : Addr} {W : WX} {Q : VK}
theorem Rel.setv {i : Nat} (r : Rel P w K CA H0 F ρ env st σ H) (q : Rep P w K F ρ H v d) : Rel P w K CA H0 F ρ (env.set i (some (.val d))) st (σ.set i (some v)) H := by
  refine ⟨r.toStRel, by simp [r.elen], r.old, fun j e h => ?_, fun j e h => ?_, fun j k e f a h1 h2 h3 h4 => ?_⟩
  · rw [List.getElem?_set] at h ⊢
    split at h
    · rename_i hj
      rw [if_pos hj]
      split at h
      · rename_i hl
        rw [if_pos (by rw [← r.elen]; exact hl)]
        cases h
        exact ⟨v, rfl, q⟩
      · cases h
    · rename_i hj
      rw [if_neg hj]
      exact r.val j e h
  · rw [List.getElem?_set] at h ⊢
    split at h
    · split at h <;> cases h
    · rename_i hj
      rw [if_neg hj]
      exact r.own j e h
  · rw [List.getElem?_set] at h1 h2 h3 h4
    split at h1
    · split at h1 <;> cases h1
    · rename_i n1
      split at h2
      · split at h2 <;> cases h2
      · rename_i n2
        rw [if_neg n1] at h3
        rw [if_neg n2] at h4
        exact r.inj j k e f a h1 h2 h3 h4
theorem Rel.unset {i : Nat} (r : Rel P w K CA H0 F ρ env st σ H) : Rel P w K CA H0 F ρ (env.set i none) st (σ.set i none) H := by
  refine ⟨r.toStRel, by simp [r.elen], r.old, fun j e h => ?_, fun j e h => ?_, fun j k e f a h1 h2 h3 h4 => ?_⟩
  · rw [List.getElem?_set] at h ⊢
    split at h
    · split at h <;> cases h
    · rename_i hj
      rw [if_neg hj]
      exact r.val j e h
  · rw [List.getElem?_set] at h ⊢
    split at h
    · split at h <;> cases h
    · rename_i hj
      rw [if_neg hj]
      exact r.own j e h
  · rw [List.getElem?_set] at h1 h2 h3 h4
    split at h1
    · split at h1 <;> cases h1
    · rename_i n1
      split at h2
      · split at h2 <;> cases h2
      · rename_i n2
        rw [if_neg n1] at h3
        rw [if_neg n2] at h4
        exact r.inj j k e f a h1 h2 h3 h4
def wipeE (env : En) : List Nat → En
  | [] => env
  | i :: is => (wipeE env is).set i none
theorem Rel.wipe (r : Rel P w K CA H0 F ρ env st σ H) : ∀ is : List Nat, Rel P w K CA H0 F ρ (wipeE env is) st (L2.wipe σ is) H
  | [] => r
  | i :: is => Rel.unset (Rel.wipe r is)
theorem wipe_get {σ : L2.St} {j : Nat} : ∀ is : List Nat, (L2.wipe σ is)[j]? = if j ∈ is then (if j < σ.length then some none else none) else σ[j]?
  | [] => by simp [L2.wipe]
  | i :: is => by
    unfold L2.wipe
    rw [List.getElem?_set, wipe_get is, wipe_length]
    by_cases h : i = j
    · subst h
      simp
    · rw [if_neg h]
      by_cases h2 : j ∈ is
      · simp [h2]
      · simp [h2, Ne.symm h]
theorem wipe_eq {σ σ' : L2.St} {is : List Nat} (hl : σ'.length = σ.length) (h : ∀ j, j ∉ is → σ'[j]? = σ[j]?) : L2.wipe σ' is = L2.wipe σ is := by
  refine List.ext_getElem? fun j => ?_
  rw [wipe_get, wipe_get, hl]
  by_cases hj : j ∈ is
  · rw [if_pos hj, if_pos hj]
  · rw [if_neg hj, if_neg hj, h j hj]
/-- a target's reading -/
def gD (P : Program) (w : World) (K : PySem.W.Frag) (CA : Nat → Option Addr) (t : Tg) : TG := fun v σ H Q => ∃ H0 F ρ env st d env', Rel P w K CA H0 F ρ env st σ H ∧ Rep P w K F ρ H v d ∧ t.put d env = some env' ∧
  ∀ σ', Rel P w K CA H0 F ρ env' st σ' H → σ'.length = σ.length → (∀ j, j ∉ t.slots → σ'[j]? = σ[j]?) → Q σ' H
def gDs (P : Program) (w : World) (K : PySem.W.Frag) (CA : Nat → Option Addr) (t : TgL) : TGs := fun vs σ H Q => ∃ H0 F ρ env st ds env', Rel P w K CA H0 F ρ env st σ H ∧ Reps P w K F ρ H vs ds ∧ t.put ds env = some env' ∧
  ∀ σ', Rel P w K CA H0 F ρ env' st σ' H → σ'.length = σ.length → (∀ j, j ∉ t.slots → σ'[j]? = σ[j]?) → Q σ' H
end
section
variable {X : Cx} {tg e : Expr} {es : List Expr} {CA : Nat → Option Addr} {pos : Pos}
theorem pgI {t t' : TG} (h : PG X tg t) (i : ∀ v σ H Q, t' v σ H Q → t v σ H Q) : PG X tg t' := ⟨fun pins s σ H v u Q I r q => h.run pins s σ H v u Q I r (i v σ H Q q)⟩
theorem pgsI {t t' : TGs} (h : PGs X es t) (i : ∀ v σ H Q, t' v σ H Q → t v σ H Q) : PGs X es t' := ⟨fun pins s σ H v u Q I r q => h.run pins s σ H v u Q I r (i v σ H Q q)⟩
theorem s_gnm {i : Nat} (h : PG X tg (gName i)) : PG X tg (gD X.prog X.w X.K CA (.nm i)) := by
  refine pgI h fun v σ H Q ⟨H0, F, ρ, env, st, d, env', rel, q, e, k⟩ => ?_
  rw [Tg.put] at e
  cases e
  exact k _ (rel.setv q) (by simp) fun j hj => by
    rw [List.getElem?_set_ne]
    intro e
    exact hj (by rw [Tg.slots, e]; exact List.mem_cons_self)
theorem s_gtp {ts : TgL} {k : Nat} {n : Nat} (hc : X.calm = true) (h : PGs X es (gDs X.prog X.w X.K CA ts)) (hn : (assignEach es X.env).length = ts.length) (hst : (assignEach es X.env).findIdx? (·.1) = none) : PG X (.Tuple es k pos) (gD X.prog X.w X.K CA (.tp ts)) := by
  refine pgI (pg_tup hc h hn hst) fun v σ H Q ⟨H0, F, ρ, env, st, d, env', rel, q, e, k⟩ => ?_
  cases q with
  | tup hs hr hz =>
    rw [Tg.put] at e
    split at e
    · rename_i hl
      exact ⟨_, _, rfl, hs.seq, by rw [hr.length]; exact hl, H0, F, ρ, env, st, _, env', rel, hr, e, fun σ' r l hj => k σ' r l fun j hj' => hj j (by rw [Tg.slots] at hj'; exact hj')⟩
    · cases e
  | _ => cases e
theorem s_gnil : PGs X [] (gDs X.prog X.w X.K CA .nil) := by
  refine pgsI pgs_nil fun vs σ H Q ⟨H0, F, ρ, env, st, ds, env', rel, q, e, k⟩ => ?_
  cases q with
  | nil =>
    rw [TgL.put] at e
    cases e
    exact ⟨rfl, k σ rel rfl fun _ _ => rfl⟩
  | cons => cases e
theorem s_gcons {t : Tg} {ts : TgL} (h : PG X e (gD X.prog X.w X.K CA t)) (hs : PGs X es (gDs X.prog X.w X.K CA ts)) (ha : (assignEach (e :: es) X.env).map (·.2) = assign e X.env :: (assignEach es X.env).map (·.2)) : PGs X (e :: es) (gDs X.prog X.w X.K CA (.cons t ts)) := by
  refine pgsI (pgs_cons h hs ha) fun vs σ H Q ⟨H0, F, ρ, env, st, ds, env', rel, q, e, k⟩ => ?_
  cases q with
  | nil => cases e
  | cons q qs =>
    rw [TgL.put] at e
    obtain ⟨env1, e1, e2⟩ := Option.bind_eq_some_iff.mp e
    refine ⟨_, _, rfl, H0, F, ρ, env, st, _, env1, rel, q, e1, fun σ1 r1 l1 hj1 => ?_⟩
    refine ⟨H0, F, ρ, env1, st, _, env', r1, qs, e2, fun σ2 r2 l2 hj2 => ?_⟩
    refine k σ2 r2 (l2.trans l1) fun j hj => ?_
    rw [TgL.slots, List.mem_append, not_or] at hj
    rw [hj2 j hj.2, hj1 j hj.1]
end

/-! ### comprehensions -/
def R.noExc {α : Type} : R α → R α
  | .exc _ _ => .err
  | r => r
/-- a turn: none where the tests fail -/
def lcBody (t : Tg) (is : List Nat) (ct : En → Store → R (Bool × Store)) (ce : En → Store → R (D × Store)) (env : En) (d : D) (st : Store) : R (Option D × Store) := match t.put d (wipeE env is) with
  | none => .err
  | some env2 => (ct env2 st).noExc.bind fun p => if p.1 = true then (ce env2 p.2).noExc.bind fun q => .ok (some q.1, q.2) else .ok (none, p.2)
def lcLoop (f : D → Store → R (Option D × Store)) : List D → Store → R (List D × Store)
  | [], st => .ok ([], st)
  | d :: ds, st => (f d st).bind fun p => (lcLoop f ds p.2).bind fun q => .ok ((match p.1 with | some y => y :: q.1 | none => q.1), q.2)
def cLc (fs : FL) (t : Tg) (is : List Nat) (ct : En → Store → R (Bool × Store)) (ce : En → Store → R (D × Store)) : En → Store → R (D × Store) := fun env st =>
  (fs env st).bind fun p => (lcLoop (lcBody t is ct ce env) p.1 p.2).bind fun q => .ok (.lst q.1, q.2)
theorem lcLoop_len {f : D → Store → R (Option D × Store)} : ∀ {ds : List D} {st : Store} {ys : List D} {st' : Store}, lcLoop f ds st = .ok (ys, st') → ys.length ≤ ds.length
  | [], _, _, _, h => by cases h; exact Nat.le_refl _
  | d :: ds, st, ys, st', h => by
    rw [lcLoop] at h
    cases e : f d st with
    | err => rw [e] at h; cases h
    | exc x s => rw [e] at h; cases h
    | ok p =>
      rw [e] at h
      rw [R.bind_ok] at h
      cases e2 : lcLoop f ds p.2 with
      | err => rw [e2] at h; cases h
      | exc x s => rw [e2] at h; cases h
      | ok q =>
        rw [e2, R.bind_ok] at h
        cases h
        have ih := lcLoop_len e2
        cases p.1 <;> simp <;> omega
abbrev W0 : WX := fun _ _ _ _ => False
section
variable {P : Program} {w : World} {K : PySem.W.Frag} {CA : Nat → Option Addr}
variable {F F' F'' : Addr → Prop} {ρ ρ' ρ'' : List Addr} {H H0 H1 H' H'' Hs : Hp} {v x y : V} {d e : D} {vs : List V} {ds : List D} {env env' : En} {st st' : Store} {σ σ' : L2.St} {a p : Addr} {W : WX}
theorem After.noExc {α β : Type} {RK : RKT α β} {Q : β → Hp → Prop} {m : R (α × Store)} {z : α × Store} (h : m.noExc = .ok z) (k : After P w K CA W0 RK H0 F ρ env σ H Q (.ok z)) : After P w K CA W0 RK H0 F ρ env σ H Q m := by
  cases m with
  | ok p => cases h; exact k
  | exc x s => cases h
  | err => cases h
/-- the place of the new list is changed -/
theorem Ext.upd_new {o : HO} (x : Ext F ρ H F' ρ' H') (n : H a = none) : Ext F ρ H F' ρ' (upd H' a o) := by
  have k : ∀ b u, H b = some u → ∀ z, H' b = z → upd H' a o b = z := fun b u e z hz => by
    rw [upd_ne (ne_of_none e n)]
    exact hz
  exact ⟨⟨x.f, x.r, fun b u e f => k b u e _ (x.keepF b u e f), fun b u e => k b _ e _ (x.keepT b u e), fun b u z e => k b _ e _ (x.keepZ b u z e)⟩, fun b u e n' => k b u e _ (x.keep b u e n'),
    fun b u e => by
      obtain ⟨u', e'⟩ := x.live b u e
      exact ⟨u', k b u e _ e'⟩, x.fnew, x.rnew⟩
theorem keeps_upd {o : HO} {vs : List V} (f : ¬ F a) (e : H a = some (.lst vs)) : Keeps F ρ H F ρ (upd H a o) := by
  refine ⟨fun _ h => h, ⟨[], by simp⟩, fun b u h f' => ?_, fun b u h => ?_, fun b u z h => ?_⟩
  · rw [upd_ne (show b ≠ a from fun z => f (z ▸ f'))]
    exact h
  · rw [upd_ne (fun z => by rw [z, e] at h; cases h)]
    exact h
  · rw [upd_ne (fun z => by rw [z, e] at h; cases h)]
    exact h
/-- a list that the frame does not know of is changed -/
theorem Rel.upd_hid {o : HO} {vs : List V} (r : Rel P w K CA H0 F ρ env st σ H) (f : ¬ F a) (n : a ∉ ρ) (e : H a = some (.lst vs)) (own : ∀ (i : Nat) d, env[i]? = some (some (.own d)) → σ[i]? ≠ some (some (.ref a))) : Rel P w K CA H0 F ρ env st σ (upd H a o) := by
  have k := keeps_upd (ρ := ρ) (o := o) f e
  refine ⟨⟨r.len, r.nd, r.dis, fun b hb => ?_, fun i o' b e1 e2 => (r.obj i o' b e1 e2).mono k (upd_ne fun z => n (z ▸ List.mem_of_getElem? e2))⟩, r.elen, fun b u h => ?_, fun i d h => ?_, fun i d h => ?_, r.inj⟩
  · obtain ⟨u, e'⟩ := r.fin b hb
    exact ⟨u, by rw [upd_ne (show b ≠ a from fun z => f (z ▸ hb))]; exact e'⟩
  · obtain ⟨u', e'⟩ := r.old b u h
    by_cases z : b = a
    · subst z
      exact ⟨o, upd_same⟩
    · exact ⟨u', by rw [upd_ne z]; exact e'⟩
  · obtain ⟨v, e1, q⟩ := r.val i d h
    exact ⟨v, e1, q.mono k⟩
  · obtain ⟨b, e1, q1, q2, q3, q4⟩ := r.own i d h
    exact ⟨b, e1, q1, q2, q3, q4.mono k (upd_ne fun z => own i d h (z ▸ e1))⟩
end
/-- a heap in which an address is not told of -/
def hid (H : Hp) (a : Addr) : Hp := fun b => if b = a then none else H b
theorem hid_same {H : Hp} {a : Addr} : hid H a a = none := if_pos rfl
theorem hid_ne {H : Hp} {a b : Addr} (h : b ≠ a) : hid H a b = H b := if_neg h
section
variable {P : Program} {w : World} {K : PySem.W.Frag} {CA : Nat → Option Addr}
variable {F F' F'' : Addr → Prop} {ρ ρ' ρ'' : List Addr} {H H0 H1 H' H'' Hs : Hp} {v x y : V} {d e : D} {vs : List V} {ds : List D} {env env' : En} {st st' : Store} {σ σ' : L2.St} {a p : Addr} {W : WX}
theorem Ext.hid_new (x : Ext F ρ H F' ρ' H') (n : H a = none) : Ext F ρ H F' ρ' (hid H' a) := by
  have k : ∀ b u, H b = some u → ∀ z, H' b = z → hid H' a b = z := fun b u e z hz => by
    rw [hid_ne (ne_of_none e n)]
    exact hz
  exact ⟨⟨x.f, x.r, fun b u e f => k b u e _ (x.keepF b u e f), fun b u e => k b _ e _ (x.keepT b u e), fun b u z e => k b _ e _ (x.keepZ b u z e)⟩, fun b u e n' => k b u e _ (x.keep b u e n'),
    fun b u e => by
      obtain ⟨u', e'⟩ := x.live b u e
      exact ⟨u', k b u e _ e'⟩, x.fnew, x.rnew⟩
theorem keeps_hid {vs : List V} (f : ¬ F a) (e : H a = some (.lst vs)) : Keeps F ρ H F ρ (hid H a) := by
  refine ⟨fun _ h => h, ⟨[], by simp⟩, fun b u h f' => ?_, fun b u h => ?_, fun b u z h => ?_⟩
  · rw [hid_ne (show b ≠ a from fun z => f (z ▸ f'))]
    exact h
  · rw [hid_ne (fun z => by rw [z, e] at h; cases h)]
    exact h
  · rw [hid_ne (fun z => by rw [z, e] at h; cases h)]
    exact h
theorem Rel.hide {vs : List V} (r : Rel P w K CA H0 F ρ env st σ H) (f : ¬ F a) (n : a ∉ ρ) (e : H a = some (.lst vs)) (z0 : H0 a = none) (own : ∀ (i : Nat) d, env[i]? = some (some (.own d)) → σ[i]? ≠ some (some (.ref a))) : Rel P w K CA H0 F ρ env st σ (hid H a) := by
  have k := keeps_hid (ρ := ρ) f e
  refine ⟨⟨r.len, r.nd, r.dis, fun b hb => ?_, fun i o' b e1 e2 => (r.obj i o' b e1 e2).mono k (hid_ne fun z => n (z ▸ List.mem_of_getElem? e2))⟩, r.elen, fun b u h => ?_, fun i d h => ?_, fun i d h => ?_, r.inj⟩
  · obtain ⟨u, e'⟩ := r.fin b hb
    exact ⟨u, by rw [hid_ne (show b ≠ a from fun z => f (z ▸ hb))]; exact e'⟩
  · obtain ⟨u', e'⟩ := r.old b u h
    exact ⟨u', by rw [hid_ne (ne_of_none h z0)]; exact e'⟩
  · obtain ⟨v, e1, q⟩ := r.val i d h
    exact ⟨v, e1, q.mono k⟩
  · obtain ⟨b, e1, q1, q2, q3, q4⟩ := r.own i d h
    exact ⟨b, e1, q1, q2, q3, q4.mono k (hid_ne fun z => own i d h (z ▸ e1))⟩
theorem Ext.of_hid (x : Ext F ρ H F' ρ' H') : Ext F ρ (hid H a) F' ρ' H' := by
  have k : ∀ b u, hid H a b = some u → H b = some u := fun b u e => by
    unfold hid at e
    split at e
    · cases e
    · exact e
  refine ⟨⟨x.f, x.r, fun b u e f => x.keepF b u (k b u e) f, fun b u e => x.keepT b u (k b _ e), fun b u z e => x.keepZ b u z (k b _ e)⟩, fun b u e n => x.keep b u (k b u e) n, fun b u e => x.live b u (k b u e), fun b h => ?_, fun b h => ?_⟩
  · rcases x.fnew b h with z | z
    · exact .inl z
    · refine .inr ?_
      unfold hid
      split
      · rfl
      · exact z
  · rcases x.rnew b h with z | z
    · exact .inl z
    · refine .inr ?_
      unfold hid
      split
      · rfl
      · exact z
theorem lc_noExc {t : Tg} {is : List Nat} {ct : En → Store → R (Bool × Store)} {ce : En → Store → R (D × Store)} {x : Ex} {s : Store} : ∀ (l : List D) (z : Store), lcLoop (lcBody t is ct ce env) l z ≠ .exc x s := by
  intro l
  induction l with
  | nil => intro z e; cases e
  | cons d l ih =>
    intro z e
    rw [lcLoop] at e
    cases ef : lcBody t is ct ce env d z with
    | err => rw [ef] at e; cases e
    | exc y u =>
      unfold lcBody at ef
      split at ef
      · cases ef
      · rename_i env2 _
        cases e1 : ct env2 z with
        | err => rw [e1] at ef; cases ef
        | exc y u => rw [e1] at ef; cases ef
        | ok p =>
          rw [e1] at ef
          simp only [R.noExc, R.bind_ok] at ef
          split at ef
          · cases e2 : ce env2 p.2 with
            | err => rw [e2] at ef; cases ef
            | exc y u => rw [e2] at ef; cases ef
            | ok p => rw [e2] at ef; cases ef
          · cases ef
    | ok p =>
      rw [ef, R.bind_ok] at e
      cases e2 : lcLoop (lcBody t is ct ce env) l p.2 with
      | err => rw [e2] at e; cases e
      | exc y u =>
        rw [e2] at e
        cases e
        exact ih p.2 e2
      | ok q => rw [e2] at e; cases e
/-- the turns of a comprehension's clause: the new list at A has accD already; Hb: a heap that does not tell of A -/
theorem lc_turns {t : Tg} {is : List Nat} {ct : En → Store → R (Bool × Store)} {ce : En → Store → R (D × Store)} {J : It} {A : Addr} {Hb : Hp} {Fb F1 : Addr → Prop} {ρb ρ1 : List Addr} {stb st1 stE : Store} {acc : List V} {accD ys : List D} {Pst : Hp → Prop}
    (hsl : ∀ j ∈ t.slots, j ∈ is) (nb : Hb A = none) (rb : Rel P w K CA H0 Fb ρb env stb σ Hb) (x1 : Ext Fb ρb Hb F1 ρ1 H1) (r1 : StRel P w K CA F1 ρ1 st1 H1) (J1 : IterD P w K F1 ρ1 H1 J ds)
    (eD : H1 A = some (.lst acc)) (f1 : ¬ F1 A) (n1 : A ∉ ρ1) (ra : Reps P w K F1 ρ1 H1 acc accD) (el : lcLoop (lcBody t is ct ce env) ds st1 = .ok (ys, stE)) (hl : (accD ++ ys).length ≤ sizeLine)
    (fin : ∀ Hc F2 ρ2 acc2, Ext Fb ρb Hb F2 ρ2 Hc → StRel P w K CA F2 ρ2 stE Hc → Hc A = some (.lst acc2) → ¬ F2 A → A ∉ ρ2 → Reps P w K F2 ρ2 Hc acc2 (accD ++ ys) → Keeps F1 ρ1 H1 F2 ρ2 Hc → Pst Hc) :
    ∃ W : Nat → Nat → Hp → Prop, (∃ m, W 0 m H1) ∧ ∀ i m H, W i m H → (J.stop i H ∧ Pst H) ∨ (J.go i H ∧ ∃ Nx : Hp → Prop, (∀ H', Nx H' → ∃ m', m' < m ∧ W (i + 1) m' H') ∧
      ∀ x H', J.yld i H x H' → gD P w K CA t x (L2.wipe σ is) H' fun σ2 H2 => L2.wipe σ2 is = L2.wipe σ is ∧ tT P w K CA W0 ct σ2 H2 fun b H3 =>
        if b = true then tD P w K CA W0 .v ce σ2 H3 fun y H4 => ∃ acc, H4 A = some (.lst acc) ∧ acc.length < sizeLine ∧ Nx (upd H4 A (.lst (acc ++ [y]))) else Nx H3) := by
  refine ⟨fun i m Hc => m = ds.length - i ∧ i ≤ ds.length ∧ ∃ F2 ρ2 st2 acc2 accD2 rest, Ext Fb ρb Hb F2 ρ2 Hc ∧ Keeps F1 ρ1 H1 F2 ρ2 Hc ∧ StRel P w K CA F2 ρ2 st2 Hc ∧ Hc A = some (.lst acc2) ∧ ¬ F2 A ∧ A ∉ ρ2 ∧ Reps P w K F2 ρ2 Hc acc2 accD2 ∧
    lcLoop (lcBody t is ct ce env) (ds.drop i) st2 = .ok (rest, stE) ∧ accD2 ++ rest = accD ++ ys, ⟨ds.length, by simp, Nat.zero_le _, F1, ρ1, st1, acc, accD, ys, x1, Keeps.refl, r1, eD, f1, n1, ra, by simpa using el, rfl⟩, ?_⟩
  rintro i m Hc ⟨rfl, hi, F2, ρ2, st2, acc2, accD2, rest, x2, k2, s2, eD2, f2, n2, ra2, er, ey⟩
  by_cases hlt : i < ds.length
  · obtain ⟨d, hd⟩ : ∃ d, ds[i]? = some d := ⟨_, List.getElem?_eq_getElem hlt⟩
    have hdrop : ds.drop i = d :: ds.drop (i + 1) := by
      rw [List.drop_eq_getElem_cons hlt]
      rw [List.getElem?_eq_getElem hlt] at hd
      cases hd
      rfl
    rw [hdrop, lcLoop] at er
    refine .inr ⟨J1.go F2 ρ2 Hc i d k2 hd, fun H' => ∃ m', m' < ds.length - i ∧ (m' = ds.length - (i + 1) ∧ i + 1 ≤ ds.length ∧ ∃ F2 ρ2 st2 acc2 accD2 rest, Ext Fb ρb Hb F2 ρ2 H' ∧ Keeps F1 ρ1 H1 F2 ρ2 H' ∧ StRel P w K CA F2 ρ2 st2 H' ∧ H' A = some (.lst acc2) ∧ ¬ F2 A ∧ A ∉ ρ2 ∧ Reps P w K F2 ρ2 H' acc2 accD2 ∧
      lcLoop (lcBody t is ct ce env) (ds.drop (i + 1)) st2 = .ok (rest, stE) ∧ accD2 ++ rest = accD ++ ys), fun H' h => h, fun x H'' y => ?_⟩
    have r2 : Rel P w K CA H0 F2 ρ2 env st2 σ Hc := rb.env_ext x2 s2
    have yl := J1.yld F2 ρ2 Hc i d x H'' k2 hd y
    obtain ⟨x3, r3, q3⟩ : Ext F2 ρ2 Hc F2 ρ2 H'' ∧ Rel P w K CA H0 F2 ρ2 env st2 σ H'' ∧ Rep P w K F2 ρ2 H'' x d := by
      rcases yl with ⟨rfl, yl⟩ | ⟨T, vs, es, oT, rfl, rfl, nT, rfl, oc, od, yl, zl⟩
      · exact ⟨Ext.refl, r2, yl⟩
      · exact ⟨ext_new nT, r2.new nT, .tup (.inl ⟨oT, upd_same, oc, od⟩) (yl.mono (ext_new nT).toKeeps) zl⟩
    have eD3 : H'' A = some (.lst acc2) := x3.keep A _ eD2 n2
    cases ef : lcBody t is ct ce env d st2 with
    | err => rw [ef] at er; cases er
    | exc y u => rw [ef] at er; cases er
    | ok po =>
      rw [ef, R.bind_ok] at er
      cases el2 : lcLoop (lcBody t is ct ce env) (ds.drop (i + 1)) po.2 with
      | err => rw [el2] at er; cases er
      | exc y u => rw [el2] at er; cases er
      | ok qo =>
        rw [el2, R.bind_ok] at er
        injection er with er
        injection er with er1 er2
        obtain ⟨rest2, stE2⟩ := qo
        have er2' : stE2 = stE := er2
        subst er2'
        unfold lcBody at ef
        split at ef
        · cases ef
        · rename_i env2 hput
          have r3w := r3.wipe is
          refine ⟨H0, F2, ρ2, wipeE env is, st2, d, env2, r3w, q3, hput, fun σ2 r4 l4 hj4 => ?_⟩
          have hw : L2.wipe σ2 is = L2.wipe σ is := by
            have e1 : L2.wipe σ2 is = L2.wipe (L2.wipe σ is) is := wipe_eq l4 fun j hj => hj4 j fun h => hj (hsl j h)
            rw [e1]
            exact wipe_eq (wipe_length _ _) fun j hj => by rw [wipe_get, if_neg hj]
          refine ⟨hw, ?_⟩
          cases e1 : (ct env2 st2).noExc with
          | err => rw [e1] at ef; cases ef
          | exc y u => rw [e1] at ef; cases ef
          | ok pb =>
            rw [e1, R.bind_ok] at ef
            refine ⟨H0, F2, ρ2, env2, st2, r4, After.noExc e1 fun b H3 F3 ρ3 x5 r5 k5 => ?_⟩
            have k5' : b = pb.1 := k5
            subst k5'
            have nF : ∀ {Hx : Hp} {Fx : Addr → Prop} {ρx : List Addr}, Ext F2 ρ2 H'' Fx ρx Hx → ¬ Fx A ∧ A ∉ ρx ∧ Hx A = some (.lst acc2) := fun x => by
              refine ⟨fun z => ?_, fun z => ?_, x.keep A _ eD3 n2⟩
              · rcases x.fnew A z with z | z
                · exact f2 z
                · rw [eD3] at z
                  cases z
              · rcases x.rnew A z with z | z
                · exact n2 z
                · rw [eD3] at z
                  cases z
            have ownA : ∀ {Hx : Hp} {Fx : Addr → Prop} {ρx : List Addr} {stx : Store}, Rel P w K CA H0 Fx ρx env stx σ Hx → ∀ (j : Nat) z, env[j]? = some (some (.own z)) → σ[j]? ≠ some (some (.ref A)) := fun r j z hz hσ => by
              obtain ⟨c, ec, _, _, _, qc⟩ := rb.own j z hz
              rw [hσ] at ec
              cases ec
              obtain ⟨o, eo⟩ := qc.some
              rw [nb] at eo
              cases eo
            cases hb : pb.1 with
            | true =>
              rw [if_pos hb] at ef
              rw [if_pos rfl]
              cases e2 : (ce env2 pb.2).noExc with
              | err => rw [e2] at ef; cases ef
              | exc y u => rw [e2] at ef; cases ef
              | ok pc =>
                rw [e2, R.bind_ok] at ef
                injection ef with ef
                subst ef
                refine ⟨H0, F3, ρ3, env2, pb.2, r5, After.noExc e2 fun z H4 F4 ρ4 x6 r6 k6 => ?_⟩
                have x7 := x5.trans x6
                obtain ⟨f7, n7, e7⟩ := nF x7
                have k6' : Rep P w K F4 ρ4 H4 z pc.1 := k6
                have ra7 : Reps P w K F4 ρ4 H4 acc2 accD2 := ra2.mono (x3.trans x7).toKeeps
                have hal : acc2.length < sizeLine := by
                  have h1 := ra2.length
                  have h2 : (accD2 ++ rest).length = (accD ++ ys).length := by rw [ey]
                  rw [List.length_append, ← er1] at h2
                  simp only [List.length_cons] at h2
                  omega
                have back : Rel P w K CA H0 F4 ρ4 env pc.2 σ H4 := r3.env_ext x7 r6.toStRel
                refine ⟨acc2, e7, hal, ds.length - (i + 1), by omega, rfl, hlt, F4, ρ4, pc.2, acc2 ++ [z], accD2 ++ [pc.1], rest2, ?_, ?_, ?_, upd_same, f7, n7, ?_, el2, ?_⟩
                · exact (x2.trans (x3.trans x7)).upd_new nb
                · exact (k2.trans (x3.trans x7).toKeeps).trans (keeps_upd f7 e7)
                · exact (back.upd_hid f7 n7 e7 (ownA back)).toStRel
                · exact (ra7.append (.cons k6' .nil)).mono (keeps_upd f7 e7)
                · rw [← ey, ← er1]
                  simp
            | false =>
              rw [if_neg (by rw [hb]; decide)] at ef
              rw [if_neg (by decide)]
              injection ef with ef
              subst ef
              obtain ⟨f7, n7, e7⟩ := nF x5
              have back : Rel P w K CA H0 F3 ρ3 env pb.2 σ H3 := r3.env_ext x5 r5.toStRel
              refine ⟨ds.length - (i + 1), by omega, rfl, hlt, F3, ρ3, pb.2, acc2, accD2, rest2, x2.trans (x3.trans x5), k2.trans (x3.trans x5).toKeeps, back.toStRel, e7, f7, n7, ra2.mono (x3.trans x5).toKeeps, el2, ?_⟩
              rw [← ey, ← er1]
  · have e : i = ds.length := by omega
    subst e
    rw [List.drop_length, lcLoop] at er
    cases er
    rw [List.append_nil] at ey
    subst ey
    exact .inl ⟨J1.stop F2 ρ2 Hc k2, fin Hc F2 ρ2 acc2 x2 s2 eD2 f2 n2 ra2 k2⟩
end
section
variable {X : Cx} {tg elt iter : Expr} {ifs : List Expr} {scope : Scope} {own : List (Str × Nat)} {CA : Nat → Option Addr} {W : WX} {pos : Pos} {fs : FL} {t : Tg} {ct : En → Store → R (Bool × Store)} {ce : En → Store → R (D × Store)}
theorem t_lc {σ : L2.St} {H : Hp} {Q : VK} {is : List Nat} (hsl : ∀ j ∈ t.slots, j ∈ is) (h : tD X.prog X.w X.K CA W .n (cLc fs t is ct ce) σ H Q) :
    tLc (tI X.prog X.w X.K CA W fs) (gD X.prog X.w X.K CA t) (tT X.prog X.w X.K CA W0 ct) (tD X.prog X.w X.K CA W0 .v ce) is σ H Q := by
  obtain ⟨H0, F, ρ, env, st, rel, q⟩ := h
  refine ⟨H0, F, ρ, env, st, rel, (After.bind (RK' := rkI X.prog X.w X.K) (rkD_ok .n) q).imp fun J H1 h => ?_⟩
  obtain ⟨F1, ρ1, ds, st1, x1, r1, J1, _, q1⟩ := h
  have J1' : IterD X.prog X.w X.K F1 ρ1 H1 J ds := J1
  intro A nA
  cases el : lcLoop (lcBody t is ct ce env) ds st1 with
  | err =>
    have q2 : After X.prog X.w X.K CA W (rkD X.prog X.w X.K .n) H0 F1 ρ1 env σ H1 Q ((lcLoop (lcBody t is ct ce env) ds st1).bind fun q => .ok (.lst q.1, q.2)) := q1
    rw [el] at q2
    exact q2.elim
  | exc x s => exact absurd el (lc_noExc _ _)
  | ok p =>
    obtain ⟨ys, stE⟩ := p
    have q2 : After X.prog X.w X.K CA W (rkD X.prog X.w X.K .n) H0 F1 ρ1 env σ H1 Q ((lcLoop (lcBody t is ct ce env) ds st1).bind fun q => .ok (.lst q.1, q.2)) := q1
    rw [el] at q2
    have hysl : ys.length ≤ sizeLine := Nat.le_trans (lcLoop_len el) J1'.len
    have hn := ext_new (F := F1) (ρ := ρ1) (o := .lst []) nA
    refine lc_turns (Pst := fun H => Q (.ref A) H) hsl nA r1 hn (r1.new nA).toStRel (rkI_ok.mono (Hs := H1) hn J1') upd_same (r1.notF nA) (r1.notρ nA) .nil el (by simpa using hysl) fun Hc F2 ρ2 acc2 x2 s2 e2 f2 n2 ra2 k2 => ?_
    exact q2 (.ref A) Hc F2 ρ2 x2 (r1.env_ext x2 s2) ⟨A, rfl, f2, n2, nA, .inl ⟨acc2, ys, rfl, e2, by simpa using ra2, hysl⟩⟩
end

theorem wipeE_some {env : En} {j : Nat} {z : Sl} : ∀ {is : List Nat}, (wipeE env is)[j]? = some (some z) → env[j]? = some (some z) ∧ j ∉ is
  | [], h => ⟨h, by simp⟩
  | i :: is, h => by
    unfold wipeE at h
    rw [List.getElem?_set] at h
    split at h
    · split at h <;> cases h
    · rename_i hj
      obtain ⟨h1, h2⟩ := wipeE_some h
      exact ⟨h1, by simp only [List.mem_cons, not_or]; exact ⟨fun e => hj e.symm, h2⟩⟩
mutual
theorem put_keep : ∀ {t : Tg} {d : D} {env env' : En}, t.put d env = some env' → ∀ j, j ∉ t.slots → env'[j]? = env[j]?
  | .nm i, d, env, env', h, j, hj => by
    rw [Tg.put] at h
    cases h
    rw [List.getElem?_set_ne]
    intro e
    exact hj (by rw [Tg.slots, e]; exact List.mem_cons_self)
  | .tp ts, d, env, env', h, j, hj => by
    cases d <;> simp only [Tg.put, reduceCtorEq] at h
    split at h
    · exact puts_keep h j (by rw [Tg.slots] at hj; exact hj)
    · cases h
theorem puts_keep : ∀ {ts : TgL} {ds : List D} {env env' : En}, ts.put ds env = some env' → ∀ j, j ∉ ts.slots → env'[j]? = env[j]?
  | .nil, [], env, env', h, j, hj => by rw [TgL.put] at h; cases h; rfl
  | .nil, _ :: _, env, env', h, j, hj => by simp [TgL.put] at h
  | .cons t ts, [], env, env', h, j, hj => by simp [TgL.put] at h
  | .cons t ts, d :: ds, env, env', h, j, hj => by
    rw [TgL.put] at h
    obtain ⟨env1, e1, e2⟩ := Option.bind_eq_some_iff.mp h
    rw [TgL.slots, List.mem_append, not_or] at hj
    rw [puts_keep e2 j hj.2, put_keep e1 j hj.1]
end
mutual
theorem put_val : ∀ {t : Tg} {d : D} {env env' : En}, t.put d env = some env' → ∀ j, j ∈ t.slots → ∀ z, env'[j]? ≠ some (some (.own z))
  | .nm i, d, env, env', h, j, hj, z => by
    rw [Tg.put] at h
    cases h
    rw [Tg.slots, List.mem_singleton] at hj
    subst hj
    rw [List.getElem?_set]
    simp only [if_pos]
    split <;> simp
  | .tp ts, d, env, env', h, j, hj, z => by
    cases d <;> simp only [Tg.put, reduceCtorEq] at h
    split at h
    · exact puts_val h j (by rw [Tg.slots] at hj; exact hj) z
    · cases h
theorem puts_val : ∀ {ts : TgL} {ds : List D} {env env' : En}, ts.put ds env = some env' → ∀ j, j ∈ ts.slots → ∀ z, env'[j]? ≠ some (some (.own z))
  | .nil, _, env, env', h, j, hj, z => by rw [TgL.slots] at hj; cases hj
  | .cons t ts, [], env, env', h, j, hj, z => by simp [TgL.put] at h
  | .cons t ts, d :: ds, env, env', h, j, hj, z => by
    rw [TgL.put] at h
    obtain ⟨env1, e1, e2⟩ := Option.bind_eq_some_iff.mp h
    by_cases hs : j ∈ ts.slots
    · exact puts_val e2 j hs z
    · rw [puts_keep e2 j hs]
      rw [TgL.slots, List.mem_append] at hj
      exact put_val e1 j (hj.resolve_right hs) z
end

/-! ### two clauses -/
def lc2Body (t : Tg) (is : List Nat) (ct : En → Store → R (Bool × Store)) (fs1 : FL) (t1 : Tg) (is1 : List Nat) (ct1 : En → Store → R (Bool × Store)) (ce : En → Store → R (D × Store)) (env : En) (d : D) (st : Store) : R (List D × Store) := match t.put d (wipeE env is) with
  | none => .err
  | some env2 => (ct env2 st).noExc.bind fun p => if p.1 = true then (fs1 env2 p.2).noExc.bind fun q => lcLoop (lcBody t1 is1 ct1 ce env2) q.1 q.2 else .ok ([], p.2)
def lc2Loop (f : D → Store → R (List D × Store)) : List D → Store → R (List D × Store)
  | [], st => .ok ([], st)
  | d :: ds, st => (f d st).bind fun p => (lc2Loop f ds p.2).bind fun q => .ok (p.1 ++ q.1, q.2)
def cLc2 (fs : FL) (t : Tg) (is : List Nat) (ct : En → Store → R (Bool × Store)) (fs1 : FL) (t1 : Tg) (is1 : List Nat) (ct1 : En → Store → R (Bool × Store)) (ce : En → Store → R (D × Store)) : En → Store → R (D × Store) := fun env st =>
  (fs env st).bind fun p => (lc2Loop (lc2Body t is ct fs1 t1 is1 ct1 ce env) p.1 p.2).bind fun q => if q.1.length ≤ sizeLine then .ok (.lst q.1, q.2) else .err
theorem noExc_exc {α : Type} {m : R α} {x : Ex} {s : Store} : m.noExc ≠ .exc x s := by
  cases m <;> simp [R.noExc]
theorem lc2_noExc {t t1 : Tg} {is is1 : List Nat} {ct ct1 : En → Store → R (Bool × Store)} {fs1 : FL} {ce : En → Store → R (D × Store)} {env : En} {x : Ex} {s : Store} : ∀ (l : List D) (z : Store), lc2Loop (lc2Body t is ct fs1 t1 is1 ct1 ce env) l z ≠ .exc x s := by
  intro l
  induction l with
  | nil => intro z e; cases e
  | cons d l ih =>
    intro z e
    rw [lc2Loop] at e
    cases ef : lc2Body t is ct fs1 t1 is1 ct1 ce env d z with
    | err => rw [ef] at e; cases e
    | exc y u =>
      unfold lc2Body at ef
      split at ef
      · cases ef
      · rename_i env2 _
        cases e1 : (ct env2 z).noExc with
        | err => rw [e1] at ef; cases ef
        | exc y u => exact noExc_exc e1
        | ok p =>
          rw [e1, R.bind_ok] at ef
          split at ef
          · cases e2 : (fs1 env2 p.2).noExc with
            | err => rw [e2] at ef; cases ef
            | exc y u => exact noExc_exc e2
            | ok p =>
              rw [e2, R.bind_ok] at ef
              exact lc_noExc _ _ ef
          · cases ef
    | ok p =>
      rw [ef, R.bind_ok] at e
      cases e2 : lc2Loop (lc2Body t is ct fs1 t1 is1 ct1 ce env) l p.2 with
      | err => rw [e2] at e; cases e
      | exc y u =>
        rw [e2] at e
        cases e
        exact ih p.2 e2
      | ok q => rw [e2] at e; cases e
section
variable {P : Program} {w : World} {K : PySem.W.Frag} {CA : Nat → Option Addr}
variable {F F' F'' : Addr → Prop} {ρ ρ' ρ'' : List Addr} {H H0 H1 H' H'' Hs : Hp} {v x y : V} {d e : D} {vs : List V} {ds : List D} {env env' : En} {st st' : Store} {σ σ' : L2.St} {a p : Addr} {W : WX}
theorem lc2_turns {t t1 : Tg} {is is1 : List Nat} {ct ct1 : En → Store → R (Bool × Store)} {fs1 : FL} {ce : En → Store → R (D × Store)} {J : It} {A : Addr} {Hb : Hp} {Fb F1 : Addr → Prop} {ρb ρ1 : List Addr} {stb st1 stE : Store} {acc : List V} {accD ys : List D} {Pst : Hp → Prop}
    (hsl : ∀ j ∈ t.slots, j ∈ is) (hsl1 : ∀ j ∈ t1.slots, j ∈ is1) (nb : Hb A = none) (zb : H0 A = none) (rb : Rel P w K CA H0 Fb ρb env stb σ Hb) (x1 : Ext Fb ρb Hb F1 ρ1 H1) (r1 : StRel P w K CA F1 ρ1 st1 H1) (J1 : IterD P w K F1 ρ1 H1 J ds)
    (eD : H1 A = some (.lst acc)) (f1 : ¬ F1 A) (n1 : A ∉ ρ1) (ra : Reps P w K F1 ρ1 H1 acc accD) (el : lc2Loop (lc2Body t is ct fs1 t1 is1 ct1 ce env) ds st1 = .ok (ys, stE)) (hl : (accD ++ ys).length ≤ sizeLine)
    (fin : ∀ Hc F2 ρ2 acc2, Ext Fb ρb Hb F2 ρ2 Hc → StRel P w K CA F2 ρ2 stE Hc → Hc A = some (.lst acc2) → ¬ F2 A → A ∉ ρ2 → Reps P w K F2 ρ2 Hc acc2 (accD ++ ys) → Keeps F1 ρ1 H1 F2 ρ2 Hc → Pst Hc) :
    ∃ W : Nat → Nat → Hp → Prop, (∃ m, W 0 m H1) ∧ ∀ i m H, W i m H → (J.stop i H ∧ Pst H) ∨ (J.go i H ∧ ∃ Nx : Hp → Prop, (∀ H', Nx H' → ∃ m', m' < m ∧ W (i + 1) m' H') ∧
      ∀ x H', J.yld i H x H' → gD P w K CA t x (L2.wipe σ is) H' fun σ2 H2 => L2.wipe σ2 is = L2.wipe σ is ∧ tT P w K CA W0 ct σ2 H2 fun b H3 =>
        if b = true then tI P w K CA W0 fs1 σ2 H3 fun J1 H4 => ∃ W1 : Nat → Nat → Hp → Prop, (∃ m, W1 0 m H4) ∧ ∀ j k H, W1 j k H →
          (J1.stop j H ∧ Nx H) ∨ (J1.go j H ∧ ∃ Nx1 : Hp → Prop, (∀ H', Nx1 H' → ∃ k', k' < k ∧ W1 (j + 1) k' H') ∧ ∀ x H', J1.yld j H x H' → gD P w K CA t1 x (L2.wipe σ2 is1) H' fun σ3 H5 => L2.wipe σ3 is1 = L2.wipe σ2 is1 ∧ tT P w K CA W0 ct1 σ3 H5 fun b H6 =>
            if b = true then tD P w K CA W0 .v ce σ3 H6 fun y H7 => ∃ acc, H7 A = some (.lst acc) ∧ acc.length < sizeLine ∧ Nx1 (upd H7 A (.lst (acc ++ [y]))) else Nx1 H6)
        else Nx H3) := by
  refine ⟨fun i m Hc => m = ds.length - i ∧ i ≤ ds.length ∧ ∃ F2 ρ2 st2 acc2 accD2 rest, Ext Fb ρb Hb F2 ρ2 Hc ∧ Keeps F1 ρ1 H1 F2 ρ2 Hc ∧ StRel P w K CA F2 ρ2 st2 Hc ∧ Hc A = some (.lst acc2) ∧ ¬ F2 A ∧ A ∉ ρ2 ∧ Reps P w K F2 ρ2 Hc acc2 accD2 ∧
    lc2Loop (lc2Body t is ct fs1 t1 is1 ct1 ce env) (ds.drop i) st2 = .ok (rest, stE) ∧ accD2 ++ rest = accD ++ ys, ⟨ds.length, by simp, Nat.zero_le _, F1, ρ1, st1, acc, accD, ys, x1, Keeps.refl, r1, eD, f1, n1, ra, by simpa using el, rfl⟩, ?_⟩
  rintro i m Hc ⟨rfl, hi, F2, ρ2, st2, acc2, accD2, rest, x2, k2, s2, eD2, f2, n2, ra2, er, ey⟩
  by_cases hlt : i < ds.length
  · obtain ⟨d, hd⟩ : ∃ d, ds[i]? = some d := ⟨_, List.getElem?_eq_getElem hlt⟩
    have hdrop : ds.drop i = d :: ds.drop (i + 1) := by
      rw [List.drop_eq_getElem_cons hlt]
      rw [List.getElem?_eq_getElem hlt] at hd
      cases hd
      rfl
    rw [hdrop, lc2Loop] at er
    refine .inr ⟨J1.go F2 ρ2 Hc i d k2 hd, fun H' => ∃ m', m' < ds.length - i ∧ (m' = ds.length - (i + 1) ∧ i + 1 ≤ ds.length ∧ ∃ F2 ρ2 st2 acc2 accD2 rest, Ext Fb ρb Hb F2 ρ2 H' ∧ Keeps F1 ρ1 H1 F2 ρ2 H' ∧ StRel P w K CA F2 ρ2 st2 H' ∧ H' A = some (.lst acc2) ∧ ¬ F2 A ∧ A ∉ ρ2 ∧ Reps P w K F2 ρ2 H' acc2 accD2 ∧
      lc2Loop (lc2Body t is ct fs1 t1 is1 ct1 ce env) (ds.drop (i + 1)) st2 = .ok (rest, stE) ∧ accD2 ++ rest = accD ++ ys), fun H' h => h, fun x H'' y => ?_⟩
    have r2 : Rel P w K CA H0 F2 ρ2 env st2 σ Hc := rb.env_ext x2 s2
    have yl := J1.yld F2 ρ2 Hc i d x H'' k2 hd y
    obtain ⟨x3, r3, q3⟩ : Ext F2 ρ2 Hc F2 ρ2 H'' ∧ Rel P w K CA H0 F2 ρ2 env st2 σ H'' ∧ Rep P w K F2 ρ2 H'' x d := by
      rcases yl with ⟨rfl, yl⟩ | ⟨T, vs, es, oT, rfl, rfl, nT, rfl, oc, od, yl, zl⟩
      · exact ⟨Ext.refl, r2, yl⟩
      · exact ⟨ext_new nT, r2.new nT, .tup (.inl ⟨oT, upd_same, oc, od⟩) (yl.mono (ext_new nT).toKeeps) zl⟩
    have eD3 : H'' A = some (.lst acc2) := x3.keep A _ eD2 n2
    cases ef : lc2Body t is ct fs1 t1 is1 ct1 ce env d st2 with
    | err => rw [ef] at er; cases er
    | exc y u => rw [ef] at er; cases er
    | ok po =>
      rw [ef, R.bind_ok] at er
      cases el2 : lc2Loop (lc2Body t is ct fs1 t1 is1 ct1 ce env) (ds.drop (i + 1)) po.2 with
      | err => rw [el2] at er; cases er
      | exc y u => rw [el2] at er; cases er
      | ok qo =>
        rw [el2, R.bind_ok] at er
        injection er with er
        injection er with er1 er2
        obtain ⟨rest2, stE2⟩ := qo
        have er2' : stE2 = stE := er2
        subst er2'
        unfold lc2Body at ef
        split at ef
        · cases ef
        · rename_i env2 hput
          have r3w := r3.wipe is
          refine ⟨H0, F2, ρ2, wipeE env is, st2, d, env2, r3w, q3, hput, fun σ2 r4 l4 hj4 => ?_⟩
          have hw : L2.wipe σ2 is = L2.wipe σ is := by
            have e1 : L2.wipe σ2 is = L2.wipe (L2.wipe σ is) is := wipe_eq l4 fun j hj => hj4 j fun h => hj (hsl j h)
            rw [e1]
            exact wipe_eq (wipe_length _ _) fun j hj => by rw [wipe_get, if_neg hj]
          refine ⟨hw, ?_⟩
          cases e1 : (ct env2 st2).noExc with
          | err => rw [e1] at ef; cases ef
          | exc y u => rw [e1] at ef; cases ef
          | ok pb =>
            rw [e1, R.bind_ok] at ef
            refine ⟨H0, F2, ρ2, env2, st2, r4, After.noExc e1 fun b H3 F3 ρ3 x5 r5 k5 => ?_⟩
            have k5' : b = pb.1 := k5
            subst k5'
            have nF : ∀ {Hx : Hp} {Fx : Addr → Prop} {ρx : List Addr}, Ext F2 ρ2 H'' Fx ρx Hx → ¬ Fx A ∧ A ∉ ρx ∧ Hx A = some (.lst acc2) := fun x => by
              refine ⟨fun z => ?_, fun z => ?_, x.keep A _ eD3 n2⟩
              · rcases x.fnew A z with z | z
                · exact f2 z
                · rw [eD3] at z
                  cases z
              · rcases x.rnew A z with z | z
                · exact n2 z
                · rw [eD3] at z
                  cases z
            have ownA : ∀ (j : Nat) z, env[j]? = some (some (.own z)) → σ[j]? ≠ some (some (.ref A)) := fun j z hz hσ => by
              obtain ⟨c, ec, _, _, _, qc⟩ := rb.own j z hz
              rw [hσ] at ec
              cases ec
              obtain ⟨o, eo⟩ := qc.some
              rw [nb] at eo
              cases eo
            -- A is not among the block's own slots either
            have own2 : ∀ {Hx : Hp} {Fx : Addr → Prop} {ρx : List Addr} {stx : Store}, Rel P w K CA H0 Fx ρx env2 stx σ2 Hx → ∀ (j : Nat) z, env2[j]? = some (some (.own z)) → σ2[j]? ≠ some (some (.ref A)) := fun r j z hz hσ => by
              by_cases hj : j ∈ t.slots
              · exact absurd hz (put_val hput j hj z)
              · have e2 : env2[j]? = (wipeE env is)[j]? := put_keep hput j hj
                rw [e2] at hz
                rw [hj4 j hj] at hσ
                obtain ⟨hz', hji⟩ := wipeE_some hz
                obtain ⟨hσ', _⟩ := L2.wipe_some hσ
                exact ownA j z hz' hσ'
            cases hb : pb.1 with
            | true =>
              rw [if_pos hb] at ef
              rw [if_pos rfl]
              cases e2 : (fs1 env2 pb.2).noExc with
              | err => rw [e2] at ef; cases ef
              | exc y u => rw [e2] at ef; cases ef
              | ok pc =>
                rw [e2, R.bind_ok] at ef
                refine ⟨H0, F3, ρ3, env2, pb.2, r5, After.noExc e2 fun J4 H4 F4 ρ4 x6 r6 k6 => ?_⟩
                have x7 := x5.trans x6
                obtain ⟨f7, n7, e7⟩ := nF x7
                have k6' : IterD P w K F4 ρ4 H4 J4 pc.1 := k6
                have ra7 : Reps P w K F4 ρ4 H4 acc2 accD2 := ra2.mono (x3.trans x7).toKeeps
                have hel : (accD2 ++ (po.1 ++ rest2)).length ≤ sizeLine := by
                  rw [er1, ey]
                  exact hl
                have rh := r6.hide f7 n7 e7 zb (own2 r6)
                refine lc_turns (Hb := hid H4 A) (Fb := F4) (ρb := ρ4) (ys := po.1) (stE := po.2) hsl1 hid_same rh Ext.refl.of_hid r6.toStRel k6' e7 f7 n7 ra7 ef (by simp only [List.length_append] at hel ⊢; omega) fun Hd F5 ρ5 acc5 x8 s8 e8 f8 n8 ra8 k8 => ?_
                refine ⟨ds.length - (i + 1), by omega, rfl, hlt, F5, ρ5, po.2, acc5, accD2 ++ po.1, rest2, ?_, ?_, s8, e8, f8, n8, ra8, el2, ?_⟩
                · refine Ext.trans ((x2.trans (x3.trans x7)).hid_new nb) x8
                · exact (k2.trans (x3.trans x7).toKeeps).trans k8
                · rw [← ey, ← er1]
                  simp
            | false =>
              rw [if_neg (by rw [hb]; decide)] at ef
              rw [if_neg (by decide)]
              injection ef with ef
              subst ef
              obtain ⟨f7, n7, e7⟩ := nF x5
              have back : Rel P w K CA H0 F3 ρ3 env pb.2 σ H3 := r3.env_ext x5 r5.toStRel
              refine ⟨ds.length - (i + 1), by omega, rfl, hlt, F3, ρ3, pb.2, acc2, accD2, rest2, x2.trans (x3.trans x5), k2.trans (x3.trans x5).toKeeps, back.toStRel, e7, f7, n7, ra2.mono (x3.trans x5).toKeeps, el2, ?_⟩
              rw [← ey, ← er1]
              simp
  · have e : i = ds.length := by omega
    subst e
    rw [List.drop_length, lc2Loop] at er
    cases er
    rw [List.append_nil] at ey
    subst ey
    exact .inl ⟨J1.stop F2 ρ2 Hc k2, fin Hc F2 ρ2 acc2 x2 s2 eD2 f2 n2 ra2 k2⟩
end
section
variable {X : Cx} {tg elt iter tg1 iter1 : Expr} {ifs ifs1 : List Expr} {scope : Scope} {own : List (Str × Nat)} {CA : Nat → Option Addr} {W : WX} {pos : Pos} {fs fs1 : FL} {t t1 : Tg} {ct ct1 : En → Store → R (Bool × Store)} {ce : En → Store → R (D × Store)}
theorem t_lc2 {σ : L2.St} {H : Hp} {Q : VK} {is is1 : List Nat} (hsl : ∀ j ∈ t.slots, j ∈ is) (hsl1 : ∀ j ∈ t1.slots, j ∈ is1) (h : tD X.prog X.w X.K CA W .n (cLc2 fs t is ct fs1 t1 is1 ct1 ce) σ H Q) :
    tLc2 (tI X.prog X.w X.K CA W fs) (gD X.prog X.w X.K CA t) (tT X.prog X.w X.K CA W0 ct) (tI X.prog X.w X.K CA W0 fs1) (gD X.prog X.w X.K CA t1) (tT X.prog X.w X.K CA W0 ct1) (tD X.prog X.w X.K CA W0 .v ce) is is1 σ H Q := by
  obtain ⟨H0, F, ρ, env, st, rel, q⟩ := h
  refine ⟨H0, F, ρ, env, st, rel, (After.bind (RK' := rkI X.prog X.w X.K) (rkD_ok .n) q).imp fun J H1 h => ?_⟩
  obtain ⟨F1, ρ1, ds, st1, x1, r1, J1, _, q1⟩ := h
  have J1' : IterD X.prog X.w X.K F1 ρ1 H1 J ds := J1
  intro A nA
  have zA : H0 A = none := none_of_live r1.old nA
  cases el : lc2Loop (lc2Body t is ct fs1 t1 is1 ct1 ce env) ds st1 with
  | err =>
    have q2 : After X.prog X.w X.K CA W (rkD X.prog X.w X.K .n) H0 F1 ρ1 env σ H1 Q ((lc2Loop (lc2Body t is ct fs1 t1 is1 ct1 ce env) ds st1).bind fun q => if q.1.length ≤ sizeLine then .ok (.lst q.1, q.2) else .err) := q1
    rw [el] at q2
    exact q2.elim
  | exc x s => exact absurd el (lc2_noExc _ _)
  | ok p =>
    obtain ⟨ys, stE⟩ := p
    have q2 : After X.prog X.w X.K CA W (rkD X.prog X.w X.K .n) H0 F1 ρ1 env σ H1 Q ((lc2Loop (lc2Body t is ct fs1 t1 is1 ct1 ce env) ds st1).bind fun q => if q.1.length ≤ sizeLine then .ok (.lst q.1, q.2) else .err) := q1
    rw [el, R.bind_ok] at q2
    split at q2
    · rename_i hysl
      have hn := ext_new (F := F1) (ρ := ρ1) (o := .lst []) nA
      refine lc2_turns (Pst := fun H => Q (.ref A) H) hsl hsl1 nA zA r1 hn (r1.new nA).toStRel (rkI_ok.mono (Hs := H1) hn J1') upd_same (r1.notF nA) (r1.notρ nA) .nil el (by simpa using hysl) fun Hc F2 ρ2 acc2 x2 s2 e2 f2 n2 ra2 k2 => ?_
      exact q2 (.ref A) Hc F2 ρ2 x2 (r1.env_ext x2 s2) ⟨A, rfl, f2, n2, nA, .inl ⟨acc2, ys, rfl, e2, by simpa using ra2, hysl⟩⟩
    · exact q2.elim
end
end Sn

set_option Elab.async false
set_option linter.all false
set_option maxRecDepth 100000
/-! layer 13: statements -/
namespace Sn
open PySem PySem.Spec PyProof.Rows L2
inductive Fl where
  | nx | bk | ct
  | rt (d : D)
inductive RS where
  | ok (f : Fl) (env : En) (st : Store)
  | exc (x : Ex) (env : En) (st : Store)
  | err
abbrev CS := En → Store → RS
def R.bindS {α : Type} (m : R (α × Store)) (env : En) (f : α → Store → RS) : RS := match m with
  | .ok p => f p.1 p.2
  | .exc x st => .exc x env st
  | .err => .err
@[simp] theorem R.bindS_ok {α : Type} (p : α × Store) (env : En) (f : α → Store → RS) : (R.ok p).bindS env f = f p.1 p.2 := rfl
section
variable (P : Program) (w : World) (K : PySem.W.Frag) (CA : Nat → Option Addr)
def AfterS (W : WX) (D : Ends) (H0 : Hp) (F : Addr → Prop) (ρ : List Addr) (H : Hp) : RS → Prop
  | .ok .nx env st => ∀ σ' H' F' ρ', Step H0 F ρ H F' ρ' H' → Rel P w K CA H0 F' ρ' env st σ' H' → D.nx σ' H'
  | .ok .bk env st => ∀ σ' H' F' ρ', Step H0 F ρ H F' ρ' H' → Rel P w K CA H0 F' ρ' env st σ' H' → D.bk σ' H'
  | .ok .ct env st => ∀ σ' H' F' ρ', Step H0 F ρ H F' ρ' H' → Rel P w K CA H0 F' ρ' env st σ' H' → D.ct σ' H'
  | .ok (.rt d) env st => ∀ v H' F' ρ', Step H0 F ρ H F' ρ' H' → StRel P w K CA F' ρ' st H' → Rep P w K F' ρ' H' v d → D.rt v H'
  | .exc x env st => ∀ c dx σ' H' F' ρ', Step H0 F ρ H F' ρ' H' → Rel P w K CA H0 F' ρ' env st σ' H' → ExRep P w K CA F' ρ' H' c dx x → W c dx σ' H'
  | .err => False
def tS (W : WX) (f : CS) : TS := fun D σ H => ∃ H0 F ρ env st, Rel P w K CA H0 F ρ env st σ H ∧ AfterS P w K CA W D H0 F ρ H (f env st)
end
section
variable {P : Program} {w : World} {K : PySem.W.Frag} {CA : Nat → Option Addr}
variable {F F' F1 : Addr → Prop} {ρ ρ' ρ1 : List Addr} {H H0 H1 H' Hs : Hp} {v x y : V} {d e : D} {vs : List V} {ds : List D} {env env' : En} {st st' : Store} {σ σ' : L2.St} {a p : Addr} {W : WX} {D D' : Ends}
theorem AfterS.step {r : RS} (s : Step H0 F ρ H F1 ρ1 H1) (h : AfterS P w K CA W D H0 F ρ H r) : AfterS P w K CA W D H0 F1 ρ1 H1 r := by
  cases r with
  | ok f env st => cases f with
    | nx => exact fun σ' H' F' ρ' s' => h σ' H' F' ρ' (s.trans s')
    | bk => exact fun σ' H' F' ρ' s' => h σ' H' F' ρ' (s.trans s')
    | ct => exact fun σ' H' F' ρ' s' => h σ' H' F' ρ' (s.trans s')
    | rt d => exact fun σ' H' F' ρ' s' => h σ' H' F' ρ' (s.trans s')
  | exc x env st => exact fun c dx σ' H' F' ρ' s' => h c dx σ' H' F' ρ' (s.trans s')
  | err => exact h
/-- an expression ahead of what is left -/
theorem After.bindS {α β : Type} {RK' : RKT α β} (rel : Rel P w K CA H0 F ρ env st σ H) {m : R (α × Store)} {f : α → Store → RS} (h : AfterS P w K CA W D H0 F ρ H (m.bindS env f)) :
    After P w K CA W RK' H0 F ρ env σ H (fun v H1 => ∃ F1 ρ1 d st1, Ext F ρ H F1 ρ1 H1 ∧ Rel P w K CA H0 F1 ρ1 env st1 σ H1 ∧ RK' H F1 ρ1 H1 v d ∧ m = .ok (d, st1) ∧ AfterS P w K CA W D H0 F1 ρ1 H1 (f d st1)) m := by
  cases m with
  | err => exact h
  | exc x s => exact fun c dx H' F' ρ' x' r' k' => h c dx σ H' F' ρ' (x'.step rel.old) r' k'
  | ok p =>
    obtain ⟨d, st1⟩ := p
    intro v H1 F1 ρ1 x r k
    exact ⟨F1, ρ1, d, st1, x, r, k, rfl, AfterS.step (x.step rel.old) h⟩
theorem AfterS.nxt (h : AfterS P w K CA W D H0 F ρ H (.ok .nx env st)) (r : Rel P w K CA H0 F ρ env st σ H) : D.nx σ H := h σ H F ρ Step.refl r
end

section
variable {X : Cx} {CA : Nat → Option Addr} {W : WX} {ex a b c tg iter : Expr} {es : List Expr} {s : Stmt} {ss body orelse : List Stmt} {pos p p1 p2 : Pos} {f fa fb : En → Store → R (D × Store)} {g g' : CS} {ct : En → Store → R (Bool × Store)} {k : Kd} {t : Tg} {fs : FL}
theorem psI {t t' : TS} (h : PS X s t) (i : ∀ D σ H, t' D σ H → t D σ H) : PS X s t' := ⟨fun pins s σ H D I q => h.run pins s σ H D I (i D σ H q)⟩
theorem pssI {t t' : TS} (h : PSs X ss t) (i : ∀ D σ H, t' D σ H → t D σ H) : PSs X ss t' := ⟨fun pins s σ H D I q => h.run pins s σ H D I (i D σ H q)⟩
def sNx : CS := fun env st => .ok .nx env st
def sBk : CS := fun env st => .ok .bk env st
def sCt : CS := fun env st => .ok .ct env st
def sSeq (g g' : CS) : CS := fun env st => match g env st with
  | .ok .nx env' st' => g' env' st'
  | r => r
theorem u_nil : PSs X [] (tS X.prog X.w X.K CA W sNx) := pssI pss_nil fun D σ H ⟨H0, F, ρ, env, st, rel, q⟩ => q.nxt rel
theorem u_pass : PS X (.Pass pos) (tS X.prog X.w X.K CA W sNx) := psI ps_pass fun D σ H ⟨H0, F, ρ, env, st, rel, q⟩ => q.nxt rel
theorem u_break : PS X (.Break pos) (tS X.prog X.w X.K CA W sBk) := psI ps_break fun D σ H ⟨H0, F, ρ, env, st, rel, q⟩ => q σ H F ρ Step.refl rel
theorem u_cont : PS X (.Continue pos) (tS X.prog X.w X.K CA W sCt) := psI ps_continue fun D σ H ⟨H0, F, ρ, env, st, rel, q⟩ => q σ H F ρ Step.refl rel
theorem u_cons (h1 : PS X s (tS X.prog X.w X.K CA W g)) (h2 : PSs X ss (tS X.prog X.w X.K CA W g')) : PSs X (s :: ss) (tS X.prog X.w X.K CA W (sSeq g g')) := by
  refine pssI (pss_cons h1 h2) fun D σ H ⟨H0, F, ρ, env, st, rel, q⟩ => ?_
  refine ⟨H0, F, ρ, env, st, rel, ?_⟩
  unfold sSeq at q
  cases e : g env st with
  | err => rw [e] at q; exact q
  | exc x env' st' => rw [e] at q; exact q
  | ok fl env' st' =>
    rw [e] at q
    cases fl with
    | nx => exact fun σ' H' F' ρ' s' r' => ⟨H0, F', ρ', env', st', r', AfterS.step s' q⟩
    | bk => exact q
    | ct => exact q
    | rt d => exact q
def sRet (f : En → Store → R (D × Store)) : CS := fun env st => (f env st).bindS env fun d st => .ok (.rt d) env st
theorem u_ret (h : PE X ex (tD X.prog X.w X.K CA W .v f)) : PS X (.Return (some ex) pos) (tS X.prog X.w X.K CA W (sRet f)) := by
  refine psI (ps_ret h) fun D σ H ⟨H0, F, ρ, env, st, rel, q⟩ => ?_
  refine ⟨H0, F, ρ, env, st, rel, (After.bindS (RK' := rkD X.prog X.w X.K .v) rel q).imp fun v H1 ⟨F1, ρ1, d, st1, x, r1, k1, _, q1⟩ => ?_⟩
  exact q1 v H1 F1 ρ1 Step.refl r1.toStRel k1
def sRetN : CS := fun env st => .ok (.rt .non) env st
theorem u_retN : PS X (.Return none pos) (tS X.prog X.w X.K CA W sRetN) := psI ps_retN fun D σ H ⟨H0, F, ρ, env, st, rel, q⟩ => q .non H F ρ Step.refl rel.toStRel .non
def sExpr (f : En → Store → R (D × Store)) : CS := fun env st => (f env st).bindS env fun _ st => .ok .nx env st
theorem u_expr (h : PE X ex (tD X.prog X.w X.K CA W k f)) (hs : swapsWith ex none pos.line X.env = pure false) : PS X (.Expr ex pos) (tS X.prog X.w X.K CA W (sExpr f)) := by
  refine psI (ps_expr h hs) fun D σ H ⟨H0, F, ρ, env, st, rel, q⟩ => ?_
  refine ⟨H0, F, ρ, env, st, rel, (After.bindS (RK' := rkD X.prog X.w X.K k) rel q).imp fun v H1 ⟨F1, ρ1, d, st1, x, r1, k1, _, q1⟩ => ?_⟩
  exact q1.nxt r1
def sIf (ct : En → Store → R (Bool × Store)) (g g' : CS) : CS := fun env st => (ct env st).bindS env fun b st => if b = true then g env st else g' env st
theorem u_if (hc : PT X c (tT X.prog X.w X.K CA W ct)) (ha : PSs X body (tS X.prog X.w X.K CA W g)) (hb : PSs X orelse (tS X.prog X.w X.K CA W g')) : PS X (.If c body orelse pos) (tS X.prog X.w X.K CA W (sIf ct g g')) := by
  refine psI (ps_if hc ha hb) fun D σ H ⟨H0, F, ρ, env, st, rel, q⟩ => ?_
  refine ⟨H0, F, ρ, env, st, rel, (After.bindS (RK' := rkB) rel q).imp fun v H1 ⟨F1, ρ1, d, st1, x, r1, k1, _, q1⟩ => ?_⟩
  have k1' : v = d := k1
  subst k1'
  cases v with
  | true => exact ⟨H0, F1, ρ1, env, st1, r1, q1⟩
  | false => exact ⟨H0, F1, ρ1, env, st1, r1, q1⟩
/-! ### targets -/
def sAsg (t : Tg) (f : En → Store → R (D × Store)) : CS := fun env st => (f env st).bindS env fun d st => match t.put d env with
  | some env' => .ok .nx env' st
  | none => .err
theorem t_asg {D : Ends} {σ : L2.St} {H : Hp} (h : tS X.prog X.w X.K CA W (sAsg t f) D σ H) : tAsg (tD X.prog X.w X.K CA W .v f) (gD X.prog X.w X.K CA t) D σ H := by
  obtain ⟨H0, F, ρ, env, st, rel, q⟩ := h
  refine ⟨H0, F, ρ, env, st, rel, (After.bindS (RK' := rkD X.prog X.w X.K .v) rel q).imp fun v H1 ⟨F1, ρ1, d, st1, x, r1, k1, _, q1⟩ => ?_⟩
  cases e : t.put d env with
  | none => rw [e] at q1; exact q1.elim
  | some env' =>
    rw [e] at q1
    exact ⟨H0, F1, ρ1, env, st1, d, env', r1, k1, e, fun σ' r' _ _ => q1 σ' H1 F1 ρ1 Step.refl r'⟩
theorem u_asg (he : PE X ex (tD X.prog X.w X.K CA W .v f)) (hg : PG X tg (gD X.prog X.w X.K CA t)) (hs : swapsWithSole [tg] ex pos.line X.env = pure false) (hw : swappedStores [tg] ex X.env = pure none)
    (h1 : (assignEach [tg] X.env).map (·.2) = [assign tg X.env]) : PS X (.Assign [tg] ex pos) (tS X.prog X.w X.K CA W (sAsg t f)) :=
  psI (ps_asg he hg hs hw h1) fun _ _ _ h => t_asg h
end

/-! ### own slots -/
section
variable {P : Program} {w : World} {K : PySem.W.Frag} {CA : Nat → Option Addr}
variable {F F' F1 : Addr → Prop} {ρ ρ' ρ1 : List Addr} {H H0 H1 H' Hs : Hp} {v x y : V} {d e : D} {vs : List V} {ds : List D} {env env' : En} {st st' : Store} {σ σ' : L2.St} {a p : Addr} {W : WX} {i : Nat}
theorem Rel.seto (r : Rel P w K CA H0 F ρ env st σ H) (f : ¬ F a) (n : a ∉ ρ) (z : H0 a = none) (c : RepC P w K F ρ H a d) (fr : ∀ (j : Nat) e, env[j]? = some (some (.own e)) → σ[j]? ≠ some (some (.ref a))) :
    Rel P w K CA H0 F ρ (env.set i (some (.own d))) st (σ.set i (some (.ref a))) H := by
  refine ⟨r.toStRel, by simp [r.elen], r.old, fun j e h => ?_, fun j e h => ?_, fun j k e f' b h1 h2 h3 h4 => ?_⟩
  · rw [List.getElem?_set] at h ⊢
    split at h
    · split at h <;> cases h
    · rename_i hj
      rw [if_neg hj]
      exact r.val j e h
  · rw [List.getElem?_set] at h ⊢
    split at h
    · rename_i hj
      rw [if_pos hj]
      split at h
      · rename_i hl
        rw [if_pos (by rw [← r.elen]; exact hl)]
        cases h
        exact ⟨a, rfl, f, n, z, c⟩
      · cases h
    · rename_i hj
      rw [if_neg hj]
      exact r.own j e h
  · rw [List.getElem?_set] at h1 h2 h3 h4
    by_cases n1 : i = j
    · by_cases n2 : i = k
      · exact n1.symm.trans n2
      · rw [if_neg n2] at h2 h4
        rw [if_pos n1] at h3
        split at h3
        · cases h3
          exact absurd h4 (fr k f' h2)
        · cases h3
    · rw [if_neg n1] at h1 h3
      by_cases n2 : i = k
      · rw [if_pos n2] at h4
        split at h4
        · cases h4
          exact absurd h3 (fr j e h1)
        · cases h4
      · rw [if_neg n2] at h2 h4
        exact r.inj j k e f' b h1 h2 h3 h4
/-- an own slot is never at a free place -/
theorem Rel.own_ne (r : Rel P w K CA H0 F ρ env st σ H) (n : H a = none) : ∀ (j : Nat) e, env[j]? = some (some (.own e)) → σ[j]? ≠ some (some (.ref a)) := fun j e h1 h2 => by
  obtain ⟨b, e1, _, _, _, c⟩ := r.own j e h1
  rw [h2] at e1
  cases e1
  obtain ⟨o, eo⟩ := c.some
  rw [n] at eo
  cases eo
/-- an own list is changed -/
theorem Rel.updo (r : Rel P w K CA H0 F ρ env st σ H) (hi : env[i]? = some (some (.own e))) (hs : σ[i]? = some (some (.ref a))) (l : H a = some (.lst vs)) {vs' : List V} {ds' : List D} (q : Reps P w K F ρ H vs' ds') (hz : ds'.length ≤ sizeLine) :
    Step H0 F ρ H F ρ (upd H a (.lst vs')) ∧ Rel P w K CA H0 F ρ (env.set i (some (.own (.lst ds')))) st σ (upd H a (.lst vs')) := by
  obtain ⟨b, e1, f, n, z, c⟩ := r.own i e hi
  rw [hs] at e1
  cases e1
  have k := keeps_upd (ρ := ρ) (o := .lst vs') f l
  refine ⟨⟨k, fun b o h _ h0 => ?_, fun b o h => ?_, fun _ h => .inl h, fun _ h => .inl h⟩, ⟨⟨r.len, r.nd, r.dis, fun b hb => ?_, fun j o' b e1 e2 => (r.obj j o' b e1 e2).mono k (upd_ne fun y => n (y ▸ List.mem_of_getElem? e2))⟩, by simp [r.elen], fun b u h => ?_, fun j d h => ?_, fun j d h => ?_, fun j k d e b h1 h2 h3 h4 => ?_⟩⟩
  · rw [upd_ne (show b ≠ a from fun y => h0 (y ▸ z))]
    exact h
  · by_cases y : b = a
    · exact ⟨_, by rw [y]; exact upd_same⟩
    · exact ⟨o, by rw [upd_ne y]; exact h⟩
  · obtain ⟨u, e'⟩ := r.fin b hb
    exact ⟨u, by rw [upd_ne (show b ≠ a from fun y => f (y ▸ hb))]; exact e'⟩
  · obtain ⟨u', e'⟩ := r.old b u h
    exact ⟨u', by rw [upd_ne (ne_of_none h z)]; exact e'⟩
  · rw [List.getElem?_set] at h
    split at h
    · split at h <;> cases h
    · obtain ⟨v, e1, q⟩ := r.val j d h
      exact ⟨v, e1, q.mono k⟩
  · rw [List.getElem?_set] at h
    split at h
    · rename_i hj
      subst hj
      split at h
      · cases h
        exact ⟨a, hs, f, n, z, .inl ⟨vs', ds', rfl, upd_same, q.mono k, hz⟩⟩
      · cases h
    · rename_i hj
      obtain ⟨b, e1, q1, q2, q3, q4⟩ := r.own j d h
      exact ⟨b, e1, q1, q2, q3, q4.mono k (upd_ne fun y => hj (r.inj i j _ _ a hi h hs (y ▸ e1)))⟩
  · have g : ∀ {j : Nat} {d : D}, (env.set i (some (.own (.lst ds'))))[j]? = some (some (.own d)) → ∃ d', env[j]? = some (some (.own d')) := fun {j d} h => by
      rw [List.getElem?_set] at h
      split at h
      · rename_i hj
        subst hj
        exact ⟨_, hi⟩
      · exact ⟨_, h⟩
    obtain ⟨d1, h1⟩ := g h1
    obtain ⟨d2, h2⟩ := g h2
    exact r.inj j k d1 d2 b h1 h2 h3 h4
/-- a list of the store is changed -/
theorem Rel.updS (r : Rel P w K CA H0 F ρ env st σ H) {n : Nat} {o : O} {o' : HO} (hn : ρ[n]? = some a) (hl : ∃ xs, H a = some (.lst xs)) (c : ∀ Hx, Keeps F ρ H F ρ Hx → Hx a = some o' → RepO P w K CA F ρ Hx a o) :
    Step H0 F ρ H F ρ (upd H a o') ∧ Rel P w K CA H0 F ρ env (st.set n o) σ (upd H a o') := by
  obtain ⟨xs, l⟩ := hl
  have m : a ∈ ρ := List.mem_of_getElem? hn
  have f := r.dis a m
  have k := keeps_upd (ρ := ρ) (o := o') f l
  refine ⟨⟨k, fun b u h nb _ => ?_, fun b u h => ?_, fun _ h => .inl h, fun _ h => .inl h⟩, ⟨⟨by simp [r.len], r.nd, r.dis, fun b hb => ?_, fun j u b e1 e2 => ?_⟩, r.elen, fun b u h => ?_, fun j d h => ?_, fun j d h => ?_, r.inj⟩⟩
  · rw [upd_ne (show b ≠ a from fun y => nb (y ▸ m))]
    exact h
  · by_cases y : b = a
    · exact ⟨_, by rw [y]; exact upd_same⟩
    · exact ⟨u, by rw [upd_ne y]; exact h⟩
  · obtain ⟨u, e'⟩ := r.fin b hb
    exact ⟨u, by rw [upd_ne (show b ≠ a from fun y => f (y ▸ hb))]; exact e'⟩
  · rw [List.getElem?_set] at e1
    split at e1
    · rename_i hj
      subst hj
      rw [hn] at e2
      cases e2
      split at e1
      · cases e1
        exact c _ k upd_same
      · cases e1
    · rename_i hj
      refine (r.obj j u b e1 e2).mono k (upd_ne fun y => hj ?_)
      subst y
      have h1 := (List.getElem?_eq_some_iff.mp hn)
      have h2 := (List.getElem?_eq_some_iff.mp e2)
      obtain ⟨l1, g1⟩ := h1
      obtain ⟨l2, g2⟩ := h2
      exact (List.getElem_inj r.nd).mp (g1.trans g2.symm)
  · obtain ⟨u', e'⟩ := r.old b u h
    by_cases y : b = a
    · exact ⟨_, by rw [y]; exact upd_same⟩
    · exact ⟨u', by rw [upd_ne y]; exact e'⟩
  · obtain ⟨v, e1, q⟩ := r.val j d h
    exact ⟨v, e1, q.mono k⟩
  · obtain ⟨b, e1, q1, q2, q3, q4⟩ := r.own j d h
    exact ⟨b, e1, q1, q2, q3, q4.mono k (upd_ne fun y => q2 (y ▸ m))⟩
/-- an own list is given away: it is not changed any more -/
theorem Rel.give (r : Rel P w K CA H0 F ρ env st σ H) (hi : env[i]? = some (some (.own d))) :
    ∃ F', Step H0 F ρ H F' ρ H ∧ Rel P w K CA H0 F' ρ (env.set i (some (.val d))) st σ H := by
  obtain ⟨a, e1, f, n, z, c⟩ := r.own i d hi
  have k : Keeps F ρ H (fun b => F b ∨ b = a) ρ H := ⟨fun b h => .inl h, ⟨[], by simp⟩, fun _ _ h _ => h, fun _ _ h => h, fun _ _ _ h => h⟩
  refine ⟨fun b => F b ∨ b = a, ⟨k, fun _ _ h _ _ => h, fun _ _ h => ⟨_, h⟩, fun b h => h.elim .inl fun y => .inr (y ▸ z), fun _ h => .inl h⟩, ⟨⟨r.len, r.nd, fun b m h => h.elim (r.dis b m) fun y => n (y ▸ m), fun b h => h.elim (r.fin b) fun y => y ▸ c.some, fun j o b e1 e2 => (r.obj j o b e1 e2).mono k rfl⟩, by simp [r.elen], r.old, fun j e h => ?_, fun j e h => ?_, fun j l d' e' b h1 h2 h3 h4 => ?_⟩⟩
  · rw [List.getElem?_set] at h
    split at h
    · rename_i hj
      subst hj
      split at h
      · cases h
        exact ⟨_, e1, (c.mono k rfl).rep (.inr rfl)⟩
      · cases h
    · obtain ⟨v, e2, q⟩ := r.val j e h
      exact ⟨v, e2, q.mono k⟩
  · rw [List.getElem?_set] at h
    split at h
    · split at h <;> cases h
    · rename_i hj
      obtain ⟨b, e2, q1, q2, q3, q4⟩ := r.own j e h
      refine ⟨b, e2, fun h' => h'.elim q1 fun y => hj (r.inj i j _ _ a hi h e1 (y ▸ e2)), q2, q3, q4.mono k rfl⟩
  · have g : ∀ {j : Nat} {d' : D}, (env.set i (some (.val d)))[j]? = some (some (.own d')) → env[j]? = some (some (.own d')) := fun {j d'} h => by
      rw [List.getElem?_set] at h
      split at h
      · split at h <;> cases h
      · exact h
    exact r.inj j l _ _ b (g h1) (g h2) h3 h4
/-- a list is moved to the store -/
theorem Rel.put0 (r : Rel P w K CA H0 F ρ env st σ H) (x : Ext F' ρ' H' F ρ H) (f : ¬ F a) (n : a ∉ ρ) (zs : H' a = none) (fr : ∀ (j : Nat) e, env[j]? = some (some (.own e)) → σ[j]? ≠ some (some (.ref a))) (c : RepC P w K F ρ H a (.lst ds)) :
    Ext F' ρ' H' F (ρ ++ [a]) H ∧ Rel P w K CA H0 F (ρ ++ [a]) env (st ++ [.lst ds]) σ H := by
  have k : Keeps F ρ H F (ρ ++ [a]) H := ⟨fun _ h => h, ⟨[a], rfl⟩, fun _ _ h _ => h, fun _ _ h => h, fun _ _ _ h => h⟩
  have c' : RepO P w K CA F (ρ ++ [a]) H a (.lst ds) := by
    rcases c with ⟨vs, ds', e1, e2, r', z'⟩ | ⟨kvs, es, e1, e2, e3, r'⟩ | ⟨xs, ws, es, e1, e2, e3, q, l, r'⟩
    · cases e1
      exact ⟨vs, e2, r'.mono k, z'⟩
    · cases e1
    · cases e1
  refine ⟨⟨x.toKeeps.trans k, x.keep, x.live, x.fnew, fun b h => ?_⟩, ⟨⟨by simp [r.len], ?_, fun b m h => ?_, r.fin, fun j o b e1 e2 => ?_⟩, r.elen, r.old, fun j e h => ?_, fun j e h => ?_, r.inj⟩⟩
  · rcases List.mem_append.mp h with h | h
    · exact x.rnew b h
    · rw [List.mem_singleton] at h
      exact .inr (h ▸ zs)
  · rw [List.nodup_append]
    exact ⟨r.nd, by simp, fun b hb c hc => by
      rw [List.mem_singleton] at hc
      subst hc
      exact fun e => n (e ▸ hb)⟩
  · rcases List.mem_append.mp m with m | m
    · exact r.dis b m h
    · rw [List.mem_singleton] at m
      exact f (m ▸ h)
  · rw [List.getElem?_append] at e1 e2
    rw [r.len] at e2
    split at e1
    · rename_i hj
      rw [if_pos hj] at e2
      exact (r.obj j o b e1 e2).mono k rfl
    · rename_i hj
      rw [if_neg hj] at e2
      cases ej : j - st.length with
      | zero =>
        rw [ej] at e1 e2
        cases e1
        cases e2
        exact c'
      | succ m =>
        rw [ej] at e1
        simp at e1
  · obtain ⟨v, e1, q⟩ := r.val j e h
    exact ⟨v, e1, q.mono k⟩
  · obtain ⟨b, e1, q1, q2, q3, q4⟩ := r.own j e h
    refine ⟨b, e1, q1, fun h' => ?_, q3, q4.mono k rfl⟩
    rcases List.mem_append.mp h' with h' | h'
    · exact q2 h'
    · rw [List.mem_singleton] at h'
      exact fr j e h (h' ▸ e1)
end
end Sn

set_option Elab.async false
set_option linter.all false
set_option maxRecDepth 100000
/-! layer 14: statements that keep lists; loops -/
namespace Sn
open PySem PySem.Spec PyProof.Rows L2
def sOwn (i : Nat) (f : En → Store → R (D × Store)) : CS := fun env st => (f env st).bindS env fun d st => .ok .nx (env.set i (some (.own d))) st
def kEval : List (Kd × (En → Store → R (D × Store))) → En → Store → R (List (Kd × D) × Store)
  | [], env, st => .ok ([], st)
  | (k, f) :: fs, env, st => (f env st).bind fun p => (kEval fs env p.2).bind fun q => .ok ((k, p.1) :: q.1, q.2)
def slotOf : Kd → D → Sl
  | .n, d => .own d
  | _, d => .val d
def setK : List Nat → List (Kd × D) → En → En
  | [], _, env => env
  | _ :: _, [], env => env
  | i :: is, p :: ds, env => setK is ds (env.set i (some (slotOf p.1 p.2)))
def setV : List Nat → List V → L2.St → L2.St
  | [], _, σ => σ
  | _ :: _, [], σ => σ
  | i :: is, v :: vs, σ => setV is vs (σ.set i (some v))
section
variable (P : Program) (w : World) (K : PySem.W.Frag)
inductive RepK (Hs : Hp) (F : Addr → Prop) (ρ : List Addr) (H : Hp) : List V → List (Kd × D) → Prop
  | nil : RepK Hs F ρ H [] []
  | v {v : V} {d : D} {vs : List V} {ds : List (Kd × D)} : Rep P w K F ρ H v d → RepK Hs F ρ H vs ds → RepK Hs F ρ H (v :: vs) ((.v, d) :: ds)
  | n {a : Addr} {d : D} {vs : List V} {ds : List (Kd × D)} : ¬ F a → a ∉ ρ → Hs a = none → RepC P w K F ρ H a d → (∀ (j : Nat) d', ds[j]? = some (.n, d') → vs[j]? ≠ some (.ref a)) → RepK Hs F ρ H vs ds → RepK Hs F ρ H (.ref a :: vs) ((.n, d) :: ds)
def rkK : RKT (List (Kd × D)) (List V) := fun Hs F ρ H vs ds => RepK P w K Hs F ρ H vs ds
end
section
variable {P : Program} {w : World} {K : PySem.W.Frag} {CA : Nat → Option Addr}
variable {F F' F1 : Addr → Prop} {ρ ρ' ρ1 : List Addr} {H H0 H1 H' Hs Hs' : Hp} {v x y : V} {d e : D} {vs : List V} {ds : List (Kd × D)} {env env' : En} {st st' : Store} {σ σ' : L2.St} {a p : Addr} {W : WX} {E E' : Ends}
theorem RepK.anti (l : ∀ a o, Hs a = some o → ∃ o', Hs' a = some o') (h : RepK P w K Hs' F ρ H vs ds) : RepK P w K Hs F ρ H vs ds := by
  induction h with
  | nil => exact .nil
  | v r _ ih => exact .v r ih
  | n f n z c d _ ih => exact .n f n (none_of_live l z) c d ih
theorem RepK.mono (x : Ext F ρ H F' ρ' H') (h : RepK P w K Hs F ρ H vs ds) : RepK P w K Hs F' ρ' H' vs ds := by
  induction h with
  | nil => exact .nil
  | v r _ ih => exact .v (r.mono x.toKeeps) ih
  | n f n z c d _ ih =>
    obtain ⟨b, e, f', n', z', c'⟩ := RepN.mono (Hs := Hs) x ⟨_, rfl, f, n, z, c⟩
    cases e
    exact .n f' n' z' c' d ih
theorem rkK_ok : RKOk (rkK P w K) := ⟨fun l h => RepK.anti l h, fun x h => RepK.mono x h⟩
theorem RepK.length (h : RepK P w K Hs F ρ H vs ds) : vs.length = ds.length := by
  induction h with
  | nil => rfl
  | v r _ ih => exact congrArg (· + 1) ih
  | n f n z c d _ ih => exact congrArg (· + 1) ih
/-- the rest's new lists are none of those that stood -/
theorem RepK.fresh (h : RepK P w K Hs F ρ H vs ds) : ∀ (j : Nat) d' a, ds[j]? = some (.n, d') → vs[j]? = some (.ref a) → Hs a = none := by
  induction h with
  | nil => intro j d' a e; simp at e
  | v r _ ih =>
    intro j d' a e e2
    cases j with
    | zero => simp at e
    | succ j => exact ih j d' a (by simpa using e) (by simpa using e2)
  | n f n z c d _ ih =>
    intro j d' a e e2
    cases j with
    | zero =>
      simp at e2
      subst e2
      exact z
    | succ j => exact ih j d' a (by simpa using e) (by simpa using e2)
theorem Rel.setK : ∀ {vs : List V} {ds : List (Kd × D)} {env : En} {σ : L2.St} (is : List Nat), Rel P w K CA H0 F ρ env st σ H → RepK P w K Hs F ρ H vs ds → (∀ a o, H0 a = some o → ∃ o', Hs a = some o') →
    (∀ (j : Nat) d' a, ds[j]? = some (.n, d') → vs[j]? = some (.ref a) → ∀ (k : Nat) e, env[k]? = some (some (.own e)) → σ[k]? ≠ some (some (.ref a))) → Rel P w K CA H0 F ρ (Sn.setK is ds env) st (setV is vs σ) H
  | _, _, env, σ, [], r, h, _, _ => by
    rw [Sn.setK, setV]
    exact r
  | _, _, env, σ, i :: is, r, .nil, _, _ => r
  | _, _, env, σ, i :: is, r, .v q h, l, fr => by
    rw [Sn.setK, setV]
    refine Rel.setK is (r.setv q) h l fun j d' a e1 e2 k e e3 => ?_
    rw [List.getElem?_set] at e3 ⊢
    split at e3
    · split at e3 <;> cases e3
    · rename_i hk
      rw [if_neg hk]
      exact fr (j + 1) d' a (by simpa using e1) (by simpa using e2) k e e3
  | _, _, env, σ, i :: is, r, .n f n z c dd h, l, fr => by
    rw [Sn.setK, setV]
    refine Rel.setK is (r.seto f n (none_of_live l z) c fun j e h1 => fr 0 _ _ rfl rfl j e h1) h l fun j d' a e1 e2 k e e3 => ?_
    rw [List.getElem?_set] at e3 ⊢
    split at e3
    · rename_i hk
      rw [if_pos hk]
      split
      · intro e4
        cases e4
        exact dd j d' e1 e2
      · simp
    · rename_i hk
      rw [if_neg hk]
      exact fr (j + 1) d' a (by simpa using e1) (by simpa using e2) k e e3
end
section
variable {X : Cx} {CA : Nat → Option Addr} {W : WX} {ex a b c tg iter : Expr} {es : List Expr} {s : Stmt} {ss body orelse : List Stmt} {pos p p1 p2 : Pos} {f fa fb : En → Store → R (D × Store)} {g g' : CS} {ct : En → Store → R (Bool × Store)} {k : Kd} {t : Tg} {fs : FL} {kf : List (Kd × (En → Store → R (D × Store)))}
abbrev tK (X : Cx) (CA : Nat → Option Addr) (W : WX) (kf : List (Kd × (En → Store → R (D × Store)))) : TA := tQ X.prog X.w X.K CA W (rkK X.prog X.w X.K) (kEval kf)
theorem s_knil : PA X [] (tK X CA W []) := paI pa_nil fun σ H Q ⟨H0, F, ρ, env, st, rel, q⟩ => After.ok rel .nil q
theorem s_kcons (hk : k ≠ .b) (ha : PE X a (tD X.prog X.w X.K CA W k f)) (hr : PA X es (tK X CA W kf)) (hs : notStar a = true) : PA X (a :: es) (tK X CA W ((k, f) :: kf)) := by
  refine paI (pa_cons ha hr (star_of hs)) fun σ H Q ⟨H0, F, ρ, env, st, rel, q⟩ => ?_
  refine ⟨H0, F, ρ, env, st, rel, ?_⟩
  rw [kEval] at q
  cases e1 : f env st with
  | err => rw [e1] at q; exact q
  | exc x s => rw [e1] at q; exact q
  | ok pd =>
    rw [e1, R.bind_ok] at q
    intro v H1 F1 ρ1 x r1 k1
    refine ⟨H0, F1, ρ1, env, pd.2, r1, ?_⟩
    cases e2 : kEval kf env pd.2 with
    | err => rw [e2] at q; exact q
    | exc y s =>
      rw [e2] at q
      exact fun c dx H' F' ρ' x' r' k' => q c dx H' F' ρ' (x.trans x') r' k'
    | ok qd =>
      rw [e2, R.bind_ok] at q
      intro vs H2 F2 ρ2 x2 r2 k2
      have k2' : RepK X.prog X.w X.K H1 F2 ρ2 H2 vs qd.1 := k2
      refine q (v :: vs) H2 F2 ρ2 (x.trans x2) r2 ?_
      cases k with
      | b => exact absurd rfl hk
      | v => exact .v (Rep.mono x2.toKeeps k1) (k2'.anti fun _ _ h => x.live _ _ h)
      | n =>
        obtain ⟨a0, rfl, f1, n1, z1, c1⟩ := k1
        obtain ⟨b, e, f', n', z', c'⟩ := RepN.mono (Hs := H) x2 ⟨a0, rfl, f1, n1, z1, c1⟩
        cases e
        refine .n f' n' z' c' (fun j d' e1 e2 => ?_) (k2'.anti fun _ _ h => x.live _ _ h)
        obtain ⟨o, eo⟩ := c1.some
        have z := k2'.fresh j d' a0 e1 e2
        rw [eo] at z
        cases z
theorem u_own_t {D : Ends} {σ : L2.St} {H : Hp} {i : Nat} (h : tS X.prog X.w X.K CA W (sOwn i f) D σ H) : tAsg (tD X.prog X.w X.K CA W .n f) (gName i) D σ H := by
  obtain ⟨H0, F, ρ, env, st, rel, q⟩ := h
  refine ⟨H0, F, ρ, env, st, rel, (After.bindS (RK' := rkD X.prog X.w X.K .n) rel q).imp fun v H1 ⟨F1, ρ1, d, st1, x, r1, k1, _, q1⟩ => ?_⟩
  obtain ⟨a0, rfl, f1, n1, z1, c1⟩ := k1
  exact q1.nxt (r1.seto f1 n1 (none_of_live rel.old z1) c1 (rel.own_ne z1))
theorem u_own {i : Nat} (he : PE X ex (tD X.prog X.w X.K CA W .n f)) (hg : PG X tg (gName i)) (hs : swapsWithSole [tg] ex pos.line X.env = pure false) (hw : swappedStores [tg] ex X.env = pure none)
    (h1 : (assignEach [tg] X.env).map (·.2) = [assign tg X.env]) : PS X (.Assign [tg] ex pos) (tS X.prog X.w X.K CA W (sOwn i f)) :=
  psI (ps_asg he hg hs hw h1) fun _ _ _ h => u_own_t h
/-! ### rows of names -/
def sPar (is : List Nat) (kf : List (Kd × (En → Store → R (D × Store)))) : CS := fun env st => (kEval kf env st).bindS env fun ds st => if ds.length = is.length ∧ ds.length ≤ sizeLine then .ok .nx (setK is ds env) st else .err
theorem t_par {D : Ends} {σ : L2.St} {H : Hp} {is : List Nat} {Q : List V → Hp → Prop} (h : tS X.prog X.w X.K CA W (sPar is kf) D σ H)
    (i : ∀ vs H1, vs.length = is.length → vs.length ≤ sizeLine → (D.nx (setV is vs σ) H1) → (∀ p o, H1 p = none → D.nx (setV is vs σ) (upd H1 p o)) → Q vs H1) : tK X CA W kf σ H Q := by
  obtain ⟨H0, F, ρ, env, st, rel, q⟩ := h
  refine ⟨H0, F, ρ, env, st, rel, (After.bindS (RK' := rkK X.prog X.w X.K) rel q).imp fun vs H1 ⟨F1, ρ1, ds, st1, x, r1, k1, _, q1⟩ => ?_⟩
  split at q1
  · rename_i hl
    have k1' : RepK X.prog X.w X.K H F1 ρ1 H1 vs ds := k1
    have hlen := k1'.length
    have r2 := Rel.setK is r1 k1' rel.old fun j d' a e1 e2 => rel.own_ne (k1'.fresh j d' a e1 e2)
    refine i vs H1 (hlen.trans hl.1) (by rw [hlen]; exact hl.2) (q1.nxt r2) fun p o n => ?_
    exact q1 _ _ F1 ρ1 ((ext_new n).step r1.old) (r2.new n)
  · exact q1.elim
theorem u_par2 {i j : Nat} {x y : Str} {px py pt : Pos} {kt k2 pt2} (hc : X.calm = true) (hN : X.N.Nodup) (hi : X.N[i]? = some x) (hj : X.N[j]? = some y) (hij : i ≠ j) (hx : X.env.scope.names.lookup x = some .local) (hy : X.env.scope.names.lookup y = some .local)
    (ha : PA X [a, b] (tK X CA W kf)) (hw : swappedStores [.Tuple [.Name x px, .Name y py] kt pt] (.Tuple [a, b] k2 pt2) X.env = pure (some [x, y])) :
    PS X (.Assign [.Tuple [.Name x px, .Name y py] kt pt] (.Tuple [a, b] k2 pt2) pos) (tS X.prog X.w X.K CA W (sPar [i, j] kf)) := by
  refine psI (ps_par hc hN hi hj hij hx hy ha hw) fun D σ H h => t_par h fun vs H1 hl _ q _ => ?_
  match vs, hl with
  | [v, w], _ => exact ⟨v, w, rfl, q⟩
theorem u_par3 {i j l : Nat} {x y z : Str} {px py pz pt : Pos} {kt k2 pt2} (hc : X.calm = true) (hN : X.N.Nodup) (hi : X.N[i]? = some x) (hj : X.N[j]? = some y) (hl : X.N[l]? = some z) (hij : i ≠ j) (hil : i ≠ l) (hjl : j ≠ l)
    (hx : X.env.scope.names.lookup x = some .local) (hy : X.env.scope.names.lookup y = some .local) (hz : X.env.scope.names.lookup z = some .local)
    (ha : PA X [a, b, c] (tK X CA W kf)) (hw : swappedStores [.Tuple [.Name x px, .Name y py, .Name z pz] kt pt] (.Tuple [a, b, c] k2 pt2) X.env = pure (some [x, y, z])) :
    PS X (.Assign [.Tuple [.Name x px, .Name y py, .Name z pz] kt pt] (.Tuple [a, b, c] k2 pt2) pos) (tS X.prog X.w X.K CA W (sPar [i, j, l] kf)) := by
  refine psI (ps_par3 hc hN hi hj hl hij hil hjl hx hy hz ha hw) fun D σ H h => t_par h fun vs H1 hl _ q _ => ?_
  match vs, hl with
  | [u, v, w], _ => exact ⟨u, v, w, rfl, q⟩
/-- raw targets: names in a row -/
def gNames (is : List Nat) : TGs := fun vs σ H Q => vs.length = is.length ∧ Q (setV is vs σ) H
theorem g_nnil : PGs X [] (gNames []) := pgsI pgs_nil fun vs σ H Q ⟨hl, q⟩ => by
  match vs, hl with
  | [], _ => exact ⟨rfl, q⟩
theorem g_ncons {i : Nat} {is : List Nat} (h : PG X ex (gName i)) (hs : PGs X es (gNames is)) (ha : (assignEach (ex :: es) X.env).map (·.2) = assign ex X.env :: (assignEach es X.env).map (·.2)) : PGs X (ex :: es) (gNames (i :: is)) :=
  pgsI (pgs_cons h hs ha) fun vs σ H Q ⟨hl, q⟩ => by
    match vs, hl with
    | v :: vs, hl => exact ⟨v, vs, rfl, by simpa using hl, q⟩
theorem u_parT {is : List Nat} {n1 k1 : Nat} {ts : List Expr} (hc : X.calm = true) (ha : PA X es (tK X CA W kf)) (hg : PGs X ts (gNames is)) (hn : (assignEach ts X.env).length = is.length) (hst : (assignEach ts X.env).findIdx? (·.1) = none)
    (hs : swapsWithSole [.Tuple ts n1 p1] (.Tuple es k1 p2) pos.line X.env = pure false) (hw : swappedStores [.Tuple ts n1 p1] (.Tuple es k1 p2) X.env = pure none)
    (h1 : (assignEach [.Tuple ts n1 p1] X.env).map (·.2) = [assign (.Tuple ts n1 p1) X.env]) : PS X (.Assign [.Tuple ts n1 p1] (.Tuple es k1 p2) pos) (tS X.prog X.w X.K CA W (sPar is kf)) := by
  refine psI (ps_asg (pe_tup ha) (pg_tup (n := is.length) hc hg hn hst) hs hw h1) fun D σ H h => ?_
  refine t_par (Q := fun vs H1 => vs.length ≤ sizeLine ∧ ∀ p, H1 p = none → gTup X.K is.length (gNames is) (.ref p) σ (upd H1 p (.tup vs)) D.nx) h fun vs H1 hl hz _ q => ?_
  exact ⟨hz, fun p n => ⟨p, vs, rfl, SqT.of upd_same, hl, hl, q p _ n⟩⟩
end
end Sn

set_option Elab.async false
set_option linter.all false
set_option maxRecDepth 100000
/-! layer 15: lists that change; loops -/
namespace Sn
open PySem PySem.Spec PyProof.Rows L2
def sApp (i : Nat) (f : En → Store → R (D × Store)) : CS := fun env st => match env[i]? with
  | some (some (.own (.lst ds))) => (f env st).bindS env fun d st => if ds.length < sizeLine then .ok .nx (env.set i (some (.own (.lst (ds ++ [d]))))) st else .err
  | _ => .err
def sGive (i : Nat) : CS := fun env st => match env[i]? with
  | some (some (.own d)) => .ok .nx (env.set i (some (.val d))) st
  | _ => .err
def sSetO (i : Nat) (f fi : En → Store → R (D × Store)) : CS := fun env st => match env[i]? with
  | some (some (.own (.lst ds))) => (f env st).bindS env fun d st => (fi env st).bindS env fun e st => (match e with
    | .int k => (match ixN ds.length k with
      | some j => .ok .nx (env.set i (some (.own (.lst (ds.set j d))))) st
      | none => .err)
    | _ => .err)
  | _ => .err
def sSetS (f fo fi : En → Store → R (D × Store)) : CS := fun env st => (f env st).bindS env fun d st => (fo env st).bindS env fun o st => (fi env st).bindS env fun e st => match o, e with
  | .ref n, .int k => (match st[n]? with
    | some (.lst ds) => (match ixN ds.length k with
      | some j => .ok .nx env (st.set n (.lst (ds.set j d)))
      | none => .err)
    | _ => .err)
  | _, _ => .err
def cPut (f : En → Store → R (D × Store)) : En → Store → R (D × Store) := fun env st => (f env st).bind fun p => match p.1 with
  | .lst ds => .ok (.ref p.2.length, p.2 ++ [.lst ds])
  | _ => .err
def forRun (t : Tg) (g : CS) : List D → CS
  | [], env, st => .ok .nx env st
  | d :: ds, env, st => match t.put d env with
    | none => .err
    | some env' => match g env' st with
      | .ok .nx env2 st2 => forRun t g ds env2 st2
      | .ok .ct env2 st2 => forRun t g ds env2 st2
      | .ok .bk env2 st2 => .ok .nx env2 st2
      | r => r
def sFor (fs : FL) (t : Tg) (g : CS) : CS := fun env st => (fs env st).bindS env fun ds st => forRun t g ds env st
def whileRun (ct : En → Store → R (Bool × Store)) (g : CS) : Nat → CS
  | 0, _, _ => .err
  | n + 1, env, st => (ct env st).bindS env fun b st => if b = true then (match g env st with
      | .ok .nx env2 st2 => whileRun ct g n env2 st2
      | .ok .ct env2 st2 => whileRun ct g n env2 st2
      | .ok .bk env2 st2 => .ok .nx env2 st2
      | r => r) else .ok .nx env st
section
variable {X : Cx} {CA : Nat → Option Addr} {W : WX} {ex a b c tg iter : Expr} {es : List Expr} {s : Stmt} {ss body orelse : List Stmt} {pos p p1 p2 apos cpos : Pos} {f fa fb fo fi : En → Store → R (D × Store)} {g g' : CS} {ct : En → Store → R (Bool × Store)} {k : Kd} {t : Tg} {fs : FL}
theorem s_put (h : PE X ex (tD X.prog X.w X.K CA W .n f)) : PE X ex (tD X.prog X.w X.K CA W .v (cPut f)) := by
  refine peI h fun σ H Q ⟨H0, F, ρ, env, st, rel, q⟩ => ⟨H0, F, ρ, env, st, rel, ?_⟩
  unfold cPut at q
  cases e : f env st with
  | err => rw [e] at q; exact q
  | exc x s => rw [e] at q; exact q
  | ok pd =>
    rw [e, R.bind_ok] at q
    intro v H1 F1 ρ1 x r1 k1
    split at q
    · rename_i ds hd
      obtain ⟨a0, rfl, f1, n1, z1, c1⟩ := k1
      rw [hd] at c1
      obtain ⟨x', r'⟩ := r1.put0 x f1 n1 z1 (rel.own_ne z1) c1
      refine q (.ref a0) H1 F1 _ x' r' (.ref ?_)
      rw [← r1.len]
      simp
    · exact q.elim
theorem u_give {i : Nat} (h : PSs X ss (tS X.prog X.w X.K CA W g)) : PSs X ss (tS X.prog X.w X.K CA W (sSeq (sGive i) g)) := by
  refine pssI h fun D σ H ⟨H0, F, ρ, env, st, rel, q⟩ => ?_
  unfold sSeq sGive at q
  cases e : env[i]? with
  | none => rw [e] at q; exact q.elim
  | some o =>
    rw [e] at q
    cases o with
    | none => exact q.elim
    | some sl =>
      cases sl with
      | val d => exact q.elim
      | own d =>
        obtain ⟨F', s', r'⟩ := rel.give e
        exact ⟨H0, F', ρ, _, st, r', AfterS.step s' q⟩
theorem u_app {i : Nat} {x : Str} (hv : PE X (.Name x p) (tVar i)) (ha : PE X ex (tD X.prog X.w X.K CA W .v f)) (hs : notStar ex = true) (hline : (apos.endLine == cpos.line) = true) :
    PS X (.Expr (.Call (.Attribute (.Name x p) "append" apos) [ex] [] cpos) pos) (tS X.prog X.w X.K CA W (sApp i f)) := by
  refine psI (ps_expr (pe_bm PySem.F.plainAttrs_list PySem.F.slot_list_append PySem.F.type_list_append mt_append hv (pa_cons ha pa_nil (star_of hs)) (hfew := ?_) (hline := hline) (hs := star_of hs)) (by rfl)) fun D σ H ⟨H0, F, ρ, env, st, rel, q⟩ => ?_
  · rw [star_of hs]
    rfl
  · unfold sApp at q
    split at q
    · rename_i ds hi
      obtain ⟨a0, e1, f0, n0, z0, c0⟩ := rel.own i _ hi
      have hc0 := c0
      rcases c0 with ⟨vs, ds', e2, e3, r0, zl⟩ | ⟨kvs, es, e2, _⟩ | ⟨xs, ws, es, e2, _⟩
      · cases e2
        refine ⟨.ref a0, e1, .inl ⟨rfl, vs, SqL.of e3⟩, H0, F, ρ, env, st, rel, (After.bindS (RK' := rkD X.prog X.w X.K .v) rel q).imp fun v H1 ⟨F1, ρ1, d, st1, x1, r1, k1, _, q1⟩ => ?_⟩
        split at q1
        · rename_i hl
          have e4 : H1 a0 = some (.lst vs) := x1.keep a0 _ e3 n0
          have q5 := Reps.append (r0.mono x1.toKeeps) (.cons k1 .nil)
          obtain ⟨s2, r2⟩ := r1.updo hi e1 e4 q5 (by simp; omega)
          exact ⟨a0, vs, v, rfl, rfl, e4, by rw [r0.length]; exact hl, q1 _ _ _ _ s2 r2⟩
        · exact q1.elim
      · cases e2
      · cases e2
    · exact q.elim
theorem u_for (hp : PassesOwn (model X.prog X.w) X.A X.env X.xe) (hc : X.calm = true) (hi : PI X tg iter (tI X.prog X.w X.K CA W fs)) (hg : PG X tg (gD X.prog X.w X.K CA t)) (hb : PSs X body (tS X.prog X.w X.K CA W g))
    (hs : ∀ x, foldedSetIterable iter X.env x = pure x) : PS X (.For tg iter body [] pos) (tS X.prog X.w X.K CA W (sFor fs t g)) := by
  refine psI (ps_for hp hc hi hg hb hs) fun E σ H ⟨H0, F, ρ, env, st, rel, q⟩ => ?_
  refine ⟨H0, F, ρ, env, st, rel, (After.bindS (RK' := rkI X.prog X.w X.K) rel q).imp fun J H1 ⟨F1, ρ1, ds, st1, x1, r1, k1, _, q1⟩ => ?_⟩
  have J1 : IterD X.prog X.w X.K F1 ρ1 H1 J ds := k1
  refine ⟨fun i m σ Hc => m = ds.length - i ∧ i ≤ ds.length ∧ ∃ F2 ρ2 env2 st2, Keeps F1 ρ1 H1 F2 ρ2 Hc ∧ Rel X.prog X.w X.K CA H0 F2 ρ2 env2 st2 σ Hc ∧ AfterS X.prog X.w X.K CA W E H0 F2 ρ2 Hc (forRun t g (ds.drop i) env2 st2),
    ⟨ds.length, by simp, Nat.zero_le _, F1, ρ1, env, st1, Keeps.refl, r1, by simpa using q1⟩, ?_⟩
  rintro i m σ Hc ⟨rfl, hi, F2, ρ2, env2, st2, k2, r2, q2⟩
  by_cases hlt : i < ds.length
  · obtain ⟨d, hd⟩ : ∃ d, ds[i]? = some d := ⟨_, List.getElem?_eq_getElem hlt⟩
    have hdrop : ds.drop i = d :: ds.drop (i + 1) := by
      rw [List.drop_eq_getElem_cons hlt]
      rw [List.getElem?_eq_getElem hlt] at hd
      cases hd
      rfl
    rw [hdrop, forRun] at q2
    refine .inr ⟨J1.go F2 ρ2 Hc i d k2 hd, fun σ' H' => ∃ m', m' < ds.length - i ∧ (m' = ds.length - (i + 1) ∧ i + 1 ≤ ds.length ∧ ∃ F2 ρ2 env2 st2, Keeps F1 ρ1 H1 F2 ρ2 H' ∧ Rel X.prog X.w X.K CA H0 F2 ρ2 env2 st2 σ' H' ∧ AfterS X.prog X.w X.K CA W E H0 F2 ρ2 H' (forRun t g (ds.drop (i + 1)) env2 st2)),
      fun σ' H' h => h, fun x H'' y => ?_⟩
    have yl := J1.yld F2 ρ2 Hc i d x H'' k2 hd y
    obtain ⟨x3, r3, q3⟩ : Ext F2 ρ2 Hc F2 ρ2 H'' ∧ Rel X.prog X.w X.K CA H0 F2 ρ2 env2 st2 σ H'' ∧ Rep X.prog X.w X.K F2 ρ2 H'' x d := by
      rcases yl with ⟨rfl, yl⟩ | ⟨T, vs, es, oT, rfl, rfl, nT, rfl, oc, od, yl, zl⟩
      · exact ⟨Ext.refl, r2, yl⟩
      · exact ⟨ext_new nT, r2.new nT, .tup (.inl ⟨oT, upd_same, oc, od⟩) (yl.mono (ext_new nT).toKeeps) zl⟩
    cases ep : t.put d env2 with
    | none => rw [ep] at q2; exact q2.elim
    | some env3 =>
      rw [ep] at q2
      dsimp only at q2
      refine ⟨H0, F2, ρ2, env2, st2, d, env3, r3, q3, ep, fun σ3 r4 _ _ => ⟨H0, F2, ρ2, env3, st2, r4, ?_⟩⟩
      have q4 := AfterS.step (x3.step r2.old) q2
      have again : ∀ env5 st5, AfterS X.prog X.w X.K CA W E H0 F2 ρ2 H'' (forRun t g (ds.drop (i + 1)) env5 st5) → ∀ σ' H' F' ρ', Step H0 F2 ρ2 H'' F' ρ' H' → Rel X.prog X.w X.K CA H0 F' ρ' env5 st5 σ' H' →
          ∃ m', m' < ds.length - i ∧ (m' = ds.length - (i + 1) ∧ i + 1 ≤ ds.length ∧ ∃ F2 ρ2 env2 st2, Keeps F1 ρ1 H1 F2 ρ2 H' ∧ Rel X.prog X.w X.K CA H0 F2 ρ2 env2 st2 σ' H' ∧ AfterS X.prog X.w X.K CA W E H0 F2 ρ2 H' (forRun t g (ds.drop (i + 1)) env2 st2)) :=
        fun env5 st5 q5 σ' H' F' ρ' s' r' => ⟨ds.length - (i + 1), by omega, rfl, hlt, F', ρ', env5, st5, (k2.trans x3.toKeeps).trans s'.toKeeps, r', AfterS.step s' q5⟩
      cases eg : g env3 st2 with
      | err => rw [eg] at q4; exact q4
      | exc x env5 st5 => rw [eg] at q4; exact q4
      | ok fl env5 st5 =>
        rw [eg] at q4
        cases fl with
        | nx => exact again env5 st5 q4
        | ct => exact again env5 st5 q4
        | bk => exact fun σ' H' F' ρ' s' r' => q4 σ' H' F' ρ' s' r'
        | rt d => exact q4
  · have e : i = ds.length := by omega
    subst e
    rw [List.drop_length, forRun] at q2
    exact .inl ⟨J1.stop F2 ρ2 Hc k2, q2.nxt r2⟩
theorem u_while {n : Nat} (hp : PassesOwn (model X.prog X.w) X.A X.env X.xe) (hc : PT X c (tT X.prog X.w X.K CA W ct)) (hb : PSs X body (tS X.prog X.w X.K CA W g)) : PS X (.While c body [] pos) (tS X.prog X.w X.K CA W (whileRun ct g n)) := by
  refine psI (ps_while hp hc hb) fun E σ H ⟨H0, F, ρ, env, st, rel, q⟩ => ?_
  refine ⟨fun m σ Hc => ∃ F2 ρ2 env2 st2, Rel X.prog X.w X.K CA H0 F2 ρ2 env2 st2 σ Hc ∧ AfterS X.prog X.w X.K CA W E H0 F2 ρ2 Hc (whileRun ct g m env2 st2), ⟨n, F, ρ, env, st, rel, q⟩, ?_⟩
  rintro m σ Hc ⟨F2, ρ2, env2, st2, r2, q2⟩
  cases m with
  | zero => exact q2.elim
  | succ m =>
    rw [whileRun] at q2
    refine ⟨H0, F2, ρ2, env2, st2, r2, (After.bindS (RK' := rkB) r2 q2).imp fun b H1 ⟨F3, ρ3, d, st3, x3, r3, k3, _, q3⟩ => ?_⟩
    have k3' : b = d := k3
    subst k3'
    cases b with
    | false =>
      rw [if_neg (by decide)] at q3 ⊢
      exact q3.nxt r3
    | true =>
      rw [if_pos rfl] at q3 ⊢
      refine ⟨fun σ' H' => ∃ m', m' < m + 1 ∧ ∃ F2 ρ2 env2 st2, Rel X.prog X.w X.K CA H0 F2 ρ2 env2 st2 σ' H' ∧ AfterS X.prog X.w X.K CA W E H0 F2 ρ2 H' (whileRun ct g m' env2 st2), fun σ' H' h => h, H0, F3, ρ3, env2, st3, r3, ?_⟩
      cases eg : g env2 st3 with
      | err => rw [eg] at q3; exact q3
      | exc x env5 st5 => rw [eg] at q3; exact q3
      | ok fl env5 st5 =>
        rw [eg] at q3
        cases fl with
        | nx => exact fun σ' H' F' ρ' s' r' => ⟨m, by omega, F', ρ', env5, st5, r', AfterS.step s' q3⟩
        | ct => exact fun σ' H' F' ρ' s' r' => ⟨m, by omega, F', ρ', env5, st5, r', AfterS.step s' q3⟩
        | bk => exact fun σ' H' F' ρ' s' r' => q3 σ' H' F' ρ' s' r'
        | rt d => exact q3
theorem u_setO {i : Nat} {x : Str} (hv : PE X (.Name x p) (tVar i)) (hi : PE X b (tD X.prog X.w X.K CA W .b fi)) (he : PE X ex (tD X.prog X.w X.K CA W .v f)) (hs : swapsWithSole [.Subscript (.Name x p) b p1] ex pos.line X.env = pure false)
    (hw : swappedStores [.Subscript (.Name x p) b p1] ex X.env = pure none) (ha : ∀ v, assign (.Subscript (.Name x p) b p1) X.env v = (do
      let ov ← holding [v] (eval (.Name x p) X.env)
      let iv ← holding [v, ov] (eval b X.env)
      standAt p1
      holding [v, ov, iv] (setItem ov iv v)
      release [v, ov, iv] [])) (h1 : (assignEach [.Subscript (.Name x p) b p1] X.env).map (·.2) = [assign (.Subscript (.Name x p) b p1) X.env]) :
    PS X (.Assign [.Subscript (.Name x p) b p1] ex pos) (tS X.prog X.w X.K CA W (sSetO i f fi)) := by
  refine psI (ps_asg he (pg_sub hv hi set_list ha) hs hw h1) fun E σ H ⟨H0, F, ρ, env, st, rel, q⟩ => ?_
  unfold sSetO at q
  split at q
  · rename_i ds hi0
    refine ⟨H0, F, ρ, env, st, rel, (After.bindS (RK' := rkD X.prog X.w X.K .v) rel q).imp fun v H1 ⟨F1, ρ1, d, st1, x1, r1, k1, hh1, q1⟩ => ?_⟩
    have k1' : Rep X.prog X.w X.K F1 ρ1 H1 v d := k1
    obtain ⟨a0, e1, f0, n0, z0, c0⟩ := r1.own i _ hi0
    rcases c0 with ⟨vs, ds', e2, e3, r0, zl⟩ | ⟨kvs, es, e2, _⟩ | ⟨xs, ws, es, e2, _⟩
    · cases e2
      refine ⟨.ref a0, e1, H0, F1, ρ1, env, st1, r1, (After.bindS (RK' := rkD X.prog X.w X.K .b) r1 q1).imp fun y H2 ⟨F2, ρ2, e, st2, x2, r2, k2, hh2, q2⟩ => ?_⟩
      split at q2
      · rename_i k
        obtain rfl := RepB.intE k2
        split at q2
        · rename_i j hj
          have e4 : H2 a0 = some (.lst vs) := x2.keep a0 _ e3 n0
          have q5 := Reps.set (i := j) (r0.mono x2.toKeeps) (k1'.mono x2.toKeeps)
          obtain ⟨s3, r3⟩ := r2.updo hi0 e1 e4 q5 (by simpa using zl)
          exact ⟨a0, vs, k, j, rfl, rfl, e4, by rw [r0.length]; exact hj, q2 _ _ _ _ s3 r3⟩
        · exact q2.elim
      · exact q2.elim
    · cases e2
    · cases e2
  · exact q.elim
theorem u_setS (ho : PE X a (tD X.prog X.w X.K CA W .b fo)) (hi : PE X b (tD X.prog X.w X.K CA W .b fi)) (he : PE X ex (tD X.prog X.w X.K CA W .v f)) (hs : swapsWithSole [.Subscript a b p1] ex pos.line X.env = pure false)
    (hw : swappedStores [.Subscript a b p1] ex X.env = pure none) (ha : ∀ v, assign (.Subscript a b p1) X.env v = (do
      let ov ← holding [v] (eval a X.env)
      let iv ← holding [v, ov] (eval b X.env)
      standAt p1
      holding [v, ov, iv] (setItem ov iv v)
      release [v, ov, iv] [])) (h1 : (assignEach [.Subscript a b p1] X.env).map (·.2) = [assign (.Subscript a b p1) X.env]) :
    PS X (.Assign [.Subscript a b p1] ex pos) (tS X.prog X.w X.K CA W (sSetS f fo fi)) := by
  refine psI (ps_asg he (pg_sub ho hi set_list ha) hs hw h1) fun E σ H ⟨H0, F, ρ, env, st, rel, q⟩ => ?_
  refine ⟨H0, F, ρ, env, st, rel, (After.bindS (RK' := rkD X.prog X.w X.K .v) rel q).imp fun v H1 ⟨F1, ρ1, d, st1, x1, r1, k1, hh1, q1⟩ => ?_⟩
  have k1' : Rep X.prog X.w X.K F1 ρ1 H1 v d := k1
  refine ⟨H0, F1, ρ1, env, st1, r1, (After.bindS (RK' := rkD X.prog X.w X.K .b) r1 q1).imp fun o H2 ⟨F2, ρ2, od, st2, x2, r2, k2, hh2, q2⟩ => ?_⟩
  have k2' : RepB X.prog X.w X.K F2 ρ2 H2 o od := k2
  refine ⟨H0, F2, ρ2, env, st2, r2, (After.bindS (RK' := rkD X.prog X.w X.K .b) r2 q2).imp fun y H3 hz => ?_⟩
  obtain ⟨F3, ρ3, ed, st3, x3, r3, k3, hh3, q3⟩ := hz
  split at q3
  · rename_i n k
    obtain ⟨a0, rfl, hr⟩ := (RepB.mono x3 k2').refE
    obtain rfl := RepB.intE k3
    split at q3
    · rename_i ds hst
      split at q3
      · rename_i j hj
        obtain ⟨vs, e3, r0, zl⟩ := r3.toStRel.obj n _ a0 hst hr
        have k1'' : Rep X.prog X.w X.K F3 ρ3 H3 v d := (k1'.mono x2.toKeeps).mono x3.toKeeps
        obtain ⟨s4, r4⟩ := r3.updS (o := .lst (ds.set j d)) (o' := .lst (vs.set j v)) hr ⟨vs, e3⟩ fun Hx kx ex => ⟨vs.set j v, ex, (Reps.set r0 k1'').mono kx, by simpa using zl⟩
        exact ⟨a0, vs, k, j, rfl, rfl, e3, by rw [r0.length]; exact hj, q3 _ _ _ _ s4 r4⟩
      · exact q3.elim
    · exact q3.elim
  · exact q3.elim
end
end Sn

set_option Elab.async false
set_option linter.all false
set_option maxRecDepth 100000
/-! layer 16: the own syntax of expressions, its computation, its comparison with the program's text -/
namespace Sn
open PySem PySem.Spec PyProof.Rows L2
inductive Bo where
  | add | cat | sub | mul | div | mod | pow | rep
inductive Co where
  | lt | le | gt | ge | isN | notN | eq | ne | isin | notin
inductive B1 where
  | len | abs | int | all | any | sum | min | max | tup | list | sorted | repr | dict
mutual
inductive SE where
  | cst (d : D)
  | var (i : Nat)
  | own (i : Nat)
  | glb (k : Nat)
  | tup (es : EL)
  | lst (es : EL)
  | op (o : Bo) (a b : SE)
  | cmp (o : Co) (a b : SE)
  | ch (o o' : Co) (a b c : SE)
  | neg (a : SE)
  | and_ (es : EL)
  | or_ (es : EL)
  | nt (a : SE)
  | ite (c a b : SE)
  | cal (f : Nat) (es : EL)
  | b1 (o : B1) (a : SE)
  | isi (t : Str) (a : SE)
  | ix (a b : SE)
  | sl (n : Bool) (a : SE) (lo hi : OE)
  | rev (a : SE)
  | put (a : SE)
  | lens (a : SE)
  | sumL (a : SE)
  | lrg (a : SE)
  | trg (a : SE)
  | trd (es : EL)
  | srtS (a : SE)
  | idx (t : Bool) (a b : SE)
  | lc (s : SR) (t : Tg) (is : List Nat) (c : OE) (e : SE)
  | lc2 (s : SR) (t : Tg) (is : List Nat) (c : OE) (s1 : SR) (t1 : Tg) (c1 : OE) (e : SE)
inductive EL where
  | nil
  | cons (e : SE) (es : EL)
inductive OE where
  | none
  | some (e : SE)
inductive SR where
  | e (a : SE)
  | r1 (a : SE)
  | r2 (a b : SE)
  | en (a : SE)
  | zp (a b : SE)
end
/-! ### computations that have no rule yet in the earlier layers -/
def gRev : D → Store → R (D × Store)
  | .tup xs, st => .ok (.tup xs.reverse, st)
  | .lst xs, st => .ok (.lst xs.reverse, st)
  | _, _ => .err
def gSumL : D → Store → R (D × Store)
  | .lst xs, st => match xs.mapM (fun | .lst ys => some ys | _ => none) with
    | some yss => if yss.flatten.length ≤ sizeLine then .ok (.lst yss.flatten, st) else .err
    | none => .err
  | _, _ => .err
def gTrg : D → Store → R (D × Store)
  | .int j, st => if j ≤ 16777216 ∧ -(2 ^ 62) ≤ j then .ok (.tup ((List.range j.toNat).map (fun i => .int (i : Nat))), st) else .err
  | _, _ => .err
/-- tuple(range(i, j, -1)) -/
def gTrd : List D → Store → R (D × Store)
  | [.int i, .int j, .int c], st => if c = -1 ∧ -1000000 ≤ i ∧ i ≤ 1000000 ∧ -1000000 ≤ j ∧ j ≤ 1000000 then .ok (.tup ((List.range (i - j).toNat).map (fun n => .int (i - (n : Nat)))), st) else .err
  | _, _ => .err
def cTrd (g : FL) : En → Store → R (D × Store) := fun env st => (g env st).bind fun p => gTrd p.1 p.2
def gLrg : D → Store → R (D × Store)
  | .int j, st => if j ≤ 16777216 ∧ -(2 ^ 62) ≤ j then .ok (.lst ((List.range j.toNat).map (fun i => .int (i : Nat))), st) else .err
  | _, _ => .err
mutual
/-- what may be a member of a set, a dict's key: by its value -/
def D.hashy : D → Bool
  | .non => true
  | .bl _ => true
  | .int _ => true
  | .str _ => true
  | .tup xs => D.hashys xs
  | _ => false
def D.hashys : List D → Bool
  | [] => true
  | x :: xs => D.hashy x && D.hashys xs
end
def hashOk (d : D) : Bool := d.hashy && decide (d.depth ≤ 8)
/-- a dict's entry is set: the first key stays -/
def putD (es : List (D × D)) (k v : D) : List (D × D) := if (es.any fun p => D.eqv p.1 k) = true then es.map (fun p => if D.eqv p.1 k = true then (p.1, v) else p) else es ++ [(k, v)]
def getD (es : List (D × D)) (k : D) : Option D := (es.find? fun p => D.eqv p.1 k).map (·.2)
def isKey : D → Bool
  | .int _ => true
  | .str _ => true
  | _ => false
def isTup : D → Bool
  | .tup _ => true
  | _ => false
/-- dict([(k, v), ..]): keys ints and texts, or tuples -/
def pairsD : List D → Option (List (D × D))
  | [] => some []
  | .tup [k, v] :: ds => (pairsD ds).map fun es => (k, v) :: es
  | _ :: _ => none
def gDict : D → Store → R (D × Store)
  | .lst xs, st => match pairsD xs with
    | some es => if es.all (fun p => isKey p.1) = true ∨ es.all (fun p => isTup p.1 && hashOk p.1) = true then .ok (.dct (es.foldl (fun l p => putD l p.1 p.2) []), st) else .err
    | none => .err
  | _, _ => .err
def keyFit (es : List (D × D)) (k : D) : Bool := (es.all (fun p => isKey p.1) && isKey k) || (es.all (fun p => isTup p.1 && hashOk p.1) && isTup k && hashOk k)
def gIn2 (d e : D) (st : Store) : R (D × Store) := match e with
  | .dct es => if keyFit es d = true then .ok (.bl (getD es d).isSome, st) else .err
  | _ => gIn d e st
def gNotIn2 (d e : D) (st : Store) : R (D × Store) := match e with
  | .dct es => if keyFit es d = true then .ok (.bl (!(getD es d).isSome), st) else .err
  | _ => gNotIn d e st
def gIx2 (d e : D) (st : Store) : R (D × Store) := match d with
  | .dct es => if keyFit es e = true then (match getD es e with
    | some v => .ok (v, st)
    | none => .err) else .err
  | _ => gIx d e st
/-- d is True, d is False, d is None -/
def gIs (d e : D) (st : Store) : R (D × Store) := match d, e with
  | .bl a, .bl b => .ok (.bl (a == b), st)
  | _, _ => gIsN d e st
def gIsNot (d e : D) (st : Store) : R (D × Store) := match d, e with
  | .bl a, .bl b => .ok (.bl (!(a == b)), st)
  | _, _ => gNotN d e st
/-- len(set(xs)) -/
def distinctD (xs : List D) : List D := xs.foldl (fun acc x => if (acc.any fun y => D.eqv y x) = true then acc else acc ++ [x]) []
mutual
/-- without texts -/
def D.noText : D → Bool
  | .str _ => false
  | .tup xs => D.noTexts xs
  | _ => true
def D.noTexts : List D → Bool
  | [] => true
  | x :: xs => D.noText x && D.noTexts xs
end
def isIntD : D → Bool
  | .int _ => true
  | _ => false
def gLens : D → Store → R (D × Store)
  | .tup xs, st => if (xs.all (fun d => isTup d && hashOk d && d.noText) = true ∨ xs.all isIntD = true) ∧ xs.length < 63 then .ok (.int (distinctD xs).length, st) else .err
  | _, _ => .err
def D.seqOf : Bool → D → Option (List D)
  | false, .lst xs => some xs
  | true, .tup xs => some xs
  | _, _ => none
/-- a.index(b), a a list (false) or a tuple (true) -/
def gIdx (xs : List D) (e : D) (st : Store) : R (D × Store) := if D.can e (.tup xs) = true then (match xs.findIdx? (fun z => D.eqv z e) with
    | some j => .ok (.int j, st)
    | none => .err) else .err
def isPairD : D → Bool
  | .tup [.int _, .int _] => true
  | _ => false
def gSrtS : D → Store → R (D × Store)
  | .lst xs, st => if xs.all isPairD = true ∧ (distinctD xs).length < 63 then .ok (.lst ((distinctD xs).mergeSort leD), st) else .err
  | .tup xs, st => if xs.all isPairD = true ∧ (distinctD xs).length < 63 then .ok (.lst ((distinctD xs).mergeSort leD), st) else .err
  | _, _ => .err
/-- a list times an int -/
def gRep : D → D → Store → R (D × Store)
  | .lst xs, .int k, st => if -(2 ^ 63) ≤ k ∧ k < 2 ^ 63 ∧ xs.length * k.toNat ≤ sizeLine then .ok (.lst (List.replicate k.toNat xs).flatten, st) else .err
  | _, _, _ => .err
/-! repr -/
mutual
def reprD : D → Option Str
  | .non => some "None"
  | .bl b => some (if b = true then "True" else "False")
  | .int i => if i.natAbs.log2 < 1920 then some (toString i : String) else none
  | .str x => if (reprText x).length ≤ sizeLine then some (reprText x) else none
  | .tup xs => (reprDs xs).map tupleText
  | .lst xs => (reprDs xs).map listText
  | _ => none
def reprDs : List D → Option (List Str)
  | [] => some []
  | x :: xs => (reprD x).bind fun t => (reprDs xs).map fun ts => t :: ts
end
def Bo.g : Bo → D → D → Store → R (D × Store)
  | .add => gAdd | .cat => gCat | .sub => gSub | .mul => gMul | .div => gDiv | .mod => gMod | .pow => gPow | .rep => gRep
def Bo.op : Bo → Operator
  | .add => .Add | .cat => .Add | .sub => .Sub | .mul => .Mult | .div => .FloorDiv | .mod => .Mod | .pow => .Pow | .rep => .Mult
def Bo.k : Bo → Kd
  | .cat => .n
  | .rep => .n
  | _ => .v
def Co.g : Co → D → D → Store → R (D × Store)
  | .lt => gLt | .le => gLe | .gt => gGt | .ge => gGe | .isN => gIs | .notN => gIsNot | .eq => gEq | .ne => gNe | .isin => gIn2 | .notin => gNotIn2
def Co.op : Co → CmpOp
  | .lt => .Lt | .le => .LtE | .gt => .Gt | .ge => .GtE | .isN => .Is | .notN => .IsNot | .eq => .Eq | .ne => .NotEq | .isin => .In | .notin => .NotIn
def topR : D → Bool
  | .tup _ | .bl _ | .int _ | .non | .str _ => true
  | _ => false
def gRepr (d : D) (st : Store) : R (D × Store) := match reprD d with
  | some t => if topR d = true ∧ t.length ≤ sizeLine ∧ d.depth ≤ 40 then .ok (.str t, st) else .err
  | none => .err
def B1.g : B1 → D → Store → R (D × Store)
  | .len => gLen | .abs => gAbs | .int => gInt | .all => gAll | .any => gAny | .sum => gSum | .min => gMin | .max => gMax | .tup => gTuple | .list => gList | .sorted => gSorted | .repr => gRepr | .dict => gDict
def B1.k : B1 → Kd
  | .list => .n | .sorted => .n
  | _ => .v
def B1.nm : B1 → Str
  | .len => "len" | .abs => "abs" | .int => "int" | .all => "all" | .any => "any" | .sum => "sum" | .min => "min" | .max => "max" | .tup => "tuple" | .list => "list" | .sorted => "sorted" | .repr => "repr" | .dict => "dict"
/-! ### the computation of an expression -/
structure Tb where
  cal : Nat → List D → Store → R (D × Store)
  glo : Nat → Option D
abbrev CE := En → Store → R (D × Store)
def cGlo (o : Option D) : CE := fun _ st => match o with
  | some d => .ok (d, st)
  | none => .err
def cCal (f : List D → Store → R (D × Store)) (g : FL) : CE := fun env st => (g env st).bind fun p => f p.1 p.2
def cIdx (t : Bool) (fa fb : CE) : CE := fun env st => (fa env st).bind fun p => match p.1.seqOf t with
  | some xs => (fb env p.2).bind fun q => gIdx xs q.1 q.2
  | none => .err
def cYes : En → Store → R (Bool × Store) := fun _ st => .ok (true, st)
def SE.k : SE → Kd
  | .own _ => .b
  | .lst _ => .n
  | .op o _ _ => o.k
  | .ite _ a b => match a.k, b.k with
    | .n, .n => .n
    | _, _ => .v
  | .b1 o _ => o.k
  | .sl n _ _ _ => if n = true then .n else .v
  | .sumL _ => .n
  | .lrg _ => .n
  | .srtS _ => .n
  | .lc _ _ _ _ _ => .n
  | .lc2 _ _ _ _ _ _ _ _ => .n
  | _ => .v
section
variable (T : Tb)
mutual
def denE : SE → CE
  | .cst d => cPure d
  | .var i => cVar i
  | .own i => cOwn i
  | .glb k => cGlo (T.glo k)
  | .tup es => cTup (denL es)
  | .lst es => cLst (denL es)
  | .op o a b => c2 (denE a) (denE b) o.g
  | .cmp o a b => c2 (denE a) (denE b) o.g
  | .ch o o' a b c => cChain (denE a) (denE b) (denE c) o.g o'.g
  | .neg a => c1 (denE a) gNeg
  | .and_ es => denA es
  | .or_ es => denO es
  | .nt a => cNot (denE a)
  | .ite c a b => cIte (cT (denE c)) (denE a) (denE b)
  | .cal f es => cCal (T.cal f) (denL es)
  | .b1 o a => c1 (denE a) o.g
  | .isi t a => c1 (denE a) (gIsi (match tyOf? t with | some T => T | none => ""))
  | .ix a b => c2 (denE a) (denE b) gIx2
  | .sl n a lo hi => cSl (denE a) (denO1 lo) (denO1 hi) (if n = true then gSlN else gSl)
  | .rev a => c1 (denE a) gRev
  | .put a => cPut (denE a)
  | .lens a => c1 (denE a) gLens
  | .sumL a => c1 (denE a) gSumL
  | .lrg a => c1 (denE a) gLrg
  | .trg a => c1 (denE a) gTrg
  | .trd es => cTrd (denL es)
  | .srtS a => c1 (denE a) gSrtS
  | .idx t a b => cIdx t (denE a) (denE b)
  | .lc s t is c e => cLc (denS s) t is (denC c) (denE e)
  | .lc2 s t is c s1 t1 c1 e => cLc2 (denS s) t is (denC c) (denS s1) t1 t1.slots (denC c1) (denE e)
def denL : EL → FL
  | .nil => lNil
  | .cons e es => lCons (denE e) (denL es)
def denA : EL → CE
  | .nil => cPure .non
  | .cons e .nil => denE e
  | .cons e (.cons e' es) => cAnd (denE e) (denA (.cons e' es))
def denO : EL → CE
  | .nil => cPure .non
  | .cons e .nil => denE e
  | .cons e (.cons e' es) => cOr (denE e) (denO (.cons e' es))
def denO1 : OE → En → Store → R (Option Int × Store)
  | .none => oNone
  | .some e => oSome (denE e)
def denC : OE → En → Store → R (Bool × Store)
  | .none => cYes
  | .some e => cT (denE e)
def denS : SR → FL
  | .e a => srcE (denE a)
  | .r1 a => srcR1 (denE a)
  | .r2 a b => srcR2 (denE a) (denE b)
  | .en a => srcEn (denE a)
  | .zp a b => srcZp (denE a) (denE b)
end
end

/-! ### the comparison -/
mutual
/-- an expression that may be a test -/
def tOk : Expr → Bool
  | .Compare _ [_] [_] _ => true
  | .Compare _ [_, _] [_, _] _ => true
  | .UnaryOp .Not a _ => tOk a
  | .BoolOp _ xs _ => tOks xs
  | .Name _ _ => true
  | .Call _ _ _ _ => true
  | .Subscript _ _ _ => true
  | .Constant _ _ _ => true
  | _ => false
def tOks : List Expr → Bool
  | [] => true
  | x :: xs => tOk x && tOks xs
end
structure Ck where
  N : List Str
  sc : Scope
  fnb : Str → Bool
  F : List (Str × Nat)
  G : List Str
  B : List Str
def okName (x : Str) : Bool := decide (x ≠ ("__debug__" : Str)) && decide (x ≠ ("__classdict__" : Str)) && decide (x ≠ ("__name__" : Str))
def visB : Option NameKind → Bool
  | some .local | some .cell | some .free => true
  | _ => false
def locB : Option NameKind → Bool
  | some .local | some .cell => true
  | _ => false
def gloB : Option NameKind → Bool
  | some .globalImplicit => true
  | _ => false
def Ck.blt (c : Ck) (x : Str) : Bool := gloB (c.sc.names.lookup x) && decide (x ∈ c.B)
def Ck.nm (c : Ck) (i : Nat) (x : Str) : Bool := decide (c.N[i]? = some x) && visB (c.sc.names.lookup x) && okName x
def isLocB : Option NameKind → Bool
  | some .local => true
  | _ => false
def Ck.tg (c : Ck) (i : Nat) (x : Str) : Bool := decide (c.N[i]? = some x) && locB (c.sc.names.lookup x) && (c.fnb x || isLocB (c.sc.names.lookup x))
def Ck.blk (c : Ck) (scope : Scope) : Ck := { c with sc := relS scope c.sc, fnb := fun x => scope.names.lookup x == some .cell }
def cstOk : D → Const → Bool
  | .non, .none => true
  | .bl b, .bool b' => decide (b = b')
  | .int i, .int j => decide (i = j)
  | .str x, .str y => decide (x = y)
  | _, _ => false
def ownOf (N : List Str) (is : List Nat) : List (Str × Nat) := is.map fun i => (match N[i]? with | some x => x | none => "", i)
def notB : Kd → Bool
  | .b => false
  | _ => true
mutual
def chkT (c : Ck) : Tg → Expr → Bool
  | .nm i, ex => (match ex with
    | .Name x _ => c.tg i x
    | _ => false)
  | .tp ts, ex => (match ex with
    | .Tuple es _ _ => chkTs c ts es
    | _ => false)
def chkTs (c : Ck) : TgL → List Expr → Bool
  | .nil, es => (match es with
    | [] => true
    | _ => false)
  | .cons t ts, es => (match es with
    | e :: es => notStar e && chkT c t e && chkTs c ts es
    | _ => false)
end
/-- no call of super() -/
def isBare : Expr → Bool
  | .Call (.Name _ _) [] [] _ => false
  | _ => true
def isTupE : Expr → Bool
  | .Tuple _ _ _ => true
  | _ => false
mutual
def chkE (c : Ck) : SE → Expr → Bool
  | .cst d, ex => (match ex with
    | .Constant v _ _ => cstOk d v
    | _ => false)
  | .var i, ex => (match ex with
    | .Name x _ => c.nm i x
    | _ => false)
  | .own i, ex => (match ex with
    | .Name x _ => c.nm i x
    | _ => false)
  | .glb k, ex => (match ex with
    | .Name x _ => decide (c.G[k]? = some x) && gloB (c.sc.names.lookup x) && okName x
    | _ => false)
  | .tup es, ex => (match ex with
    | .Tuple xs _ _ => chkL c es xs
    | _ => false)
  | .lst es, ex => (match ex with
    | .List xs _ => chkL c es xs
    | _ => false)
  | .op o a b, ex => (match ex with
    | .BinOp x p y _ => decide (o.op = p) && chkE c a x && chkE c b y
    | _ => false)
  | .cmp o a b, ex => (match ex with
    | .Compare x [p] [y] _ => decide (o.op = p) && !behindInMarks p y && chkE c a x && chkE c b y
    | _ => false)
  | .ch o o' a b d, ex => (match ex with
    | .Compare x [p, p'] [y, z] _ => decide (o.op = p) && decide (o'.op = p') && !lastMarks [p, p'] [y, z] && chkE c a x && chkE c b y && chkE c d z
    | _ => false)
  | .neg a, ex => (match ex with
    | .UnaryOp .USub x _ => chkE c a x
    | _ => false)
  | .and_ es, ex => (match ex with
    | .BoolOp .And xs _ => chkB c es xs
    | _ => false)
  | .or_ es, ex => (match ex with
    | .BoolOp .Or xs _ => chkB c es xs
    | _ => false)
  | .nt a, ex => (match ex with
    | .UnaryOp .Not x _ => chkE c a x
    | _ => false)
  | .ite t a b, ex => (match ex with
    | .IfExp x y z _ => chkE c t x && tOk x && chkE c a y && chkE c b z && notB a.k && notB b.k
    | _ => false)
  | .cal f es, ex => (match ex with
    | .Call (.Name x _) xs [] _ => (match c.F[f]? with
      | some p => decide (p.1 = x) && decide (p.2 = xs.length)
      | none => false) && gloB (c.sc.names.lookup x) && okName x && xs.all notStar && chkL c es xs
    | _ => false)
  | .b1 o a, ex => (match ex with
    | .Call (.Name x _) [y] [] _ => decide (o.nm = x) && c.blt x && notStar y && chkE c a y
    | _ => false)
  | .isi t a, ex => (match ex with
    | .Call (.Name x _) [y, .Name z _] [] _ => decide (x = ("isinstance" : Str)) && c.blt x && decide (z = t) && c.blt t && (tyOf? t).isSome && notStar y && chkE c a y
    | _ => false)
  | .ix a b, ex => (match ex with
    | .Subscript x y _ => !isSlice y && chkE c a x && chkE c b y
    | _ => false)
  | .sl _ a lo hi, ex => (match ex with
    | .Subscript x (.Slice l h none _) _ => chkE c a x && chkO c lo l && chkO c hi h
    | _ => false)
  | .rev a, ex => (match ex with
    | .Subscript x (.Slice none none (some (.UnaryOp .USub (.Constant (.int i) _ _) _)) _) _ => decide (i = 1) && chkE c a x
    | _ => false)
  | .put a, x => (match a.k with | .n => true | _ => false) && chkE c a x
  | .lens a, ex => (match ex with
    | .Call (.Name x _) [.Call (.Name y _) [z] [] _] [] _ => decide (x = ("len" : Str)) && c.blt x && decide (y = ("set" : Str)) && c.blt y && notStar z && chkE c a z
    | _ => false)
  | .sumL a, ex => (match ex with
    | .Call (.Name x _) [y, .List [] _] [] _ => decide (x = ("sum" : Str)) && c.blt x && notStar y && chkE c a y
    | _ => false)
  | .lrg a, ex => (match ex with
    | .Call (.Name x _) [.Call (.Name y _) [z] [] _] [] _ => decide (x = ("list" : Str)) && c.blt x && decide (y = ("range" : Str)) && c.blt y && notStar z && chkE c a z
    | _ => false)
  | .trg a, ex => (match ex with
    | .Call (.Name x _) [.Call (.Name y _) [z] [] _] [] _ => decide (x = ("tuple" : Str)) && c.blt x && decide (y = ("range" : Str)) && c.blt y && notStar z && chkE c a z
    | _ => false)
  | .trd es, ex => (match ex with
    | .Call (.Name x _) [.Call (.Name y _) [z1, z2, z3] [] _] [] _ => decide (x = ("tuple" : Str)) && c.blt x && decide (y = ("range" : Str)) && c.blt y && notStar z1 && notStar z2 && notStar z3 && chkL c es [z1, z2, z3]
    | _ => false)
  | .srtS a, ex => (match ex with
    | .Call (.Name x _) [.Call (.Name y _) [z] [] _] [] _ => decide (x = ("sorted" : Str)) && c.blt x && decide (y = ("set" : Str)) && c.blt y && notStar z && chkE c a z
    | _ => false)
  | .idx _ a b, ex => (match ex with
    | .Call (.Attribute x m apos) [y] [] cpos => decide (m = ("index" : Str)) && isBare x && (apos.endLine == cpos.line) && notStar y && chkE c a x && chkE c b y
    | _ => false)
  | .lc s t is d e, ex => (match ex with
    | .ListComp elt [⟨tg, iter, ifs, 0⟩] scope _ => chkS c s tg iter && blkC c.N c.sc scope (ownOf c.N is) && t.slots.all (fun j => decide (j ∈ is)) && chkT (c.blk scope) t tg && chkC (c.blk scope) d ifs && chkE (c.blk scope) e elt && notB e.k
    | _ => false)
  | .lc2 s t is d s1 t1 d1 e, ex => (match ex with
    | .ListComp elt [⟨tg, iter, ifs, 0⟩, ⟨tg1, iter1, ifs1, 0⟩] scope _ => chkS c s tg iter && blkC c.N c.sc scope (ownOf c.N is) && t.slots.all (fun j => decide (j ∈ is)) && t1.slots.all (fun j => decide (j ∈ is)) &&
        chkT (c.blk scope) t tg && chkC (c.blk scope) d ifs && chkS (c.blk scope) s1 tg1 iter1 && chkT (c.blk scope) t1 tg1 && chkC (c.blk scope) d1 ifs1 && chkE (c.blk scope) e elt && notB e.k
    | _ => false)
def chkL (c : Ck) : EL → List Expr → Bool
  | .nil, xs => (match xs with
    | [] => true
    | _ => false)
  | .cons e es, xs => (match xs with
    | x :: xs => chkE c e x && notB e.k && notStar x && chkL c es xs
    | _ => false)
def chkB (c : Ck) : EL → List Expr → Bool
  | .nil, _ => false
  | .cons e .nil, xs => (match xs with
    | [x] => chkE c e x && notB e.k
    | _ => false)
  | .cons e (.cons e' es), xs => (match xs with
    | x :: y :: xs => chkE c e x && chkB c (.cons e' es) (y :: xs)
    | _ => false)
def chkO (c : Ck) : OE → Option Expr → Bool
  | .none, x => (match x with
    | none => true
    | _ => false)
  | .some e, x => (match x with
    | some x => chkE c e x
    | _ => false)
def chkC (c : Ck) : OE → List Expr → Bool
  | .none, xs => (match xs with
    | [] => true
    | _ => false)
  | .some e, xs => (match xs with
    | [x] => chkE c e x && tOk x
    | _ => false)
def chkS (c : Ck) : SR → Expr → Expr → Bool
  | .e a, _, x => chkE c a x && notB a.k && (match x with | .Set _ _ _ => false | _ => true)
  | .r1 a, _, ex => (match ex with
    | .Call (.Name f _) [x] [] _ => decide (f = ("range" : Str)) && c.blt f && notStar x && chkE c a x
    | _ => false)
  | .r2 a b, _, ex => (match ex with
    | .Call (.Name f _) [x, y] [] _ => decide (f = ("range" : Str)) && c.blt f && notStar x && notStar y && chkE c a x && chkE c b y
    | _ => false)
  | .en a, tg, ex => (match ex with
    | .Call (.Name f _) [x] [] _ => isTupE tg && decide (f = ("enumerate" : Str)) && c.blt f && notStar x && chkE c a x && notB a.k
    | _ => false)
  | .zp a b, tg, ex => (match ex with
    | .Call (.Name f _) [x, y] [] _ => isTupE tg && decide (f = ("zip" : Str)) && c.blt f && notStar x && notStar y && chkE c a x && chkE c b y && notB a.k && notB b.k
    | _ => false)
end
end Sn

set_option Elab.async false
set_option linter.all false
set_option maxRecDepth 100000
/-! layer 16r: reversed slices, list(range), is of bools -/
namespace Sn
open PySem PySem.Spec PyProof.Rows L2
theorem fm_congr2 {α β : Type} {f g : α → Option β} : ∀ {l : List α}, (∀ n ∈ l, f n = g n) → l.filterMap f = l.filterMap g
  | [], _ => rfl
  | a :: l, h => by
    rw [List.filterMap_cons, List.filterMap_cons, h a List.mem_cons_self, fm_congr2 fun n hn => h n (List.mem_cons_of_mem _ hn)]
section
variable {prog : Program} {w : World} {A : Around} {E : Value → Shared → Prop} {s : Shared}
theorem rev_applied {sl : Addr} {c : Value} {n : Nat} {Q : Int × Int × Nat → Shared → Prop} (isS : s.heap.IsSliceOf sl .none .none c) (pc : IsPart c (some (-1))) (good : Q ((n : Int) - 1, -1, n) s) :
    wpAny (model prog w) A (Builtin.Slice.sliceApplied (.ref sl) (pure (n : Int))) Q E s := by
  obtain ⟨o, get, cl, dat⟩ := isS
  unfold Builtin.Slice.sliceApplied Builtin.Slice.sliceFields
  have f0 : wpAny (model prog w) A (Builtin.Slice.slicePartIndex c) (fun r s' => r = some (-1) ∧ s' = s) E s := HT.slicePart_ pc ⟨rfl, rfl⟩
  refine wpAny_bind (wpAny_bind (wpAny_field get dat (x := .none) rfl (wpAny_bind (wpAny_field get dat (x := .none) rfl (wpAny_bind (wpAny_field get dat (x := c) rfl (wpAny_pure ?_)))))))
  refine wpAny_bind (wpAny_mono f0 (fun r s' h => ?_) fun _ _ z => z)
  obtain ⟨rfl, rfl⟩ := h
  show wpAny _ _ (if ((-1 : Int) == 0) = true then _ else _) _ _ s'
  rw [if_neg (by decide)]
  refine wpAny_bind (HT.slicePart_ .none (wpAny_bind (HT.slicePart_ .none (wpAny_bind (wpAny_pure ?_)))))
  have adj : Builtin.Slice.sliceAdjust none none (-1) (n : Int) = ((n : Int) - 1, -1) := by
    unfold Builtin.Slice.sliceAdjust
    simp
  have pl : Builtin.Slice.slicePlaces ((n : Int) - 1) (-1) (-1) = n := by
    unfold Builtin.Slice.slicePlaces
    have h1 : ¬ ((-1 : Int) > 0) := by omega
    simp only [h1, if_false, Int.neg_neg, Int.ediv_one]
    split <;> omega
  show wpAny _ _ (match Builtin.Slice.sliceAdjust none none (-1) (n : Int) with | (a, b) => pure (a, (-1 : Int), Builtin.Slice.slicePlaces a b (-1))) _ _ s'
  rw [adj]
  show wpAny _ _ (pure ((n : Int) - 1, (-1 : Int), Builtin.Slice.slicePlaces ((n : Int) - 1) (-1) (-1))) _ _ s'
  rw [pl]
  exact wpAny_pure good
theorem rev_pick (xs : Array Value) : ((List.range xs.size).filterMap fun (k : Nat) => xs[(((xs.size : Int) - 1) + (k : Int) * (-1)).toNat]?).toArray = xs.toList.reverse.toArray := by
  congr 1
  refine List.ext_getElem? fun i => ?_
  have all : ((List.range xs.size).filterMap fun (k : Nat) => xs[(((xs.size : Int) - 1) + (k : Int) * (-1)).toNat]?) = (List.range xs.size).filterMap fun k => some (xs.toList.reverse.getD k default) := by
    refine fm_congr2 fun k hk => ?_
    have hk' := List.mem_range.mp hk
    have e : (((xs.size : Int) - 1) + (k : Int) * (-1)).toNat = xs.size - 1 - k := by omega
    rw [e, List.getD_eq_getElem?_getD, List.getElem?_reverse (by simpa using hk')]
    have hx : xs.size - 1 - k < xs.size := by omega
    simp [hx]
  rw [all, List.filterMap_eq_map' , List.getElem?_map]
  by_cases hi : i < xs.size
  · rw [List.getElem?_range hi]
    simp [hi]
  · rw [List.getElem?_eq_none (by simpa using hi), List.getElem?_eq_none (by simpa using hi)]
    rfl
theorem getItem_tuple_rev {t sl : Addr} {xs : Array Value} {c : Value} {Q : Value → Shared → Prop} (tu : IsTup s.heap t xs) (isS : s.heap.IsSliceOf sl .none .none c) (pc : IsPart c (some (-1)))
    (good : Q (.ref s.heap.objs.size) { s with heap := s.heap.push { cls := .type "tuple", data := .seq xs.toList.reverse.toArray } }) (sz : xs.size ≤ sizeLine) : wpAny (model prog w) A (getItem (.ref t) (.ref sl)) Q E s := by
  have okz : sizeOk (.seq xs.toList.reverse.toArray) := by
    show xs.toList.reverse.toArray.size ≤ sizeLine
    simpa using sz
  have tyS : s.TypeIs (.ref sl) "slice" := let ⟨o, h1, h2, _⟩ := isS; ⟨o, h1, h2⟩
  unfold getItem
  try with_reducible refine wpAny_holding ?_
  first | refine wpAny_bind (wpAny_pure ?_) | skip
  refine wpAny_bind (wpAny_sequenceKey tu.typeIs (by decide) (wpAny_bind (wpAny_callSpecial?_slot (name := Str.ofString "__getitem__") tu.typeIs PyProof.Rows.slot_tuple_getitem
    (wpAny_call_entry PyProof.Rows.slot_tuple_getitem tu.typeIs entry_tuple_getitem ?_ (args_tuple_getitem _ _)))))
  show wpAny _ _ (Builtin.Tuple.tupleItemsOf (.ref t) >>= _) _ _ s
  refine wpAny_bind (tupleItemsOf_ tu (wpAny_bind (wpAny_typeOf tyS ?_)))
  rw [if_pos (by decide)]
  refine wpAny_bind (rev_applied isS pc ?_)
  have never : ¬ ((((xs.size : Int) - 1) == 0 && (-1 : Int) == 1 && xs.size == xs.size) = true) := by simp
  show wpAny _ _ (if (((xs.size : Int) - 1) == 0 && (-1 : Int) == 1 && xs.size == xs.size) = true then _ else _) _ _ s
  rw [if_neg never, rev_pick]
  first
    | exact wpAny_bind (m := Builtin.Tuple.tupleExact _) (wpAny_newObj_type (wpAny_pure ⟨_, rfl, wpAny_pure good⟩) okz)
    | exact wpAny_bind (m := Builtin.Tuple.tupleExact _) (wpAny_newObj_type (wpAny_bind (wpAny_pure (wpAny_pure ⟨_, rfl, wpAny_pure good⟩))) okz)
    | exact wpAny_bind (wpAny_bind (m := Builtin.Tuple.tupleExact _) (wpAny_newObj_type (wpAny_pure (wpAny_pure ⟨_, rfl, wpAny_pure good⟩)) okz))
    | exact wpAny_bind (wpAny_bind (m := Builtin.Tuple.tupleExact _) (wpAny_newObj_type (wpAny_pure ⟨_, rfl, wpAny_pure good⟩) okz))
end

section
variable {X : Cx} {CA : Nat → Option Addr} {W : WX} {a e : Expr} {te : TE} {fa : CE} {p p1 p2 p3 pos pos2 : Pos} {kk : Nat}
/-- xs[::-1] of a list, of a tuple -/
def tRev (K : PySem.W.Frag) (te : TE) : TE := fun σ H Q => te σ H fun x H1 => ∃ b xs, x = .ref b ∧ ((SqL K H1 b xs ∧ ∀ q, H1 q = none → Q (.ref q) (upd H1 q (.lst xs.reverse))) ∨ (SqT K H1 b xs ∧ NewT H1 xs.reverse Q))
theorem pe_rev2 (he : PE X e te) : PE X (.Subscript e (.Slice none none (some (.UnaryOp .USub (.Constant (.int 1) kk p1) p2)) p3) pos) (tRev X.K te) := by
  refine ⟨fun pins s σ H Q I h => ?_⟩
  have step : PO X (some (.UnaryOp .USub (.Constant (.int 1) kk p1) p2)) (tPart (tUn (rU fun i => .int (-i)) (tC (.int 1)))) := po_some (pe_un un_neg pe_int)
  refine Subscript_ (thn (he.run pins s σ H _ I h) fun v s1 ⟨x, H1, I1, r1, b, xs, ex, hx⟩ => ?_)
  subst ex
  obtain rfl : v = .ref b := r1
  refine wpAny_Slice (thn (po_none.run pins s1 σ H1 (fun o H2 => o = none ∧ H2 = H1) I1 ⟨rfl, rfl⟩) fun vl s2 ⟨l, H2, I2, pl, el, e2⟩ => thn (po_none.run pins s2 σ H2 (fun o H3 => o = none ∧ H3 = H2) I2 ⟨rfl, rfl⟩) fun vu s3 ⟨u, H3, I3, pu, eu, e3⟩ =>
    thn (step.run pins s3 σ H3 (fun o H4 => o = some (-1) ∧ H4 = H3) I3 ⟨1, rfl, -1, rfl, rfl, rfl⟩) fun vs s4 ⟨o, H4, I4, ps, eo, e4⟩ => ?_)
  subst e2 e3 e4
  subst el eu eo
  cases pl
  cases pu
  have I5 : Inv X pins σ H4 { s4 with heap := s4.heap.push { cls := .type "slice", data := .fields #[.none, .none, vs] } } := I4.kept (t' := s4.toks) fun b ob q => Heap.get?_push_of_some _ q
  show wpAny (model X.prog X.w) X.A (subscriptTail e (.Slice none none (some (.UnaryOp .USub (.Constant (.int 1) kk p1) p2)) p3) (.ref b) (.ref s4.heap.objs.size)) (EP X pins σ Q) X.xe { s4 with heap := s4.heap.push { cls := .type "slice", data := .fields #[.none, .none, vs] } }
  rcases hx with ⟨hx, q⟩ | ⟨hx, q⟩
  · obtain ⟨its, r, pl, hz⟩ := I5.list hx
    have hlen := r.length
    refine tail_any (ops := [.ref b, .ref s4.heap.objs.size]) pl.isList.typeIs (PySem.slot_list_getitem.lookup) ?_ (by with_unfolding_all rfl)
    refine wpAny_getItem_list_slice pl.isList (Heap.IsSliceOf.new _ .none .none vs) .none .none ps (by decide) ?_ (by rw [List.size_toArray]; omega)
    rw [PySem.W.krv_pick]
    exact ⟨.ref _, _, I5.laid (t' := s4.toks) (o := .lst xs.reverse) (fun b ob q => Heap.get?_push_of_some _ q) (Nat.le_refl _) ⟨by rw [List.length_reverse]; exact hz, _, 0, r.reverse, Heap.get?_push_size _ rfl⟩, rfl, q _ (I5.hok.fresh (Nat.le_refl _))⟩
  · obtain ⟨its, r, tu, hz⟩ := I5.tuple hx
    have hlen := r.length
    refine tail_any (ops := [.ref b, .ref s4.heap.objs.size]) tu.typeIs (PyProof.Rows.slot_tuple_getitem.lookup) ?_ (by with_unfolding_all rfl)
    refine getItem_tuple_rev tu (Heap.IsSliceOf.new _ .none .none vs) ps ?_ (by rw [List.size_toArray]; omega)
    exact laid_tup I5 r.reverse (by rw [List.length_reverse]; exact hz) q
theorem Reps.reverse {P : Program} {w : World} {K : PySem.W.Frag} {F : Addr → Prop} {ρ : List Addr} {H : Hp} : ∀ {vs : List V} {ds : List D}, Reps P w K F ρ H vs ds → Reps P w K F ρ H vs.reverse ds.reverse
  | _, _, .nil => .nil
  | _, _, .cons r s => by
    rw [List.reverse_cons, List.reverse_cons]
    exact (Reps.reverse s).append (.cons r .nil)
theorem s_rev (ha : PE X a (tD X.prog X.w X.K CA W .b fa)) :
    PE X (.Subscript a (.Slice none none (some (.UnaryOp .USub (.Constant (.int 1) kk p1) p2)) p3) pos) (tD X.prog X.w X.K CA W .v (c1 fa gRev)) := by
  refine peI (pe_rev2 ha) fun σ H Q h => tQ.imp (t_c1 h) fun x H1 q => ?_
  obtain ⟨σ, H0, F, ρ, env, st, d, rel, k1, q⟩ := q
  unfold gRev at q
  split at q
  · obtain ⟨b, vs, rfl, h1, r1, z1⟩ := k1.tupE
    exact ⟨b, vs, rfl, .inr ⟨h1, fin_tup rel r1.reverse (by simpa using z1) q⟩⟩
  · obtain ⟨b, vs, rfl, h1, r1, z1⟩ := k1.lstE
    exact ⟨b, vs, rfl, .inl ⟨SqL.of h1, fun p n => fin_lstV rel r1.reverse (by simpa using z1) q n⟩⟩
  · exact q.elim
theorem s_lrg (hc : X.calm = true) (hg : Gl X "list") (hm : X.mg "list" = none) (hg2 : Gl X "range") (hm2 : X.mg "range" = none) (ha : PE X a (tD X.prog X.w X.K CA W .b fa)) (hs : notStar a = true) :
    PE X (.Call (.Name "list" p) [.Call (.Name "range" p2) [a] [] pos2] [] pos) (tD X.prog X.w X.K CA W .n (c1 fa gLrg)) := by
  refine peI (pe_listRg hc hg hm (prg_1 hg2 hm2 ha (star_of hs))) fun σ H Q h => tQ.imp (t_c1 h) fun x H1 q => ?_
  obtain ⟨σ, H0, F, ρ, env, st, d, rel, k1, q⟩ := q
  unfold gLrg at q
  split at q
  · rename_i j
    obtain rfl := k1.intE
    split at q
    · rename_i hj
      refine ⟨j, rfl, ⟨by omega, by omega, by omega, by omega, by omega⟩, fun l n => ?_⟩
      have e : rgV 0 j = (List.range j.toNat).map fun i => V.int (i : Nat) := by
        unfold rgV
        rw [Int.sub_zero]
        refine List.map_congr_left fun i _ => ?_
        rw [Int.zero_add]
      rw [e]
      refine fin_lst rel (Reps.of_get (by simp) fun i v d h1 h2 => ?_) (by rw [List.length_map, List.length_range, sizeLine_eq]; omega) q n
      rw [List.getElem?_map] at h1 h2
      cases e2 : (List.range j.toNat)[i]? with
      | none => rw [e2] at h1; cases h1
      | some z =>
        rw [e2] at h1 h2
        cases h1
        cases h2
        exact .int _
    · exact q.elim
  · exact q.elim
theorem o_is : OpR X (compareOp .Is) (rG2 X.prog X.w X.K CA W .v gIs) := by
  rintro pins s σ H x y v u Q I rx ry ⟨σ', H0, F, ρ, env, st, d, e, rel, k1, k2, q⟩
  unfold gIs at q
  split at q
  · rename_i b c
    obtain rfl := k1.blE
    obtain rfl := k2.blE
    refine op_isBl pins s σ H _ _ v u Q I rx ry ⟨b, c, rfl, rfl, ?_⟩
    rw [← Bool.beq_eq_decide_eq]
    exact fin_v rel (.bl _) q
  · exact o_isN pins s σ H x y v u Q I rx ry ⟨σ', H0, F, ρ, env, st, d, e, rel, k1, k2, q⟩
theorem o_isNot : OpR X (compareOp .IsNot) (rG2 X.prog X.w X.K CA W .v gIsNot) := by
  rintro pins s σ H x y v u Q I rx ry ⟨σ', H0, F, ρ, env, st, d, e, rel, k1, k2, q⟩
  unfold gIsNot at q
  split at q
  · rename_i b c
    obtain rfl := k1.blE
    obtain rfl := k2.blE
    refine op_notBl pins s σ H _ _ v u Q I rx ry ⟨b, c, rfl, rfl, ?_⟩
    rw [← Bool.beq_eq_decide_eq]
    exact fin_v rel (.bl _) q
  · exact o_notN pins s σ H x y v u Q I rx ry ⟨σ', H0, F, ρ, env, st, d, e, rel, k1, k2, q⟩
end
end Sn

set_option Elab.async false
set_option linter.all false
set_option maxRecDepth 100000
/-! layer 16u: tuples of ranges; a swap of two places of a list -/
namespace Sn
open PySem PySem.Spec PyProof.Rows L2
section
variable {X : Cx} {CA : Nat → Option Addr} {W : WX} {a b c ex : Expr} {es : List Expr} {fa fb fi : En → Store → R (D × Store)} {g : FL} {pos p p1 p2 pos2 : Pos}
variable {te : St → Hp → (Int → Int → Hp → Prop) → Prop}
theorem pe_tupRgN {e : Expr} (hc : X.calm = true) (hg : Gl X "tuple") (hm : X.mg "tuple" = none) (he : PRg X e te) (na : starEach [e] X.env = (false, eval e X.env) :: starEach [] X.env := by rfl) :
    PE X (.Call (.Name "tuple" p) [e] [] pos) (fun σ H Q => te σ H fun a b H1 => RgOk a b ∧ NewT H1 (rgV a b) Q) := by
  refine ⟨fun pins s σ H Q I h => ?_⟩
  refine Call_ (ld_blt I hg hm boot_tuple (PyProof.Rows.callWith_type1 (args_cons (thn (he pins s σ H _ I h) fun x s1 ⟨r, a, b, t, u, v, H1, ex, hr, I1, ok, q⟩ => args_nil ?_) na) na))
  subst ex
  obtain ⟨b1, b2, b3, b4, b5⟩ := ok
  refine call_tuple_range (n := (b - a).toNat) (I1.ok.hd hc) hr (small_one b1 b2 b3 b4) (rangeSize_nat a b) b5 fun h' tk acc hk hi => ?_
  have I2 : Inv X pins σ H1 { s1 with heap := h', toks := tk } := I1.kept hk
  have w := laid_tup I2 (vals_rg hi) (by rw [rgV_length, sizeLine_eq]; omega) q
  simpa using w
/-- an expression that makes a range i, i - 1 .. -/
def PRd (X : Cx) (e : Expr) (t : St → Hp → (Int → Int → Hp → Prop) → Prop) : Prop :=
  ∀ (pins : List (Addr × Obj)) (s : Shared) (σ : St) (H : Hp) (Q : Int → Int → Hp → Prop), Inv X pins σ H s → t σ H Q →
    wpAny (model X.prog X.w) X.A (eval e X.env) (fun x s' => ∃ r a b t u v H', x = .ref r ∧ IsRange s'.heap r a b (-1) t u v ∧ Inv X pins σ H' s' ∧ Q a b H') X.xe s
def tRd (ta : TA) : St → Hp → (Int → Int → Hp → Prop) → Prop := fun σ H Q => ta σ H fun vs H1 => ∃ i j, vs = [.int i, .int j, .int (-1)] ∧ Q i j H1
theorem prd_3 {ta : TA} (hg : Gl X "range") (hm : X.mg "range" = none) (ha : PA X [a, b, c] ta)
    (hs : starEach [a, b, c] X.env = (false, eval a X.env) :: starEach [b, c] X.env := by rfl) (hpl : (backTo pos (starEach [b, c] X.env)).any (·.1) = false := by rfl) : PRd X (.Call (.Name "range" p) [a, b, c] [] pos) (tRd ta) := by
  intro pins s σ H Q I h
  refine Call_ (ld_blt I hg hm boot_range (PyProof.Rows.callWith_type1 (thn (ha.run pos pins s σ H _ I h) fun us s1 ⟨vs, H1, I1, r1, q1⟩ => ?_) hs hpl))
  obtain ⟨i, j, e, q⟩ := q1
  subst e
  cases r1 with
  | cons r rr =>
    cases rr with
    | cons r' rr =>
      cases rr with
      | cons r'' rr =>
        cases rr
        obtain ⟨t, rfl⟩ := r
        obtain ⟨t', rfl⟩ := r'
        obtain ⟨t'', rfl⟩ := r''
        refine call_range_3 (by decide) ?_ (.inl (PyProof.noPylong_small (by decide)))
        exact ⟨_, i, j, _, _, _, H1, rfl, IsRange.new _ _ _ _ _ _ _, I1.kept fun b u e => Heap.get?_push_of_some _ e, q⟩
def rdV (i j : Int) : List V := (List.range (i - j).toNat).map fun n => V.int (i - (n : Nat))
theorem vals_rd {i j : Int} {acc : Array Value} (h : ItemsOf (fun n v => ∃ t, v = .int (i + n * -1) t) acc (i - j).toNat) : Vals (rdV i j) acc.toList := by
  have e : acc.toList.length = (i - j).toNat := by rw [Array.length_toList]; exact h.1
  unfold rdV
  rw [← e]
  refine vals_of_get acc.toList _ fun n u hj => ?_
  obtain ⟨t, rfl⟩ := h.2 n u (by rw [← hj, Array.getElem?_toList])
  exact ⟨t, by congr 1; omega⟩
theorem pe_tupRd {e : Expr} (hc : X.calm = true) (hg : Gl X "tuple") (hm : X.mg "tuple" = none) (he : PRd X e te) (na : starEach [e] X.env = (false, eval e X.env) :: starEach [] X.env := by rfl) :
    PE X (.Call (.Name "tuple" p) [e] [] pos) (fun σ H Q => te σ H fun i j H1 => (-1000000 ≤ i ∧ i ≤ 1000000 ∧ -1000000 ≤ j ∧ j ≤ 1000000) ∧ NewT H1 (rdV i j) Q) := by
  refine ⟨fun pins s σ H Q I h => ?_⟩
  refine Call_ (ld_blt I hg hm boot_tuple (PyProof.Rows.callWith_type1 (args_cons (thn (he pins s σ H _ I h) fun x s1 ⟨r, a, b, t, u, v, H1, ex, hr, I1, ok, q⟩ => args_nil ?_) na) na))
  subst ex
  obtain ⟨b1, b2, b3, b4⟩ := ok
  obtain ⟨c0, c1, c2, c3⟩ := RgC.neg (i := a) (j := b) (by omega) (by omega) (by omega) (by omega)
  refine call_tuple_range (n := (a - b).toNat) (I1.ok.hd hc) hr c2 c3 (by omega) fun h' tk acc hk hi => ?_
  have I2 : Inv X pins σ H1 { s1 with heap := h', toks := tk } := I1.kept hk
  have w := laid_tup I2 (vals_rd hi) (by unfold rdV; rw [List.length_map, List.length_range, sizeLine_eq]; omega) q
  simpa using w
theorem s_trg (hc : X.calm = true) (hg : Gl X "tuple") (hm : X.mg "tuple" = none) (hg2 : Gl X "range") (hm2 : X.mg "range" = none) (ha : PE X a (tD X.prog X.w X.K CA W .b fa)) (hs : notStar a = true) :
    PE X (.Call (.Name "tuple" p) [.Call (.Name "range" p2) [a] [] pos2] [] pos) (tD X.prog X.w X.K CA W .v (c1 fa gTrg)) := by
  refine peI (pe_tupRgN hc hg hm (prg_1 hg2 hm2 ha (star_of hs))) fun σ H Q h => tQ.imp (t_c1 h) fun x H1 q => ?_
  obtain ⟨σ, H0, F, ρ, env, st, d, rel, k1, q⟩ := q
  unfold gTrg at q
  split at q
  · rename_i j
    obtain rfl := k1.intE
    split at q
    · rename_i hj
      refine ⟨j, rfl, ⟨by omega, by omega, by omega, by omega, by omega⟩, ?_⟩
      have e : rgV 0 j = (List.range j.toNat).map fun i => V.int (i : Nat) := by
        unfold rgV
        rw [Int.sub_zero]
        refine List.map_congr_left fun i _ => ?_
        rw [Int.zero_add]
      rw [e]
      refine fin_tup rel (Reps.of_get (by simp) fun i v d h1 h2 => ?_) (by rw [List.length_map, List.length_range, sizeLine_eq]; omega) q
      rw [List.getElem?_map] at h1 h2
      cases e2 : (List.range j.toNat)[i]? with
      | none => rw [e2] at h1; cases h1
      | some z =>
        rw [e2] at h1 h2
        cases h1
        cases h2
        exact .int _
    · exact q.elim
  · exact q.elim
theorem s_trd (hc : X.calm = true) (hg : Gl X "tuple") (hm : X.mg "tuple" = none) (hg2 : Gl X "range") (hm2 : X.mg "range" = none) (ha : PA X [a, b, c] (tL X.prog X.w X.K CA W g)) (h1 : notStar a = true) (h2 : notStar b = true) (h3 : notStar c = true) :
    PE X (.Call (.Name "tuple" p) [.Call (.Name "range" p2) [a, b, c] [] pos2] [] pos) (tD X.prog X.w X.K CA W .v (cTrd g)) := by
  refine peI (pe_tupRd hc hg hm (prd_3 hg2 hm2 ha (star_of h1) ?_)) fun σ H Q ⟨H0, F, ρ, env, st, rel, q⟩ => ?_
  · exact any_of (by simp [h2, h3])
  refine ⟨H0, F, ρ, env, st, rel, (After.bind (RK' := rkL X.prog X.w X.K) (rkD_ok .v) q).imp fun vs H1 h => ?_⟩
  obtain ⟨F1, ρ1, ds, st1, x, r1, k1, _, q1⟩ := h
  unfold gTrd at q1
  split at q1
  · rename_i i j k he
    have he' : ds = [.int i, .int j, .int k] := he
    split at q1
    · rename_i hj
      obtain ⟨hk, hj⟩ := hj
      have k2 : Reps X.prog X.w X.K F1 ρ1 H1 vs ds := k1
      rw [he', hk] at k2
      cases k2 with
      | cons r rr =>
        cases rr with
        | cons r' rr =>
          cases rr with
          | cons r'' rr =>
            cases rr
            cases r
            cases r'
            cases r''
            refine ⟨i, j, rfl, ⟨hj.1, hj.2.1, hj.2.2.1, hj.2.2.2⟩, ?_⟩
            refine fin_tup r1 (Reps.of_get (by simp [rdV]) fun n v d h1 h2 => ?_) (by rw [List.length_map, List.length_range, sizeLine_eq]; omega) q1
            unfold rdV at h1
            rw [List.getElem?_map] at h1 h2
            cases e2 : (List.range (i - j).toNat)[n]? with
            | none => rw [e2] at h1; cases h1
            | some z =>
              rw [e2] at h1 h2
              cases h1
              cases h2
              exact .int _
    · exact q1.elim
  · exact q1.elim
end
end Sn

set_option Elab.async false
set_option linter.all false
set_option maxRecDepth 100000
/-! layer 16w: xs[i], xs[j] = a, b -/
namespace Sn
open PySem PySem.Spec PyProof.Rows L2
def sPutK (i : Nat) (fi : En → Store → R (D × Store)) (d : D) (K : CS) : CS := fun env st => match env[i]? with
  | some (some (.own (.lst ds))) => (fi env st).bindS env fun e st => (match e with
    | .int k => (match ixN ds.length k with
      | some j => K (env.set i (some (.own (.lst (ds.set j d))))) st
      | none => .err)
    | _ => .err)
  | _ => .err
def sSwp (i : Nat) (fa fb : En → Store → R (D × Store)) (kf : List (Kd × (En → Store → R (D × Store)))) : CS := fun env st => (kEval kf env st).bindS env fun ds st => match ds with
  | [(.v, d1), (.v, d2)] => sPutK i fa d1 (sPutK i fb d2 sNx) env st
  | _ => .err
section
variable {X : Cx} {CA : Nat → Option Addr} {W : WX} {ia ib : Expr} {es : List Expr} {fa fb fi : En → Store → R (D × Store)} {kf : List (Kd × (En → Store → R (D × Store)))} {pos px py p1 p2 pt pe : Pos}
theorem put_step {E : Ends} {σ : L2.St} {H H0 : Hp} {F : Addr → Prop} {ρ : List Addr} {env : En} {st : Store} {v : V} {d : D} {i : Nat} {Kc : CS} {Q : L2.St → Hp → Prop}
    (rel : Rel X.prog X.w X.K CA H0 F ρ env st σ H) (k1 : Rep X.prog X.w X.K F ρ H v d) (q : AfterS X.prog X.w X.K CA W E H0 F ρ H (sPutK i fi d Kc env st))
    (go : ∀ F' ρ' env' st' H', Keeps F ρ H F' ρ' H' → Rel X.prog X.w X.K CA H0 F' ρ' env' st' σ H' → AfterS X.prog X.w X.K CA W E H0 F' ρ' H' (Kc env' st') → Q σ H') :
    L2.gSub (tVar i) (tD X.prog X.w X.K CA W .b fi) rSetL v σ H Q := by
  unfold sPutK at q
  split at q
  · rename_i ds hi0
    obtain ⟨a0, e1, f0, n0, z0, c0⟩ := rel.own i _ hi0
    rcases c0 with ⟨vs, ds', e2, e3, r0, zl⟩ | ⟨kvs, es, e2, _⟩ | ⟨xs, ws, es, e2, _⟩
    · cases e2
      refine ⟨.ref a0, e1, H0, F, ρ, env, st, rel, (After.bindS (RK' := rkD X.prog X.w X.K .b) rel q).imp fun y H2 ⟨F2, ρ2, e, st2, x2, r2, k2, hh2, q2⟩ => ?_⟩
      split at q2
      · rename_i k
        obtain rfl := RepB.intE k2
        split at q2
        · rename_i j hj
          have e4 : H2 a0 = some (.lst vs) := x2.keep a0 _ e3 n0
          have q5 := Reps.set (i := j) (r0.mono x2.toKeeps) (k1.mono x2.toKeeps)
          obtain ⟨s3, r3⟩ := r2.updo hi0 e1 e4 q5 (by simpa using zl)
          exact ⟨a0, vs, k, j, rfl, rfl, e4, by rw [r0.length]; exact hj, go _ _ _ _ _ (x2.toKeeps.trans s3.toKeeps) r3 (AfterS.step s3 q2)⟩
        · exact q2.elim
      · exact q2.elim
    · cases e2
    · cases e2
  · exact q.elim
theorem u_swp {i : Nat} {x y : Str} {n1 k1 : Nat} (hc : X.calm = true) (hv1 : PE X (.Name x px) (tVar i)) (hv2 : PE X (.Name y py) (tVar i)) (ha : PE X ia (tD X.prog X.w X.K CA W .b fa)) (hb : PE X ib (tD X.prog X.w X.K CA W .b fb)) (he : PA X es (tK X CA W kf))
    (a1 : ∀ v, assign (.Subscript (.Name x px) ia p1) X.env v = (do
      let ov ← holding [v] (eval (.Name x px) X.env)
      let iv ← holding [v, ov] (eval ia X.env)
      standAt p1
      holding [v, ov, iv] (setItem ov iv v)
      release [v, ov, iv] []))
    (a2 : ∀ v, assign (.Subscript (.Name y py) ib p2) X.env v = (do
      let ov ← holding [v] (eval (.Name y py) X.env)
      let iv ← holding [v, ov] (eval ib X.env)
      standAt p2
      holding [v, ov, iv] (setItem ov iv v)
      release [v, ov, iv] []))
    (b1 : (assignEach [.Subscript (.Name x px) ia p1, .Subscript (.Name y py) ib p2] X.env).map (·.2) = assign (.Subscript (.Name x px) ia p1) X.env :: (assignEach [.Subscript (.Name y py) ib p2] X.env).map (·.2))
    (b2 : (assignEach [.Subscript (.Name y py) ib p2] X.env).map (·.2) = assign (.Subscript (.Name y py) ib p2) X.env :: (assignEach [] X.env).map (·.2))
    (hn : (assignEach [.Subscript (.Name x px) ia p1, .Subscript (.Name y py) ib p2] X.env).length = 2) (hst : (assignEach [.Subscript (.Name x px) ia p1, .Subscript (.Name y py) ib p2] X.env).findIdx? (·.1) = none)
    (hs : swapsWithSole [.Tuple [.Subscript (.Name x px) ia p1, .Subscript (.Name y py) ib p2] n1 pt] (.Tuple es k1 pe) pos.line X.env = pure false)
    (hw : swappedStores [.Tuple [.Subscript (.Name x px) ia p1, .Subscript (.Name y py) ib p2] n1 pt] (.Tuple es k1 pe) X.env = pure none)
    (h1 : (assignEach [.Tuple [.Subscript (.Name x px) ia p1, .Subscript (.Name y py) ib p2] n1 pt] X.env).map (·.2) = [assign (.Tuple [.Subscript (.Name x px) ia p1, .Subscript (.Name y py) ib p2] n1 pt) X.env]) :
    PS X (.Assign [.Tuple [.Subscript (.Name x px) ia p1, .Subscript (.Name y py) ib p2] n1 pt] (.Tuple es k1 pe) pos) (tS X.prog X.w X.K CA W (sSwp i fa fb kf)) := by
  refine psI (ps_asg (pe_tup he) (pg_tup (n := 2) hc (pgs_cons (pg_sub hv1 ha set_list a1) (pgs_cons (pg_sub hv2 hb set_list a2) pgs_nil b2) b1) hn hst) hs hw h1) fun D σ H h => ?_
  obtain ⟨H0, F, ρ, env, st, rel, q⟩ := h
  refine ⟨H0, F, ρ, env, st, rel, (After.bindS (RK' := rkK X.prog X.w X.K) rel q).imp fun vs H1 ⟨F1, ρ1, ds, st1, x1, r1, k1, hh, q1⟩ => ?_⟩
  clear hh
  split at q1
  · rename_i d1 d2
    have k2 : RepK X.prog X.w X.K H F1 ρ1 H1 vs [(.v, d1), (.v, d2)] := k1
    cases k2 with
    | v z1 rr =>
      cases rr with
      | v z2 rr =>
        cases rr
        rename_i v1 v2 _
        refine ⟨by rw [sizeLine_eq]; simp, fun p n => ⟨p, _, rfl, SqT.of upd_same, rfl, v1, [v2], rfl, ?_⟩⟩
        have xe := ext_new (F := F1) (ρ := ρ1) (o := .tup [v1, v2]) n
        refine put_step (r1.new n) (z1.mono xe.toKeeps) (AfterS.step (xe.step r1.old) q1) fun F' ρ' env' st' H' kp r' q' => ⟨v2, [], rfl, ?_⟩
        exact put_step r' ((z2.mono xe.toKeeps).mono kp) q' fun F'' ρ'' env'' st'' H'' kp' r'' q'' => ⟨rfl, q''.nxt r''⟩
  · exact q1.elim
end
end Sn

set_option Elab.async false
set_option linter.all false
set_option maxRecDepth 100000
/-! layer 16t: sorted(x), whatever x's items are gathered from -/
namespace Sn
open PySem PySem.Spec PyProof.Rows L2
section
variable {P : Program} {w : World} {A : Around} {E : Value → Shared → Prop} {s : Shared}
/-- a tuple's items, gathered into a list -/
theorem gather_tup {l : Addr} {vs : List Value} {Q : List Value → Shared → Prop} (hl : s.heap.IsTuple l vs.toArray) (hsz : vs.length ≤ sizeLine)
    (h : ∀ s1, s1.gens = s.gens → s1.os = s.os → s.heap.objs.size ≤ s1.heap.objs.size → (∀ b o, s.heap.get? b = some o → s1.heap.get? b = some o) → Q vs s1) : wpAny (model P w) A (collect (.ref l)) Q E s := by
  obtain ⟨o, ho, hc, n, hd⟩ := id hl
  unfold collect
  refine wpAny_bind (wpAny_runValue (codeAny_builtin PyProof.Rows.entry_proto_collect' ?_))
  show wpAny _ _ (newList [] >>= fun m => again (.builtin "list.__iadd__" ⟨[m, Value.ref l], []⟩)) _ _ s
  refine wpAny_bind (wpAny_newList (wpAny_pure ⟨Code.quiet_builtin _ (by decide +kernel), codeAny_builtin PyProof.Rows.entry_list_iadd' ?_⟩))
  show wpAny _ _ (Builtin.List.listExtendWith (.ref s.heap.objs.size) (.ref l) (.ref s.heap.objs.size)) _ _ ({ s with heap := s.heap.push (PyProof.Rows.seqObj "list" #[] 0) } : Shared)
  unfold Builtin.List.listExtendWith
  have there : (s.heap.push (PyProof.Rows.seqObj "list" #[] 0)).get? l = some o := Heap.get?_push_of_some _ ho
  have here : (s.heap.push (PyProof.Rows.seqObj "list" #[] 0)).get? s.heap.objs.size = some (PyProof.Rows.seqObj "list" #[] 0) := Heap.get?_push_size _ rfl
  refine wpAny_bind (wpAny_typeOf (T := "tuple") ⟨o, there, hc⟩ ?_)
  have isT : (Value.type "tuple" == Value.type "tuple") = true := rfl
  rw [isT, Bool.or_true, if_pos rfl]
  refine wpAny_bind (listItems_at there hd ?_)
  refine wpAny_bind (listItems_at (xs := #[]) (n := 0) here rfl ?_)
  rw [if_neg (by simp)]
  refine wpAny_bind (listUpdate_at (xs := #[]) (n := 0) here rfl ?_ (Nat.zero_le _) (by show (#[] ++ vs.toArray).size ≤ sizeLine + 1; simp; omega))
  refine wpAny_pure ?_
  have got : ((s.heap.push (PyProof.Rows.seqObj "list" #[] 0)).update s.heap.objs.size (Obj.mapSeq (· ++ vs.toArray))).get? s.heap.objs.size = _ := get?_update_seq here _
  show wpAny (model P w) A (load s.heap.objs.size >>= fun o => (match o.data with
      | .seq xs _ => pure xs.toList
      | _ => unsupported "internal:collect" : Sem (List Value))) Q E ({ s with heap := (s.heap.push (PyProof.Rows.seqObj "list" #[] 0)).update s.heap.objs.size (Obj.mapSeq (· ++ vs.toArray)) } : Shared)
  refine wpAny_bind (wpAny_load got ?_)
  show wpAny _ _ (pure ((#[] : Array Value) ++ vs.toArray).toList) Q E _
  rw [show ((#[] : Array Value) ++ vs.toArray).toList = vs by simp]
  refine wpAny_pure (h _ rfl rfl ?_ fun b u e => ?_)
  · show s.heap.objs.size ≤ ((s.heap.push _).update _ _).objs.size
    rw [Heap.size_update, Heap.size_push]
    exact Nat.le_succ _
  · show ((s.heap.push _).update _ _).get? b = some u
    have ne : b ≠ s.heap.objs.size := Nat.ne_of_lt (Heap.lt_size e)
    rw [Heap.get?_update_ne _ _ _ _ ne]
    exact Heap.get?_push_of_some _ e
/-- what is known of gathered items that are sorted -/
structure Gathered {β : Type} (A : Around) (s s1 : Shared) (R : Value → β → Prop) (enc : β → PyData) (vs : List Value) (bs : List β) : Prop where
  gens : s1.gens = s.gens
  os : s1.os = s.os
  size : s.heap.objs.size ≤ s1.heap.objs.size
  keep : ∀ b o, s.heap.get? b = some o → s1.heap.get? b = some o
  each : PySem.W.EachIs R vs bs
  reads : PySem.W.EachIs (fun v b => ∃ as, Reads s1.heap v (enc b) as) vs bs
  alike : PySem.W.AllAlike (bs.map enc)
  sortable : PySem.W.Sortable (bs.map enc)
  len : bs.length ≤ sizeLine
  deep : ∀ b, b ∈ bs → A.units + 2 + (enc b).depth < cLine
theorem sorted_any {β : Type} {x : Value} {R : Value → β → Prop} {enc : β → PyData} {Q : Value → Shared → Prop}
    (hcol : wpAny (model P w) A.in1 (collect x) (fun vs s1 => ∃ bs, Gathered A s s1 R enc vs bs ∧ ∀ out s2 p c, out.length = bs.length → PySem.W.EachIs R out (bs.mergeSort (PySem.W.dataLe false enc)) → s2.gens = s.gens → s2.os = s.os → s.heap.objs.size ≤ p →
      (∀ b o, s.heap.get? b = some o → s2.heap.get? b = some o) → s2.heap.get? p = some (PyProof.Rows.seqObj "list" out.toArray c) → Q (.ref p) s2) E s) :
    wpAny (model P w) A (call (.builtin "sorted") [x]) Q E s := by
  refine Calls.call_function_entry PyProof.Rows.kind_sorted PyProof.Rows.plain_sorted PyProof.Rows.entry_sorted (PyProof.Rows.args_sorted1 _) ?_
  unfold Builtin.«sorted»
  have one : checkCount "sorted" 1 1 ([x] : List Value).length = (pure () : Sem Unit) := by rfl
  show wpAny _ _ (checkCount "sorted" 1 1 ([x] : List Value).length >>= fun _ => collect x >>= fun vs => newList vs >>= fun l => holding [l] (call (.builtin "list.sort") [l] []) >>= fun _ => ret l) _ _ _
  rw [one]
  refine wpAny_bind (wpAny_pure ?_)
  refine wpAny_bind (wpAny_mono hcol ?_ (fun _ _ e => e))
  intro vs s1 h
  obtain ⟨bs, g, q⟩ := h
  refine wpAny_bind (wpAny_newList ?_ (by rw [g.each.length]; exact g.len))
  have mine : (s1.heap.push (PyProof.Rows.seqObj "list" vs.toArray 0)).get? s1.heap.objs.size = some (PyProof.Rows.seqObj "list" vs.toArray 0) := Heap.get?_push_size _ rfl
  have old : ∀ b o, s1.heap.get? b = some o → (PySem.W.sortingHeap (s1.heap.push (PyProof.Rows.seqObj "list" vs.toArray 0)) s1.heap.objs.size vs).get? b = some o := fun b o e =>
    PySem.W.sortingHeap_old (Nat.ne_of_lt (Heap.lt_size e)) (Heap.get?_push_of_some _ e)
  have rd : PySem.W.EachIs (fun v b => ∃ as, Reads (PySem.W.sortingHeap (s1.heap.push (PyProof.Rows.seqObj "list" vs.toArray 0)) s1.heap.objs.size vs) v (enc b) as) vs bs := g.reads.mono fun _ _ ⟨as, r⟩ => ⟨as, PyProof.Rows.Reads.keeps (fun b o => old b o) r⟩
  have by_ := PySem.W.SortsAt.data (prog := P) (w := w) (A := A.in1.in1) (s := ({ s1 with heap := PySem.W.sortingHeap (s1.heap.push (PyProof.Rows.seqObj "list" vs.toArray 0)) s1.heap.objs.size vs } : Shared)) (PySem.W.each_map (R := fun v d => ∃ as, Reads _ v d as) enc rd) g.alike g.sortable (PySem.W.bound_map g.deep)
  have lv : vs.length ≤ sizeLine := by rw [g.each.length]; exact g.len
  have so := PySem.W.sortVals_data (h' := PySem.W.sortingHeap (s1.heap.push (PyProof.Rows.seqObj "list" vs.toArray 0)) s1.heap.objs.size vs) false g.each rd g.alike
  have sl : (PySem.W.sortVals (PySem.W.dataKind (PySem.W.sortingHeap (s1.heap.push (PyProof.Rows.seqObj "list" vs.toArray 0)) s1.heap.objs.size vs) (bs.map enc)) false vs vs).length = bs.length := by rw [PySem.W.sortVals_length false rfl]; exact g.each.length
  have hz : (s1.heap.push (PyProof.Rows.seqObj "list" vs.toArray 0)).objs.size = s1.heap.objs.size + 1 := Heap.size_push ..
  have up : ∀ b o, s.heap.get? b = some o → (s1.heap.push (PyProof.Rows.seqObj "list" vs.toArray 0)).get? b = some o ∧ b < s1.heap.objs.size := fun b o e => ⟨Heap.get?_push_of_some _ (g.keep b o e), Heap.lt_size (g.keep b o e)⟩
  show wpAny (model P w) A.in1 (holding [.ref s1.heap.objs.size] (call (.builtin "list.sort") [.ref s1.heap.objs.size] []) >>= fun _ => ret (.ref s1.heap.objs.size)) _ E ({ s1 with heap := s1.heap.push (PyProof.Rows.seqObj "list" vs.toArray 0) } : Shared)
  generalize PySem.W.dataKind (PySem.W.sortingHeap (s1.heap.push (PyProof.Rows.seqObj "list" vs.toArray 0)) s1.heap.objs.size vs) (bs.map enc) = κ at by_ so sl
  generalize s1.heap.push (PyProof.Rows.seqObj "list" vs.toArray 0) = h1 at mine by_ so hz up ⊢
  obtain ⟨c, hc⟩ := PyProof.Rows.sortedHeap_at (vs := vs) (out := (PySem.W.sortVals κ false vs vs).toArray) mine
  have fin : Q (.ref s1.heap.objs.size) { s1 with heap := PyProof.Rows.sortedHeap h1 s1.heap.objs.size vs (PySem.W.sortVals κ false vs vs).toArray } := by
    refine q _ _ s1.heap.objs.size c sl so g.gens g.os g.size (fun b u e => ?_) hc
    obtain ⟨e1, lt⟩ := up b u e
    show (PyProof.Rows.sortedHeap h1 s1.heap.objs.size vs (PySem.W.sortVals κ false vs vs).toArray).get? b = some u
    rw [PyProof.Rows.sortedHeap_old (Nat.ne_of_lt lt) (by rw [hz]; exact Nat.lt_succ_of_lt lt)]
    exact e1
  refine wpAny_bind (wpAny_holding (wpAny_call_entry PyProof.Rows.slot_list_sort ⟨_, mine, rfl⟩ PyProof.Rows.entry_list_sort (PySem.W.list_sort_vals mine by_ lv ⟨.none, rfl, ?_⟩) (PyProof.Rows.args_list_sort _)))
  exact wpAny_pure ⟨_, rfl, fin⟩
end
end Sn

set_option Elab.async false
set_option linter.all false
set_option maxRecDepth 100000
/-! layer 16s: sorted -/
namespace Sn
open PySem PySem.Spec PyProof.Rows L2
section
variable {P : Program} {w : World} {K : PySem.W.Frag} {F : Addr → Prop} {ρ : List Addr} {H : Hp}
theorem each_zip {h : Heap} : ∀ {vs : List V} {ds : List D} {us : List Value}, Reps P w K F ρ H vs ds → Vals vs us → PySem.W.EachIs (fun u (b : V × D) => RelV b.1 u ∧ Rep P w K F ρ H b.1 b.2) us (vs.zip ds)
  | _, _, _, .nil, r => by cases r; exact .nil
  | _, _, _, .cons q qs, r => by
    cases r with
    | cons r rs => exact .cons ⟨r, q⟩ (each_zip (h := h) qs rs)
theorem each_out : ∀ {us : List Value} {bs : List (V × D)}, PySem.W.EachIs (fun u (b : V × D) => RelV b.1 u ∧ Rep P w K F ρ H b.1 b.2) us bs → Vals (bs.map (·.1)) us ∧ Reps P w K F ρ H (bs.map (·.1)) (bs.map (·.2))
  | _, _, .nil => ⟨.nil, .nil⟩
  | _, _, .cons h t => ⟨.cons h.1 (each_out t).1, .cons h.2 (each_out t).2⟩
theorem each_reads {X : Cx} {pins : List (Addr × Obj)} {σ : L2.St} {s : Shared} (I : Inv X pins σ H s) : ∀ {us : List Value} {bs : List (V × D)}, (∀ b ∈ bs, b.2.plain = true) → PySem.W.EachIs (fun u (b : V × D) => RelV b.1 u ∧ Rep P w X.K F ρ H b.1 b.2) us bs →
    PySem.W.EachIs (fun u (b : V × D) => ∃ as, Reads s.heap u (b.2.toP) as) us bs
  | _, _, _, .nil => .nil
  | _, _, p, .cons h t => .cons (Rep.reads I _ _ _ (p _ List.mem_cons_self) h.2 h.1) (each_reads I (fun b hb => p b (List.mem_cons_of_mem _ hb)) t)
theorem mem_zip2 {vs : List V} {ds : List D} {b : V × D} (h : b ∈ vs.zip ds) : b.2 ∈ ds := (List.of_mem_zip h).2
def rSortedD (X : Cx) : List V → Hp → VK → Prop := fun xs H Q => ∃ (a : Addr) (vs : List V) (ds : List D) (F : Addr → Prop) (ρ : List Addr), xs = [.ref a] ∧ (SqL X.K H a vs ∨ SqT X.K H a vs) ∧ Reps X.prog X.w X.K F ρ H vs ds ∧ sortOk ds = true ∧ ds.length ≤ sizeLine ∧
  ∀ l ws, H l = none → Reps X.prog X.w X.K F ρ H ws (ds.mergeSort leD) → Q (.ref l) (upd H l (.lst ws))
/-- items that may be sorted, gathered: what their sorting asks -/
theorem gathered {X : Cx} {pins : List (Addr × Obj)} {s s1 : Shared} {σ : L2.St} {vs : List V} {ds : List D} {us : List Value} (hu : X.A.units + 200 < cLine) (ok : sortOk ds = true) (hz : ds.length ≤ sizeLine) (I : Inv X pins σ H s) (rp : Reps P w X.K F ρ H vs ds) (rv : Vals vs us)
    (hg : s1.gens = s.gens) (ho : s1.os = s.os) (hs : s.heap.objs.size ≤ s1.heap.objs.size) (hk : ∀ b o, s.heap.get? b = some o → s1.heap.get? b = some o) :
    Gathered X.A s s1 (fun u (b : V × D) => RelV b.1 u ∧ Rep P w X.K F ρ H b.1 b.2) (fun b : V × D => b.2.toP) us (vs.zip ds) := by
  unfold sortOk at ok
  simp only [Bool.and_eq_true] at ok
  obtain ⟨⟨⟨o1, o2⟩, o3⟩, o4⟩ := ok
  rw [D.plains_eq] at o1
  simp only [List.all_eq_true, Bool.or_eq_true, decide_eq_true_eq] at o1 o2 o3 o4
  have e1 := each_zip (h := s.heap) rp rv
  have hp : ∀ b ∈ vs.zip ds, b.2.plain = true := fun b hb => o1 _ (mem_zip2 hb)
  have e2 := each_reads I hp e1
  have hlen : (vs.zip ds).length = vs.length := by rw [List.length_zip, rp.length, Nat.min_self]
  refine ⟨hg, ho, hs, hk, e1, e2.mono fun _ _ ⟨as, r⟩ => ⟨as, PyProof.Rows.Reads.keeps (fun b o => hk b o) r⟩, fun d hd d' hd' => ?_, ?_, by rw [hlen, rp.length]; exact hz, fun b hb => ?_⟩
  · obtain ⟨b, hb, rfl⟩ := List.mem_map.mp hd
    obtain ⟨b', hb', rfl⟩ := List.mem_map.mp hd'
    exact o2 _ (mem_zip2 hb) _ (mem_zip2 hb')
  · rcases o3 with o3 | o3
    · refine .inl fun d hd => ?_
      obtain ⟨b, hb, rfl⟩ := List.mem_map.mp hd
      have z := o3 _ (mem_zip2 hb)
      split at z
      · rename_i x r e
        exact ⟨x.toP, D.toPs r, by rw [e, D.toP, D.toPs]⟩
      · cases z
    · refine .inr fun d hd => ?_
      obtain ⟨b, hb, rfl⟩ := List.mem_map.mp hd
      have z := o3 _ (mem_zip2 hb)
      have p := hp b hb
      cases e : b.2 with
      | non => rw [e] at z; cases z
      | tup xs => rw [e] at z; cases z
      | dct _ => rw [e] at p; simp [D.plain] at p
      | scr _ => rw [e] at p; simp [D.plain] at p
      | ref _ => rw [e] at p; simp [D.plain] at p
      | fn _ => rw [e] at p; simp [D.plain] at p
      | bl _ => simp [D.toP]
      | int _ => simp [D.toP]
      | str _ => simp [D.toP]
      | lst _ => simp [D.toP]
  · rw [D.depth_toP _ (hp b hb)]
    have := o4 _ (mem_zip2 hb)
    omega
theorem sorted_out {vs : List V} {ds : List D} {out : List Value} (rl : vs.length = ds.length) (ho : PySem.W.EachIs (fun u (b : V × D) => RelV b.1 u ∧ Rep P w K F ρ H b.1 b.2) out ((vs.zip ds).mergeSort (PySem.W.dataLe false fun b : V × D => b.2.toP))) :
    ∃ ws, Vals ws out ∧ Reps P w K F ρ H ws (ds.mergeSort leD) := by
  obtain ⟨v1, r1⟩ := each_out ho
  have em : ((vs.zip ds).mergeSort (PySem.W.dataLe false fun b : V × D => b.2.toP)).map (·.2) = ds.mergeSort leD := by
    have z := List.map_mergeSort (r := PySem.W.dataLe false fun b : V × D => b.2.toP) (s := leD) (f := fun b : V × D => b.2) (l := vs.zip ds) (fun a _ b _ => rfl)
    rw [z]
    congr 1
    exact List.map_snd_zip (Nat.le_of_eq rl.symm)
  rw [em] at r1
  exact ⟨_, v1, r1⟩
theorem cr_sortedD {X : Cx} (hu : X.A.units + 200 < cLine) : CallR X (.builtin "sorted") (rSortedD X) := by
  intro pins s σ H xs us Q I r h
  obtain ⟨a, vs, ds, F, ρ, rfl, hs, rp, ok, hz, q⟩ := h
  rw [Vals.ref1 r]
  have close : ∀ (out : List Value) (s2 : Shared) (p c : Nat), out.length = (vs.zip ds).length → PySem.W.EachIs (fun u (b : V × D) => RelV b.1 u ∧ Rep X.prog X.w X.K F ρ H b.1 b.2) out ((vs.zip ds).mergeSort (PySem.W.dataLe false fun b : V × D => b.2.toP)) →
      s2.gens = s.gens → s2.os = s.os → s.heap.objs.size ≤ p → (∀ b o, s.heap.get? b = some o → s2.heap.get? b = some o) → s2.heap.get? p = some (PyProof.Rows.seqObj "list" out.toArray c) → EP X pins σ Q (.ref p) s2 := by
    intro out s2 p c hl ho g o hp hk hat
    obtain ⟨ws, v1, r1⟩ := sorted_out rp.length ho
    have hn : H p = none := I.hok.fresh hp
    have hz2 : ws.length ≤ sizeLine := by rw [r1.length, List.length_mergeSort]; exact hz
    have J : Inv X pins σ (upd H p (.lst ws)) { s with heap := s2.heap, gens := s2.gens, drawn := s2.drawn, toks := s2.toks } :=
      I.call (ch := []) (Un.laid hk hp hn) (I.hok.laid hk hp ⟨hz2, out, c, v1, hat⟩) (by rw [g]; exact I.bare) (fun _ z => nomatch z)
    have e : s2 = { s with heap := s2.heap, gens := s2.gens, drawn := s2.drawn, toks := s2.toks } := by
      cases s2
      cases s
      cases o
      rfl
    rw [e]
    exact ⟨.ref p, _, J, rfl, q p ws hn r1⟩
  rcases hs with hs | hs
  · obtain ⟨its, rv, pl, _⟩ := I.list hs
    have lv : its.length ≤ sizeLine := by rw [← rv.length, rp.length]; exact hz
    refine sorted_any (R := fun u (b : V × D) => RelV b.1 u ∧ Rep X.prog X.w X.K F ρ H b.1 b.2) (enc := fun b : V × D => b.2.toP) (PyProof.Rows.collect_list pl.isList ⟨vs.zip ds, gathered hu ok hz I rp rv rfl rfl ?_ fun b u e => ?_, close⟩ lv)
    · show s.heap.objs.size ≤ ((s.heap.push _).update _ _).objs.size
      rw [Heap.size_update, Heap.size_push]
      exact Nat.le_succ _
    · show ((s.heap.push _).update _ _).get? b = some u
      rw [Heap.get?_update_ne _ _ _ _ (Nat.ne_of_lt (Heap.lt_size e))]
      exact Heap.get?_push_of_some _ e
  · obtain ⟨its, rv, pl, _⟩ := I.tuple hs
    have lv : its.length ≤ sizeLine := by rw [← rv.length, rp.length]; exact hz
    exact sorted_any (R := fun u (b : V × D) => RelV b.1 u ∧ Rep X.prog X.w X.K F ρ H b.1 b.2) (enc := fun b : V × D => b.2.toP) (gather_tup pl lv fun s1 g o hsz hk => ⟨vs.zip ds, gathered hu ok hz I rp rv g o hsz hk, close⟩)
end
section
variable {X : Cx} {CA : Nat → Option Addr} {W : WX} {a : Expr} {fa : CE} {p pos : Pos}
theorem s_sorted (hc : X.calm = true) (hu : X.A.units + 200 < cLine) (hg : Gl X "sorted") (hm : X.mg "sorted" = none) (ha : PE X a (tD X.prog X.w X.K CA W .b fa)) (hs : notStar a = true) : PE X (.Call (.Name "sorted" p) [a] [] pos) (tD X.prog X.w X.K CA W .n (c1 fa gSorted)) := by
  refine s_b1 (cr_sortedD hu) (fun x H Q h => ?_) hg hm (by decide +kernel) ha hs (by decide) (by decide)
  obtain ⟨σ, H0, F, ρ, env, st, d, rel, k1, q⟩ := h
  unfold gSorted at q
  split at q
  · split at q
    · rename_i ok
      obtain ⟨b, vs, rfl, h1, r1, z1⟩ := k1.lstE
      exact ⟨b, vs, _, F, ρ, rfl, .inl (SqL.of h1), r1, ok, z1, fun l ws n r2 => fin_lst rel r2 (by rw [List.length_mergeSort]; exact z1) q n⟩
    · exact q.elim
  · split at q
    · rename_i ok
      obtain ⟨b, vs, rfl, h1, r1, z1⟩ := k1.tupE
      exact ⟨b, vs, _, F, ρ, rfl, .inr h1, r1, ok, z1, fun l ws n r2 => fin_lst rel r2 (by rw [List.length_mergeSort]; exact z1) q n⟩
    · exact q.elim
  · exact q.elim
end
end Sn

set_option Elab.async false
set_option linter.all false
set_option maxRecDepth 100000
/-! layer 16d: dicts by ints and texts, by tuples -/
namespace Sn
open PySem PySem.Spec PyProof.Rows L2
/-! ### keys -/
mutual
theorem eqv_key : ∀ a b : D, a.hashy = true → b.hashy = true → D.eqv a b = NestedKey.beq a.key b.key
  | .tup xs, .tup ys, h, k => by
    rw [D.hashy] at h k
    simp [D.eqv, D.key, NestedKey.beq, eqvs_keys xs ys h k]
  | .non, b, _, k => by cases b <;> simp [D.hashy, D.eqv, D.key, NestedKey.beq] at k ⊢
  | .bl x, b, _, k => by
    cases b <;> simp [D.hashy, D.eqv, D.key, NestedKey.beq] at k ⊢
    · rename_i y
      cases x <;> cases y <;> rfl
    · exact Bool.beq_eq_decide_eq _ _
  | .int _, b, _, k => by cases b <;> simp [D.hashy, D.eqv, D.key, NestedKey.beq] at k ⊢ <;> exact Bool.beq_eq_decide_eq _ _
  | .str _, b, _, k => by cases b <;> simp [D.hashy, D.eqv, D.key, NestedKey.beq] at k ⊢ <;> exact Bool.beq_eq_decide_eq _ _
  | .tup _, .non, _, _ => by simp [D.eqv, D.key, NestedKey.beq]
  | .tup _, .bl _, _, _ => by simp [D.eqv, D.key, NestedKey.beq]
  | .tup _, .int _, _, _ => by simp [D.eqv, D.key, NestedKey.beq]
  | .tup _, .str _, _, _ => by simp [D.eqv, D.key, NestedKey.beq]
  | .lst _, _, h, _ => by simp [D.hashy] at h
  | .dct _, _, h, _ => by simp [D.hashy] at h
  | .scr _, _, h, _ => by simp [D.hashy] at h
  | .ref _, _, h, _ => by simp [D.hashy] at h
  | .fn _, _, h, _ => by simp [D.hashy] at h
  | _, .lst _, _, h => by simp [D.hashy] at h
  | _, .dct _, _, h => by simp [D.hashy] at h
  | _, .scr _, _, h => by simp [D.hashy] at h
  | _, .ref _, _, h => by simp [D.hashy] at h
  | _, .fn _, _, h => by simp [D.hashy] at h
theorem eqvs_keys : ∀ xs ys : List D, D.hashys xs = true → D.hashys ys = true → D.eqvs xs ys = NestedKey.beqAll (D.keys xs) (D.keys ys)
  | [], [], _, _ => by simp [D.eqvs, D.keys, NestedKey.beqAll]
  | [], _ :: _, _, _ => by simp [D.eqvs, D.keys, NestedKey.beqAll]
  | _ :: _, [], _, _ => by simp [D.eqvs, D.keys, NestedKey.beqAll]
  | x :: xs, y :: ys, h, k => by
    rw [D.hashys, Bool.and_eq_true] at h k
    simp [D.eqvs, D.keys, NestedKey.beqAll, eqv_key x y h.1 k.1, eqvs_keys xs ys h.2 k.2]
end
mutual
theorem key_depth : ∀ a : D, a.hashy = true → a.key.depth = a.depth
  | .non, _ => by simp [D.key, NestedKey.depth, D.depth]
  | .bl _, _ => by simp [D.key, NestedKey.depth, D.depth]
  | .int _, _ => by simp [D.key, NestedKey.depth, D.depth]
  | .str _, _ => by simp [D.key, NestedKey.depth, D.depth]
  | .tup xs, h => by
    rw [D.hashy] at h
    simp [D.key, NestedKey.depth, D.depth, keys_depth xs h]
  | .lst _, h => by simp [D.hashy] at h
  | .dct _, h => by simp [D.hashy] at h
  | .scr _, h => by simp [D.hashy] at h
  | .ref _, h => by simp [D.hashy] at h
  | .fn _, h => by simp [D.hashy] at h
theorem keys_depth : ∀ xs : List D, D.hashys xs = true → NestedKey.depthAll (D.keys xs) = D.depths xs
  | [], _ => by simp [D.keys, NestedKey.depthAll, D.depths]
  | x :: xs, h => by
    rw [D.hashys, Bool.and_eq_true] at h
    simp [D.keys, NestedKey.depthAll, D.depths, key_depth x h.1, keys_depth xs h.2]
end
section
variable {P : Program} {w : World} {K : PySem.W.Frag} {CA : Nat → Option Addr} {F : Addr → Prop} {ρ : List Addr} {H : Hp} {X : Cx} {pins : List (Addr × Obj)} {s : Shared} {σ : L2.St}
mutual
theorem nested_is (I : Inv X pins σ H s) : ∀ (d : D) (v : V) (u : Value), d.hashy = true → Rep P w X.K F ρ H v d → RelV v u → NestedIs s.heap d.key u
  | .non, _, _, _, .non, r => by cases r; exact .none
  | .bl b, _, _, _, .bl _, r => by cases r; exact .bool rfl
  | .int i, _, _, _, .int _, r => by obtain ⟨t, rfl⟩ := r; exact .int i t
  | .str x, _, _, _, .str _, r => by obtain ⟨t, rfl⟩ := r; exact .text x t
  | .tup ds, _, _, p, .tup h q _, r => by
    cases r
    rw [D.hashy] at p
    obtain ⟨its, rv, ⟨o, ho, hc, n, hd⟩, _⟩ := I.tuple h.seq
    rw [D.key]
    exact .tup ho hc hd (by simpa using nested_all I ds _ its p q rv)
  | .lst _, _, _, p, _, _ => by simp [D.hashy] at p
  | .dct _, _, _, p, _, _ => by simp [D.hashy] at p
  | .scr _, _, _, p, _, _ => by simp [D.hashy] at p
  | .ref _, _, _, p, _, _ => by simp [D.hashy] at p
  | .fn _, _, _, p, _, _ => by simp [D.hashy] at p
theorem nested_all (I : Inv X pins σ H s) : ∀ (ds : List D) (vs : List V) (us : List Value), D.hashys ds = true → Reps P w X.K F ρ H vs ds → Vals vs us → NestedAll s.heap (D.keys ds) us
  | [], _, _, _, .nil, r => by cases r; exact .nil
  | d :: ds, _, _, p, .cons h1 h2, r => by
    cases r with
    | cons r1 r2 =>
      rw [D.hashys, Bool.and_eq_true] at p
      exact .cons (nested_is I d _ _ p.1 h1 r1) (nested_all I ds _ _ p.2 h2 r2)
end
theorem isTup_ref {d : D} {v : V} (ht : isTup d = true) (r : Rep P w K F ρ H v d) : ∃ a, v = .ref a := by
  cases d with
  | tup xs => cases r with | tup h _ _ => exact ⟨_, rfl⟩
  | _ => cases ht
theorem isTupB {d : D} {v : V} (ht : isTup d = true) (r : RepB P w K F ρ H v d) : Rep P w K F ρ H v d := by
  rcases r with r | ⟨a, rfl, n, c⟩
  · exact r
  · rcases c with ⟨vs, ds, rfl, _⟩ | ⟨kvs, es, rfl, _⟩ | ⟨xs, ws, es, rfl, _⟩ <;> cases ht
theorem isKey_kV {d : D} {v : V} (ht : isKey d = true) (r : RepB P w K F ρ H v d) : ∃ k : Key, v = kV k ∧ d = kD k := by
  cases d with
  | int i => exact ⟨.inl i, r.intE, rfl⟩
  | str x => exact ⟨.inr x, r.strE, rfl⟩
  | _ => cases ht
/-- a dict of data, by what stands in the heap -/
theorem RepB.dctE {v : V} {es : List (D × D)} (r : RepB P w K F ρ H v (.dct es)) : ∃ a, v = .ref a ∧ ((∃ kvs, H a = some (.dK kvs) ∧ es.map (·.1) = kvs.map (fun p => kD p.1) ∧ Reps P w K F ρ H (kvs.map (·.2)) (es.map (·.2))) ∨
    ∃ xs ws, H a = some (HDT P w a xs) ∧ xs.map (·.1) = es.map (fun p => p.1.key) ∧ Reps P w K F ρ H (xs.map fun x => V.ref x.2.1) (es.map (·.1)) ∧ Vals ws (xs.map (·.2.2)) ∧ Reps P w K F ρ H ws (es.map (·.2))) := by
  rcases r with r | ⟨a, rfl, n, c⟩
  · cases r with
    | dK f h e q => exact ⟨_, rfl, .inl ⟨_, h, e, q⟩⟩
    | dT f h e q l q2 => exact ⟨_, rfl, .inr ⟨_, _, h, e, q, l, q2⟩⟩
  · rcases c with ⟨vs, ds, e, _⟩ | ⟨kvs, es, e, h, e2, q⟩ | ⟨xs, ws, es, e, h, e2, q, l, q2⟩
    · cases e
    · cases e
      exact ⟨_, rfl, .inl ⟨_, h, e2, q⟩⟩
    · cases e
      exact ⟨_, rfl, .inr ⟨_, _, h, e2, q, l, q2⟩⟩
theorem hdt_of {a : Addr} {xs : List (NestedKey × Addr × Value)} (I : Inv X pins σ H s) (h : H a = some (HDT X.prog X.w a xs)) : ∃ o es ep, s.heap.get? a = some o ∧ o.ExactDict ∧ o.data = .dict es ep ∧ es.toList = xs.map (entryOfKey (nestedKind X.prog X.w)) ∧ (xs.map (·.1)).Nodup ∧ (a == sysModules) = false ∧ xs.length ≤ sizeLine := by
  have := I.hok a _ h
  exact this.1
/-- keys that are tuples: the dict's entries are keys of the nested kind -/
theorem dT_is {xs : List (NestedKey × Addr × Value)} {es : List (D × D)} (I : Inv X pins σ H s) (hk : es.all (fun p => isTup p.1 && hashOk p.1) = true) (e : xs.map (·.1) = es.map (fun p => p.1.key)) (q : Reps P w X.K F ρ H (xs.map fun x => V.ref x.2.1) (es.map (·.1))) :
    ∀ x ∈ xs, (nestedKind X.prog X.w).is s.heap x.1 x.2.1 := by
  intro x hx
  obtain ⟨i, hi⟩ := List.getElem?_of_mem hx
  have h1 : (xs.map (·.1))[i]? = some x.1 := by rw [List.getElem?_map, hi]; rfl
  rw [e, List.getElem?_map] at h1
  cases hp : es[i]? with
  | none => rw [hp] at h1; cases h1
  | some p =>
    rw [hp] at h1
    have e1 : p.1.key = x.1 := Option.some.inj h1
    rw [← e1]
    have hk' := List.all_eq_true.mp hk p (List.mem_of_getElem? hp)
    simp only [Bool.and_eq_true, hashOk, decide_eq_true_eq] at hk'
    obtain ⟨v, hv, rp⟩ := q.get (i := i) (d := p.1) (by rw [List.getElem?_map, hp]; rfl)
    rw [List.getElem?_map, hi] at hv
    cases hv
    exact ⟨nested_is I p.1 _ (.ref x.2.1) hk'.2.1 rp rfl, by rw [key_depth _ hk'.2.1]; exact hk'.2.2⟩
theorem dT_keys {xs : List (NestedKey × Addr × Value)} {es : List (D × D)} {k : D} (hk : es.all (fun p => isTup p.1 && hashOk p.1) = true) (hd : k.hashy = true) (e : xs.map (·.1) = es.map (fun p => p.1.key)) :
    ∀ i : Nat, (xs[i]?).map (fun x => decide (x.1 = k.key)) = (es[i]?).map fun p => D.eqv p.1 k := by
  intro i
  have h1 : (xs.map (·.1))[i]? = (es.map (fun p => p.1.key))[i]? := by rw [e]
  rw [List.getElem?_map, List.getElem?_map] at h1
  cases hp : es[i]? with
  | none =>
    rw [hp] at h1
    cases hx : xs[i]? with
    | none => rfl
    | some x => rw [hx] at h1; cases h1
  | some p =>
    rw [hp] at h1
    cases hx : xs[i]? with
    | none => rw [hx] at h1; cases h1
    | some x =>
      rw [hx] at h1
      have e1 : x.1 = p.1.key := Option.some.inj h1
      have hk' := List.all_eq_true.mp hk p (List.mem_of_getElem? hp)
      simp only [Bool.and_eq_true, hashOk, decide_eq_true_eq] at hk'
      show some (decide (x.1 = k.key)) = some (D.eqv p.1 k)
      rw [e1, NestedKey.decide_eq, eqv_key _ _ hk'.2.1 hd]
/-- two rows of the same answers have the same first place -/
theorem find_same {α β : Type} {p : α → Bool} {q : β → Bool} : ∀ {xs : List α} {ys : List β}, (∀ i : Nat, (xs[i]?).map p = (ys[i]?).map q) → (xs.find? p = none ∧ ys.find? q = none) ∨ ∃ (i : Nat) (x : α) (y : β), xs[i]? = some x ∧ ys[i]? = some y ∧ xs.find? p = some x ∧ ys.find? q = some y
  | [], [], _ => .inl ⟨rfl, rfl⟩
  | [], _ :: _, h => by have := h 0; simp at this
  | _ :: _, [], h => by have := h 0; simp at this
  | x :: xs, y :: ys, h => by
    have h0 : p x = q y := by have := h 0; simpa using this
    cases e : p x with
    | true => exact .inr ⟨0, x, y, rfl, rfl, by rw [List.find?_cons, e], by rw [List.find?_cons, ← h0, e]⟩
    | false =>
      rcases find_same (xs := xs) (ys := ys) (fun i => by have := h (i + 1); simpa using this) with ⟨h1, h2⟩ | ⟨i, x', y', h1, h2, h3, h4⟩
      · exact .inl ⟨by rw [List.find?_cons, e]; exact h1, by rw [List.find?_cons, ← h0, e]; exact h2⟩
      · exact .inr ⟨i + 1, x', y', by simpa using h1, by simpa using h2, by rw [List.find?_cons, e]; exact h3, by rw [List.find?_cons, ← h0, e]; exact h4⟩
theorem dK_keys {kvs : List (Key × V)} {es : List (D × D)} {k : Key} (e : es.map (·.1) = kvs.map (fun p => kD p.1)) : ∀ i : Nat, (kvs[i]?).map (fun x => decide (x.1 = k)) = (es[i]?).map fun p => D.eqv p.1 (kD k) := by
  intro i
  have h1 : (es.map (·.1))[i]? = (kvs.map (fun p => kD p.1))[i]? := by rw [e]
  rw [List.getElem?_map, List.getElem?_map] at h1
  cases hp : es[i]? with
  | none =>
    rw [hp] at h1
    cases hx : kvs[i]? with
    | none => rfl
    | some x => rw [hx] at h1; cases h1
  | some p =>
    rw [hp] at h1
    cases hx : kvs[i]? with
    | none => rw [hx] at h1; cases h1
    | some x =>
      rw [hx] at h1
      have e1 : p.1 = kD x.1 := Option.some.inj h1
      show some (decide (x.1 = k)) = some (D.eqv p.1 (kD k))
      rw [e1]
      congr 1
      cases x.1 <;> cases k <;> simp [kD, D.eqv] <;> exact (Bool.beq_eq_decide_eq _ _).symm

/-- what is looked up in a dict -/
theorem dct_look {A : Around} {E : Value → Shared → Prop} {es : List (D × D)} {d : D} {v y : V} {uv uy : Value} (hu : A.units + 200 < cLine) (I : Inv X pins σ H s) (fit : keyFit es d = true) (kd : RepB X.prog X.w X.K F ρ H v (.dct es)) (kk : RepB X.prog X.w X.K F ρ H y d) (rx : RelV v uv) (ry : RelV y uy) :
    s.TypeIs uv "dict" ∧
    (∀ Q : Value → Shared → Prop, (∀ s', Inv X pins σ H s' → Q (.bool (getD es d).isSome) s') → wpAny (model X.prog X.w) A (compareOp .In uy uv) Q E s) ∧
    (∀ Q : Value → Shared → Prop, (∀ s', Inv X pins σ H s' → Q (.bool (!(getD es d).isSome)) s') → wpAny (model X.prog X.w) A (compareOp .NotIn uy uv) Q E s) ∧
    (∀ (Q : Value → Shared → Prop) z, getD es d = some z → (∀ s' v' u', Inv X pins σ H s' → RelV v' u' → Rep X.prog X.w X.K F ρ H v' z → Q u' s') → wpAny (model X.prog X.w) A (getItem uv uy) Q E s) := by
  obtain ⟨a, rfl, kd2⟩ := kd.dctE
  clear kd
  obtain rfl : uv = .ref a := rx
  unfold keyFit at fit
  rw [Bool.or_eq_true] at fit
  rcases fit with fit | fit
  · rw [Bool.and_eq_true] at fit
    obtain ⟨k, rfl, rfl⟩ := isKey_kV fit.2 kk
    -- by ints and texts
    obtain ⟨kvs, vs, low, rel, dd, ek, rv⟩ : ∃ kvs vs, (a == sysModules) = false ∧ KV kvs vs ∧ s.heap.DictOf (mixKind X.prog X.w) a vs ∧ es.map (·.1) = kvs.map (fun p => kD p.1) ∧ Reps X.prog X.w X.K F ρ H (kvs.map (·.2)) (es.map (·.2)) := by
      rcases kd2 with ⟨kvs, h, e, q⟩ | ⟨xs, ws, h, e, q, l, q2⟩
      · obtain ⟨_, low, vs, rel, dd⟩ := dk_rd I.hok (.inl h)
        exact ⟨kvs, vs, low, rel, dd, e, q⟩
      · have em : es = [] := by
          cases es with
          | nil => rfl
          | cons p es =>
            exfalso
            have hp := (List.all_eq_true.mp fit.1) p List.mem_cons_self
            cases xs with
            | nil => simp at e
            | cons x xs =>
              rw [List.map_cons, List.map_cons] at q
              cases q with
              | cons q _ =>
                cases hp1 : p.1 with
                | int i => rw [hp1] at q; cases q
                | str z => rw [hp1] at q; cases q
                | _ => rw [hp1] at hp; cases hp
        subst em
        obtain ⟨o, es', ep, h1, h2, h3, h4, _, low, _⟩ := hdt_of I h
        have ex : xs = [] := by simpa using e
        subst ex
        have e0 : es' = #[] := by simpa using h4
        subst e0
        exact ⟨[], [], low, .nil, ⟨o, #[], ep, h1, h2, h3, (fun z hz => by simp at hz), .nil, List.nodup_nil⟩, rfl, .nil⟩
    have same := find_same (dK_keys (k := k) ek)
    have hs : (getD es (kD k)).isSome = (valV kvs k).isSome := by
      unfold getD valV
      rcases same with ⟨h1, h2⟩ | ⟨i, x, z, h1, h2, h3, h4⟩
      · rw [h1, h2]; rfl
      · rw [h3, h4]; rfl
    have hv := (rel.val k).isSome_eq
    refine ⟨dd.mapOf.typeIs, fun Q h => ?_, fun Q h => ?_, fun Q z hz h => ?_⟩
    · refine wpAny_in_of (kV_is ry) low dd.mapOf ?_
      rw [← hv, ← hs]
      exact h _ (I.tok _)
    · refine wpAny_notIn_of (kV_is ry) low dd.mapOf ?_
      rw [← hv, ← hs]
      exact h _ (I.tok _)
    · unfold getD at hz
      rcases same with ⟨h1, h2⟩ | ⟨i, x, p, h1, h2, h3, h4⟩
      · rw [h2] at hz; cases hz
      · rw [h4] at hz
        have ez : p.2 = z := Option.some.inj hz
        have hval : valV kvs k = some x.2 := by unfold valV; rw [h3]; rfl
        obtain ⟨u', hu', ru'⟩ := RelO.some_of (v := x.2) (o := valueAt vs k) (by have := rel.val k; rw [hval] at this; exact this)
        obtain ⟨v', hv', rp⟩ := rv.get (i := i) (d := p.2) (by rw [List.getElem?_map, h2]; rfl)
        rw [List.getElem?_map, h1] at hv'
        cases hv'
        rw [ez] at rp
        exact wpAny_getItem_of (kV_is ry) dd.mapOf hu' (h _ x.2 u' (I.tok _) ru' rp)
  · simp only [Bool.and_eq_true] at fit
    obtain ⟨⟨f1, f2⟩, f3⟩ := fit
    have ry' := isTupB f2 kk
    obtain ⟨b, rfl⟩ := isTup_ref f2 ry'
    obtain rfl : uy = .ref b := ry
    have hh := f3
    simp only [hashOk, Bool.and_eq_true, decide_eq_true_eq] at hh
    have hkey : (nestedKind X.prog X.w).is s.heap d.key b := ⟨nested_is I d _ (.ref b) hh.1 ry' rfl, by rw [key_depth _ hh.1]; exact hh.2⟩
    have room : (nestedKind X.prog X.w).room A.in1 := by show A.units + 1 + 8 < cLine; omega
    obtain ⟨xs, ws, low, dd, ek, rk, lv, rv⟩ : ∃ xs ws, (a == sysModules) = false ∧ s.heap.DictOfH (nestedKind X.prog X.w) a xs ∧ xs.map (·.1) = es.map (fun p => p.1.key) ∧ Reps X.prog X.w X.K F ρ H (xs.map fun x => V.ref x.2.1) (es.map (·.1)) ∧ Vals ws (xs.map (·.2.2)) ∧ Reps X.prog X.w X.K F ρ H ws (es.map (·.2)) := by
      rcases kd2 with ⟨kvs, h, e, q⟩ | ⟨xs, ws, h, e, q, l, q2⟩
      · have em : es = [] := by
          cases es with
          | nil => rfl
          | cons p es =>
            exfalso
            have hp := (List.all_eq_true.mp f1) p List.mem_cons_self
            rw [Bool.and_eq_true] at hp
            cases kvs with
            | nil => simp at e
            | cons x xs =>
              rw [List.map_cons, List.map_cons] at e
              have e1 : p.1 = kD x.1 := (List.cons.inj e).1
              rw [e1] at hp
              cases hx : x.1 <;> rw [hx] at hp <;> cases hp.1
        subst em
        obtain ⟨_, low, vs, rel, dd⟩ := dk_rd I.hok (.inl h)
        have ekv : kvs = [] := by simpa using e.symm
        subst ekv
        cases rel
        obtain ⟨o, es', ep, h1, h2, h3, h4, h5, h6⟩ := dd
        cases h5' : es'.toList with
        | nil => exact ⟨[], [], low, ⟨o, es', ep, h1, h2, h3, h5', (fun _ z => by cases z), List.nodup_nil⟩, rfl, .nil, .nil, .nil⟩
        | cons z zs => rw [h5'] at h5; cases h5
      · obtain ⟨o, es', ep, h1, h2, h3, h4, h5, low, _⟩ := hdt_of I h
        exact ⟨xs, ws, low, ⟨o, es', ep, h1, h2, h3, h4, dT_is I f1 e q, h5⟩, e, q, l, q2⟩
    have same := find_same (dT_keys (k := d) f1 hh.1 ek)
    have hs : (getD es d).isSome = (atKey xs d.key).isSome := by
      unfold getD atKey
      rcases same with ⟨h1, h2⟩ | ⟨i, x, z, h1, h2, h3, h4⟩
      · rw [h1, h2]; rfl
      · rw [h3, h4]; rfl
    refine ⟨dd.typeIs, fun Q h => ?_, fun Q h => ?_, fun Q z hz h => ?_⟩
    · refine wpAny_in_heap room hkey low dd ?_
      rw [← hs]
      exact h _ (I.tok _)
    · refine wpAny_notIn_heap room hkey low dd ?_
      rw [← hs]
      exact h _ (I.tok _)
    · unfold getD at hz
      rcases same with ⟨h1, h2⟩ | ⟨i, x, p, h1, h2, h3, h4⟩
      · rw [h2] at hz; cases hz
      · rw [h4] at hz
        have ez : p.2 = z := Option.some.inj hz
        have hat : atKey xs d.key = some x.2 := by unfold atKey; rw [h3]; rfl
        obtain ⟨v', hv', rp⟩ := rv.get (i := i) (d := p.2) (by rw [List.getElem?_map, h2]; rfl)
        obtain ⟨u', hu', ru'⟩ := lv.get hv'
        rw [List.getElem?_map, h1] at hu'
        cases hu'
        rw [ez] at rp
        exact wpAny_getItem_heap room hkey dd hat (h _ v' x.2.2 (I.tok _) ru' rp)
end
section
variable {X : Cx} {CA : Nat → Option Addr} {W : WX} {a b : Expr} {fa fb : CE} {p pos : Pos}
theorem o_in2 (hu : X.A.units + 200 < cLine) : OpR X (compareOp .In) (rG2 X.prog X.w X.K CA W .v gIn2) := by
  rintro pins s σ H x y v u Q I rx ry ⟨σ', H0, F, ρ, env, st, d, e, rel, k1, k2, q⟩
  unfold gIn2 at q
  split at q
  · split at q
    · rename_i fit
      exact (dct_look hu I fit k2 k1 ry rx).2.1 _ fun s' I' => ⟨.bl _, H, I', rfl, fin_v rel (.bl _) q⟩
    · exact q.elim
  · exact o_in (by omega) pins s σ H x y v u Q I rx ry ⟨σ', H0, F, ρ, env, st, d, e, rel, k1, k2, q⟩
theorem o_notIn2 (hu : X.A.units + 200 < cLine) : OpR X (compareOp .NotIn) (rG2 X.prog X.w X.K CA W .v gNotIn2) := by
  rintro pins s σ H x y v u Q I rx ry ⟨σ', H0, F, ρ, env, st, d, e, rel, k1, k2, q⟩
  unfold gNotIn2 at q
  split at q
  · split at q
    · rename_i fit
      exact (dct_look hu I fit k2 k1 ry rx).2.2.1 _ fun s' I' => ⟨.bl _, H, I', rfl, fin_v rel (.bl _) q⟩
    · exact q.elim
  · exact o_notIn (by omega) pins s σ H x y v u Q I rx ry ⟨σ', H0, F, ρ, env, st, d, e, rel, k1, k2, q⟩
theorem o_ix2 (hu : X.A.units + 200 < cLine) : IxR X (rG2 X.prog X.w X.K CA W .v gIx2) := by
  rintro value slice pins s σ H x y v u Q I rx ry ⟨σ', H0, F, ρ, env, st, d, e, rel, k1, k2, q⟩ hs
  unfold gIx2 at q
  split at q
  · split at q
    · rename_i fit
      split at q
      · rename_i z hz
        obtain ⟨ty, _, _, get⟩ := dct_look (E := X.xe) hu I fit k1 k2 rx ry
        refine tail_any (ops := [v, u]) ty PySem.slot_dict_getitem.lookup ?_ hs
        exact get _ z hz fun s' v' u' I' r' rp => ⟨v', H, I', r', fin_v rel rp q⟩
      · exact q.elim
    · exact q.elim
  · exact o_ix value slice pins s σ H x y v u Q I rx ry ⟨σ', H0, F, ρ, env, st, d, e, rel, k1, k2, q⟩ hs
theorem s_ix2 (hu : X.A.units + 200 < cLine) (ha : PE X a (tD X.prog X.w X.K CA W .b fa)) (hb : PE X b (tD X.prog X.w X.K CA W .b fb)) (hs : isSlice b = false) : PE X (.Subscript a b pos) (tD X.prog X.w X.K CA W .v (c2 fa fb gIx2)) :=
  peI (pe_ix (o_ix2 hu) ha hb (plainIx_of hs)) fun _ _ _ h => t_c2 h
end
end Sn

set_option Elab.async false
set_option linter.all false
set_option maxRecDepth 100000
/-! layer 16e: dict of a list of pairs -/
namespace Sn
open PySem PySem.Spec PyProof.Rows L2
section
variable {P : Program} {w : World} {K : PySem.W.Frag} {F : Addr → Prop} {ρ : List Addr} {H : Hp}
variable (P w K F ρ H)
inductive DKR : List (Key × V) → List (D × D) → Prop
  | nil : DKR [] []
  | cons {x : Key × V} {p : D × D} {xs : List (Key × V)} {es : List (D × D)} : p.1 = kD x.1 → Rep P w K F ρ H x.2 p.2 → DKR xs es → DKR (x :: xs) (p :: es)
inductive DTR : List (NestedKey × Addr × Value) → List V → List (D × D) → Prop
  | nil : DTR [] [] []
  | cons {x : NestedKey × Addr × Value} {v : V} {p : D × D} {xs : List (NestedKey × Addr × Value)} {ws : List V} {es : List (D × D)} : x.1 = p.1.key → (p.1.hashy = true) → Rep P w K F ρ H (.ref x.2.1) p.1 → RelV v x.2.2 → Rep P w K F ρ H v p.2 → DTR xs ws es → DTR (x :: xs) (v :: ws) (p :: es)
/-- pairs at tuples -/
inductive PRs : List Addr → List (V × V) → List (D × D) → Prop
  | nil : PRs [] [] []
  | cons {a : Addr} {q : V × V} {p : D × D} {as : List Addr} {qs : List (V × V)} {es : List (D × D)} : SqT K H a [q.1, q.2] → Rep P w K F ρ H q.1 p.1 → Rep P w K F ρ H q.2 p.2 → PRs as qs es → PRs (a :: as) (q :: qs) (p :: es)
variable {P w K F ρ H}
theorem DKR.out {xs : List (Key × V)} {es : List (D × D)} (h : DKR P w K F ρ H xs es) : es.map (·.1) = xs.map (fun p => kD p.1) ∧ Reps P w K F ρ H (xs.map (·.2)) (es.map (·.2)) := by
  induction h with
  | nil => exact ⟨rfl, .nil⟩
  | cons e r _ ih => exact ⟨by rw [List.map_cons, List.map_cons, e, ih.1], .cons r ih.2⟩
theorem DTR.out {xs : List (NestedKey × Addr × Value)} {ws : List V} {es : List (D × D)} (h : DTR P w K F ρ H xs ws es) : xs.map (·.1) = es.map (fun p => p.1.key) ∧ Reps P w K F ρ H (xs.map fun x => V.ref x.2.1) (es.map (·.1)) ∧ Vals ws (xs.map (·.2.2)) ∧ Reps P w K F ρ H ws (es.map (·.2)) := by
  induction h with
  | nil => exact ⟨rfl, .nil, .nil, .nil⟩
  | cons e hh r v r2 _ ih => exact ⟨by rw [List.map_cons, List.map_cons, e, ih.1], .cons r ih.2.1, .cons v ih.2.2.1, .cons r2 ih.2.2.2⟩
theorem PRs.of : ∀ {xs : List D} {vs : List V} {es : List (D × D)}, pairsD xs = some es → Reps P w K F ρ H vs xs → ∃ as qs, vs = as.map V.ref ∧ PRs P w K F ρ H as qs es
  | [], _, es, h, .nil => by
    cases h
    exact ⟨[], [], rfl, .nil⟩
  | d :: xs, _, es, h, .cons r rs => by
    have hd : ∃ k v, d = .tup [k, v] := by
      unfold pairsD at h
      split at h
      · rename_i e; cases e
      · rename_i k v ds e
        cases e
        exact ⟨k, v, rfl⟩
      · cases h
    obtain ⟨k, v, rfl⟩ := hd
    · rw [pairsD, Option.map_eq_some_iff] at h
      obtain ⟨es', h1, rfl⟩ := h
      obtain ⟨as, qs, e, q⟩ := PRs.of h1 rs
      cases r with
      | tup hs hr _ =>
        cases hr with
        | cons r1 hr =>
          cases hr with
          | cons r2 hr =>
            cases hr
            exact ⟨_ :: as, (_, _) :: qs, by rw [e]; rfl, .cons (q := (_, _)) hs.seq r1 r2 q⟩
/-- one more entry -/
theorem DKR.any {xs : List (Key × V)} {es : List (D × D)} (h : DKR P w K F ρ H xs es) (k : Key) : (es.any fun p => D.eqv p.1 (kD k)) = xs.any fun x => decide (x.1 = k) := by
  induction h with
  | nil => rfl
  | cons e r _ ih =>
    rw [List.any_cons, List.any_cons, ih, e]
    congr 1
    rename_i x _ _ _ _
    cases x.1 <;> cases k <;> simp [kD, D.eqv] <;> exact Bool.beq_eq_decide_eq _ _
theorem eqv_kD (k l : Key) : D.eqv (kD l) (kD k) = decide (l = k) := by
  cases l <;> cases k <;> simp [kD, D.eqv] <;> exact Bool.beq_eq_decide_eq _ _
theorem DKR.snoc {xs : List (Key × V)} {es : List (D × D)} {k : Key} {v : V} {d : D} (h : DKR P w K F ρ H xs es) (r : Rep P w K F ρ H v d) : DKR P w K F ρ H (xs ++ [(k, v)]) (es ++ [(kD k, d)]) := by
  induction h with
  | nil => exact .cons rfl r .nil
  | cons e r' _ ih => exact .cons e r' ih
theorem DKR.repl {xs : List (Key × V)} {es : List (D × D)} {k : Key} {v : V} {d : D} (h : DKR P w K F ρ H xs es) (r : Rep P w K F ρ H v d) : DKR P w K F ρ H (xs.map fun kv => if kv.1 = k then (kv.1, v) else kv) (es.map fun p => if D.eqv p.1 (kD k) = true then (p.1, d) else p) := by
  induction h with
  | nil => exact .nil
  | @cons x p xs es e r' _ ih =>
    rw [List.map_cons, List.map_cons, e, eqv_kD]
    by_cases hk : x.1 = k
    · rw [if_pos hk, if_pos (by simpa using hk)]
      exact .cons rfl r ih
    · rw [if_neg hk, if_neg (by simpa using hk)]
      exact .cons e r' ih
theorem DKR.put {xs : List (Key × V)} {es : List (D × D)} {k : Key} {v : V} {d : D} (h : DKR P w K F ρ H xs es) (r : Rep P w K F ρ H v d) : DKR P w K F ρ H (putK xs k v) (putD es (kD k) d) := by
  unfold putK putD
  rw [h.any k]
  split
  · exact h.repl r
  · exact h.snoc r
theorem DKR.fold {qs : List (Key × V)} {es : List (D × D)} (h : DKR P w K F ρ H qs es) : ∀ {xs : List (Key × V)} {fs : List (D × D)}, DKR P w K F ρ H xs fs → DKR P w K F ρ H (mergeK xs qs) (es.foldl (fun l p => putD l p.1 p.2) fs) := by
  induction h with
  | nil => exact fun h => h
  | @cons x p qs es e r _ ih =>
    intro xs fs hx
    unfold mergeK
    rw [List.foldl_cons, List.foldl_cons, e]
    exact ih (hx.put r)
theorem DKR.of {as : List Addr} {qs : List (V × V)} {es : List (D × D)} (h : PRs P w K F ρ H as qs es) (hk : es.all (fun p => isKey p.1) = true) : ∃ kvs, DKR P w K F ρ H kvs es ∧ Paired (fun p (kv : Key × V) => SqT K H p [kV kv.1, kv.2]) as kvs := by
  induction h with
  | nil => exact ⟨[], .nil, .nil⟩
  | @cons a q p as qs es hs r1 r2 _ ih =>
    rw [List.all_cons, Bool.and_eq_true] at hk
    obtain ⟨kvs, h1, h2⟩ := ih hk.2
    obtain ⟨k, e1, e2⟩ := isKey_kV hk.1 (show RepB P w K F ρ H q.1 p.1 from .inl r1)
    rw [e1] at hs
    exact ⟨(k, q.2) :: kvs, .cons e2 r2 h1, .cons hs h2⟩
theorem find_any {α : Type} {p : α → Bool} : ∀ xs : List α, (xs.find? p).isSome = xs.any p
  | [] => rfl
  | x :: xs => by
    rw [List.find?_cons, List.any_cons]
    cases p x with
    | true => rfl
    | false => exact find_any xs
theorem DTR.any {xs : List (NestedKey × Addr × Value)} {ws : List V} {es : List (D × D)} {k : D} (h : DTR P w K F ρ H xs ws es) (hk : k.hashy = true) : (es.any fun p => D.eqv p.1 k) = (atKey xs k.key).isSome := by
  unfold atKey
  rw [Option.isSome_map, find_any]
  induction h with
  | nil => rfl
  | cons e hh r v r2 _ ih => rw [List.any_cons, List.any_cons, ih, e, NestedKey.decide_eq, eqv_key _ _ hh hk]
theorem DTR.snoc {xs : List (NestedKey × Addr × Value)} {ws : List V} {es : List (D × D)} {k d : D} {a : Addr} {v : V} {u : Value} (h : DTR P w K F ρ H xs ws es) (hk : k.hashy = true) (r1 : Rep P w K F ρ H (.ref a) k) (rv : RelV v u) (r : Rep P w K F ρ H v d) : DTR P w K F ρ H (xs ++ [(k.key, a, u)]) (ws ++ [v]) (es ++ [(k, d)]) := by
  induction h with
  | nil => exact .cons rfl hk r1 rv r .nil
  | cons e hh r v r2 _ ih => exact .cons e hh r v r2 ih
theorem DTR.repl {xs : List (NestedKey × Addr × Value)} {ws : List V} {es : List (D × D)} {k d : D} {v : V} {u : Value} (h : DTR P w K F ρ H xs ws es) (hk : k.hashy = true) (rv : RelV v u) (r : Rep P w K F ρ H v d) : ∃ ws', DTR P w K F ρ H (xs.map (putAt k.key u)) ws' (es.map fun p => if D.eqv p.1 k = true then (p.1, d) else p) := by
  induction h with
  | nil => exact ⟨[], .nil⟩
  | @cons x v' p xs ws es e hh r' rv' r2 _ ih =>
    obtain ⟨ws', ih⟩ := ih
    rw [List.map_cons, List.map_cons, eqv_key _ _ hh hk, ← NestedKey.decide_eq, ← e]
    unfold putAt
    by_cases hx : x.1 = k.key
    · rw [if_pos hx, if_pos (by simpa using hx)]
      exact ⟨v :: ws', .cons e hh r' rv r ih⟩
    · rw [if_neg hx, if_neg (by simpa using hx)]
      exact ⟨v' :: ws', .cons e hh r' rv' r2 ih⟩
theorem DTR.put {xs : List (NestedKey × Addr × Value)} {ws : List V} {es : List (D × D)} {k d : D} {a : Addr} {v : V} {u : Value} (h : DTR P w K F ρ H xs ws es) (hk : k.hashy = true) (r1 : Rep P w K F ρ H (.ref a) k) (rv : RelV v u) (r : Rep P w K F ρ H v d) : ∃ ws', DTR P w K F ρ H (storedH xs k.key a u) ws' (putD es k d) := by
  unfold storedH putD
  rw [h.any hk]
  split
  · exact h.repl hk rv r
  · exact ⟨_, h.snoc hk r1 rv r⟩
theorem DTR.fold {qs : List (NestedKey × Addr × Value)} {ws : List V} {es : List (D × D)} (h : DTR P w K F ρ H qs ws es) : ∀ {xs : List (NestedKey × Addr × Value)} {ws' : List V} {fs : List (D × D)}, DTR P w K F ρ H xs ws' fs → ∃ ws2, DTR P w K F ρ H (storedAllH xs qs) ws2 (es.foldl (fun l p => putD l p.1 p.2) fs) := by
  induction h with
  | nil => exact fun h => ⟨_, h⟩
  | @cons x v p qs ws es e hh r rv r2 _ ih =>
    intro xs ws' fs hx
    unfold storedAllH
    rw [List.foldl_cons, List.foldl_cons, e]
    obtain ⟨ws2, h2⟩ := hx.put hh r rv r2
    exact ih h2
end
section
variable {X : Cx} {CA : Nat → Option Addr} {W : WX} {a : Expr} {fa : CE} {p pos : Pos}
theorem PRs.tup {F : Addr → Prop} {ρ : List Addr} {H : Hp} {pins : List (Addr × Obj)} {s : Shared} {σ : L2.St} (I : Inv X pins σ H s) {as : List Addr} {qs : List (V × V)} {es : List (D × D)} (h : PRs X.prog X.w X.K F ρ H as qs es) (hk : es.all (fun p => isTup p.1 && hashOk p.1) = true) :
    ∃ (xs : List (NestedKey × Addr × Value)) (ps : List (Value × Value)), DTR X.prog X.w X.K F ρ H xs (qs.map (·.2)) es ∧ (∀ x ∈ xs, (nestedKind X.prog X.w).is s.heap x.1 x.2.1) ∧ ps.length = as.length ∧ xs.length = as.length ∧
      (∀ (j : Nat) (k v : Value), ps[j]? = some (k, v) → ∃ b, as[j]? = some b ∧ PairAt s.heap b k v) ∧ ∀ (i : Nat) (key v : Value), ps[i]? = some (key, v) → ∃ k b, xs[i]? = some (k, b, v) ∧ key = Value.ref b := by
  induction h with
  | nil => exact ⟨[], [], .nil, (fun x hx => by cases hx), rfl, rfl, (fun j k v h => by simp at h), fun i k v h => by simp at h⟩
  | @cons b q p as qs es hs r1 r2 _ ih =>
    rw [List.all_cons, Bool.and_eq_true, Bool.and_eq_true] at hk
    obtain ⟨⟨k1, k2⟩, k3⟩ := hk
    obtain ⟨xs, ps, h1, h2, h3, h4, h5, h6⟩ := ih k3
    have hh := k2
    simp only [hashOk, Bool.and_eq_true, decide_eq_true_eq] at hh
    obtain ⟨c, e1⟩ := isTup_ref k1 r1
    obtain ⟨its, rv, ⟨o, ho, hc, n, hd⟩, hz⟩ := I.tuple hs
    rw [e1] at r1 rv
    obtain ⟨u1, u2, rfl, ru1, ru2⟩ := Vals.two rv
    obtain rfl : u1 = .ref c := ru1
    refine ⟨(p.1.key, c, u2) :: xs, (.ref c, u2) :: ps, .cons rfl hh.1 r1 ru2 r2 h1, fun x hx => ?_, by rw [List.length_cons, h3, List.length_cons], by rw [List.length_cons, h4, List.length_cons], fun j k v h => ?_, fun j k v h => ?_⟩
    · rcases List.mem_cons.mp hx with rfl | hx
      · exact ⟨nested_is I p.1 _ (.ref c) hh.1 r1 rfl, by rw [key_depth _ hh.1]; exact hh.2⟩
      · exact h2 x hx
    · cases j with
      | zero =>
        simp only [List.getElem?_cons_zero, Option.some.injEq, Prod.mk.injEq] at h
        obtain ⟨rfl, rfl⟩ := h
        exact ⟨b, rfl, .inl ⟨o, ho, hc, n, hd⟩⟩
      | succ j => exact h5 j k v (by simpa using h)
    · cases j with
      | zero =>
        simp only [List.getElem?_cons_zero, Option.some.injEq, Prod.mk.injEq] at h
        obtain ⟨rfl, rfl⟩ := h
        exact ⟨_, _, rfl, rfl⟩
      | succ j =>
        obtain ⟨k', b', e2, e3⟩ := h6 j k v (by simpa using h)
        exact ⟨k', b', by simpa using e2, e3⟩
theorem storedAllH_len (ps : List (NestedKey × Addr × Value)) : ∀ xs : List (NestedKey × Addr × Value), (storedAllH xs ps).length ≤ xs.length + ps.length := by
  induction ps with
  | nil => intro xs; exact Nat.le_refl _
  | cons p ps ih =>
    intro xs
    have h1 := ih (storedH xs p.1 p.2.1 p.2.2)
    have h2 := storedH_length xs p.1 p.2.1 p.2.2
    have e : storedAllH xs (p :: ps) = storedAllH (storedH xs p.1 p.2.1 p.2.2) ps := rfl
    rw [e, List.length_cons]
    omega
theorem hdt_ok {P : Program} {w : World} {H : Hp} {h : Heap} {d : Addr} {xs : List (NestedKey × Addr × Value)} (dd : h.DictOfH (nestedKind P w) d xs) (low : (d == sysModules) = false) (sz : xs.length ≤ sizeLine) : ObjOk P w H h d (HDT P w d xs) := by
  obtain ⟨o, es, ep, h1, h2, h3, h4, h5, h6⟩ := dd
  refine ⟨⟨o, es, ep, h1, h2, h3, h4, h6, low, sz⟩, ⟨o, h1⟩, fun g1 g2 q k => ?_⟩
  obtain ⟨o', es', ep', q1, q2⟩ := q
  exact ⟨o', es', ep', k o' q1, q2⟩
/-- what dict makes of a list of pairs -/
def rDictD (X : Cx) : List V → Hp → VK → Prop := fun us H Q => ∃ (b : Addr) (vs : List V) (xs : List D) (es : List (D × D)) (F : Addr → Prop) (ρ : List Addr), us = [.ref b] ∧ H b = some (.lst vs) ∧ Reps X.prog X.w X.K F ρ H vs xs ∧ pairsD xs = some es ∧
  (es.all (fun p => isKey p.1) = true ∨ es.all (fun p => isTup p.1 && hashOk p.1) = true) ∧
  ∀ l o, H l = none → ((∃ kvs, o = .dK kvs ∧ DKR X.prog X.w X.K F ρ H kvs (es.foldl (fun l p => putD l p.1 p.2) [])) ∨ ∃ ys ws, o = HDT X.prog X.w l ys ∧ DTR X.prog X.w X.K F ρ H ys ws (es.foldl (fun l p => putD l p.1 p.2) [])) → Q (.ref l) (upd H l o)
theorem cr_dictD (hc : X.calm = true) (hu : X.A.units + 200 < cLine) : CallR X (.type "dict") (rDictD X) := by
  intro pins s σ H us vs' Q I r h
  obtain ⟨b, vs, xs, es, F, ρ, rfl, hb, rp, hp, ok, q⟩ := h
  obtain ⟨as, qs, rfl, pr⟩ := PRs.of hp rp
  rcases ok with ok | ok
  · obtain ⟨kvs, dk, pd⟩ := DKR.of pr ok
    exact call_dictP hc pins s σ H _ vs' Q I r ⟨b, as, kvs, rfl, SqL.of hb, pd, fun l n => q l _ n (.inl ⟨_, rfl, dk.fold .nil⟩)⟩
  · obtain ⟨ys, ps, dt, his, l1, l2, h5, h6⟩ := pr.tup I ok
    obtain ⟨its, rv, pl, hz⟩ := I.list (SqL.of hb)
    rw [Vals.ref1 r]
    have eits := refs_at rv
    subst eits
    obtain ⟨o, n, ho, hcl, hdn, hdat⟩ := pl
    have low : (s.heap.objs.size == sysModules) = false := beq_eq_false_iff_ne.mpr (Nat.ne_of_gt I.big)
    rw [List.length_map] at hz
    have hT : ∀ j, j < as.length → as[j]? = some (as.getD j 0) := fun j hj => by rw [List.getD_eq_getElem?_getD, List.getElem?_eq_getElem hj]; rfl
    refine call_dict_pairsH (knd := nestedKind X.prog X.w) (ps := ys) (PairArg.list b (as.map Value.ref).toArray (fun j => as.getD j 0) ps) (I.ok.hd hc) (by show X.A.units + 1 + 1 + 8 < cLine; omega) ⟨⟨o, n, ho, hcl, hdn, hdat⟩, by simp [l1], fun j k v hj => ?_⟩ ⟨by rw [l1, l2], fun i key v hr => h6 i key v hr⟩ (fun h' hk x hx => ?_) (by rw [l1]; exact hz) fun h' tk hd' hk => ?_
    · obtain ⟨c, e1, e2⟩ := h5 j k v hj
      have hj' : j < as.length := (List.getElem?_eq_some_iff.mp e1).1
      have e3 := hT j hj'
      rw [e1] at e3
      have e4 : c = as.getD j 0 := Option.some.inj e3
      have e5 : (as.map Value.ref).toArray[j]? = some (Value.ref c) := by rw [List.getElem?_toArray, List.getElem?_map, e1]; rfl
      rw [e4] at e2 e5
      exact ⟨e5, e2⟩
    · exact nestedKind_stays.stays (fun c o vs m e _ => hk c o (Nat.ne_of_lt (Heap.lt_size e)) (fun z => by cases z) e) (his x hx)
    · obtain ⟨ws2, d2⟩ := dt.fold (xs := []) (ws' := []) (fs := []) .nil
      have sz : (storedAllH [] ys).length ≤ sizeLine := Nat.le_trans (storedAllH_len ys []) (by rw [List.length_nil, Nat.zero_add, l2]; exact hz)
      exact ⟨.ref s.heap.objs.size, upd H s.heap.objs.size (HDT X.prog X.w s.heap.objs.size (storedAllH [] ys)), I.laid (t' := tk) (fun c o e => hk c o (fun z => by cases z) e) (Nat.le_refl _) (hdt_ok hd' low sz), rfl, q _ _ (I.hok.fresh (Nat.le_refl _)) (.inr ⟨_, _, rfl, d2⟩)⟩
theorem s_dict (hc : X.calm = true) (hu : X.A.units + 200 < cLine) (hg : Gl X "dict") (hm : X.mg "dict" = none) (ha : PE X a (tD X.prog X.w X.K CA W .b fa)) (hs : notStar a = true) : PE X (.Call (.Name "dict" p) [a] [] pos) (tD X.prog X.w X.K CA W .v (c1 fa gDict)) := by
  refine s_ty1 (cr_dictD hc hu) (fun x H Q h => ?_) hg hm (by decide +kernel) ha hs (by decide) (by decide)
  obtain ⟨σ, H0, F, ρ, env, st, d, rel, k1, q⟩ := h
  unfold gDict at q
  split at q
  · split at q
    · rename_i es hes
      split at q
      · rename_i ok
        obtain ⟨b, vs, rfl, h1, r1, z1⟩ := k1.lstE
        refine ⟨b, vs, _, es, F, ρ, rfl, h1, r1, hes, ok, fun l o n h => ?_⟩
        have k := (ext_new (F := F) (ρ := ρ) (o := o) n).toKeeps
        refine (After.kv rel q) (.ref l) _ F ρ (ext_new n) (rel.new n) ⟨l, rfl, rel.notF n, rel.notρ n, n, ?_⟩
        rcases h with ⟨kvs, rfl, dk⟩ | ⟨ys, ws, rfl, dt⟩
        · obtain ⟨e1, e2⟩ := dk.out
          exact .inr (.inl ⟨kvs, _, rfl, upd_same, e1, e2.mono k⟩)
        · obtain ⟨e1, e2, e3, e4⟩ := dt.out
          exact .inr (.inr ⟨ys, ws, _, rfl, upd_same, e1, e2.mono k, e3, e4.mono k⟩)
      · exact q.elim
    · exact q.elim
  · exact q.elim
end
end Sn

set_option Elab.async false
set_option linter.all false
set_option maxRecDepth 100000
/-! layer 16f: sum of lists -/
namespace Sn
open PySem PySem.Spec PyProof.Rows L2
theorem no_str : isSubtype (.type "list") (.type "str") = pure false := by rw [isSubtype_type]; kernel_rfl
theorem no_bytes : isSubtype (.type "list") (.type "bytes") = pure false := by rw [isSubtype_type]; kernel_rfl
theorem no_bytearray : isSubtype (.type "list") (.type "bytearray") = pure false := by rw [isSubtype_type]; kernel_rfl
theorem two_args (a b : Value) : argsOk "sum" ⟨[a, b], []⟩ := by unfold argsOk; kernel_rfl
def lobj (xs : List Value) (c : Nat) : Obj := { cls := .type "list", data := .seq xs.toArray c }
section
variable {prog : Program} {w : World} {A : Around} {R : Result → Shared → Prop} {I S : Addr} {fp wr : List Addr} {St : Nat → Heap → Prop} {rows : List (List Value)} {at_ : Nat → Addr} {cap : Nat → Nat}
/-- the loop: at turn i the total is the list at T -/
theorem lists_loop (Wk : Walks prog w A.in1 I fp wr rows.length (fun i v => v = .ref (at_ i)) St) (there : ∀ i h, St i h → ∀ b ∈ fp, ∃ o, h.get? b = some o) (noS : S ∉ fp) {n0 : Nat} (old : ∀ i, i < rows.length → at_ i < n0) (wrNew : ∀ b ∈ wr, n0 ≤ b) (Snew : n0 ≤ S) (fit : rows.flatten.length ≤ sizeLine) :
    ∀ (k i : Nat) (s : Shared) (T : Addr) (c c2 : Nat), rows.length - i = k → i ≤ rows.length → St i s.heap → s.heap.get? S = some (lobj [.ref T] c) → s.heap.get? T = some (lobj ((rows.take i).flatten) c2) → T ∉ wr → T ≠ S → (∀ j r, rows[j]? = some r → s.heap.get? (at_ j) = some (lobj r (cap j))) →
      (∀ h' tk T' c', (∀ b o, b < n0 → s.heap.get? b = some o → h'.get? b = some o) → h'.get? T' = some (lobj rows.flatten c') → (T' = T ∧ i = rows.length ∨ n0 ≤ T' ∧ i < rows.length) → R (.ok (.ret (.ref T'))) { s with heap := h', toks := tk }) →
      codeAny (model prog w) A (.builtin "sum.loop" ⟨[.ref I, .ref S, rawInt 2, rawInt 0], []⟩) R s := by
  have Swr : S ∉ wr := fun m => noS (Wk.sub _ m)
  intro k
  induction k with
  | zero =>
    intro i s T c c2 left le st hS hT nT neS its fin
    have e : i = rows.length := by omega
    subst e
    refine codeAny_builtin F.entry_sum_loop ?_
    rw [Around.under_plainId F.plain_sum_loop _]
    show wpAny _ A.in1 (seqItems? (.ref S) >>= _) _ _ s
    refine wpAny_bind (wpAny_seqItems hS rfl ?_)
    show wpAny _ A.in1 (tryCatch (pyNext (.ref I)) _ >>= _) _ _ s
    refine wpAny_bind (wpAny_tryCatch (Wk.done s _ _ st fun h' tk keep => ?_))
    refine wpAny_pure (fin h' tk T c2 (fun b o lb e => keep b o (fun m => absurd (Nat.lt_of_lt_of_le lb (wrNew b m)) (Nat.lt_irrefl _)) e) ?_ (.inl ⟨rfl, rfl⟩))
    rw [List.take_length] at hT
    exact keep T _ nT hT
  | succ k ih =>
    intro i s T c c2 left le st hS hT nT neS its fin
    have lt : i < rows.length := by omega
    obtain ⟨r, hr⟩ : ∃ r, rows[i]? = some r := ⟨_, List.getElem?_eq_getElem lt⟩
    have nwr : ∀ j, j < rows.length → at_ j ∉ wr := fun j hj m => by
      exact absurd (Nat.lt_of_lt_of_le (old j hj) (wrNew _ m)) (Nat.lt_irrefl _)
    have neqS : ∀ j, j < rows.length → at_ j ≠ S := fun j hj e => by
      exact absurd (Nat.lt_of_lt_of_le (old j hj) Snew) (by rw [e]; exact Nat.lt_irrefl _)
    refine codeAny_builtin F.entry_sum_loop ?_
    rw [Around.under_plainId F.plain_sum_loop _]
    show wpAny _ A.in1 (seqItems? (.ref S) >>= _) _ _ s
    refine wpAny_bind (wpAny_seqItems hS rfl ?_)
    show wpAny _ A.in1 (tryCatch (pyNext (.ref I)) _ >>= _) _ _ s
    refine wpAny_bind (wpAny_tryCatch (Wk.item i s _ _ lt st fun v h' tk hv st' keep => ?_))
    subst hv
    have hS' := keep S _ Swr hS
    have hT' := keep T _ nT hT
    have its' : ∀ j r, rows[j]? = some r → h'.get? (at_ j) = some (lobj r (cap j)) := fun j r e => keep _ _ (nwr j (List.getElem?_eq_some_iff.mp e).1) (its j r e)
    have next : rows.take (i + 1) = rows.take i ++ [r] := by rw [List.take_add_one, hr]; rfl
    have flat : (rows.take (i + 1)).flatten = (rows.take i).flatten ++ r := by rw [next, List.flatten_append]; simp
    have sz : (rows.take i).flatten.toArray.size + r.toArray.size ≤ sizeLine := by
      rw [List.size_toArray, List.size_toArray, ← List.length_append, ← flat]
      refine Nat.le_trans ?_ fit
      have : rows.flatten = (rows.take (i + 1)).flatten ++ (rows.drop (i + 1)).flatten := by rw [← List.flatten_append, List.take_append_drop]
      rw [this, List.length_append]
      omega
    show wpAny _ A.in1 ((holding [Value.ref (at_ i)] (binaryOp .Add (.ref T) (.ref (at_ i)))).attempt >>= _) _ _ _
    refine wpAny_bind (wpAny_attempt (wpAny_holding (PySem.P.add_list hT' (its' i r hr) ?_ sz)))
    have eapp : (rows.take i).flatten.toArray ++ r.toArray = ((rows.take (i + 1)).flatten).toArray := by rw [flat]; simp
    rw [eapp]
    obtain ⟨T2, eT2⟩ : ∃ T2, T2 = h'.objs.size := ⟨_, rfl⟩
    obtain ⟨h2, eh2⟩ : ∃ h2, h2 = h'.push (lobj ((rows.take (i + 1)).flatten) 0) := ⟨_, rfl⟩
    have pk : ∀ b o, h'.get? b = some o → h2.get? b = some o := fun b o e => by rw [eh2]; exact Heap.get?_push_of_some _ e
    have ne : ∀ b o, h'.get? b = some o → b ≠ T2 := fun b o e z => by
      exact absurd (Heap.lt_size e) (by rw [z, eT2]; exact Nat.lt_irrefl _)
    have gT2 : h2.get? T2 = some (lobj ((rows.take (i + 1)).flatten) 0) := by rw [eh2, eT2]; exact Heap.get?_push_size _ rfl
    have T2S : T2 ≠ S := fun e => ne S _ hS' e.symm
    have T2wr : T2 ∉ wr := fun m => by
      obtain ⟨o, e⟩ := there _ _ st' T2 (Wk.sub _ m)
      exact ne _ _ e rfl
    have T2n : n0 ≤ T2 := by
      rw [eT2]
      exact Nat.le_trans Snew (Nat.le_of_lt (Heap.lt_size hS'))
    show wpAny _ A.in1 (updateSeq S (fun _ => #[.ref h'.objs.size]) >>= _) _ _ { s with heap := h'.push (lobj ((rows.take (i + 1)).flatten) 0), toks := tk }
    rw [← eT2, ← eh2]
    have hS2 := pk S _ hS'
    refine wpAny_bind ?_
    refine wpAny_updateSeq hS2 rfl ?_
    have hS3 := Heap.get?_update_self (Obj.mapSeq fun _ => #[Value.ref T2]) hS2 rfl
    refine wpAny_bind (wpAny_letGo ?_)
    refine wpAny_bind ?_
    refine wpAny_updateSeq hS3 rfl (wpAny_pure ⟨plainId_quiet F.plain_sum_loop _, ?_⟩)
    obtain ⟨h3, eh3⟩ : ∃ h3, h3 = (h2.update S (Obj.mapSeq fun _ => #[Value.ref T2])).update S (Obj.mapSeq fun _ => #[Value.ref T2]) := ⟨_, rfl⟩
    have k3 : ∀ b, b ≠ S → h3.get? b = h2.get? b := fun b hb => by
      rw [eh3, Heap.get?_update_other _ _ (Ne.symm hb), Heap.get?_update_other _ _ (Ne.symm hb)]
    have gS3 : h3.get? S = some (lobj [.ref T2] c) := by
      rw [eh3]
      exact Heap.get?_update_self _ hS3 rfl
    show codeAny _ _ _ _ { s with heap := (h2.update S (Obj.mapSeq fun _ => #[Value.ref T2])).update S (Obj.mapSeq fun _ => #[Value.ref T2]), toks := tk }
    rw [← eh3]
    refine ih (i + 1) { s with heap := h3, toks := tk } T2 c 0 (by omega) lt ?_ gS3 ((k3 T2 T2S).trans gT2) T2wr T2S (fun j r e => ?_) fun h'' tk'' T' c' kp hT'' or_ => ?_
    · exact Wk.frame _ _ _ st' fun b hb o e => (k3 b fun z => noS (z ▸ hb)).trans (pk b o e)
    · exact (k3 _ (neqS j (List.getElem?_eq_some_iff.mp e).1)).trans (pk _ _ (its' j r e))
    · refine fin h'' tk'' T' c' (fun b o lb e => kp b o lb ?_) hT'' (.inr ⟨?_, lt⟩)
      · have nb : b ≠ S := fun z => absurd (Nat.lt_of_lt_of_le lb Snew) (by rw [z]; exact Nat.lt_irrefl _)
        exact (k3 b nb).trans (pk b o (keep b o (fun m => absurd (Nat.lt_of_lt_of_le lb (wrNew b m)) (Nat.lt_irrefl _)) e))
      · rcases or_ with ⟨rfl, _⟩ | ⟨z, _⟩
        · exact T2n
        · exact z
end
section
variable {prog : Program} {w : World} {A : Around} {E : Value → Shared → Prop} {s : Shared}
theorem call_sumL {b T0 : Addr} {as : List Addr} {rows : List (List Value)} {cap : Nat → Nat} {c0 : Nat} {Q : Value → Shared → Prop} (hh : A.handled = none) (hl : s.heap.IsList b (as.map Value.ref).toArray) (hT : s.heap.get? T0 = some (lobj [] c0)) (len : as.length = rows.length)
    (its : ∀ j a r, as[j]? = some a → rows[j]? = some r → s.heap.get? a = some (lobj r (cap j))) (fit : rows.flatten.length ≤ sizeLine)
    (good : ∀ h' tk T' c', (∀ x o, s.heap.get? x = some o → h'.get? x = some o) → h'.get? T' = some (lobj rows.flatten c') → (T' = T0 ∧ rows = [] ∨ s.heap.objs.size ≤ T' ∧ rows ≠ []) → Q (.ref T') { s with heap := h', toks := tk }) :
    wpAny (model prog w) A (call (.builtin "sum") [.ref b, .ref T0]) Q E s := by
  refine call_function_tree F.kind_sum F.plain_sum F.entry_sum (two_args _ _) ?_
  unfold Builtin.«sum»
  simp only [List.length_cons, List.length_nil]
  rw [if_neg (by decide)]
  refine wpAny_bind (wpAny_of_eq (show Builtin.Builtins.bindParams "sum" ["start"] 0 ⟨[Value.ref T0], []⟩ = pure [some (.ref T0)] from rfl) ?_)
  have tyT : ∀ h : Heap, h.get? T0 = some (lobj [] c0) → ({ s with heap := h } : Shared).TypeIs (.ref T0) "list" := fun h e => ⟨_, e, rfl⟩
  have bl : b < s.heap.objs.size := by obtain ⟨_, e, _⟩ := hl; exact Heap.lt_size e
  refine wpAny_bind (wpAny_pyIter_list hl ?_)
  obtain ⟨h1, eh1⟩ : ∃ h1, h1 = s.heap.push { cls := .type "list_iterator", data := .fields #[.ref b, .int 0 0] } := ⟨_, rfl⟩
  have k1 : ∀ x o, s.heap.get? x = some o → h1.get? x = some o := fun x o e => by rw [eh1]; exact Heap.get?_push_of_some _ e
  have gI : h1.get? s.heap.objs.size = some { cls := .type "list_iterator", data := .fields #[.ref b, .int 0 0] } := by rw [eh1]; exact Heap.get?_push_size _ rfl
  rw [← eh1]
  refine wpAny_bind (wpAny_pure ?_)
  simp only [List.forIn_cons, List.forIn_nil]
  refine wpAny_bind (wpAny_bind (wpAny_bind (wpAny_isInstance (T := "list") (b := false) (tyT h1 (k1 _ _ hT)) no_str ?_)))
  simp only [Bool.false_eq_true, if_false]
  refine wpAny_pure (wpAny_bind (wpAny_bind (wpAny_isInstance (T := "list") (b := false) (tyT h1 (k1 _ _ hT)) no_bytes ?_)))
  simp only [Bool.false_eq_true, if_false]
  refine wpAny_pure (wpAny_bind (wpAny_bind (wpAny_isInstance (T := "list") (b := false) (tyT h1 (k1 _ _ hT)) no_bytearray ?_)))
  simp only [Bool.false_eq_true, if_false]
  refine wpAny_pure (wpAny_pure ?_)
  refine wpAny_bind (wpAny_newObj_type ?_)
  show wpAny _ _ _ _ _ { s with heap := h1.push (lobj [.ref T0] 0) }
  have sz1 : h1.objs.size = s.heap.objs.size + 1 := by rw [eh1, Heap.size_push]
  have k2 : ∀ x o, h1.get? x = some o → (h1.push (lobj [.ref T0] 0)).get? x = some o := fun x o e => Heap.get?_push_of_some _ e
  have T0l : T0 < s.heap.objs.size := Heap.lt_size hT
  have noS : h1.objs.size ∉ [s.heap.objs.size, b] := fun m => by
    rw [sz1] at m
    rcases List.mem_cons.mp m with e | m
    · exact absurd e (Nat.ne_of_gt (Nat.lt_succ_self _))
    · rcases List.mem_cons.mp m with e | m
      · rw [← e] at bl
        exact absurd bl (Nat.not_lt.mpr (Nat.le_succ _))
      · cases m
  have Wk := Walks.list (prog := prog) (w := w) (A := A.in1) hh s.heap.objs.size b (Nat.ne_of_lt bl) (as.map Value.ref).toArray
  have Wk' : Walks prog w A.in1 s.heap.objs.size [s.heap.objs.size, b] [s.heap.objs.size] rows.length (fun i v => v = .ref (as.getD i 0)) (fun i h => h.IsListIter s.heap.objs.size b i ∧ h.IsList b (as.map Value.ref).toArray) := by
    have n : (as.map Value.ref).toArray.size = rows.length := by simp [len]
    rw [n] at Wk
    refine ⟨Wk.sub, Wk.frame, fun i s Q E hi st hQ => Wk.item i s Q E hi st fun v h' tk hv => hQ v h' tk ?_, Wk.done, Wk.self⟩
    rw [List.getElem?_toArray, List.getElem?_map] at hv
    cases e : as[i]? with
    | none => rw [e] at hv; cases hv
    | some z =>
      rw [e] at hv
      cases hv
      rw [List.getD_eq_getElem?_getD, e]
      rfl
  refine wpAny_pure ⟨plainId_quiet F.plain_sum_loop _, ?_⟩
  refine lists_loop (rows := rows) (at_ := fun i => as.getD i 0) (cap := cap) (n0 := s.heap.objs.size) Wk' (fun i h st x hx => ?_) noS (fun i hi => ?_) (fun x hx => ?_) (by rw [sz1]; exact Nat.le_succ _) fit rows.length 0 _ T0 0 c0 rfl (Nat.zero_le _) ⟨⟨_, k2 _ _ gI, rfl, rfl⟩, ?_⟩ (Heap.get?_push_size _ rfl) (k2 _ _ (k1 _ _ hT)) (fun m => ?_) (fun e => ?_) (fun j r hr => ?_) fun h' tk T' c' kp hT' or_ => ?_
  · rcases List.mem_cons.mp hx with e | hx
    · subst e
      obtain ⟨o, e, _⟩ := st.1
      exact ⟨o, e⟩
    · rcases List.mem_cons.mp hx with e | hx
      · subst e
        obtain ⟨o, e, _⟩ := st.2
        exact ⟨o, e⟩
      · cases hx
  · have hi' : i < as.length := by rw [len]; exact hi
    have ea : as[i]? = some (as.getD i 0) := by rw [List.getD_eq_getElem?_getD, List.getElem?_eq_getElem hi']; rfl
    exact Heap.lt_size (its i _ _ ea (List.getElem?_eq_getElem hi))
  · rcases List.mem_cons.mp hx with e | hx
    · rw [e]; exact Nat.le_refl _
    · cases hx
  · exact (hl.at fun o e => k1 _ _ e).at fun o e => k2 _ _ e
  · rcases List.mem_cons.mp m with e | m
    · rw [e] at T0l
      exact absurd T0l (Nat.lt_irrefl _)
    · cases m
  · rw [e, sz1] at T0l
    exact absurd T0l (Nat.not_lt.mpr (Nat.le_succ _))
  · have hj : j < as.length := by rw [len]; exact (List.getElem?_eq_some_iff.mp hr).1
    have ea : as[j]? = some (as.getD j 0) := by rw [List.getD_eq_getElem?_getD, List.getElem?_eq_getElem hj]; rfl
    exact k2 _ _ (k1 _ _ (its j _ r ea hr))
  · refine good h' tk T' c' (fun x o e => kp x o (Heap.lt_size e) (k2 _ _ (k1 _ _ e))) hT' ?_
    rcases or_ with ⟨e, z⟩ | ⟨e, z⟩
    · exact .inl ⟨e, List.length_eq_zero_iff.mp z.symm⟩
    · exact .inr ⟨e, fun q => by rw [q] at z; cases z⟩
end
section
variable {X : Cx} {CA : Nat → Option Addr} {W : WX} {a : Expr} {fa : CE} {p p2 pos : Pos}
/-- lists that are rows of values -/
inductive LsR (H : Hp) : List V → List (List V) → Prop
  | nil : LsR H [] []
  | cons {a : Addr} {xs : List V} {vs : List V} {rs : List (List V)} : H a = some (.lst xs) → LsR H vs rs → LsR H (.ref a :: vs) (xs :: rs)
theorem LsR.out {H : Hp} {pins : List (Addr × Obj)} {s : Shared} {σ : L2.St} (I : Inv X pins σ H s) : ∀ {vs : List V} {rs : List (List V)} {us : List Value}, LsR H vs rs → Vals vs us →
    ∃ (as : List Addr) (rows : List (List Value)) (cs : List Nat), us = as.map Value.ref ∧ as.length = rows.length ∧ cs.length = rows.length ∧ Vals rs.flatten rows.flatten ∧ rows.length = rs.length ∧ ∀ (j : Nat) a r, as[j]? = some a → rows[j]? = some r → s.heap.get? a = some (lobj r (cs.getD j 0))
  | _, _, _, .nil, r => by cases r; exact ⟨[], [], [], rfl, rfl, rfl, .nil, rfl, fun j a r e => by simp at e⟩
  | _, _, _, .cons h t, r => by
    cases r with
    | cons r rs =>
      obtain ⟨as, rows, cs, e1, e2, e2', e3, e4, e5⟩ := LsR.out I t rs
      obtain ⟨z, its, n, rv, hlen, e⟩ := I.lstM h
      cases r
      refine ⟨_ :: as, its :: rows, n :: cs, by rw [e1]; rfl, by simp [e2], by simp [e2'], by rw [List.flatten_cons, List.flatten_cons]; exact rv.append e3, by simp [e4], fun j a r ea er => ?_⟩
      cases j with
      | zero =>
        simp only [List.getElem?_cons_zero, Option.some.injEq] at ea er
        subst ea er
        exact e
      | succ j => exact e5 j a r (by simpa using ea) (by simpa using er)
def rSumL (X : Cx) : List V → Hp → VK → Prop := fun us H Q => ∃ (b t : Addr) (vs : List V) (rs : List (List V)), us = [.ref b, .ref t] ∧ SqL X.K H b vs ∧ H t = some (.lst []) ∧ LsR H vs rs ∧ rs.flatten.length ≤ sizeLine ∧ (rs = [] → Q (.ref t) H) ∧ (rs ≠ [] → ∀ l, H l = none → Q (.ref l) (upd H l (.lst rs.flatten)))
theorem cr_sumL (hc : X.calm = true) : CallR X (.builtin "sum") (rSumL X) := by
  intro pins s σ H us vs' Q I r h
  obtain ⟨b, t, vs, rs, rfl, hb, ht, lr, fit, q1, q2⟩ := h
  obtain ⟨its, rv, pl, hz⟩ := I.list hb
  obtain ⟨u1, u2, rfl, r1, r2⟩ := Vals.two r
  obtain rfl : u1 = .ref b := r1
  obtain rfl : u2 = .ref t := r2
  obtain ⟨as, rows, cs, e1, e2, e2', e3, e4, e5⟩ := lr.out I rv
  subst e1
  obtain ⟨_, tits, tn, trv, tl, te⟩ := I.lstM ht
  cases trv
  refine call_sumL (cap := fun j => cs.getD j 0) (I.ok.hd hc) pl.isList te e2 e5 (by rw [← e3.length]; exact fit) fun h' tk T' c' kp hT or_ => ?_
  rcases or_ with ⟨rfl, z⟩ | ⟨z, ne⟩
  · have ers : rs = [] := by
      rw [z] at e4
      exact List.length_eq_zero_iff.mp e4.symm
    exact ⟨.ref T', H, I.kept kp, rfl, q1 ers⟩
  · have ers : rs ≠ [] := fun q => by
      rw [q] at e4
      exact ne (List.length_eq_zero_iff.mp e4)
    exact ⟨.ref T', upd H T' (.lst rs.flatten), I.laid (t' := tk) kp z ⟨fit, rows.flatten, c', e3, hT⟩, rfl, q2 ers _ (I.hok.fresh z)⟩
theorem LsR.of {P : Program} {w : World} {K : PySem.W.Frag} {F : Addr → Prop} {ρ : List Addr} {H : Hp} : ∀ {vs : List V} {ds : List D} {yss : List (List D)}, Reps P w K F ρ H vs ds → (ds.mapM fun | .lst ys => some ys | _ => none) = some yss → ∃ rs, LsR H vs rs ∧ Reps P w K F ρ H rs.flatten yss.flatten ∧ rs.length = yss.length ∧ ∀ v ∈ vs, ∃ a, v = .ref a ∧ F a
  | _, _, yss, .nil, h => by
    simp at h
    subst h
    exact ⟨[], .nil, .nil, rfl, fun v h => by cases h⟩
  | _, _, yss, .cons (d := d) r rs, h => by
    rw [List.mapM_cons] at h
    cases d with
    | lst ys =>
      simp only [Option.bind_eq_bind, Option.bind_some] at h
      obtain ⟨y2, h1, h2⟩ := Option.bind_eq_some_iff.mp h
      cases h2
      obtain ⟨rs', l1, l2, l3, l4⟩ := LsR.of rs h1
      cases r with
      | lst f e q z =>
        refine ⟨_ :: rs', .cons e l1, by rw [List.flatten_cons, List.flatten_cons]; exact q.append l2, by simp [l3], fun v hv => ?_⟩
        rcases List.mem_cons.mp hv with e2 | hv
        · exact ⟨_, e2, f⟩
        · exact l4 v hv
    | _ => simp at h
theorem LsR.upd {H : Hp} {p : Addr} {o : HO} (n : H p = none) : ∀ {vs : List V} {rs : List (List V)}, LsR H vs rs → LsR (upd H p o) vs rs
  | _, _, .nil => .nil
  | _, _, .cons h t => .cons (by rw [upd_ne (ne_of_none h n)]; exact h) (LsR.upd n t)
theorem s_sumL (hc : X.calm = true) (hu : X.A.units + 200 < cLine) (hg : Gl X "sum") (hm : X.mg "sum" = none) (ha : PE X a (tD X.prog X.w X.K CA W .b fa)) (hs : notStar a = true) :
    PE X (.Call (.Name "sum" p) [a, .List [] p2] [] pos) (tD X.prog X.w X.K CA W .n (c1 fa gSumL)) := by
  refine peI (pe_callB (cr_sumL hc) hg hm (by decide +kernel) (pa_cons ha (pa_cons (pe_lst pa_nil) pa_nil rfl) (star_of hs)) (by decide) (by decide) (star_of hs) (any_of rfl)) fun σ H Q h => tQ.imp (t_c1 h) fun x H1 q => ?_
  obtain ⟨σ, H0, F, ρ, env, st, d, rel, k1, q⟩ := q
  refine ⟨Nat.zero_le _, fun t nt => ?_⟩
  unfold gSumL at q
  split at q
  · split at q
    · rename_i yss hy
      split at q
      · rename_i fit
        obtain ⟨b, vs, rfl, h1, r1, z1⟩ := k1.lstE
        obtain ⟨rs, l1, l2, l3, l4⟩ := LsR.of r1 hy
        have x1 := ext_new (F := F) (ρ := ρ) (o := HO.lst []) nt
        have rel1 := rel.new (o := HO.lst []) nt
        refine ⟨b, t, vs, rs, rfl, SqL.of (by rw [upd_ne (ne_of_none h1 nt)]; exact h1), upd_same, l1.upd nt, by rw [l2.length]; exact fit, fun e => ?_, fun e l nl => ?_⟩
        · have e2 : yss = [] := by
            rw [e] at l3
            exact List.length_eq_zero_iff.mp l3.symm
          subst e2
          exact q (.ref t) _ F ρ x1 rel1 ⟨t, rfl, rel.notF nt, rel.notρ nt, nt, .inl ⟨[], [], rfl, upd_same, .nil, Nat.zero_le _⟩⟩
        · have x2 := ext_new (F := F) (ρ := ρ) (o := HO.lst rs.flatten) nl
          have nl0 : H1 l = none := none_of_live x1.live nl
          exact q (.ref l) _ F ρ (x1.trans x2) (rel1.new nl) ⟨l, rfl, rel1.notF nl, rel1.notρ nl, nl0, .inl ⟨_, _, rfl, upd_same, (l2.mono x1.toKeeps).mono x2.toKeeps, fit⟩⟩
      · exact q.elim
    · exact q.elim
  · exact q.elim
end
end Sn

set_option Elab.async false
set_option linter.all false
set_option maxRecDepth 100000
/-! layer 16g: sets of tuples, whatever their keys are -/
namespace Sn
open PySem PySem.Spec PyProof.Rows L2
/-- members of a set: tuples that stand for keys of a kind -/
structure EK (P : Program) (w : World) (κ : Type) [DecidableEq κ] where
  at_ : Heap → κ → Addr → Prop
  hash : κ → Int
  cost : κ → Nat
  eqB : ∀ {A : Around} {E : Value → Shared → Prop} {s : Shared} {x y : κ} {a b : Addr} {Q : Bool → Shared → Prop}, A.units + 20 < cLine → at_ s.heap x a → at_ s.heap y b → Q (decide (x = y)) s → wpAny (model P w) A (eqBool (.ref a) (.ref b)) Q E s
  pyH : ∀ {A : Around} {E : Value → Shared → Prop} {s : Shared} {x : κ} {a : Addr} {Q : Int → Shared → Prop}, A.units + 20 < cLine → at_ s.heap x a → Q (hash x) { s with toks := s.toks + cost x } → wpAny (model P w) A (pyHash (.ref a)) Q E s
  mute : ∀ {A : Around} {E : Value → Shared → Prop} {s : Shared} {x : κ} {a : Addr} {Q : Bool → Shared → Prop} {ys : List Value}, at_ s.heap x a → (∀ y ∈ ys, ∃ k c, y = Value.ref c ∧ at_ s.heap k c) → Q false s → wpAny (model P w) A (searchCouldBeSeen (.ref a) ys) Q E s
  byV : ∀ {A : Around} {E : Value → Shared → Prop} {s : Shared} {x : κ} {a : Addr} {Q : Bool → Shared → Prop}, at_ s.heap x a → Q true s → wpAny (model P w) A (hashByValue 8 (.ref a)) Q E s
  stay : ∀ {h h' : Heap} {x : κ} {a : Addr}, at_ h x a → (∀ c o us n, h.get? c = some o → o.data = .seq us n → h'.get? c = some o) → at_ h' x a
section
variable {P : Program} {w : World} {κ : Type} [DecidableEq κ] (ek : EK P w κ)
def ekRows (L : List (Addr × κ)) : List (Int × Value) := L.map fun m => (ek.hash m.2, .ref m.1)
/-- at a: a set of the members L, in the order of its table -/
structure SetAt (h : Heap) (a : Addr) (L : List (Addr × κ)) (es : Array (Int × Value)) (ep : Nat) (t : SetTable) : Prop where
  stands : ∃ o, h.get? a = some o ∧ o.ExactSet ∧ o.data = .set es ep t
  rows : es.toList = ekRows ek L
  tab : TabOk t (L.map fun m => ek.hash m.2)
  apart : (L.map (·.2)).Nodup
  mem : ∀ m ∈ L, ek.at_ h m.2 m.1
  plain : t.plain = true
  led : w.params.followText "set-order" = true ∨ t.led = true
  slack : L.length * 5 < t.mask * 3
  few : L.length < 64
variable {ek} {A : Around} {E : Value → Shared → Prop} {s : Shared} {a : Addr} {L : List (Addr × κ)} {es : Array (Int × Value)} {ep : Nat} {t : SetTable}
theorem ekRows_len (L : List (Addr × κ)) : (ekRows ek L).length = L.length := List.length_map ..
theorem SetAt.count (S : SetAt ek s.heap a L es ep t) : es.size = L.length := by rw [← Array.length_toList, S.rows, ekRows_len]
theorem SetAt.filled (S : SetAt ek s.heap a L es ep t) : t.fits es.size = true := by
  have c := S.count
  have p := S.tab.sz
  have r := S.slack
  simp only [List.length_map] at p
  unfold SetTable.fits SetTable.fill
  rw [S.tab.dm]
  simp only [Bool.and_eq_true, beq_iff_eq, decide_eq_true_eq]
  exact ⟨by omega, by show t.place.size + 0 ≤ t.mask; omega⟩
theorem SetAt.row (S : SetAt ek s.heap a L es ep t) {i : Nat} {m : Addr × κ} (h : L[i]? = some m) : es[i]? = some (ek.hash m.2, Value.ref m.1) := by
  rw [← Array.getElem?_toList, S.rows, ekRows, List.getElem?_map, h]
  rfl
theorem SetAt.whole (S : SetAt ek s.heap a L es ep t) : t.gaveWay = false := by
  unfold SetTable.gaveWay
  rw [mask_odd S.tab.mok]
  rfl
theorem SetAt.inPlace (S : SetAt ek s.heap a L es ep t) {i : Nat} {j : Nat} (h : t.place.toList[i]? = some j) : i < L.length := by
  have p := S.tab.sz
  have q := (List.getElem?_eq_some_iff.mp h).1
  simp only [List.length_map] at p
  simp only [Array.length_toList] at q
  omega
/-- the step of a way -/
abbrev stp (t : SetTable) (h : Int) (c : Nat) : SetTable.Probe := nth t.mask (runAt t.mask (SetTable.bits h % (t.mask + 1)) (SetTable.bits h)) c
theorem stp_add (t : SetTable) (h : Int) (c q : Nat) : nth t.mask (stp t h c) q = stp t h (c + q) := (nth_add t.mask c _ q).symm
theorem stp_clean (t : SetTable) (h : Int) (c : Nat) : (stp t h c).dummy = none := by
  have all : ∀ (n : Nat) (p : SetTable.Probe), p.dummy = none → (nth t.mask p n).dummy = none := fun n => by
    induction n with
    | zero => exact fun p e => e
    | succ n ih =>
      intro p e
      apply ih
      unfold adv
      split <;> exact e
  exact all c _ rfl
theorem SetAt.seek (S : SetAt ek s.heap a L es ep t) {x : Addr} {k : κ} (hx : ek.at_ s.heap k x) (hu : A.units + 20 < cLine) {K : Nat} (Kf : K < 10 * SetTable.turns t.mask) (hK : way t.mask (ek.hash k) K ∉ t.place.toList) (hKb : ∀ c, c < K → way t.mask (ek.hash k) c ∈ t.place.toList)
    {Q : SetFound → Shared → Prop} (yes : k ∈ L.map (·.2) → Q (.there none) s) (no : k ∉ L.map (·.2) → Q (.free (way t.mask (ek.hash k) K) false) s) :
    ∀ (f c : Nat) (from_ : Option SetTable.Probe), from_.getD (t.probeStart (ek.hash k)) = stp t (ek.hash k) c → c ≤ K → K - c < f → (∀ (i : Nat) m, L[i]? = some m → m.2 = k → ∃ c', c ≤ c' ∧ c' < K ∧ t.place.toList[i]? = some (way t.mask (ek.hash k) c')) →
      wpAny (model P w) A (setSearchFrom a (.ref x) (ek.hash k) true f from_) Q E s
  | 0, _, _, _, _, hf, _ => absurd hf (Nat.not_lt_zero _)
  | f + 1, c, from_, at0, le, hf, ahead => by
    obtain ⟨o, get, exact_, dat⟩ := S.stands
    rw [setSearchFrom_succ]
    refine wpAny_bind (wpAny_setState_of get dat S.filled ?_)
    dsimp only
    refine wp_if_neg (by rw [S.whole]; decide) ?_
    try refine wpAny_bind (wpAny_pure ?_)
    have jw : ∀ q, (nth t.mask (stp t (ek.hash k) c) q).j = way t.mask (ek.hash k) (c + q) := fun q => congrArg SetTable.Probe.j (stp_add t (ek.hash k) c q)
    have ends : c + (K - c) = K := by omega
    have met := go_spec t S.tab.ris S.tab.dm (fun i => (es[i]?.map (·.1)).getD 0) (ek.hash k) (10 * SetTable.turns t.mask) (K - c) _ (stp_clean t (ek.hash k) c) (by omega) (fun q hq => by rw [jw]; exact hKb _ (by omega)) (by rw [jw, ends]; exact hK)
    have hashOf : ∀ (i : Nat) m, L[i]? = some m → (fun i => (es[i]?.map (·.1)).getD 0) i = ek.hash m.2 := fun i m e => by
      dsimp only
      rw [S.row e]
      rfl
    rcases met with ⟨q, i, hq, hi, hh, none_, pr⟩ | ⟨none_, pr⟩
    · have pr' : t.probe (fun i => (es[i]?.map (·.1)).getD 0) (ek.hash k) (from_.getD (t.probeStart (ek.hash k))) = some (.candidate (way t.mask (ek.hash k) (c + q)) i (stp t (ek.hash k) (c + (q + 1)))) := by
        rw [at0, ← jw, ← stp_add]
        exact pr
      rw [pr']
      dsimp only
      rw [jw] at hi
      have il := S.inPlace hi
      obtain ⟨m, hm⟩ : ∃ m, L[i]? = some m := ⟨_, List.getElem?_eq_getElem il⟩
      have inL : m ∈ L := List.mem_of_getElem? hm
      have live : t.slot (way t.mask (ek.hash k) (c + q)) = .live i := slot_live S.tab.ris hi
      have after : wpAny (model P w) A (searchRest a (.ref x) (ek.hash k) true f es t (way t.mask (ek.hash k) (c + q)) i (stp t (ek.hash k) (c + (q + 1)))) Q E s := by
        unfold searchRest
        rw [S.row hm]
        dsimp only
        refine wpAny_bind (wpAny_holding (ek.eqB hu (S.mem m inL) hx (wpAny_bind (wpAny_setState_of get dat S.filled ?_))))
        dsimp only
        by_cases same : m.2 = k
        · exact wp_if_pos (by simp [same]) (wpAny_pure (yes (List.mem_map.mpr ⟨m, inL, same⟩)))
        · refine wp_if_neg (by simp [same]) ?_
          try refine wpAny_bind (wpAny_pure ?_)
          rw [sameMem]
          dsimp only
          simp only [if_true, live, S.row hm]
          refine wpAny_bind (wpAny_isSame_ref_self (wpAny_bind (wpAny_pure ?_)))
          simp only [if_true]
          refine wp_if_neg (by simp [same]) (SetAt.seek S hx hu Kf hK hKb yes no f (c + (q + 1)) _ rfl (by omega) (by omega) fun i0 m0 h0 k0 => ?_)
          obtain ⟨c', b1, b2, b3⟩ := ahead i0 m0 h0 k0
          have l1 : ¬ c' < c + q := fun z => none_ (c' - c) i0 (by omega) (by rw [jw, show c + (c' - c) = c' by omega]; exact b3) ((hashOf i0 m0 h0).trans (congrArg ek.hash k0))
          have l2 : c + q ≠ c' := fun z => by
            rw [← z] at b3
            have s0 := slot_live S.tab.ris b3
            rw [live] at s0
            injection s0 with s0
            rw [← s0, hm] at h0
            exact same ((congrArg Prod.snd (Option.some.inj h0)).trans k0)
          exact ⟨c', by omega, b2, b3⟩
      cases hl : t.led with
      | true =>
        refine wp_if_neg (by simp) ?_
        try refine wpAny_bind (wpAny_pure ?_)
        exact after
      | false =>
        refine wp_if_pos (by simp) (wpAny_bind (ek.mute hx (fun y hy => ?_) ?_))
        · obtain ⟨e, he, ee⟩ := List.mem_map.mp hy
          have he1 : e ∈ es ∧ e.1 = ek.hash k := by simpa using he
          have he2 : e ∈ es.toList := by simpa using he1.1
          rw [S.rows] at he2
          obtain ⟨m2, hm2, e2⟩ := List.mem_map.mp he2
          exact ⟨m2.2, m2.1, by rw [← ee, ← e2], S.mem m2 hm2⟩
        · refine wp_if_neg (by decide) ?_
          try refine wpAny_bind (wpAny_pure ?_)
          exact after
    · have pr' : t.probe (fun i => (es[i]?.map (·.1)).getD 0) (ek.hash k) (from_.getD (t.probeStart (ek.hash k))) = some (.empty (way t.mask (ek.hash k) K) none) := by
        rw [at0, ← ends, ← jw]
        exact pr
      rw [pr']
      dsimp only
      refine wpAny_pure (no fun hm => ?_)
      obtain ⟨m0, inL, k0⟩ := List.mem_map.mp hm
      obtain ⟨i0, h0⟩ := List.getElem?_of_mem inL
      obtain ⟨c', b1, b2, b3⟩ := ahead i0 m0 h0 k0
      exact none_ (c' - c) i0 (by omega) (by rw [jw, show c + (c' - c) = c' by omega]; exact b3) ((hashOf i0 m0 h0).trans (congrArg ek.hash k0))
theorem SetAt.look (S : SetAt ek s.heap a L es ep t) {x : Addr} {k : κ} (hx : ek.at_ s.heap k x) (hu : A.units + 20 < cLine) {Q : SetFound → Shared → Prop} (yes : k ∈ L.map (·.2) → Q (.there none) s)
    (no : ∀ K, k ∉ L.map (·.2) → way t.mask (ek.hash k) K ∉ t.place.toList → (∀ c, c < K → way t.mask (ek.hash k) c ∈ t.place.toList) → Q (.free (way t.mask (ek.hash k) K) false) s) : wpAny (model P w) A (setSearch a (.ref x) (ek.hash k) true) Q E s := by
  have r := S.slack
  obtain ⟨K, Kf, hK, hKb⟩ := S.tab.first (by rw [List.length_map]; omega) (ek.hash k)
  have small : K < 100000 := by
    refine Nat.lt_trans Kf ?_
    unfold SetTable.turns
    rcases S.tab.mok with e | e | e <;> omega
  unfold setSearch
  refine SetAt.seek S hx hu Kf hK hKb yes (fun n => no K n hK hKb) 100000 0 none rfl (Nat.zero_le _) (by omega) fun i m hm hk => ?_
  have hi : (L.map fun m => ek.hash m.2)[i]? = some (ek.hash k) := by rw [List.getElem?_map, hm, ← hk]; rfl
  have il : i < t.place.toList.length := by
    have q := (List.getElem?_eq_some_iff.mp hm).1
    have p := S.tab.sz
    rw [List.length_map] at p
    rw [Array.length_toList]
    omega
  have hj := List.getElem?_eq_getElem il
  obtain ⟨c, hc, e⟩ := S.tab.before hK hi hj
  exact ⟨c, Nat.zero_le _, hc, by rw [hj, e]⟩
theorem ek_same {h h' : Heap} {k : κ} {b : Addr} {o : Obj} (hb : ek.at_ h k b) (get : h.get? a = some o) (dat : o.data = .set es ep t) (same : Heap.SameBut a h h') : ek.at_ h' k b := by
  refine ek.stay hb fun c ob us n e d => (same.2 c fun z => ?_).trans e
  subst z
  rw [get] at e
  cases e
  rw [dat] at d
  cases d
theorem ek_order (L : List (Addr × κ)) (es : Array (Int × Value)) (ord : Array Nat) (rows : es.toList = ekRows ek L) (perm : ord.toList.Perm (List.range L.length)) :
    ∃ L2, (ord.filterMap (es[·]?)).toList = ekRows ek L2 ∧ L2.Perm L ∧ (L2.map fun m => ek.hash m.2) = ord.toList.map fun i => (es.map (·.1)).getD i 0 := by
  have get : ∀ i (h : i < L.length), es[i]? = some (ek.hash (L[i]).2, Value.ref (L[i]).1) := fun i h => by
    rw [← Array.getElem?_toList, rows, ekRows, List.getElem?_map, List.getElem?_eq_getElem h]
    rfl
  have each : ∀ l : List Nat, (∀ i ∈ l, i < L.length) → l.filterMap (fun i => es[i]?) = ekRows ek (l.filterMap fun i => L[i]?) ∧ ((l.filterMap fun i => L[i]?).map fun m => ek.hash m.2) = l.map fun i => (es.map (·.1)).getD i 0 := by
    intro l
    induction l with
    | nil => exact fun _ => ⟨rfl, rfl⟩
    | cons i l ih =>
      intro hl
      have hi := hl i List.mem_cons_self
      obtain ⟨e1, e2⟩ := ih fun j hj => hl j (List.mem_cons_of_mem _ hj)
      rw [List.filterMap_cons_some (get i hi), List.filterMap_cons_some (List.getElem?_eq_getElem hi), e1]
      refine ⟨rfl, ?_⟩
      rw [List.map_cons, List.map_cons, e2]
      congr 1
      have e5 : (es.map (·.1))[i]? = some (ek.hash (L[i]).2) := by rw [Array.getElem?_map, get i hi]; rfl
      simp [Array.getD_eq_getD_getElem?, e5]
  obtain ⟨e1, e2⟩ := each ord.toList fun i hi => List.mem_range.mp (perm.mem_iff.mp hi)
  refine ⟨_, by simpa using e1, ?_, e2⟩
  have all : ∀ l : List (Addr × κ), (List.range l.length).filterMap (fun i => l[i]?) = l := fun l => by
    induction l with
    | nil => rfl
    | cons x l ih =>
      rw [List.length_cons, List.range_succ_eq_map, List.filterMap_cons, List.filterMap_map]
      simp only [List.getElem?_cons_zero]
      congr 1
  have p2 := perm.filterMap fun i => L[i]?
  rw [all L] at p2
  exact p2
theorem SetAt.relay {o : Obj} (get : s.heap.get? a = some o) (ex : o.ExactSet) (dat : o.data = .set es ep t) (rows : es.toList = ekRows ek L) (sz : t.place.size = es.size) (dm : t.dummies = #[]) (fill : es.size ≤ t.mask) (apart : (L.map (·.2)).Nodup) (mem : ∀ m ∈ L, ek.at_ s.heap m.2 m.1) (plain : t.plain = true)
    (led : w.params.followText "set-order" = true ∨ t.led = true) (few : L.length < 64) {want M : Nat} (hw : SetTable.sizeAbove want - 1 = M) (hM : MaskOk M) (hw2 : SetTable.sizeAbove want ≤ 128) (hn : L.length * 5 < M * 3) {Q : Unit → Shared → Prop}
    (good : ∀ h' L' es' ep' t', Heap.SameBut a s.heap h' → SetAt ek h' a L' es' ep' t' → L'.Perm L → Q () { s with heap := h' }) : wpAny (model P w) A (setRelay a want) Q E s := by
  have cnt : es.size = L.length := by rw [← Array.length_toList, rows, ekRows_len]
  have fits : t.fits es.size = true := by
    unfold SetTable.fits SetTable.fill
    rw [dm]
    simp only [Bool.and_eq_true, beq_iff_eq, decide_eq_true_eq]
    exact ⟨sz, by show t.place.size + 0 ≤ t.mask; omega⟩
  obtain ⟨t', ord, e, perm, T, em, el, ep', ed⟩ := relaid_ok t (hs := es.map (·.1)) (wanted := want) hw hM (by rw [Array.size_map, cnt]; omega)
  rw [Array.size_map, cnt] at perm
  obtain ⟨L2, r1, r2, r3⟩ := ek_order L es ord rows perm
  rw [← r3] at T
  have cnt2 : (ord.filterMap (es[·]?)).size = es.size := by rw [← Array.length_toList, r1, ekRows_len, r2.length_eq, cnt]
  rw [setRelay_eq]
  refine wpAny_bind (wpAny_setState_of get dat fits ?_)
  dsimp only
  refine wp_if_neg (by rw [sizeLine_eq]; omega) ?_
  try refine wpAny_bind (wpAny_pure ?_)
  rw [e]
  dsimp only
  refine wpAny_bind (wp_if_neg (by rw [cnt2]; simp) ?_)
  try refine wpAny_bind (wpAny_pure ?_)
  refine wpAny_pure ?_
  dsimp only
  refine wpAny_storeSet_of get dat ?_ (by rw [cnt2, cnt, sizeLine_eq]; omega)
  have same : Heap.SameBut a s.heap (s.heap.update a (Obj.putSet (ord.filterMap (es[·]?)) t')) := Heap.SameBut.update ..
  refine good _ L2 (ord.filterMap (es[·]?)) (ep + 1) t' same ⟨⟨_, store_at get dat, ⟨ex.1, ex.2.1, ex.2.2⟩, rfl⟩, r1, T, (r2.map (·.2)).nodup_iff.mpr apart, fun m hm => ek_same (mem m (r2.mem_iff.mp hm)) get dat same, by rw [ep']; exact plain, by rw [el]; exact led, ?_, by rw [r2.length_eq]; exact few⟩ r2
  rw [r2.length_eq, em]
  exact hn
theorem SetAt.add (S : SetAt ek s.heap a L es ep t) {x : Addr} {k : κ} (hx : ek.at_ s.heap k x) (hu : A.units + 20 < cLine) (room : L.length + 1 < 64) {Q : Bool → Shared → Prop}
    (good : ∀ b h' L' es' ep' t', Heap.SameBut a s.heap h' → SetAt ek h' a L' es' ep' t' → (k ∈ L.map (·.2) → L' = L) → (k ∉ L.map (·.2) → L'.Perm ((x, k) :: L)) → Q b { s with heap := h' }) : wpAny (model P w) A (setAddHashed a (.ref x) (ek.hash k)) Q E s := by
  obtain ⟨o, get, ex, dat⟩ := S.stands
  have cnt := S.count
  have slack := S.slack
  unfold setAddHashed
  refine wpAny_holding ?_
  rw [show (100000 : Nat) = 99999 + 1 from rfl, setAddHashedIn_succ]
  refine wpAny_bind (wpAny_setState_of get dat S.filled ?_)
  dsimp only
  refine wp_if_neg (by simp [byScan, Value.scannable]) ?_
  try refine wpAny_bind (wpAny_pure ?_)
  refine wpAny_bind (S.look hx hu (fun hm => ?_) fun K hm hK hb => ?_)
  · dsimp only
    exact wpAny_pure (good false s.heap L es ep t (Heap.SameBut.refl a s.heap) S (fun _ => rfl) fun z => absurd hm z)
  dsimp only
  refine wpAny_bind (wpAny_setState_of get dat S.filled ?_)
  dsimp only
  obtain ⟨q1, q2, q3, q4, q5, q6, q7, q8, q9⟩ := S.tab.put hK hb
  have hp1 : (t.put (way t.mask (ek.hash k) K)).1.plain = true := by rw [q6]; exact S.plain
  generalize hpt : t.put (way t.mask (ek.hash k) K) = pt at q1 q3 q4 q5 q6 q7 q8 q9 hp1 ⊢
  obtain ⟨t1, p⟩ := pt
  dsimp only at q1 q3 q4 q5 q6 q7 q8 q9 hp1 ⊢
  subst q1
  first
    | (refine wpAny_bind ?_; refine wp_if_pos hp1 ?_; refine ek.byV hx ?_)
    | refine wp_if_pos hp1 (wpAny_bind (ek.byV hx ?_))
  simp only [if_true]
  have hin : (SetTable.insertAt es (SetTable.below t.place (way t.mask (ek.hash k) K)) (ek.hash k, Value.ref x)).toList = ekRows ek (L.take (SetTable.below t.place (way t.mask (ek.hash k) K)) ++ (x, k) :: L.drop (SetTable.below t.place (way t.mask (ek.hash k) K))) := by
    rw [SetTable.toList_insertAt, S.rows]
    simp only [ekRows, List.map_append, List.map_cons, List.map_take, List.map_drop]
  generalize hpp : SetTable.below t.place (way t.mask (ek.hash k) K) = p at q2 q3 hin ⊢
  have pm := put_perm L p (x, k)
  have hlen : (L.take p ++ (x, k) :: L.drop p).length = L.length + 1 := pm.length_eq
  have hhs : (L.take p ++ (x, k) :: L.drop p).map (fun m => ek.hash m.2) = (L.map fun m => ek.hash m.2).take p ++ ek.hash k :: (L.map fun m => ek.hash m.2).drop p := by
    rw [List.map_append, List.map_cons, List.map_take, List.map_drop]
  rw [← hhs] at q3
  have nd1 : ((L.take p ++ (x, k) :: L.drop p).map (·.2)).Nodup := (pm.map (·.2)).nodup_iff.mpr (by rw [List.map_cons]; exact List.nodup_cons.mpr ⟨hm, S.apart⟩)
  have hes : (SetTable.insertAt es p (ek.hash k, Value.ref x)).size = L.length + 1 := by rw [← Array.length_toList, hin, ekRows_len, hlen]
  generalize SetTable.insertAt es p (ek.hash k, Value.ref x) = es1 at hin hes ⊢
  generalize L.take p ++ (x, k) :: L.drop p = L1 at pm hlen q3 nd1 hin
  refine wpAny_bind (wpAny_storeSet_of get dat ?_ (by rw [hes, sizeLine_eq]; omega))
  have sb : Heap.SameBut a s.heap (s.heap.update a (Obj.putSet es1 t1)) := Heap.SameBut.update ..
  have get1 := store_at (es' := es1) (t' := t1) get dat
  generalize s.heap.update a (Obj.putSet es1 t1) = h1 at sb get1 ⊢
  have mem1 : ∀ m ∈ L1, ek.at_ h1 m.2 m.1 := fun m hm => by
    rcases List.mem_cons.mp (pm.mem_iff.mp hm) with e | hm
    · rw [e]; exact ek_same hx get dat sb
    · exact ek_same (S.mem m hm) get dat sb
  have led1 : w.params.followText "set-order" = true ∨ t1.led = true := by rw [q5]; exact S.led
  cases hf : t1.tooFull with
  | true =>
    first
      | (refine wpAny_bind ?_; refine wp_if_pos (by simp) ?_)
      | (refine wp_if_pos (by simp) ?_; refine wpAny_bind ?_)
    have full : (L.length + 1) * 5 ≥ t1.mask * 3 := by
      have h := hf
      unfold SetTable.tooFull at h
      rw [decide_eq_true_eq, q9, List.length_map] at h
      exact h
    rw [cnt]
    have sz1 : t1.place.size = es1.size := by
      have h := q3.sz
      rw [List.length_map, hlen] at h
      rw [h, hes]
    have two : (t.mask = 7 ∧ L.length = 4) ∨ (t.mask = 31 ∧ L.length = 18) := by
      rcases S.tab.mok with e | e | e
      · exact .inl ⟨e, by rw [q4, e] at full; rw [e] at slack; omega⟩
      · exact .inr ⟨e, by rw [q4, e] at full; rw [e] at slack; omega⟩
      · exfalso
        rw [q4, e] at full
        omega
    have go : ∀ M, SetTable.sizeAbove (SetTable.grown (L.length + 1)) - 1 = M → MaskOk M → SetTable.sizeAbove (SetTable.grown (L.length + 1)) ≤ 128 → (L.length + 1) * 5 < M * 3 →
        wpAny (model P w) A (setRelay a (SetTable.grown (L.length + 1))) (fun _ s' => wpAny (model P w) A (pure true) Q E s') E { s with heap := h1 } := fun M g1 g2 g3 g4 => by
      refine SetAt.relay (ek := ek) (s := { s with heap := h1 }) get1 ⟨ex.1, ex.2.1, ex.2.2⟩ rfl hin sz1 q3.dm (by rw [hes, q4]; rcases two with ⟨e, e2⟩ | ⟨e, e2⟩ <;> omega) nd1 mem1 hp1 led1 (by rw [hlen]; exact room) g1 g2 g3 (by rw [hlen]; exact g4) fun h2 L2 es2 ep2 t2 sb2 S2 pm2 => ?_
      exact wpAny_pure (good true h2 L2 es2 ep2 t2 (sb.trans sb2) S2 (fun z => absurd z hm) fun _ => pm2.trans pm)
    rcases two with ⟨_, e2⟩ | ⟨_, e2⟩
    · exact go 31 (by rw [e2, size_20]) (.inr (.inl rfl)) (by rw [e2, size_20]; decide) (by omega)
    · exact go 127 (by rw [e2, size_76]) (.inr (.inr rfl)) (by rw [e2, size_76]; decide) (by omega)
  | false =>
    first
      | refine wp_if_neg (by simp) ?_
      | (refine wpAny_bind ?_; refine wp_if_neg (by simp) ?_; refine wpAny_pure ?_)
    refine wpAny_pure (good true h1 L1 es1 (ep + 1) t1 sb ⟨⟨_, get1, ⟨ex.1, ex.2.1, ex.2.2⟩, rfl⟩, hin, q3, nd1, mem1, hp1, led1, ?_, by rw [hlen]; exact room⟩ (fun z => absurd z hm) fun _ => pm)
    have h := hf
    unfold SetTable.tooFull at h
    rw [decide_eq_false_iff_not, q9, List.length_map] at h
    rw [hlen]
    omega
end
/-- what a set has got from the first i of a row -/
structure Has {κ : Type} (ks : List (Addr × κ)) (i : Nat) (L : List (Addr × κ)) : Prop where
  sub : ∀ m ∈ L, m ∈ ks.take i
  all : ∀ m ∈ ks.take i, m.2 ∈ L.map (·.2)
  le : L.length ≤ i
theorem Has.same {κ : Type} {ks L : List (Addr × κ)} {i : Nat} {x : Addr × κ} (g : Has ks i L) (h : ks[i]? = some x) (hm : x.2 ∈ L.map (·.2)) : Has ks (i + 1) L := by
  have e := take_next h
  refine ⟨fun m hp => ?_, fun m hp => ?_, Nat.le_succ_of_le g.le⟩
  · rw [e]; exact List.mem_append_left _ (g.sub m hp)
  · rw [e] at hp
    rcases List.mem_append.mp hp with z | z
    · exact g.all m z
    · rw [List.mem_singleton.mp z]; exact hm
theorem Has.more {κ : Type} {ks L L' : List (Addr × κ)} {i : Nat} {x : Addr × κ} (g : Has ks i L) (h : ks[i]? = some x) (pm : L'.Perm (x :: L)) : Has ks (i + 1) L' := by
  have e := take_next h
  refine ⟨fun m hp => ?_, fun m hp => ?_, by rw [pm.length_eq, List.length_cons]; exact Nat.succ_le_succ g.le⟩
  · rw [e]
    rcases List.mem_cons.mp (pm.mem_iff.mp hp) with z | z
    · rw [z]; exact List.mem_append_right _ (List.mem_singleton.mpr rfl)
    · exact List.mem_append_left _ (g.sub m z)
  · rw [(pm.map (·.2)).mem_iff, List.map_cons]
    rw [e] at hp
    rcases List.mem_append.mp hp with z | z
    · exact List.mem_cons_of_mem _ (g.all m z)
    · rw [List.mem_singleton.mp z]; exact List.mem_cons_self
section
variable {P : Program} {w : World} {κ : Type} [DecidableEq κ] {ek : EK P w κ}
theorem SetAt.keep {h h' : Heap} {a : Addr} {L : List (Addr × κ)} {es : Array (Int × Value)} {ep : Nat} {t : SetTable} (S : SetAt ek h a L es ep t) (ha : ∀ o, h.get? a = some o → h'.get? a = some o) (hm : ∀ m ∈ L, ek.at_ h' m.2 m.1) : SetAt ek h' a L es ep t := by
  obtain ⟨o, get, r⟩ := S.stands
  exact ⟨⟨o, ha o get, r⟩, S.rows, S.tab, S.apart, hm, S.plain, S.led, S.slack, S.few⟩
theorem setAt_new {h : Heap} {a : Addr} (get : h.get? a = some { cls := .type "set", dict := none, data := .set #[] 0 (.fresh 0 0 (!w.params.followText "set-order")) }) : SetAt ek h a [] #[] 0 (.fresh 0 0 (!w.params.followText "set-order")) := by
  refine ⟨⟨_, get, ⟨rfl, rfl, rfl⟩, rfl⟩, rfl, ⟨List.Pairwise.nil, rfl, rfl, .inl rfl, (fun x hx => by cases hx), fun i h j hi => by simp at hi⟩, List.nodup_nil, (fun m hm => by cases hm), rfl, ?_, by show 0 * 5 < 7 * 3; decide, by show 0 < 64; decide⟩
  show _ ∨ (!w.params.followText "set-order") = true
  cases w.params.followText "set-order"
  · exact .inr rfl
  · exact .inl rfl
theorem set_fill {A : Around} {R : Result → Shared → Prop} {I : Addr} {fp wr : List Addr} {G : Array GenState → Array GenState → Prop} {n : Nat} {Pv : Nat → Value → Prop} {St : Nat → Shared → Prop} (W : WalksS P w A.in1 I fp wr G n Pv St) (a : Addr) (off : a ∉ fp) (ks : List (Addr × κ)) (hn : n = ks.length) (few : ∀ L : List (Addr × κ), (L.map (·.2)).Nodup → (∀ m ∈ L, m ∈ ks) → L.length < 63)
    (val : ∀ i v, Pv i v → ∃ m, ks[i]? = some m ∧ v = .ref m.1) (h0 : Heap) (hk : ∀ m ∈ ks, ek.at_ h0 m.2 m.1) (new : h0.get? a = none) (newW : ∀ b ∈ wr, h0.get? b = none) (hu : A.in1.units + 20 < cLine) :
    ∀ (k i : Nat) (s : Shared), n - i = k → i ≤ n → St i s → (∀ b o, h0.get? b = some o → s.heap.get? b = some o) → (∃ L es ep t, SetAt ek s.heap a L es ep t ∧ Has ks i L) →
      (∀ s' L es ep t, Moved (a :: wr) G s s' → SetAt ek s'.heap a L es ep t → Has ks n L → (∀ b o, h0.get? b = some o → s'.heap.get? b = some o) → R (.ok (.ret .none)) s') → codeAny (model P w) A (.builtin "set.update.loop" ⟨[.ref a, .ref I], []⟩) R s := by
  have aw : a ∉ wr := fun m => off (W.sub _ m)
  have more : ∀ b ∈ wr, b ∈ a :: wr := fun b hb => List.mem_cons_of_mem _ hb
  have old : ∀ {s s' : Shared}, Moved wr G s s' → (∀ b o, h0.get? b = some o → s.heap.get? b = some o) → ∀ b o, h0.get? b = some o → s'.heap.get? b = some o := fun hm kp b o e =>
    hm.heap b o (fun hb => by rw [newW b hb] at e; cases e) (kp b o e)
  have stays : ∀ {h : Heap} {m : Addr × κ}, m ∈ ks → (∀ b o, h0.get? b = some o → h.get? b = some o) → ek.at_ h m.2 m.1 := fun hm kp => ek.stay (hk _ hm) fun c o _ _ e _ => kp c o e
  intro k
  induction k with
  | zero =>
    intro i s left le st kp ⟨L, es, ep, t, S, g⟩ fin
    obtain rfl : i = n := by omega
    refine codeAny_builtin F.entry_set_update_loop ?_
    rw [Around.under_plainId F.plain_set_update_loop _]
    show wpAny _ A.in1 (pyNext (.ref I) >>= _) _ _ s
    refine wpAny_bind (W.done s _ _ st fun s' hm => ?_)
    show wpAny _ A.in1 (ret Value.none) _ _ s'
    have kp' := old hm kp
    exact wpAny_pure (fin s' L es ep t (hm.mono more) (S.keep (fun o e => hm.heap a o aw e) fun m hm2 => stays (List.mem_of_mem_take (g.sub m hm2)) kp') g kp')
  | succ k ih =>
    intro i s left le st kp ⟨L, es, ep, t, S, g⟩ fin
    have lt : i < n := by omega
    refine codeAny_builtin F.entry_set_update_loop ?_
    rw [Around.under_plainId F.plain_set_update_loop _]
    show wpAny _ A.in1 (pyNext (.ref I) >>= _) _ _ s
    refine wpAny_bind (W.item i s _ _ lt st fun v s' hP st' hm => ?_)
    obtain ⟨m, hmk, rfl⟩ := val i v hP
    have kp' := old hm kp
    have S' : SetAt ek s'.heap a L es ep t := S.keep (fun o e => hm.heap a o aw e) fun m2 hm2 => stays (List.mem_of_mem_take (g.sub m2 hm2)) kp'
    have hx : ek.at_ s'.heap m.2 m.1 := stays (List.mem_of_getElem? hmk) kp'
    show wpAny _ A.in1 (holding [Value.ref m.1] (setAdd a (.ref m.1)) >>= _) _ _ s'
    refine wpAny_bind (wpAny_holding ?_)
    unfold setAdd
    refine wpAny_holding (wpAny_bind (ek.pyH hu hx ?_))
    refine SetAt.add (s := { s' with toks := s'.toks + ek.cost m.2 }) S' hx hu (by have := few L S'.apart fun m hm => List.mem_of_mem_take (g.sub m hm); omega) fun b h' L' es' ep' t' sb S2 c1 c2 => ?_
    have g' : Has ks (i + 1) L' := by
      by_cases c : m.2 ∈ L.map (·.2)
      · rw [c1 c]; exact g.same hmk c
      · exact g.more hmk (c2 c)
    have kp2 : ∀ b o, h0.get? b = some o → h'.get? b = some o := fun b o e => (sb.2 b (fun z => by rw [z, new] at e; cases e)).trans (kp' b o e)
    refine wpAny_pure ⟨plainId_quiet F.plain_set_update_loop _, ih (i + 1) _ (by omega) lt (W.frame _ s' _ _ st' (Nat.le_add_right _ _) fun b hb o e => ?_) kp2 ⟨L', es', ep', t', S2, g'⟩ fun s'' L2 es2 ep2 t2 hm2 S3 g2 kp3 => ?_⟩
    · exact (sb.2 b fun z => off (z ▸ hb)).trans e
    · refine fin s'' L2 es2 ep2 t2 (Moved.trans W.gtrans ((hm.mono more).then_heap (Nat.le_add_right _ _) fun b o hb e => ?_) hm2) S3 g2 kp3
      exact (sb.2 b fun z => hb (z ▸ List.mem_cons_self)).trans e
end

section
variable {P : Program} {w : World} {A : Around} {E : Value → Shared → Prop} {s : Shared} {κ : Type} [DecidableEq κ] {ek : EK P w κ}
abbrev newSet (w : World) : Obj := { cls := .type "set", dict := none, data := .set #[] 0 (.fresh 0 0 (!w.params.followText "set-order")) }
set_option maxHeartbeats 3200000 in
/-- set(t) of a tuple of tuples -/
theorem call_set_ek {l : Addr} {items : Array Value} (ks : List (Addr × κ)) {Q : Value → Shared → Prop} (calm : A.handled = none) (tu : s.heap.IsTuple l items) (are : items.toList = ks.map fun m => Value.ref m.1) (hk : ∀ m ∈ ks, ek.at_ s.heap m.2 m.1) (few : ∀ L : List (Addr × κ), (L.map (·.2)).Nodup → (∀ m ∈ L, m ∈ ks) → L.length < 63) (hu : A.units + 30 < cLine)
    (good : ∀ (h' : Heap) (tk : Nat) L es ep t, SetAt ek h' s.heap.objs.size L es ep t → Has ks ks.length L → (∀ b o, s.heap.get? b = some o → h'.get? b = some o) → Q (.ref s.heap.objs.size) { s with heap := h', toks := tk }) : wpAny (model P w) A (call (.type "set") [.ref l]) Q E s := by
  have cnt : items.size = ks.length := by rw [← Array.length_toList, are, List.length_map]
  obtain ⟨c, tl, hmro⟩ := F.called_set.mro
  have hmade := F.called_set.made
  have hsub := F.called_set.sub
  refine wpAny_call (codeAny_of_tree ?_)
  show wpAny _ _ (callAny (.type "set") _) _ _ _
  refine wpAny_pure ⟨Code.quiet_builtin _ (by decide +kernel), codeAny_builtin F.entry_type_call ?_⟩
  rw [Around.under_plain (weight_type_call_type "set" [.ref l] []) rfl]
  have h1 := F.called_set.notType
  have h2 := F.called_set.canCreate
  have hct := F.typeCall_set_1 (.ref l)
  repeat (any_goals (first | assumption | wp_step))
  obtain ⟨H1, eH1⟩ : ∃ H1, H1 = s.heap.push (newSet w) := ⟨_, rfl⟩
  have up : ∀ b o, s.heap.get? b = some o → H1.get? b = some o := fun b o e => by rw [eH1]; exact Heap.get?_push_of_some _ e
  have getS : H1.get? s.heap.objs.size = some (newSet w) := by rw [eH1]; exact Heap.get?_push_size _ rfl
  have sz1 : H1.objs.size = s.heap.objs.size + 1 := by rw [eH1]; exact Heap.size_push ..
  refine codeAny_mono (code_set_led1 (.ref l) (E := E) (Q₁ := fun obj s₁ => obj = .ref s.heap.objs.size ∧ s₁ = { s with heap := H1 }) ⟨rfl, by rw [eH1]⟩) fun r s₁ hr => ?_
  cases r with
  | error e => exact hr
  | ok fl => cases fl with
    | ret obj =>
      obtain ⟨rfl, rfl⟩ := hr
      have hT : Shared.TypeIs { s with heap := H1 } (.ref s.heap.objs.size) "set" := ⟨_, getS, rfl⟩
      have hli := F.called_set.init.lookup
      have hbi := F.called_set.init.bind (.ref s.heap.objs.size)
      repeat (any_goals (first | assumption | wp_step))
      refine codeAny_mono (codeAny_call_builtin (R := wants (fun r s₂ => r = .none ∧ ∃ h' tk L es ep t, s₂ = { s with heap := h', toks := tk } ∧ SetAt ek h' s.heap.objs.size L es ep t ∧ Has ks ks.length L ∧ (∀ b o, s.heap.get? b = some o → h'.get? b = some o)) E) F.called_set.init.plain F.entry_set_init (check_set_init_1 hT ?_)) fun r₂ s₂ hr₂ => ?_
      · obtain ⟨ol, hol, hcl, nl, hdl⟩ := tu
        obtain ⟨ocls, odict, odata, oslots⟩ := ol
        simp only at hcl hdl
        subst hcl
        subst hdl
        have hol' := up _ _ hol
        have hsls := F.sub_tuple_set
        have hslf := F.sub_tuple_frozenset
        have hne : (Value.type "tuple" == Value.type "dict") = false := by decide
        have tu1 : H1.IsTuple l items := ⟨_, hol', rfl, nl, rfl⟩
        unfold Builtin.«set.__init__» noKeywords Builtin.Frozenset.updateFrom
        generalize hPI : pyIter = PI
        wp_walk
        subst hPI
        refine wpAny_pyIter_tuple tu1 (wpAny_bind (wpAny_runValue ?_))
        obtain ⟨H2, eH2⟩ : ∃ H2, H2 = H1.push { cls := .type "tuple_iterator", data := .fields #[.ref l, .int 0 0] } := ⟨_, rfl⟩
        have up2 : ∀ b o, H1.get? b = some o → H2.get? b = some o := fun b o e => by rw [eH2]; exact Heap.get?_push_of_some _ e
        have getI : H2.get? H1.objs.size = some { cls := .type "tuple_iterator", data := .fields #[.ref l, .int 0 0] } := by rw [eH2]; exact Heap.get?_push_size _ rfl
        have lS : l < s.heap.objs.size := Heap.lt_size hol
        have calm3 : A.in1.in1.in1.handled = none := by simp [calm]
        have lI : l ≠ H1.objs.size := by rw [sz1]; exact Nat.ne_of_lt (Nat.lt_succ_of_lt lS)
        have off : s.heap.objs.size ∉ [H1.objs.size, l] := by
          rw [sz1]
          simp only [List.mem_cons, List.mem_singleton, List.not_mem_nil, or_false, not_or]
          exact ⟨Nat.ne_of_lt (Nat.lt_succ_self _), Nat.ne_of_gt lS⟩
        have val : ∀ (i : Nat) (v : Value), items[i]? = some v → ∃ m, ks[i]? = some m ∧ v = .ref m.1 := fun i v hv => by
          rw [← Array.getElem?_toList, are, List.getElem?_map] at hv
          cases hq : ks[i]? with
          | none => rw [hq] at hv; cases hv
          | some m =>
            rw [hq] at hv
            exact ⟨m, rfl, (Option.some.inj hv).symm⟩
        have gone : ∀ b, s.heap.objs.size ≤ b → s.heap.get? b = none := fun b hb => by
          cases q : s.heap.get? b with
          | none => rfl
          | some o => exact absurd (Nat.lt_of_lt_of_le (Heap.lt_size q) hb) (Nat.lt_irrefl _)
        rw [← eH2]
        refine set_fill (ek := ek) ((Walks.tuple calm3 _ l lI items).toS) s.heap.objs.size off ks cnt few val s.heap hk (gone _ (Nat.le_refl _)) (fun b hb => gone b (by rw [List.mem_singleton.mp hb, sz1]; exact Nat.le_succ _)) (by show A.units + 1 + 1 + 1 + 20 < cLine; omega) (items.size - 0) 0 _ (by omega) (Nat.zero_le _)
          ⟨⟨_, getI, rfl, rfl⟩, tu1.at fun o e => up2 _ _ e⟩ (fun b o e => up2 _ _ (up _ _ e)) ⟨[], #[], 0, _, setAt_new (up2 _ _ getS), ⟨(fun m h => by cases h), (fun m h => by simp at h), Nat.le_refl _⟩⟩ fun s' L es ep t hm hS' g' kp => ?_
        obtain ⟨h', g2, d', tk', os'⟩ := s'
        have eg : g2 = s.gens := hm.gens
        have ed : d' = s.drawn := hm.drawn
        have eo : os' = s.os := hm.os
        subst eg
        subst ed
        subst eo
        show wpAny _ _ _ _ _ _
        refine wpAny_pure ?_
        show wpAny _ _ (ret Value.none) _ _ _
        rw [cnt] at g'
        exact wpAny_pure ⟨rfl, h', tk', L, es, ep, t, rfl, hS', g', kp⟩
      · cases r₂ with
        | error e => exact hr₂
        | ok fl₂ => cases fl₂ with
          | ret r =>
            obtain ⟨rfl, h', tk, L, es, ep, t, rfl, hS', g', hk'⟩ := hr₂
            repeat (any_goals (first | assumption | wp_step))
            exact good _ _ _ _ _ _ hS' g' hk'
          | _ => exact hr₂.elim
    | _ => exact hr.elim
set_option maxHeartbeats 3200000 in
/-- set(t) of a list of tuples -/
theorem call_set_ekL {l : Addr} {items : Array Value} (ks : List (Addr × κ)) {Q : Value → Shared → Prop} (calm : A.handled = none) (tu : s.heap.IsList l items) (are : items.toList = ks.map fun m => Value.ref m.1) (hk : ∀ m ∈ ks, ek.at_ s.heap m.2 m.1) (few : ∀ L : List (Addr × κ), (L.map (·.2)).Nodup → (∀ m ∈ L, m ∈ ks) → L.length < 63) (hu : A.units + 30 < cLine)
    (good : ∀ (h' : Heap) (tk : Nat) L es ep t, SetAt ek h' s.heap.objs.size L es ep t → Has ks ks.length L → (∀ b o, s.heap.get? b = some o → h'.get? b = some o) → Q (.ref s.heap.objs.size) { s with heap := h', toks := tk }) : wpAny (model P w) A (call (.type "set") [.ref l]) Q E s := by
  have cnt : items.size = ks.length := by rw [← Array.length_toList, are, List.length_map]
  obtain ⟨c, tl, hmro⟩ := F.called_set.mro
  have hmade := F.called_set.made
  have hsub := F.called_set.sub
  refine wpAny_call (codeAny_of_tree ?_)
  show wpAny _ _ (callAny (.type "set") _) _ _ _
  refine wpAny_pure ⟨Code.quiet_builtin _ (by decide +kernel), codeAny_builtin F.entry_type_call ?_⟩
  rw [Around.under_plain (weight_type_call_type "set" [.ref l] []) rfl]
  have h1 := F.called_set.notType
  have h2 := F.called_set.canCreate
  have hct := F.typeCall_set_1 (.ref l)
  repeat (any_goals (first | assumption | wp_step))
  obtain ⟨H1, eH1⟩ : ∃ H1, H1 = s.heap.push (newSet w) := ⟨_, rfl⟩
  have up : ∀ b o, s.heap.get? b = some o → H1.get? b = some o := fun b o e => by rw [eH1]; exact Heap.get?_push_of_some _ e
  have getS : H1.get? s.heap.objs.size = some (newSet w) := by rw [eH1]; exact Heap.get?_push_size _ rfl
  have sz1 : H1.objs.size = s.heap.objs.size + 1 := by rw [eH1]; exact Heap.size_push ..
  refine codeAny_mono (code_set_led1 (.ref l) (E := E) (Q₁ := fun obj s₁ => obj = .ref s.heap.objs.size ∧ s₁ = { s with heap := H1 }) ⟨rfl, by rw [eH1]⟩) fun r s₁ hr => ?_
  cases r with
  | error e => exact hr
  | ok fl => cases fl with
    | ret obj =>
      obtain ⟨rfl, rfl⟩ := hr
      have hT : Shared.TypeIs { s with heap := H1 } (.ref s.heap.objs.size) "set" := ⟨_, getS, rfl⟩
      have hli := F.called_set.init.lookup
      have hbi := F.called_set.init.bind (.ref s.heap.objs.size)
      repeat (any_goals (first | assumption | wp_step))
      refine codeAny_mono (codeAny_call_builtin (R := wants (fun r s₂ => r = .none ∧ ∃ h' tk L es ep t, s₂ = { s with heap := h', toks := tk } ∧ SetAt ek h' s.heap.objs.size L es ep t ∧ Has ks ks.length L ∧ (∀ b o, s.heap.get? b = some o → h'.get? b = some o)) E) F.called_set.init.plain F.entry_set_init (check_set_init_1 hT ?_)) fun r₂ s₂ hr₂ => ?_
      · obtain ⟨ol, hol, hcl, nl, hdl⟩ := tu
        obtain ⟨ocls, odict, odata, oslots⟩ := ol
        simp only at hcl hdl
        subst hcl
        subst hdl
        have hol' := up _ _ hol
        have hsls := F.sub_list_set
        have hslf := F.sub_list_frozenset
        have hne : (Value.type "list" == Value.type "dict") = false := by decide
        have tu1 : H1.IsList l items := ⟨_, hol', rfl, nl, rfl⟩
        unfold Builtin.«set.__init__» noKeywords Builtin.Frozenset.updateFrom
        generalize hPI : pyIter = PI
        wp_walk
        subst hPI
        refine wpAny_pyIter_list tu1 (wpAny_bind (wpAny_runValue ?_))
        obtain ⟨H2, eH2⟩ : ∃ H2, H2 = H1.push { cls := .type "list_iterator", data := .fields #[.ref l, .int 0 0] } := ⟨_, rfl⟩
        have up2 : ∀ b o, H1.get? b = some o → H2.get? b = some o := fun b o e => by rw [eH2]; exact Heap.get?_push_of_some _ e
        have getI : H2.get? H1.objs.size = some { cls := .type "list_iterator", data := .fields #[.ref l, .int 0 0] } := by rw [eH2]; exact Heap.get?_push_size _ rfl
        have lS : l < s.heap.objs.size := Heap.lt_size hol
        have calm3 : A.in1.in1.in1.handled = none := by simp [calm]
        have lI : l ≠ H1.objs.size := by rw [sz1]; exact Nat.ne_of_lt (Nat.lt_succ_of_lt lS)
        have off : s.heap.objs.size ∉ [H1.objs.size, l] := by
          rw [sz1]
          simp only [List.mem_cons, List.mem_singleton, List.not_mem_nil, or_false, not_or]
          exact ⟨Nat.ne_of_lt (Nat.lt_succ_self _), Nat.ne_of_gt lS⟩
        have val : ∀ (i : Nat) (v : Value), items[i]? = some v → ∃ m, ks[i]? = some m ∧ v = .ref m.1 := fun i v hv => by
          rw [← Array.getElem?_toList, are, List.getElem?_map] at hv
          cases hq : ks[i]? with
          | none => rw [hq] at hv; cases hv
          | some m =>
            rw [hq] at hv
            exact ⟨m, rfl, (Option.some.inj hv).symm⟩
        have gone : ∀ b, s.heap.objs.size ≤ b → s.heap.get? b = none := fun b hb => by
          cases q : s.heap.get? b with
          | none => rfl
          | some o => exact absurd (Nat.lt_of_lt_of_le (Heap.lt_size q) hb) (Nat.lt_irrefl _)
        rw [← eH2]
        refine set_fill (ek := ek) ((Walks.list calm3 _ l lI items).toS) s.heap.objs.size off ks cnt few val s.heap hk (gone _ (Nat.le_refl _)) (fun b hb => gone b (by rw [List.mem_singleton.mp hb, sz1]; exact Nat.le_succ _)) (by show A.units + 1 + 1 + 1 + 20 < cLine; omega) (items.size - 0) 0 _ (by omega) (Nat.zero_le _)
          ⟨⟨_, getI, rfl, rfl⟩, by rw [eH2]; exact tu1.push _⟩ (fun b o e => up2 _ _ (up _ _ e)) ⟨[], #[], 0, _, setAt_new (up2 _ _ getS), ⟨(fun m h => by cases h), (fun m h => by simp at h), Nat.le_refl _⟩⟩ fun s' L es ep t hm hS' g' kp => ?_
        obtain ⟨h', g2, d', tk', os'⟩ := s'
        have eg : g2 = s.gens := hm.gens
        have ed : d' = s.drawn := hm.drawn
        have eo : os' = s.os := hm.os
        subst eg
        subst ed
        subst eo
        show wpAny _ _ _ _ _ _
        refine wpAny_pure ?_
        show wpAny _ _ (ret Value.none) _ _ _
        rw [cnt] at g'
        exact wpAny_pure ⟨rfl, h', tk', L, es, ep, t, rfl, hS', g', kp⟩
      · cases r₂ with
        | error e => exact hr₂
        | ok fl₂ => cases fl₂ with
          | ret r =>
            obtain ⟨rfl, h', tk, L, es, ep, t, rfl, hS', g', hk'⟩ := hr₂
            repeat (any_goals (first | assumption | wp_step))
            exact good _ _ _ _ _ _ hS' g' hk'
          | _ => exact hr₂.elim
    | _ => exact hr.elim
end
end Sn

set_option Elab.async false
set_option linter.all false
set_option maxRecDepth 100000
/-! layer 16h: len(set(t)) -/
namespace Sn
open PySem PySem.Spec PyProof.Rows L2
mutual
/-- a key without texts -/
def numK : NestedKey → Bool
  | .none => true
  | .num _ => true
  | .text _ => false
  | .tup ks => numKs ks
def numKs : List NestedKey → Bool
  | [] => true
  | k :: ks => numK k && numKs ks
end
section
variable {P : Program} {w : World}
def NoClass (P : Program) (w : World) (n : Nat) (s : Shared) (v : Value) : Prop := ∀ (A : Around) (E : Value → Shared → Prop) (Q : Bool → Shared → Prop), Q false s → wpAny (model P w) A (ofAClassStatement n v) Q E s
def ByVal (P : Program) (w : World) (n : Nat) (s : Shared) (v : Value) : Prop := ∀ (A : Around) (E : Value → Shared → Prop) (Q : Bool → Shared → Prop), Q true s → wpAny (model P w) A (hashByValue n v) Q E s
theorem noClass_plain {n : Nat} {s : Shared} {v : Value} (h : ofAClassStatement n v = pure false) : NoClass P w n s v := fun A E Q q => by rw [h]; exact wpAny_pure q
theorem noClass_tup {n : Nat} {s : Shared} {a : Addr} {o : Obj} {vs : Array Value} {m : Nat} (ho : s.heap.get? a = some o) (hc : o.cls = .type "tuple") (hd : o.data = .seq vs m) (each : ∀ v ∈ vs.toList, NoClass P w n s v) : NoClass P w (n + 1) s (.ref a) := fun A E Q q => by
  have hT : s.TypeIs (.ref a) "tuple" := ⟨o, ho, hc⟩
  unfold ofAClassStatement
  refine wpAny_bind (wpAny_typeOf hT ?_)
  dsimp only
  have e : (("tuple" : String) == "tuple") = true := by decide
  simp only [e, if_true, Bool.not_true, Bool.false_eq_true, if_false]
  try refine wpAny_bind (wpAny_pure ?_)
  try simp only [Bool.not_true, Bool.false_eq_true, if_false]
  show wpAny _ _ (seqItems? (.ref a) >>= _) _ _ s
  refine wpAny_bind (wpAny_seqItems ho hd ?_)
  dsimp only
  refine wpAny_bind ?_
  show wpAny _ _ (forIn vs _ _) _ _ s
  rw [← Array.forIn_toList]
  refine wpAny_forIn_list _ (fun left r s' => r.1 = none ∧ s' = s ∧ ∀ v ∈ left, NoClass P w n s v) _ ?_ ?_ _ _ ⟨rfl, rfl, each⟩
  · rintro v left r s' ⟨hr, rfl, all⟩
    refine wpAny_bind (all v List.mem_cons_self _ _ _ ?_)
    simp only [Bool.false_eq_true, if_false]
    exact wpAny_pure ⟨rfl, rfl, fun u hu' => all u (List.mem_cons_of_mem _ hu')⟩
  · rintro ⟨r1, r2⟩ s' ⟨hr, rfl, _⟩
    simp only at hr
    subst hr
    exact wpAny_pure q
theorem byVal_tup {n : Nat} {s : Shared} {a : Addr} {o : Obj} {vs : Array Value} {m : Nat} (ho : s.heap.get? a = some o) (hc : o.cls = .type "tuple") (hd : o.data = .seq vs m) (each : ∀ v ∈ vs.toList, ByVal P w n s v) : ByVal P w (n + 1) s (.ref a) := fun A E Q q => by
  have hT : s.TypeIs (.ref a) "tuple" := ⟨o, ho, hc⟩
  unfold hashByValue
  refine wpAny_bind (wpAny_specialOf hT F.slot_tuple_hash.lookup ?_)
  show wpAny _ _ (seqItems? (.ref a) >>= _) _ _ s
  refine wpAny_bind (wpAny_seqItems ho hd (wpAny_bind ?_))
  show wpAny _ _ (forIn vs _ _) _ _ s
  rw [← Array.forIn_toList]
  refine wpAny_forIn_list _ (fun left r s' => r.1 = none ∧ s' = s ∧ ∀ v ∈ left, ByVal P w n s v) _ ?_ ?_ _ _ ⟨rfl, rfl, each⟩
  · rintro v left r s' ⟨hr, rfl, all⟩
    refine wpAny_bind (all v List.mem_cons_self _ _ _ ?_)
    simp only [Bool.not_true, Bool.false_eq_true, if_false]
    exact wpAny_pure ⟨rfl, rfl, fun u hu' => all u (List.mem_cons_of_mem _ hu')⟩
  · rintro ⟨r1, r2⟩ s' ⟨hr, rfl, _⟩
    simp only at hr
    subst hr
    exact wpAny_pure q
mutual
theorem noClass_key : ∀ (k : NestedKey) (v : Value) (n : Nat) (s : Shared), NestedIs s.heap k v → k.depth ≤ n → NoClass P w n s v
  | .none, _, n, s, x, _ => by cases x; exact noClass_plain (by cases n <;> rfl)
  | .num i, _, n, s, x, _ => by cases x <;> exact noClass_plain (by cases n <;> rfl)
  | .text y, _, n, s, x, _ => by cases x; exact noClass_plain (by cases n <;> rfl)
  | .tup ks, _, n, s, x, hn => by
    cases x with
    | tup hg hc hd hk =>
      simp only [NestedKey.depth] at hn
      cases n with
      | zero => omega
      | succ n => exact noClass_tup hg hc hd (noClass_keys ks _ n s hk (by omega))
theorem noClass_keys : ∀ (ks : List NestedKey) (vs : List Value) (n : Nat) (s : Shared), NestedAll s.heap ks vs → NestedKey.depthAll ks ≤ n → ∀ v ∈ vs, NoClass P w n s v
  | [], _, n, s, x, _, v, hv => by cases x; cases hv
  | k :: ks, _, n, s, x, hn, v, hv => by
    cases x with
    | cons x1 x2 =>
      simp only [NestedKey.depthAll] at hn
      rcases List.mem_cons.mp hv with e | hv
      · rw [e]; exact noClass_key k _ n s x1 (by omega)
      · exact noClass_keys ks _ n s x2 (by omega) v hv
end
theorem byVal_plain {n : Nat} {s : Shared} {v : Value} (h : hashByValue n v = pure true) : ByVal P w n s v := fun A E Q q => by rw [h]; exact wpAny_pure q
mutual
theorem byVal_key : ∀ (k : NestedKey) (v : Value) (n : Nat) (s : Shared), numK k = true → NestedIs s.heap k v → k.depth ≤ n → ByVal P w n s v
  | .none, _, n, s, _, x, _ => by cases x; exact byVal_plain (by cases n <;> rfl)
  | .num i, _, n, s, _, x, _ => by cases x <;> exact byVal_plain (by cases n <;> rfl)
  | .text y, _, n, s, h, _, _ => by simp [numK] at h
  | .tup ks, _, n, s, h, x, hn => by
    cases x with
    | tup hg hc hd hk =>
      simp only [NestedKey.depth] at hn
      rw [numK] at h
      cases n with
      | zero => omega
      | succ n => exact byVal_tup hg hc hd (byVal_keys ks _ n s h hk (by omega))
theorem byVal_keys : ∀ (ks : List NestedKey) (vs : List Value) (n : Nat) (s : Shared), numKs ks = true → NestedAll s.heap ks vs → NestedKey.depthAll ks ≤ n → ∀ v ∈ vs, ByVal P w n s v
  | [], _, n, s, _, x, _, v, hv => by cases x; cases hv
  | k :: ks, _, n, s, h, x, hn, v, hv => by
    rw [numKs, Bool.and_eq_true] at h
    cases x with
    | cons x1 x2 =>
      simp only [NestedKey.depthAll] at hn
      rcases List.mem_cons.mp hv with e | hv
      · rw [e]; exact byVal_key k _ n s h.1 x1 (by omega)
      · exact byVal_keys ks _ n s h.2 x2 (by omega) v hv
end
/-- tuples of None, bools, ints and such tuples -/
def tupEK (P : Program) (w : World) : EK P w NestedKey where
  at_ := fun h k a => NestedIs h k (.ref a) ∧ k.depth ≤ 8 ∧ numK k = true
  hash := fun k => k.hash w
  cost := fun k => k.draws
  eqB := fun {A E s x y a b Q} hu hx hy q => eqAt_key x y A s _ _ hx.1 hy.1 (by have := hx.2.1; omega) P w E Q (by rw [← NestedKey.decide_eq]; exact q)
  pyH := fun {A E s x a Q} hu hx q => pyHash_key x _ A s Q hx.1 (by have := hx.2.1; omega) q
  mute := fun {A E s x a Q ys} hx hy q => by
    unfold searchCouldBeSeen
    refine wpAny_bind ?_
    refine wpAny_forIn_list _ (fun left r s' => r.1 = none ∧ s' = s ∧ ∀ y ∈ left, ∃ k c, y = Value.ref c ∧ (NestedIs s.heap k (.ref c) ∧ k.depth ≤ 8 ∧ numK k = true)) _ ?_ ?_ _ _ ⟨rfl, rfl, hy⟩
    · rintro v left r s' ⟨hr, rfl, all⟩
      obtain ⟨k, c, rfl, hc⟩ := all v List.mem_cons_self
      have all' : ∀ y ∈ left, ∃ k c, y = Value.ref c ∧ (NestedIs s'.heap k (.ref c) ∧ k.depth ≤ 8 ∧ numK k = true) := fun u hu' => all u (List.mem_cons_of_mem _ hu')
      dsimp only
      by_cases hv : (a == c || (carriedByValue (.ref a) && carriedByValue (.ref c))) = true
      · exact wp_if_pos hv (wpAny_pure ⟨rfl, rfl, all'⟩)
      · refine wp_if_neg hv (wpAny_bind (quiet_key x _ 8 s' hx.1 hx.2.1 _ _ _ ?_))
        simp only [Bool.not_true, Bool.false_eq_true, if_false]
        refine wpAny_bind (quiet_key k _ 8 s' hc.1 hc.2.1 _ _ _ ?_)
        simp only [Bool.not_true, Bool.false_eq_true, if_false]
        refine wpAny_bind (noClass_key x _ 8 s' hx.1 hx.2.1 _ _ _ ?_)
        simp only [Bool.false_eq_true, if_false]
        refine wpAny_bind (noClass_key k _ 8 s' hc.1 hc.2.1 _ _ _ ?_)
        simp only [Bool.false_eq_true, if_false]
        exact wpAny_pure ⟨rfl, rfl, all'⟩
    · rintro ⟨r1, r2⟩ s' ⟨hr, rfl, _⟩
      simp only at hr
      subst hr
      exact wpAny_pure q
  byV := fun {A E s x a Q} hx q => byVal_key x _ 8 s hx.2.2 hx.1 hx.2.1 A E Q q
  stay := fun hx k => ⟨NestedIs.at k _ _ hx.1, hx.2⟩
end

mutual
theorem numK_of : ∀ d : D, d.hashy = true → d.noText = true → numK d.key = true
  | .non, _, _ => by simp [D.key, numK]
  | .bl _, _, _ => by simp [D.key, numK]
  | .int _, _, _ => by simp [D.key, numK]
  | .str _, _, h => by simp [D.noText] at h
  | .tup xs, h, k => by
    rw [D.hashy] at h
    rw [D.noText] at k
    rw [D.key, numK]
    exact numKs_of xs h k
  | .lst _, h, _ => by simp [D.hashy] at h
  | .dct _, h, _ => by simp [D.hashy] at h
  | .scr _, h, _ => by simp [D.hashy] at h
  | .ref _, h, _ => by simp [D.hashy] at h
  | .fn _, h, _ => by simp [D.hashy] at h
theorem numKs_of : ∀ xs : List D, D.hashys xs = true → D.noTexts xs = true → numKs (D.keys xs) = true
  | [], _, _ => by simp [D.keys, numKs]
  | x :: xs, h, k => by
    rw [D.hashys, Bool.and_eq_true] at h
    rw [D.noTexts, Bool.and_eq_true] at k
    rw [D.keys, numKs, Bool.and_eq_true]
    exact ⟨numK_of x h.1 k.1, numKs_of xs h.2 k.2⟩
end
theorem nodup_le {α : Type} [DecidableEq α] : ∀ {l m : List α}, l.Nodup → (∀ x ∈ l, x ∈ m) → l.length ≤ m.length
  | [], _, _, _ => Nat.zero_le _
  | x :: l, m, h, hs => by
    rw [List.nodup_cons] at h
    have hx := hs x List.mem_cons_self
    have := nodup_le (m := m.erase x) h.2 fun y hy => (List.mem_erase_of_ne (show y ≠ x from fun e => h.1 (e ▸ hy))).mpr (hs y (List.mem_cons_of_mem _ hy))
    rw [List.length_erase_of_mem hx] at this
    have pos : 0 < m.length := List.length_pos_of_mem hx
    rw [List.length_cons]
    omega
theorem nodup_eq {α : Type} [DecidableEq α] {l m : List α} (h : l.Nodup) (k : m.Nodup) (e : ∀ x, x ∈ l ↔ x ∈ m) : l.length = m.length :=
  Nat.le_antisymm (nodup_le h fun x hx => (e x).mp hx) (nodup_le k fun x hx => (e x).mpr hx)
/-- the different ones, by their keys -/
theorem sub_len {κ : Type} [DecidableEq κ] {L ks : List (Addr × κ)} (nd : (L.map (·.2)).Nodup) (sub : ∀ m ∈ L, m ∈ ks) : L.length ≤ ks.length := by
  have h := nodup_le nd (m := ks.map (·.2)) fun x hx => by
    obtain ⟨m, hm, rfl⟩ := List.mem_map.mp hx
    exact List.mem_map.mpr ⟨m, sub m hm, rfl⟩
  simpa using h
theorem distinct_keys {κ : Type} [DecidableEq κ] (f : D → κ) : ∀ (xs acc : List D), (∀ x ∈ xs, ∀ y ∈ acc ++ xs, D.eqv y x = decide (f y = f x)) → (acc.map f).Nodup →
    ((xs.foldl (fun acc x => if (acc.any fun y => D.eqv y x) = true then acc else acc ++ [x]) acc).map f).Nodup ∧ ∀ k, k ∈ (xs.foldl (fun acc x => if (acc.any fun y => D.eqv y x) = true then acc else acc ++ [x]) acc).map f ↔ k ∈ (acc ++ xs).map f
  | [], acc, _, h => ⟨h, fun k => by rw [List.append_nil]; rfl⟩
  | x :: xs, acc, e, h => by
    rw [List.foldl_cons]
    have ax : (acc.any fun y => D.eqv y x) = decide (f x ∈ acc.map f) := by
      rw [Bool.eq_iff_iff]
      simp only [List.any_eq_true, decide_eq_true_eq, List.mem_map]
      constructor
      · rintro ⟨y, hy, h2⟩
        rw [e x List.mem_cons_self y (List.mem_append_left _ hy)] at h2
        exact ⟨y, hy, by simpa using h2⟩
      · rintro ⟨y, hy, h2⟩
        exact ⟨y, hy, by rw [e x List.mem_cons_self y (List.mem_append_left _ hy), h2]; simp⟩
    rw [ax]
    by_cases hm : f x ∈ acc.map f
    · rw [if_pos (by simpa using hm)]
      obtain ⟨h1, h2⟩ := distinct_keys f xs acc (fun z hz y hy => e z (List.mem_cons_of_mem _ hz) y (by
        rcases List.mem_append.mp hy with q | q
        · exact List.mem_append_left _ q
        · exact List.mem_append_right _ (List.mem_cons_of_mem _ q))) h
      refine ⟨h1, fun k => (h2 k).trans ?_⟩
      simp only [List.map_append, List.map_cons, List.mem_append, List.mem_cons]
      constructor
      · rintro (q | q)
        · exact .inl q
        · exact .inr (.inr q)
      · rintro (q | q | q)
        · exact .inl q
        · rw [q]; exact .inl hm
        · exact .inr q
    · rw [if_neg (by simpa using hm)]
      obtain ⟨h1, h2⟩ := distinct_keys f xs (acc ++ [x]) (fun z hz y hy => e z (List.mem_cons_of_mem _ hz) y (by simpa using hy)) (by
        rw [List.map_append, List.nodup_append]
        exact ⟨h, by simp, fun a ha b hb => by
          simp only [List.map_cons, List.map_nil, List.mem_singleton] at hb
          rw [hb]
          exact fun q => hm (q ▸ ha)⟩)
      exact ⟨h1, fun k => (h2 k).trans (by simp)⟩
theorem distinct_len {κ : Type} [DecidableEq κ] (f : D → κ) {xs : List D} (e : ∀ x ∈ xs, ∀ y ∈ xs, D.eqv y x = decide (f y = f x)) {l : List κ} (nd : l.Nodup) (same : ∀ k, k ∈ l ↔ k ∈ xs.map f) : l.length = (distinctD xs).length := by
  obtain ⟨h1, h2⟩ := distinct_keys f xs [] (by simpa using e) List.nodup_nil
  have := nodup_eq nd h1 fun k => (same k).trans (by rw [h2 k]; simp)
  rw [this, List.length_map]
  rfl
def intOf : D → Int
  | .int i => i
  | _ => 0
theorem ints_rows {P : Program} {w : World} {K : PySem.W.Frag} {F : Addr → Prop} {ρ : List Addr} {H : Hp} : ∀ {vs : List V} {xs : List D} {us : List Value}, xs.all isIntD = true → Reps P w K F ρ H vs xs → Vals vs us → IntsAre us (xs.map intOf)
  | _, [], _, _, .nil, r => by cases r; exact .nil
  | _, d :: xs, _, h, .cons q qs, r => by
    rw [List.all_cons, Bool.and_eq_true] at h
    cases d with
    | int i =>
      cases q
      cases r with
      | cons r rs =>
        obtain ⟨t, rfl⟩ := r
        exact .cons i t (ints_rows h.2 qs rs)
    | _ => cases h.1
section
variable {X : Cx} {CA : Nat → Option Addr} {W : WX} {a : Expr} {fa : CE} {p p2 pos pos2 : Pos}
/-- tuples in a row: their addresses, their keys -/
theorem rows_ek {F : Addr → Prop} {ρ : List Addr} {H : Hp} {pins : List (Addr × Obj)} {s : Shared} {σ : L2.St} (I : Inv X pins σ H s) : ∀ {vs : List V} {xs : List D} {us : List Value}, xs.all (fun d => isTup d && hashOk d && d.noText) = true → Reps X.prog X.w X.K F ρ H vs xs → Vals vs us →
    ∃ ks : List (Addr × NestedKey), us = (ks.map fun m => Value.ref m.1) ∧ ks.map (·.2) = xs.map D.key ∧ ∀ m ∈ ks, (tupEK X.prog X.w).at_ s.heap m.2 m.1
  | _, [], _, _, .nil, r => by cases r; exact ⟨[], rfl, rfl, fun m h => by cases h⟩
  | _, d :: xs, _, h, .cons q qs, r => by
    cases r with
    | cons r rs =>
      rw [List.all_cons, Bool.and_eq_true] at h
      obtain ⟨ks, e1, e2, e3⟩ := rows_ek I h.2 qs rs
      have hd := h.1
      simp only [Bool.and_eq_true, hashOk, decide_eq_true_eq] at hd
      obtain ⟨⟨t1, t2, t3⟩, t4⟩ := hd
      obtain ⟨b, rfl⟩ := isTup_ref t1 q
      cases r
      refine ⟨(b, d.key) :: ks, by rw [List.map_cons, e1], by rw [List.map_cons, List.map_cons, e2], fun m hm => ?_⟩
      rcases List.mem_cons.mp hm with e | hm
      · rw [e]
        exact ⟨nested_is I d _ (.ref b) t2 q rfl, by rw [key_depth _ t2]; exact t3, numK_of d t2 t4⟩
      · exact e3 m hm
def tLens (X : Cx) (te : TE) : TE := fun σ H Q => te σ H fun x H1 => ∃ (b : Addr) (vs : List V) (xs : List D) (F : Addr → Prop) (ρ : List Addr), x = .ref b ∧ SqT X.K H1 b vs ∧ Reps X.prog X.w X.K F ρ H1 vs xs ∧ (xs.all (fun d => isTup d && hashOk d && d.noText) = true ∨ xs.all isIntD = true) ∧ xs.length < 63 ∧ Q (.int (distinctD xs).length) H1
theorem pe_lens {te : TE} (hc : X.calm = true) (hu : X.A.units + 200 < cLine) (hg : Gl X "len") (hm : X.mg "len" = none) (hg2 : Gl X "set") (hm2 : X.mg "set" = none) (ha : PE X a te) (na : starEach [a] X.env = (false, eval a X.env) :: starEach [] X.env) :
    PE X (.Call (.Name "len" p) [.Call (.Name "set" p2) [a] [] pos2] [] pos) (tLens X te) := by
  refine ⟨fun pins s σ H Q I h => Call_ (ld_blt I hg hm PySem.boot_len ?_)⟩
  refine PyProof.Rows.callWith_builtin1 (PyProof.Rows.args_cons (Call_ (ld_blt I hg2 hm2 PyProof.Rows.boot_set ?_)) rfl) rfl rfl
  refine PyProof.Rows.callWith_type1 (PyProof.Rows.args_cons (thn (ha.run pins s σ H _ I h) fun v s1 ⟨x, H1, I1, r1, q1⟩ => PyProof.Rows.args_nil ?_) na) na rfl
  obtain ⟨b, vs, xs, F, ρ, rfl, hs, rp, ok, few, q⟩ := q1
  obtain rfl : v = .ref b := r1
  obtain ⟨its, rv, tu, hz⟩ := I1.tuple hs
  rcases ok with ok | ok
  · obtain ⟨ks, e1, e2, e3⟩ := rows_ek I1 ok rp rv
    have lk : ks.length = xs.length := by
      have := congrArg List.length e2
      simpa using this
    refine call_set_ek (ek := tupEK X.prog X.w) ks (I1.ok.hd hc) tu (by simpa using e1) e3 (fun L nd sub => Nat.lt_of_le_of_lt (sub_len nd sub) (by omega)) (by omega) fun h' tk L es ep t S g keep => ?_
    refine PyProof.Rows.args_nil ?_
    obtain ⟨o, get, ex, dat⟩ := S.stands
    have cnt := S.count (s := { s1 with heap := h', toks := tk })
    have eqs : ∀ x ∈ xs, ∀ y ∈ xs, D.eqv y x = decide (y.key = x.key) := fun x hx y hy => by
      have h1 := List.all_eq_true.mp ok x hx
      have h2 := List.all_eq_true.mp ok y hy
      simp only [Bool.and_eq_true, hashOk, decide_eq_true_eq] at h1 h2
      rw [eqv_key _ _ h2.1.2.1 h1.1.2.1, NestedKey.decide_eq]
    have dl : L.length = (distinctD xs).length := by
      rw [← List.length_map (f := (·.2)) (as := L)]
      refine distinct_len D.key eqs S.apart fun k => ?_
      rw [← e2]
      constructor
      · intro hk
        obtain ⟨m, hm, rfl⟩ := List.mem_map.mp hk
        exact List.mem_map.mpr ⟨m, List.mem_of_mem_take (g.sub m hm), rfl⟩
      · intro hk
        obtain ⟨m, hm, rfl⟩ := List.mem_map.mp hk
        exact g.all m (by rw [List.take_length]; exact hm)
    have I2 : Inv X pins σ H1 { s1 with heap := h', toks := tk } := I1.kept fun c o e => keep c o e
    have sz : es.size = (distinctD xs).length := by rw [cnt, dl]
    have le : L.length ≤ ks.length := g.le
    refine call_len_set get ex dat (S.filled (s := { s1 with heap := h', toks := tk })) (by rw [cnt]; omega) ⟨.int (distinctD xs).length, H1, I2.tok _, ⟨_, by rw [sz]⟩, q⟩
  · have ia := ints_rows ok rp rv
    refine call_set_tupI (xs.map intOf) (I1.ok.hd hc) tu (by simpa using ia) (by rw [List.length_map]; unfold scanBound; omega) fun h' tk c S le keep => ?_
    refine PyProof.Rows.args_nil ?_
    obtain ⟨o, es, ep, t, get, ex, dat, _, nd, mem, _, fits, cnt, _⟩ := S
    have eqs : ∀ x ∈ xs, ∀ y ∈ xs, D.eqv y x = decide (intOf y = intOf x) := fun x hx y hy => by
      have h1 := List.all_eq_true.mp ok x hx
      have h2 := List.all_eq_true.mp ok y hy
      cases x with
      | int i => cases y with
        | int j =>
          rw [D.eqv]
          exact Bool.beq_eq_decide_eq j i
        | _ => cases h2
      | _ => cases h1
    have sz : es.size = (distinctD xs).length := by
      rw [← Array.length_toList, ← List.length_map (f := keyOf) (as := es.toList)]
      refine distinct_len intOf eqs nd fun k => ?_
      rw [← mem k]
      simp
    rw [List.length_map] at le
    have I2 : Inv X pins σ H1 { s1 with heap := h', toks := tk } := I1.kept fun c o e => keep c o e
    refine call_len_set get ex dat fits (by rw [cnt]; omega) ⟨.int (distinctD xs).length, H1, I2.tok _, ⟨_, by rw [sz]⟩, q⟩
theorem s_lens (hc : X.calm = true) (hu : X.A.units + 200 < cLine) (hg : Gl X "len") (hm : X.mg "len" = none) (hg2 : Gl X "set") (hm2 : X.mg "set" = none) (ha : PE X a (tD X.prog X.w X.K CA W .b fa)) (hs : notStar a = true) :
    PE X (.Call (.Name "len" p) [.Call (.Name "set" p2) [a] [] pos2] [] pos) (tD X.prog X.w X.K CA W .v (c1 fa gLens)) := by
  refine peI (pe_lens hc hu hg hm hg2 hm2 ha (star_of hs)) fun σ H Q h => tQ.imp (t_c1 h) fun x H1 q => ?_
  obtain ⟨σ, H0, F, ρ, env, st, d, rel, k1, q⟩ := q
  unfold gLens at q
  split at q
  · split at q
    · rename_i ok
      obtain ⟨b, vs, rfl, h1, r1, z1⟩ := k1.tupE
      exact ⟨b, vs, _, F, ρ, rfl, h1, r1, ok.1, ok.2, fin_v rel (.int _) q⟩
    · exact q.elim
  · exact q.elim
end
end Sn

set_option Elab.async false
set_option linter.all false
set_option maxRecDepth 100000
/-! layer 16x: index -/
namespace Sn
open PySem PySem.Spec PyProof.Rows L2
def sqName (t : Bool) : String := if t = true then "tuple" else "list"
def IsSq (K : PySem.W.Frag) (t : Bool) (H : Hp) (a : Addr) (vs : List V) : Prop := if t = true then SqN K H a vs else SqL K H a vs
def rIdx (X : Cx) (t : Bool) : V → List V → Hp → VK → Prop := fun x ys H Q => ∃ (a : Addr) (vs : List V) (xs : List D) (y : V) (e : D) (F : Addr → Prop) (ρ : List Addr) (j : Nat), x = .ref a ∧ ys = [y] ∧ IsSq X.K t H a vs ∧ Reps X.prog X.w X.K F ρ H vs xs ∧ RepB X.prog X.w X.K F ρ H y e ∧
  D.can e (.tup xs) = true ∧ xs.length ≤ sizeLine ∧ xs.findIdx? (fun z => D.eqv z e) = some j ∧ Q (.int (j : Nat)) H
theorem reps_nth {P : Program} {w : World} {K : PySem.W.Frag} {F : Addr → Prop} {ρ : List Addr} {H : Hp} {vs : List V} {xs : List D} {us : List Value} (rp : Reps P w K F ρ H vs xs) (rv : Vals vs us) : us.length = xs.length ∧ ∀ (i : Nat) (u : Value) (d : D), us[i]? = some u → xs[i]? = some d → ∃ v, Rep P w K F ρ H v d ∧ RelV v u := by
  refine ⟨by rw [← rv.length, rp.length], fun i u d hu hd => ?_⟩
  obtain ⟨v, hv, q⟩ := rp.get hd
  obtain ⟨u', hu', r⟩ := rv.get hv
  rw [hu] at hu'
  cases hu'
  exact ⟨v, q, r⟩
theorem rep_reps {P : Program} {w : World} {K : PySem.W.Frag} {F : Addr → Prop} {ρ : List Addr} {H : Hp} {vs : List V} {xs : List D} (r : Reps P w K F ρ H vs xs) : ∀ n : Nat, Reps P w K F ρ H (List.replicate n vs).flatten (List.replicate n xs).flatten
  | 0 => .nil
  | n + 1 => by
    rw [List.replicate_succ, List.replicate_succ, List.flatten_cons, List.flatten_cons]
    exact r.append (rep_reps r n)
theorem idx_ks (xs : List D) (e : D) {j : Nat} (h : xs.findIdx? (fun z => D.eqv z e) = some j) : true ∈ xs.map (fun z => D.eqv z e) ∧ (xs.map fun z => D.eqv z e).idxOf true = j := by
  induction xs generalizing j with
  | nil => cases h
  | cons x xs ih =>
    rw [List.findIdx?_cons] at h
    rw [List.map_cons]
    cases c : D.eqv x e with
    | true =>
      rw [c] at h
      cases h
      exact ⟨List.mem_cons_self, by simp⟩
    | false =>
      rw [c] at h
      simp only [Bool.false_eq_true, if_false] at h
      cases q : xs.findIdx? (fun z => D.eqv z e) with
      | none => rw [q] at h; cases h
      | some i =>
        rw [q] at h
        cases h
        obtain ⟨h1, h2⟩ := ih q
        refine ⟨List.mem_cons_of_mem _ h1, ?_⟩
        rw [List.idxOf_cons]
        simp [h2]
theorem depth_nth : ∀ {xs : List D} {j : Nat} (h : j < xs.length), D.depth xs[j] ≤ D.depths xs
  | x :: xs, 0, _ => by rw [D.depths]; exact Nat.le_max_left _ _
  | x :: xs, j + 1, h => by
    rw [D.depths]
    exact Nat.le_trans (depth_nth (xs := xs) (by simpa using h)) (Nat.le_max_right _ _)
theorem bare_base {x : Expr} {name : Str} {env : Env} {u : Sem Value} (h : isBare x = true) : attributeBase x name env u = u := by
  unfold attributeBase
  split
  · cases h
  · rfl
section
variable {X : Cx} {CA : Nat → Option Addr} {W : WX} {a b : Expr} {fa fb : CE} {apos cpos : Pos}
theorem items_eq {t : Bool} {pins : List (Addr × Obj)} {s : Shared} {σ : L2.St} {H : Hp} {F : Addr → Prop} {ρ : List Addr} {vs : List V} {xs : List D} {us : List Value} {y : V} {e : D} {u : Value} (hu : X.A.units + 200 < cLine) (I : Inv X pins σ H s) (rp : Reps X.prog X.w X.K F ρ H vs xs) (rv : Vals vs us)
    (ry : RepB X.prog X.w X.K F ρ H y e) (r1 : RelV y u) (c : D.can e (.tup xs) = true) : SeqAt.ItemsEq X.A.in1 s us (xs.map fun z => D.eqv z e) u true := by
  simp only [D.can, Bool.and_eq_true, decide_eq_true_eq] at c
  obtain ⟨⟨c1, c2⟩, c3⟩ := c
  rw [D.plain] at c2
  rw [D.depth] at c3
  have l := reps_nth rp rv
  refine ⟨by rw [List.length_map, l.1], fun j h1 h2 => ?_⟩
  have h3 : j < xs.length := by rw [← l.1]; exact h1
  have pj : (xs[j]).plain = true := by
    rw [D.plains_eq, List.all_eq_true] at c2
    exact c2 _ (List.getElem_mem h3)
  have dj := depth_nth h3
  rw [List.getElem_map]
  have e2 : decide (D.eqv xs[j] e = true) = D.eqv xs[j] e := by cases D.eqv xs[j] e <;> rfl
  rw [e2, ← D.eqv_toP _ _ pj c1]
  have hd : X.A.in1.units + min (xs[j]).toP.depth e.toP.depth < cLine := by
    rw [D.depth_toP _ pj, D.depth_toP _ c1]
    show X.A.units + 1 + _ < cLine
    omega
  intro prog w E Q q
  obtain ⟨bs, rb⟩ := ry.reads I c1 r1
  obtain ⟨v, qv, r⟩ := l.2 j us[j] xs[j] (List.getElem?_eq_getElem h1) (List.getElem?_eq_getElem h3)
  obtain ⟨as, ra⟩ := Rep.reads I _ _ _ pj qv r
  exact SeqAt.eqAt_plain _ _ X.A.in1 s _ _ as bs ra rb (D.plain_toP _ pj) (D.plain_toP _ c1) hd prog w E Q q
theorem mt_idx (t : Bool) (hu : X.A.units + 200 < cLine) : MtR X (if t = true then "tuple.index" else "list.index") (rIdx X t) := by
  intro pins s σ H x ys v us Q I rx rys h
  obtain ⟨a, vs, xs, y, e, F, ρ, j, rfl, rfl, hs, rp, ry, c, hz, hj, q⟩ := h
  cases rx
  cases rys with
  | cons r1 rt =>
    rename_i uy ut
    cases rt
    obtain ⟨k1, k2⟩ := idx_ks xs e hj
    cases t with
    | true =>
      obtain ⟨its, rv, tu, _⟩ := I.tuple (show SqN X.K H a vs from hs).seq
      refine SeqAt.call_tuple_index tu (items_eq (t := true) hu I rp rv ry r1 c) k1 ?_
      rw [k2]
      exact ⟨.int (j : Nat), H, I.tok _, ⟨_, rfl⟩, q⟩
    | false =>
      obtain ⟨its, rv, pl, _⟩ := I.list (show SqL X.K H a vs from hs)
      refine SeqAt.call_list_index pl.isList (items_eq (t := false) hu I rp rv ry r1 c) (by rw [List.length_map]; exact hz) k1 ?_
      rw [k2]
      exact ⟨.int (j : Nat), H, I.tok _, ⟨_, rfl⟩, q⟩
/-- a method of lists, of tuples, by one value -/
theorem pe_seqM {T id : String} {name : Str} {t : Bool} {r : V → List V → Hp → VK → Prop} {to te : TE} (hT : T = sqName t) (pa : PlainAttrs T) (slot : Slot T name id) (hty : typeOf (.builtin id) = pure (.type "method_descriptor")) (hm : MtR X id r) (ho : PE X a to) (hb : PE X b te)
    (hbase : attributeBase a name X.env (eval a X.env) = eval a X.env) (hline : (apos.endLine == cpos.line) = true) (ns : starEach [b] X.env = (false, eval b X.env) :: starEach [] X.env) :
    PE X (.Call (.Attribute a name apos) [b] [] cpos) (fun σ H Q => to σ H fun x H1 => (∃ p vs, x = .ref p ∧ IsSq X.K t H1 p vs) ∧ te σ H1 fun y H2 => r x [y] H2 Q) := by
  refine ⟨fun pins s σ H Q I h => ?_⟩
  have few : ((backTo cpos (starEach [b] X.env)).all (fun x => !x.1) && (backToKw cpos (keywordEach [] X.env)).all (fun x => x.1.isSome) && decide ([b].length + ([] : List Keyword).length + (if ([] : List Keyword).isEmpty then 0 else 1) < 30)) = true := by
    rw [ns]
    rfl
  refine wpAny_Call_method_late hbase few hline rfl (thn (ho.run pins s σ H _ I h) fun v s1 ⟨x, H1, I1, r1, ⟨p, vs, ex, sq⟩, q1⟩ => ?_)
  subst ex
  cases r1
  have kind : ∃ ob, s1.heap.get? p = some ob ∧ ob.cls = .type T ∧ ob.dict = none := by
    cases t with
    | true =>
      rcases (show SqN X.K H1 p vs from sq) with ⟨o, h1, h2, h3⟩ | ⟨o, its, n, h1, h2, h3, _⟩
      · exact ⟨o, (I1.hok p _ h1).1, by rw [hT]; exact h2, h3⟩
      · exact ⟨o, I1.kIn p o h1, by rw [hT]; exact h2, h3⟩
    | false =>
      obtain ⟨its, rv, ⟨o, n, h1, h2, h3, h4⟩, _⟩ := I1.list (show SqL X.K H1 p vs from sq)
      exact ⟨o, h1, by rw [hT]; exact h2, h3⟩
  obtain ⟨ob, e1, e2, e3⟩ := kind
  refine ⟨T, id, pa, slot, hty, ⟨ob, e1, e2⟩, fun c ec => by cases ec; exact ⟨ob, e1, e3⟩, ?_⟩
  have hA := (pa_cons hb pa_nil ns).run cpos pins s1 σ H1 (fun ys H2 => match ys with | [y] => r (.ref p) [y] H2 Q | _ => False) I1 q1
  rw [ns] at hA ⊢
  refine Calls.callWith_builtin rfl (Calls.evalArgs_plain ?_)
  refine thn hA fun us s2 ⟨ys, H2, I2, r2, q2⟩ => ?_
  match ys, r2, q2 with
  | [y], r2, q2 => exact hm pins s2 σ H2 (.ref p) [y] _ us Q I2 rfl r2 q2
theorem seq_of {t : Bool} {d : D} {xs : List D} {F : Addr → Prop} {ρ : List Addr} {H : Hp} {x : V} (e : d.seqOf t = some xs) (k : RepB X.prog X.w X.K F ρ H x d) : ∃ a vs, x = .ref a ∧ (∀ F' ρ' H', Ext F ρ H F' ρ' H' → IsSq X.K t H' a vs) ∧ Reps X.prog X.w X.K F ρ H vs xs ∧ xs.length ≤ sizeLine := by
  cases t with
  | true => cases d with
    | tup ys =>
      cases e
      obtain ⟨a, vs, ex, h1, r1, z1⟩ := k.tupN
      exact ⟨a, vs, ex, fun F' ρ' H' x => x.toKeeps.seqN h1, r1, z1⟩
    | _ => cases e
  | false => cases d with
    | lst ys =>
      cases e
      rcases k with k | ⟨a, ex, n, k⟩
      · cases k with
        | lst f h q z => exact ⟨_, _, rfl, fun F' ρ' H' x => SqL.of (x.keepF _ _ h f), q, z⟩
      · rcases k with ⟨vs, ds, h, h2, h3, h4⟩ | ⟨_, _, h, _⟩ | ⟨_, _, _, h, _⟩ <;> cases h
        exact ⟨a, vs, ex, fun F' ρ' H' x => SqL.of (x.keep a _ h2 n), h3, h4⟩
    | _ => cases e
theorem o_rep : OpR X (binaryOp .Mult) (rG2 X.prog X.w X.K CA W .n gRep) := by
  rintro pins s σ H x y v u Q I rx ry ⟨σ', H0, F, ρ, env, st, d, e, rel, k1, k2, q⟩
  unfold gRep at q
  split at q
  · split at q
    · rename_i h
      obtain ⟨a, xs, rfl, h1, r1, z1⟩ := k1.lstE
      obtain rfl := k2.intE
      refine op_rep pins s σ H _ _ v u Q I rx ry ⟨a, _, xs, rfl, rfl, h1, h.1, h.2.1, by rw [r1.length]; exact h.2.2, fun p n => fin_lst rel (rep_reps r1 _) ?_ q n⟩
      rw [PyProof.Rows.lm_len_rep_flat, Nat.mul_comm]
      exact h.2.2
    · exact q.elim
  · exact q.elim
theorem s_idx (t : Bool) (hu : X.A.units + 200 < cLine) (ha : PE X a (tD X.prog X.w X.K CA W .b fa)) (hb : PE X b (tD X.prog X.w X.K CA W .b fb)) (hs : notStar b = true) (hbase : attributeBase a "index" X.env (eval a X.env) = eval a X.env) (hline : (apos.endLine == cpos.line) = true) :
    PE X (.Call (.Attribute a "index" apos) [b] [] cpos) (tD X.prog X.w X.K CA W .v (cIdx t fa fb)) := by
  have core : ∀ {T id : String}, T = sqName t → PlainAttrs T → Slot T "index" id → typeOf (.builtin id) = pure (.type "method_descriptor") → MtR X id (rIdx X t) → PE X (.Call (.Attribute a "index" apos) [b] [] cpos) (tD X.prog X.w X.K CA W .v (cIdx t fa fb)) := by
    intro T id hT pa slot hty hm
    refine peI (pe_seqM hT pa slot hty hm ha hb hbase hline (star_of hs)) fun σ H Q ⟨H0, F, ρ, env, st, rel, q⟩ => ?_
    refine ⟨H0, F, ρ, env, st, rel, (After.bind (RK' := rkD X.prog X.w X.K .b) (rkD_ok .v) q).imp fun x H1 h => ?_⟩
    obtain ⟨F1, ρ1, d, st1, x1, r1, k1, _, q1⟩ := h
    have k1' : RepB X.prog X.w X.K F1 ρ1 H1 x d := k1
    split at q1
    · rename_i xs e
      obtain ⟨p, vs, ex, sq, rp, hz⟩ := seq_of e k1'
      refine ⟨⟨p, vs, ex, sq _ _ _ Ext.refl⟩, H0, F1, ρ1, env, st1, r1, (After.bind (RK' := rkD X.prog X.w X.K .b) (rkD_ok .v) q1).imp fun y H2 h => ?_⟩
      obtain ⟨F2, ρ2, e2, st2, x2, r2, k2, _, q2⟩ := h
      have k2' : RepB X.prog X.w X.K F2 ρ2 H2 y e2 := k2
      unfold gIdx at q2
      split at q2
      · rename_i c
        split at q2
        · rename_i j hj
          exact ⟨p, vs, xs, y, e2, F2, ρ2, j, ex, rfl, sq _ _ _ x2, rp.mono x2.toKeeps, k2', c, hz, hj, fin_v r2 (.int _) q2⟩
        · exact q2.elim
      · exact q2.elim
    · exact q1.elim
  cases t with
  | true => exact core rfl PySem.F.plainAttrs_tuple PySem.F.slot_tuple_index PySem.F.type_tuple_index (mt_idx true hu)
  | false => exact core rfl PySem.F.plainAttrs_list PySem.F.slot_list_index PySem.F.type_list_index (mt_idx false hu)
end
end Sn

set_option Elab.async false
set_option linter.all false
set_option maxRecDepth 100000
/-! layer 16y: sorted(set(x)), x of pairs of ints -/
namespace Sn
open PySem PySem.Spec PyProof.Rows L2
theorem pair_of {d : D} (h : isPairD d = true) : ∃ a b, d = .tup [.int a, .int b] := by
  unfold isPairD at h
  split at h
  · exact ⟨_, _, rfl⟩
  · cases h
theorem pair_key {d e : D} (h : isPairD d = true) (k : isPairD e = true) (q : d.key = e.key) : d = e := by
  obtain ⟨a, b, rfl⟩ := pair_of h
  obtain ⟨x, y, rfl⟩ := pair_of k
  simp [D.key, D.keys] at q
  simp [q]
theorem pair_le (a b x y : Int) : leD (.tup [.int a, .int b]) (.tup [.int x, .int y]) = (decide (a < x) || (decide (a = x) && decide (b ≤ y))) := by
  rw [Bool.eq_iff_iff]
  unfold leD
  simp [PySem.W.dataLe, PySem.W.sortLe, PySem.W.keyToks, PySem.W.keyToksAll, PyProof.Rows.lexLt, PyProof.Rows.itemLt, D.toP, D.toPs]
  omega
theorem pairs_ok {xs : List D} (h : xs.all isPairD = true) : xs.all (fun d => isTup d && hashOk d && d.noText) = true ∧ sortOk xs = true := by
  have each : ∀ d ∈ xs, ∃ a b, d = .tup [.int a, .int b] := fun d hd => pair_of (List.all_eq_true.mp h d hd)
  constructor
  · rw [List.all_eq_true]
    intro d hd
    obtain ⟨a, b, rfl⟩ := each d hd
    simp [isTup, hashOk, D.hashy, D.hashys, D.depth, D.depths, D.noText, D.noTexts]
  · unfold sortOk
    simp only [Bool.and_eq_true, Bool.or_eq_true, List.all_eq_true, D.plains_eq]
    refine ⟨⟨⟨fun d hd => ?_, fun d hd e he => ?_⟩, .inl fun d hd => ?_⟩, fun d hd => ?_⟩
    · obtain ⟨a, b, rfl⟩ := each d hd
      rfl
    · obtain ⟨a, b, rfl⟩ := each d hd
      obtain ⟨x, y, rfl⟩ := each e he
      rfl
    · obtain ⟨a, b, rfl⟩ := each d hd
      rfl
    · obtain ⟨a, b, rfl⟩ := each d hd
      rfl
theorem sort_pairs {xs ys : List D} (h : ∀ d ∈ ys, isPairD d = true) (p : xs.Perm ys) : xs.mergeSort leD = ys.mergeSort leD := by
  have q : (xs.mergeSort leD).Perm (ys.mergeSort leD) := (List.mergeSort_perm _ _).trans (p.trans (List.mergeSort_perm _ _).symm)
  have pr : ∀ {zs : List D}, (∀ d ∈ zs, isPairD d = true) → (zs.mergeSort leD).Pairwise (fun a b => leD a b = true) := fun {zs} hz => by
    have each : ∀ d ∈ zs, ∃ a b, d = .tup [.int a, .int b] := fun d hd => pair_of (hz d hd)
    have e : zs = (zs.map fun d => match d with | .tup [.int a, .int b] => (a, b) | _ => ((0, 0) : Int × Int)).map fun q => D.tup [.int q.1, .int q.2] := by
      rw [List.map_map]
      symm
      conv => rhs; rw [← List.map_id zs]
      refine List.map_congr_left fun d hd => ?_
      obtain ⟨a, b, rfl⟩ := each d hd
      rfl
    rw [e]
    generalize (zs.map fun d => match d with | .tup [.int a, .int b] => (a, b) | _ => ((0, 0) : Int × Int)) = ps
    rw [← List.map_mergeSort (r := fun p q : Int × Int => decide (p.1 < q.1) || (decide (p.1 = q.1) && decide (p.2 ≤ q.2))) (fun a _ b _ => (pair_le _ _ _ _).symm), List.pairwise_map]
    refine (List.pairwise_mergeSort (fun a b c h1 h2 => ?_) (fun a b => ?_) _).imp fun {a b} h1 => by rw [pair_le]; exact h1
    · simp at h1 h2 ⊢
      omega
    · simp
      omega
  have hx : ∀ d ∈ xs, isPairD d = true := fun d hd => h d (p.mem_iff.mp hd)
  refine List.Perm.eq_of_pairwise (le := fun a b => leD a b = true) (fun a b ha hb h1 h2 => ?_) (pr hx) (pr h) q
  obtain ⟨i, j, rfl⟩ := pair_of (hx a ((List.mergeSort_perm _ _).mem_iff.mp ha))
  obtain ⟨x, y, rfl⟩ := pair_of (h b ((List.mergeSort_perm _ _).mem_iff.mp hb))
  rw [pair_le] at h1 h2
  simp at h1 h2 ⊢
  omega
theorem distinct_sub : ∀ (xs : List D), ∀ d ∈ distinctD xs, d ∈ xs := by
  have gen : ∀ (xs acc : List D) (d : D), d ∈ xs.foldl (fun acc x => if (acc.any fun y => D.eqv y x) = true then acc else acc ++ [x]) acc → d ∈ acc ∨ d ∈ xs := by
    intro xs
    induction xs with
    | nil => exact fun acc d h => .inl h
    | cons x xs ih =>
      intro acc d h
      rw [List.foldl_cons] at h
      rcases ih _ d h with h | h
      · split at h
        · exact .inl h
        · rcases List.mem_append.mp h with h | h
          · exact .inl h
          · rw [List.mem_singleton] at h
            exact .inr (h ▸ List.mem_cons_self)
      · exact .inr (List.mem_cons_of_mem _ h)
  exact fun xs d h => (gen xs [] d h).resolve_left (by simp)
theorem perm_lift {α β : Type} {f : α → β} {l k : List β} (p : l.Perm k) : ∀ {m : List α}, k = m.map f → ∃ m' : List α, m'.Perm m ∧ l = m'.map f := by
  induction p with
  | nil =>
    intro m e
    have : m = [] := by simpa using e.symm
    subst this
    exact ⟨[], .nil, rfl⟩
  | cons x _ ih =>
    intro m e
    cases m with
    | nil => cases e
    | cons a m =>
      rw [List.map_cons] at e
      injection e with e1 e2
      obtain ⟨m', q, h⟩ := ih e2
      exact ⟨a :: m', q.cons a, by rw [List.map_cons, e1, h]⟩
  | swap x y l =>
    intro m e
    match m, e with
    | a :: b :: m, e =>
      rw [List.map_cons, List.map_cons] at e
      injection e with e1 e2
      injection e2 with e2 e3
      exact ⟨b :: a :: m, .swap .., by rw [List.map_cons, List.map_cons, e1, e2, e3]⟩
  | trans _ _ ih1 ih2 =>
    intro m e
    obtain ⟨m1, q1, h1⟩ := ih2 e
    obtain ⟨m2, q2, h2⟩ := ih1 h1
    exact ⟨m2, q2.trans q1, h2⟩
section
variable {X : Cx} {CA : Nat → Option Addr} {W : WX} {a : Expr} {fa : CE} {p p2 pos pos2 : Pos}
/-- tuples in a row: their addresses with their data -/
theorem rows_zip {F : Addr → Prop} {ρ : List Addr} {H : Hp} : ∀ {vs : List V} {xs : List D} {us : List Value}, xs.all isPairD = true → Reps X.prog X.w X.K F ρ H vs xs → Vals vs us →
    ∃ zs : List (Addr × D), us = (zs.map fun m => Value.ref m.1) ∧ zs.map (·.2) = xs ∧ ∀ m ∈ zs, Rep X.prog X.w X.K F ρ H (.ref m.1) m.2
  | _, [], _, _, .nil, r => by cases r; exact ⟨[], rfl, rfl, fun m h => by cases h⟩
  | _, d :: xs, _, h, .cons q qs, r => by
    cases r with
    | cons r rs =>
      rw [List.all_cons, Bool.and_eq_true] at h
      obtain ⟨zs, e1, e2, e3⟩ := rows_zip h.2 qs rs
      obtain ⟨i, j, rfl⟩ := pair_of h.1
      obtain ⟨b, rfl⟩ := isTup_ref (d := .tup [.int i, .int j]) rfl q
      cases r
      refine ⟨(b, .tup [.int i, .int j]) :: zs, by rw [List.map_cons, e1], by rw [List.map_cons, e2], fun m hm => ?_⟩
      rcases List.mem_cons.mp hm with e | hm
      · rw [e]; exact q
      · exact e3 m hm
def tSrtS (X : Cx) (te : TE) : TE := fun σ H Q => te σ H fun x H1 => ∃ (b : Addr) (vs : List V) (xs : List D) (F : Addr → Prop) (ρ : List Addr), x = .ref b ∧ (SqL X.K H1 b vs ∨ SqT X.K H1 b vs) ∧ Reps X.prog X.w X.K F ρ H1 vs xs ∧ xs.all isPairD = true ∧ (distinctD xs).length < 63 ∧
  ∀ l ws, H1 l = none → Reps X.prog X.w X.K F ρ H1 ws ((distinctD xs).mergeSort leD) → Q (.ref l) (upd H1 l (.lst ws))
theorem pe_srtS {te : TE} (hc : X.calm = true) (hu : X.A.units + 200 < cLine) (hg : Gl X "sorted") (hm : X.mg "sorted" = none) (hg2 : Gl X "set") (hm2 : X.mg "set" = none) (ha : PE X a te) (na : starEach [a] X.env = (false, eval a X.env) :: starEach [] X.env) :
    PE X (.Call (.Name "sorted" p) [.Call (.Name "set" p2) [a] [] pos2] [] pos) (tSrtS X te) := by
  refine ⟨fun pins s σ H Q I h => Call_ (ld_blt I hg hm PyProof.Rows.boot_sorted ?_)⟩
  refine PyProof.Rows.callWith_builtin1 (PyProof.Rows.args_cons (Call_ (ld_blt I hg2 hm2 PyProof.Rows.boot_set ?_)) rfl) rfl rfl
  refine PyProof.Rows.callWith_type1 (PyProof.Rows.args_cons (thn (ha.run pins s σ H _ I h) fun v s1 ⟨x, H1, I1, r1, q1⟩ => PyProof.Rows.args_nil ?_) na) na rfl
  obtain ⟨b, vs, xs, F, ρ, rfl, hs, rp, ok, few, q⟩ := q1
  obtain rfl : v = .ref b := r1
  obtain ⟨ok1, ok2⟩ := pairs_ok ok
  have main : ∀ (its : List Value), Vals vs its → ∀ (ks : List (Addr × NestedKey)), its = (ks.map fun m => Value.ref m.1) → ks.map (·.2) = xs.map D.key → ∀ (h' : Heap) (tk : Nat) (L : List (Addr × NestedKey)) es ep t,
      SetAt (tupEK X.prog X.w) h' s1.heap.objs.size L es ep t → Has ks ks.length L → (∀ b o, s1.heap.get? b = some o → h'.get? b = some o) →
      wpAny (model X.prog X.w) X.A (call (.builtin "sorted") [.ref s1.heap.objs.size]) (EP X pins σ Q) X.xe { s1 with heap := h', toks := tk } := by
    intro its rv ks e1 e2 h' tk L es ep t S g keep
    obtain ⟨zs, z1, z2, z3⟩ := rows_zip ok rp rv
    obtain ⟨o, get, ex, dat⟩ := S.stands
    have cnt := S.count (s := { s1 with heap := h', toks := tk })
    have I2 : Inv X pins σ H1 { s1 with heap := h', toks := tk } := I1.kept fun c o e => keep c o e
    have pz : ∀ z ∈ zs, isPairD z.2 = true := fun z hz => List.all_eq_true.mp ok z.2 (by rw [← z2]; exact List.mem_map.mpr ⟨z, hz, rfl⟩)
    -- ks is zs, by keys
    have kz : ks = zs.map fun z => (z.1, z.2.key) := by
      have h1 : ks.map (·.1) = zs.map (·.1) := by
        have : (ks.map (·.1)).map Value.ref = (zs.map (·.1)).map Value.ref := by
          rw [List.map_map, List.map_map]
          exact e1.symm.trans z1
        exact List.map_inj_right (fun _ _ e => by cases e; rfl) |>.mp this
      have h2 : ks.map (·.2) = zs.map fun z => z.2.key := by
        rw [e2, ← z2, List.map_map]
        rfl
      refine List.ext_getElem (by simpa using congrArg List.length h1) fun i hi hj => ?_
      have a1 : (ks.map (·.1))[i]'(by simpa using hi) = (zs.map (·.1))[i]'(by simpa using hj) := by simp only [h1]
      have a2 : (ks.map (·.2))[i]'(by simpa using hi) = (zs.map fun z => z.2.key)[i]'(by simpa using hj) := by simp only [h2]
      simp only [List.getElem_map] at a1 a2
      rw [List.getElem_map]
      exact Prod.ext a1 a2
    -- each member is one of zs
    have pick : ∀ L0 : List (Addr × NestedKey), (∀ m ∈ L0, m ∈ ks) → ∃ LZ : List (Addr × D), (∀ z ∈ LZ, z ∈ zs) ∧ L0 = LZ.map fun z => (z.1, z.2.key) := by
      intro L0
      induction L0 with
      | nil => exact fun _ => ⟨[], (fun z hz => by cases hz), rfl⟩
      | cons m L0 ih =>
        intro hm
        obtain ⟨LZ, h1, h2⟩ := ih fun x hx => hm x (List.mem_cons_of_mem _ hx)
        have hin := hm m List.mem_cons_self
        rw [kz] at hin
        obtain ⟨z, hz, rfl⟩ := List.mem_map.mp hin
        refine ⟨z :: LZ, fun y hy => ?_, by rw [List.map_cons, h2]⟩
        rcases List.mem_cons.mp hy with e | hy
        · rw [e]; exact hz
        · exact h1 y hy
    obtain ⟨LZ, l1, l2⟩ := pick L fun m hm => List.mem_of_mem_take (g.sub m hm)
    have rows : es.toList.map (·.2) = LZ.map fun z => Value.ref z.1 := by
      rw [S.rows]
      unfold ekRows
      rw [List.map_map, l2, List.map_map]
      rfl
    have few2 : es.size < 63 := by
      rw [cnt]
      have h1 : (LZ.map fun z => z.2.key).Nodup := by
        have := S.apart
        rw [l2, List.map_map] at this
        exact this
      have eqs : ∀ x ∈ xs, ∀ y ∈ xs, D.eqv y x = decide (y.key = x.key) := fun x hx y hy => by
        have a1 := List.all_eq_true.mp ok1 x hx
        have a2 := List.all_eq_true.mp ok1 y hy
        simp only [Bool.and_eq_true, hashOk, decide_eq_true_eq] at a1 a2
        rw [eqv_key _ _ a2.1.2.1 a1.1.2.1, NestedKey.decide_eq]
      have dl : L.length = (distinctD xs).length := by
        rw [← List.length_map (f := (·.2)) (as := L)]
        refine distinct_len D.key eqs S.apart fun k => ?_
        rw [← e2]
        constructor
        · intro hk
          obtain ⟨m, hm, rfl⟩ := List.mem_map.mp hk
          exact List.mem_map.mpr ⟨m, List.mem_of_mem_take (g.sub m hm), rfl⟩
        · intro hk
          obtain ⟨m, hm, rfl⟩ := List.mem_map.mp hk
          exact g.all m (by rw [List.take_length]; exact hm)
      omega
    refine sorted_any (R := fun u (b : V × D) => RelV b.1 u ∧ Rep X.prog X.w X.K F ρ H1 b.1 b.2) (enc := fun b : V × D => b.2.toP) (collect_set (A := X.A.in1) (I1.ok.hd hc) ⟨o, get, ex.1, dat⟩ (S.filled (s := { s1 with heap := h', toks := tk })) (by unfold scanBound; omega) S.tab.ris S.led fun s2 out k2 z2' g2 o2 pm => ?_)
    rw [rows] at pm
    obtain ⟨MZ, m1, m2⟩ := perm_lift pm rfl
    have mz : ∀ z ∈ MZ, z ∈ zs := fun z hz => l1 z (m1.mem_iff.mp hz)
    have rep2 : Reps X.prog X.w X.K F ρ H1 (MZ.map fun z => V.ref z.1) (MZ.map (·.2)) := by
      clear m1 m2
      induction MZ with
      | nil => exact .nil
      | cons z MZ ih => exact .cons (z3 z (mz z List.mem_cons_self)) (ih fun y hy => mz y (List.mem_cons_of_mem _ hy))
    have val2 : Vals (MZ.map fun z => V.ref z.1) out := by
      rw [m2]
      clear m1 m2 rep2 mz
      induction MZ with
      | nil => exact .nil
      | cons z MZ ih => exact .cons rfl ih
    have okM : (MZ.map (·.2)).all isPairD = true := by
      rw [List.all_eq_true]
      intro d hd
      obtain ⟨z, hz, rfl⟩ := List.mem_map.mp hd
      exact pz z (mz z hz)
    -- the members' data are the different ones
    have same : (MZ.map (·.2)).Perm (distinctD xs) := by
      have eqs : ∀ x ∈ xs, ∀ y ∈ [] ++ xs, D.eqv y x = decide (y.key = x.key) := fun x hx y hy => by
        have a1 := List.all_eq_true.mp ok1 x hx
        have a2 := List.all_eq_true.mp ok1 y (by simpa using hy)
        simp only [Bool.and_eq_true, hashOk, decide_eq_true_eq] at a1 a2
        rw [eqv_key _ _ a2.1.2.1 a1.1.2.1, NestedKey.decide_eq]
      obtain ⟨d1, d2⟩ := distinct_keys D.key xs [] eqs List.nodup_nil
      have dsub : ∀ d ∈ distinctD xs, d ∈ xs := distinct_sub xs
      have n1 : (MZ.map (·.2)).Nodup := by
        have h1 : ((MZ.map (·.2)).map D.key).Nodup := by
          have h2 : (LZ.map fun z => z.2.key).Nodup := by
            have := S.apart
            rw [l2, List.map_map] at this
            exact this
          rw [List.map_map]
          exact (m1.map fun z => z.2.key).nodup_iff.mpr h2
        exact nodup_of_map h1
      have n2 : (distinctD xs).Nodup := nodup_of_map d1
      refine (List.perm_ext_iff_of_nodup n1 n2).mpr fun d => ⟨fun hd => ?_, fun hd => ?_⟩
      · obtain ⟨z, hz, rfl⟩ := List.mem_map.mp hd
        have hx : z.2 ∈ xs := by rw [← z2]; exact List.mem_map.mpr ⟨z, mz z hz, rfl⟩
        have hk : z.2.key ∈ (distinctD xs).map D.key := (d2 _).mpr (List.mem_map.mpr ⟨z.2, by simpa using hx, rfl⟩)
        obtain ⟨e, he, q⟩ := List.mem_map.mp hk
        have := pair_key (List.all_eq_true.mp ok e (dsub e he)) (pz z (mz z hz)) q
        rw [← this]
        exact he
      · have hx := dsub d hd
        rw [← z2] at hx
        obtain ⟨z, hz, rfl⟩ := List.mem_map.mp hx
        have hk : z.2.key ∈ L.map (·.2) := g.all (z.1, z.2.key) (by rw [List.take_length, kz]; exact List.mem_map.mpr ⟨z, hz, rfl⟩)
        rw [l2, List.map_map] at hk
        obtain ⟨y, hy, q⟩ := List.mem_map.mp hk
        have := pair_key (pz y (l1 y hy)) (pz z hz) q
        rw [← this]
        exact List.mem_map.mpr ⟨y, m1.mem_iff.mpr hy, rfl⟩
    have lm : (MZ.map (·.2)).length ≤ sizeLine := by
      have h1 : (MZ.map (·.2)).length = es.size := by rw [List.length_map, m1.length_eq, ← Array.length_toList, ← List.length_map (f := (·.2)) (as := es.toList), rows, List.length_map]
      unfold sizeLine
      omega
    refine ⟨(MZ.map fun z => V.ref z.1).zip (MZ.map (·.2)), gathered hu (pairs_ok okM).2 lm I2 rep2 val2 g2 o2 z2' k2, fun out2 s3 l c hl ho gg oo hp hk hat => ?_⟩
    obtain ⟨ws, v1, r1⟩ := sorted_out rep2.length ho
    have hn : H1 l = none := I2.hok.fresh hp
    have hz2 : ws.length ≤ sizeLine := by rw [r1.length, List.length_mergeSort]; exact lm
    have J : Inv X pins σ (upd H1 l (.lst ws)) ({ ({ s1 with heap := h', toks := tk } : Shared) with heap := s3.heap, gens := s3.gens, drawn := s3.drawn, toks := s3.toks } : Shared) :=
      I2.call (ch := []) (Un.laid hk hp hn) (I2.hok.laid hk hp ⟨hz2, out2, c, v1, hat⟩) (by rw [gg]; exact I2.bare) (fun _ z => nomatch z)
    have e : s3 = { s1 with heap := s3.heap, gens := s3.gens, drawn := s3.drawn, toks := s3.toks } := by
      cases s3
      cases s1
      cases oo
      rfl
    rw [e]
    rw [sort_pairs (fun d hd => List.all_eq_true.mp ok d (distinct_sub xs d hd)) same] at r1
    exact ⟨.ref l, _, J, rfl, q l ws hn r1⟩
  have bound : ∀ (ks : List (Addr × NestedKey)), ks.map (·.2) = xs.map D.key → ∀ L : List (Addr × NestedKey), (L.map (·.2)).Nodup → (∀ m ∈ L, m ∈ ks) → L.length < 63 := by
    intro ks e2 L nd sub
    have eqs : ∀ x ∈ xs, ∀ y ∈ [] ++ xs, D.eqv y x = decide (y.key = x.key) := fun x hx y hy => by
      have a1 := List.all_eq_true.mp ok1 x hx
      have a2 := List.all_eq_true.mp ok1 y (by simpa using hy)
      simp only [Bool.and_eq_true, hashOk, decide_eq_true_eq] at a1 a2
      rw [eqv_key _ _ a2.1.2.1 a1.1.2.1, NestedKey.decide_eq]
    obtain ⟨d1, d2⟩ := distinct_keys D.key xs [] eqs List.nodup_nil
    have h := nodup_le nd (m := (distinctD xs).map D.key) fun x hx => by
      obtain ⟨m, hm, rfl⟩ := List.mem_map.mp hx
      have hk : m.2 ∈ ks.map (·.2) := List.mem_map.mpr ⟨m, sub m hm, rfl⟩
      rw [e2] at hk
      exact (d2 _).mpr (by simpa using hk)
    rw [List.length_map, List.length_map] at h
    omega
  rcases hs with hs | hs
  · obtain ⟨its, rv, pl, hz⟩ := I1.list hs
    obtain ⟨ks, e1, e2, e3⟩ := rows_ek I1 ok1 rp rv
    refine call_set_ekL (ek := tupEK X.prog X.w) ks (I1.ok.hd hc) pl.isList (by simpa using e1) e3 (bound ks e2) (by omega) fun h' tk L es ep t S g keep => ?_
    exact PyProof.Rows.args_nil (main its rv ks e1 e2 h' tk L es ep t S g keep)
  · obtain ⟨its, rv, tu, hz⟩ := I1.tuple hs
    obtain ⟨ks, e1, e2, e3⟩ := rows_ek I1 ok1 rp rv
    refine call_set_ek (ek := tupEK X.prog X.w) ks (I1.ok.hd hc) tu (by simpa using e1) e3 (bound ks e2) (by omega) fun h' tk L es ep t S g keep => ?_
    exact PyProof.Rows.args_nil (main its rv ks e1 e2 h' tk L es ep t S g keep)
theorem s_srtS (hc : X.calm = true) (hu : X.A.units + 200 < cLine) (hg : Gl X "sorted") (hm : X.mg "sorted" = none) (hg2 : Gl X "set") (hm2 : X.mg "set" = none) (ha : PE X a (tD X.prog X.w X.K CA W .b fa)) (hs : notStar a = true) :
    PE X (.Call (.Name "sorted" p) [.Call (.Name "set" p2) [a] [] pos2] [] pos) (tD X.prog X.w X.K CA W .n (c1 fa gSrtS)) := by
  refine peI (pe_srtS hc hu hg hm hg2 hm2 ha (star_of hs)) fun σ H Q h => tQ.imp (t_c1 h) fun x H1 q => ?_
  obtain ⟨σ, H0, F, ρ, env, st, d, rel, k1, q⟩ := q
  unfold gSrtS at q
  split at q
  · split at q
    · rename_i ok
      obtain ⟨b, vs, rfl, h1, r1, z1⟩ := k1.lstE
      exact ⟨b, vs, _, F, ρ, rfl, .inl (SqL.of h1), r1, ok.1, ok.2, fun l ws n r2 => fin_lst rel r2 (by rw [List.length_mergeSort]; have := ok.2; unfold sizeLine; omega) q n⟩
    · exact q.elim
  · split at q
    · rename_i ok
      obtain ⟨b, vs, rfl, h1, r1, z1⟩ := k1.tupE
      exact ⟨b, vs, _, F, ρ, rfl, .inr h1, r1, ok.1, ok.2, fun l ws n r2 => fin_lst rel r2 (by rw [List.length_mergeSort]; have := ok.2; unfold sizeLine; omega) q n⟩
    · exact q.elim
  · exact q.elim
end
end Sn

set_option Elab.async false
set_option linter.all false
set_option maxRecDepth 100000
/-! layer 16i: repr -/
namespace Sn
open PySem PySem.Spec PyProof.Rows L2
section
variable {X : Cx} {F : Addr → Prop} {ρ : List Addr} {H : Hp} {pins : List (Addr × Obj)} {s : Shared} {σ : L2.St}
theorem not_both {a : Addr} {vs ws : List V} (I : Inv X pins σ H s) (h : SqT X.K H a vs) (g : H a = some (.lst ws)) : False := by
  obtain ⟨its, r, ⟨o, e, c, n, d⟩, _⟩ := I.tuple h
  obtain ⟨its', r', ⟨o', n', e', c', _⟩, _⟩ := I.list (SqL.of (K := X.K) g)
  rw [e] at e'
  cases e'
  rw [c] at c'
  exact absurd c' (by simp)
mutual
theorem rep_eq (I : Inv X pins σ H s) : ∀ (d : D) (v : V) (d' : D), (reprD d).isSome = true → (reprD d').isSome = true → Rep X.prog X.w X.K F ρ H v d → Rep X.prog X.w X.K F ρ H v d' → d = d'
  | .non, _, _, _, _, .non, r => by cases r; rfl
  | .bl _, _, _, _, _, .bl _, r => by cases r; rfl
  | .int _, _, _, _, _, .int _, r => by cases r; rfl
  | .str _, _, _, _, _, .str _, r => by cases r; rfl
  | .tup ds, _, d', p, p', .tup h q _, r => by
    cases r with
    | tup h' q' _ =>
      obtain rfl := I.tuple_inj h.seq h'.seq
      rw [reps_eq I ds _ _ (by simpa [reprD] using p) (by simpa [reprD] using p') q q']
    | lst f g _ _ => exact (not_both I h.seq g).elim
    | scr => simp [reprD] at p'
    | dK => simp [reprD] at p'
    | dT => simp [reprD] at p'
    | ref => simp [reprD] at p'
  | .lst ds, _, d', p, p', .lst f g q _, r => by
    cases r with
    | tup h _ _ => exact (not_both I h.seq g).elim
    | lst f' g' q' _ =>
      rw [g] at g'
      cases g'
      rw [reps_eq I ds _ _ (by simpa [reprD] using p) (by simpa [reprD] using p') q q']
    | scr => simp [reprD] at p'
    | dK => simp [reprD] at p'
    | dT => simp [reprD] at p'
    | ref => simp [reprD] at p'
  | .dct _, _, _, p, _, _, _ => by simp [reprD] at p
  | .scr _, _, _, p, _, _, _ => by simp [reprD] at p
  | .ref _, _, _, p, _, _, _ => by simp [reprD] at p
  | .fn _, _, _, p, _, _, _ => by simp [reprD] at p
theorem reps_eq (I : Inv X pins σ H s) : ∀ (ds : List D) (vs : List V) (es : List D), (reprDs ds).isSome = true → (reprDs es).isSome = true → Reps X.prog X.w X.K F ρ H vs ds → Reps X.prog X.w X.K F ρ H vs es → ds = es
  | [], _, _, _, _, .nil, r => by cases r; rfl
  | d :: ds, _, [], _, _, .cons q qs, r => by cases r
  | d :: ds, _, e :: es, p, p', .cons q qs, .cons r rs => by
    simp only [reprDs] at p p'
    cases h1 : reprD d with
    | none => rw [h1] at p; cases p
    | some t =>
      cases h2 : reprD e with
      | none => rw [h2] at p'; cases p'
      | some t' =>
        rw [h1] at p
        rw [h2] at p'
        rw [rep_eq I d _ e (by rw [h1]; rfl) (by rw [h2]; rfl) q r, reps_eq I ds _ es (by simpa using p) (by simpa using p') qs rs]
end
theorem allK_more {P : Program} {w : World} {as as' : List Addr} {h₀ : Heap} {n m : Nat} (hs : ∀ b ∈ as, b ∈ as') (hn : n ≤ m) : ∀ {l : List Value} {ts : List Str}, ReprAllK P w as h₀ n l ts → ReprAllK P w as' h₀ m l ts
  | _, _, .nil => .nil
  | _, _, .cons h r => .cons ((h.more hs).level_le hn) (allK_more hs hn r)
theorem allK_at {P : Program} {w : World} {as : List Addr} {h₀ : Heap} {n : Nat} : ∀ {l : List Value} {ts : List Str}, ReprAllK P w as h₀ n l ts → ∀ (i : Nat) (y : Value), l[i]? = some y → ∃ t, ts[i]? = some t ∧ ReprK P w as h₀ n y t
  | _, _, .nil, i, y, e => by cases e
  | _, _, .cons h r, 0, y, e => by
    cases e
    exact ⟨_, rfl, h⟩
  | _, _, .cons h r, i + 1, y, e => allK_at r i y e
/-- the addresses under a value -/
def Und (X : Cx) (F : Addr → Prop) (ρ : List Addr) (H : Hp) (n : Nat) (as : List Addr) : Prop := ∀ b ∈ as, ∃ d', Rep X.prog X.w X.K F ρ H (.ref b) d' ∧ (reprD d').isSome = true ∧ d'.depth ≤ n
mutual
theorem reprK_of (I : Inv X pins σ H s) : ∀ (d : D) (v : V) (u : Value) (t : Str), Rep X.prog X.w X.K F ρ H v d → RelV v u → reprD d = some t → ∃ as, Und X F ρ H d.depth as ∧ ReprK X.prog X.w as s.heap d.depth u t
  | .non, _, _, t, .non, r, e => by
    cases r
    rw [reprD] at e
    cases e
    exact ⟨[], (fun _ h => nomatch h), .of_is ReprIs.none [] _ _⟩
  | .bl b, _, _, t, .bl _, r, e => by
    cases r
    rw [reprD] at e
    cases e
    exact ⟨[], (fun _ h => nomatch h), .of_is (ReprIs.bool b) [] _ _⟩
  | .int i, _, _, t, .int _, r, e => by
    obtain ⟨k, rfl⟩ := r
    rw [reprD] at e
    split at e
    · rename_i h
      cases e
      exact ⟨[], (fun _ h => nomatch h), .of_is (ReprIs.int k h) [] _ _⟩
    · cases e
  | .str x, _, _, t, .str _, r, e => by
    obtain ⟨k, rfl⟩ := r
    rw [reprD] at e
    split at e
    · rename_i h
      cases e
      exact ⟨[], (fun _ h => nomatch h), .of_is (ReprIs.str x k h) [] _ _⟩
    · cases e
  | .tup ds, _, _, t, .tup (a := a) h q z, r, e => by
    have p : (reprD (.tup ds)).isSome = true := by rw [e]; rfl
    have w0 : Rep X.prog X.w X.K F ρ H (.ref a) (.tup ds) := .tup h q z
    cases r
    rw [reprD] at e
    cases e2 : reprDs ds with
    | none => rw [e2] at e; cases e
    | some ts =>
      rw [e2] at e
      cases e
      obtain ⟨its, rv, ⟨o, ho, hc, n, hd⟩, _⟩ := I.tuple h.seq
      obtain ⟨as, u1, k1⟩ := reprKs_of I ds _ its ts q rv e2
      have hna : a ∉ as := fun hm => by
        obtain ⟨d', r', s', l'⟩ := u1 a hm
        have := rep_eq I _ _ _ p s' w0 r'
        subst this
        simp only [D.depth] at l'
        omega
      refine ⟨a :: as, fun b hb => ?_, ?_⟩
      · rcases List.mem_cons.mp hb with rfl | hb
        · exact ⟨_, w0, p, Nat.le_refl _⟩
        · obtain ⟨d', r', s', l'⟩ := u1 b hb
          exact ⟨d', r', s', by simp only [D.depth]; omega⟩
      · rw [D.depth]
        exact ReprK.tuple ho hc hd hna (by simpa using k1)
  | .lst ds, _, _, t, .lst (a := a) f g q z, r, e => by
    have p : (reprD (.lst ds)).isSome = true := by rw [e]; rfl
    have w0 : Rep X.prog X.w X.K F ρ H (.ref a) (.lst ds) := .lst f g q z
    cases r
    rw [reprD] at e
    cases e2 : reprDs ds with
    | none => rw [e2] at e; cases e
    | some ts =>
      rw [e2] at e
      cases e
      obtain ⟨its, rv, ⟨o, n, ho, hc, _, hd⟩, _⟩ := I.list (SqL.of (K := X.K) g)
      obtain ⟨as, u1, k1⟩ := reprKs_of I ds _ its ts q rv e2
      have hna : a ∉ as := fun hm => by
        obtain ⟨d', r', s', l'⟩ := u1 a hm
        have := rep_eq I _ _ _ p s' w0 r'
        subst this
        simp only [D.depth] at l'
        omega
      refine ⟨a :: as, fun b hb => ?_, ?_⟩
      · rcases List.mem_cons.mp hb with rfl | hb
        · exact ⟨_, w0, p, Nat.le_refl _⟩
        · obtain ⟨d', r', s', l'⟩ := u1 b hb
          exact ⟨d', r', s', by simp only [D.depth]; omega⟩
      · rw [D.depth]
        cases its with
        | nil =>
          cases k1
          exact (ReprK.listEmpty ho hc hd : ReprK X.prog X.w (a :: as) s.heap _ (.ref a) "[]")
        | cons x l =>
          have kl := k1.length_eq
          exact ReprK.list ho hc hd hna (by simpa using kl) (fun i y hy => allK_at k1 i y (by simpa using hy))
  | .dct _, _, _, _, _, _, e => by simp [reprD] at e
  | .scr _, _, _, _, _, _, e => by simp [reprD] at e
  | .ref _, _, _, _, _, _, e => by simp [reprD] at e
  | .fn _, _, _, _, _, _, e => by simp [reprD] at e
theorem reprKs_of (I : Inv X pins σ H s) : ∀ (ds : List D) (vs : List V) (us : List Value) (ts : List Str), Reps X.prog X.w X.K F ρ H vs ds → Vals vs us → reprDs ds = some ts → ∃ as, Und X F ρ H (D.depths ds) as ∧ ReprAllK X.prog X.w as s.heap (D.depths ds) us ts
  | [], _, _, ts, .nil, r, e => by
    cases r
    rw [reprDs] at e
    cases e
    exact ⟨[], (fun _ h => nomatch h), .nil⟩
  | d :: ds, _, _, ts, .cons q qs, .cons r rs, e => by
    rw [reprDs] at e
    cases e1 : reprD d with
    | none => rw [e1] at e; cases e
    | some t =>
      rw [e1] at e
      cases e2 : reprDs ds with
      | none => rw [e2] at e; cases e
      | some ts' =>
        rw [e2] at e
        cases e
        obtain ⟨as, u1, k1⟩ := reprK_of I d _ _ t q r e1
        obtain ⟨bs, u2, k2⟩ := reprKs_of I ds _ _ ts' qs rs e2
        refine ⟨as ++ bs, fun b hb => ?_, .cons ((k1.more fun b hb => List.mem_append_left _ hb).level_le (by rw [D.depths]; omega)) (allK_more (fun b hb => List.mem_append_right _ hb) (by rw [D.depths]; omega) k2)⟩
        rcases List.mem_append.mp hb with hb | hb
        · obtain ⟨d', r', s', l'⟩ := u1 b hb
          exact ⟨d', r', s', by rw [D.depths]; omega⟩
        · obtain ⟨d', r', s', l'⟩ := u2 b hb
          exact ⟨d', r', s', by rw [D.depths]; omega⟩
end
end
section
variable {X : Cx} {CA : Nat → Option Addr} {W : WX} {p pos : Pos}
def rRepr (X : Cx) : List V → Hp → VK → Prop := fun xs H Q => ∃ (v : V) (d : D) (F : Addr → Prop) (ρ : List Addr) (t : Str), xs = [v] ∧ Rep X.prog X.w X.K F ρ H v d ∧ reprD d = some t ∧ topR d = true ∧ t.length ≤ sizeLine ∧ d.depth ≤ 40 ∧ Q (.str t) H
theorem call_reprD (hgd : X.A.guards = some []) (hu : X.A.units + 200 < cLine) : CallR X (.builtin "repr") (rRepr X) := by
  intro pins s σ H xs us Q I r h
  obtain ⟨v, d, F, ρ, t, rfl, rp, e, top, hz, hd, q⟩ := h
  obtain ⟨u, rfl, rv⟩ := vals1 r
  cases d with
  | non =>
    cases rp
    obtain rfl : u = .none := rv
    rw [reprD] at e
    cases e
    refine PySem.P.repr_of_none ?_
    exact ⟨.str _, H, I.tok _, ⟨_, rfl⟩, q⟩
  | bl b =>
    cases rp
    obtain rfl : u = .bool b := rv
    rw [reprD] at e
    cases e
    refine PySem.P.repr_of_bool ?_
    exact ⟨.str _, H, I.tok _, ⟨_, rfl⟩, q⟩
  | int i =>
    cases rp
    obtain ⟨k, rfl⟩ := rv
    rw [reprD] at e
    split at e
    · rename_i hi
      cases e
      refine PySem.P.repr_of_int hi ?_
      exact ⟨.str _, H, I.tok _, ⟨_, rfl⟩, q⟩
    · cases e
  | str x =>
    cases rp
    obtain ⟨k, rfl⟩ := rv
    rw [reprD] at e
    split at e
    · rename_i hi
      cases e
      refine PySem.P.repr_of_str ?_ hi
      exact ⟨.str _, H, I.tok _, ⟨_, rfl⟩, q⟩
    · cases e
  | tup ds =>
    have p0 : (reprD (.tup ds)).isSome = true := by rw [e]; rfl
    have w0 := rp
    cases rp with
    | tup h qs z =>
      rename_i a vs
      obtain rfl : u = .ref a := rv
      rw [reprD] at e
      cases e2 : reprDs ds with
      | none => rw [e2] at e; cases e
      | some ts =>
        rw [e2] at e
        cases e
        obtain ⟨its, rv2, ⟨o, ho, hc, n, hd2⟩, _⟩ := I.tuple h.seq
        obtain ⟨as, u1, k1⟩ := reprKs_of I ds _ its ts qs rv2 e2
        rw [D.depth] at hd
        refine call_repr_slot (idr := "tuple.__repr__") (by omega) (show s.TypeIs (.ref _) "tuple" from ⟨o, ho, hc⟩) PySem.F.slot_tuple_repr ?_
        refine call_tuple_reprK (g := []) (d := D.depths ds) ho hc hd2 (fun hm => ?_) (by simpa using k1) hgd (fun b _ => Clear.nil b) (by show X.A.units + 1 + (D.depths ds + 1) < cLine; omega) (fun _ _ e => e) (fun h' k tk keep => ?_) hz
        · obtain ⟨d', r', s', l'⟩ := u1 _ hm
          have := rep_eq I _ _ _ p0 s' w0 r'
          subst this
          simp only [D.depth] at l'
          omega
        · exact ⟨_, _, rfl, .str _, H, (I.kept fun c o e => keep c o e), ⟨_, rfl⟩, q⟩
  | _ => cases top
theorem s_repr (hgd : X.A.guards = some []) (hu : X.A.units + 200 < cLine) {a : Expr} {fa : CE} (hg : Gl X "repr") (hm : X.mg "repr" = none) (ha : PE X a (tD X.prog X.w X.K CA W .b fa)) (hs : notStar a = true) : PE X (.Call (.Name "repr" p) [a] [] pos) (tD X.prog X.w X.K CA W .v (c1 fa gRepr)) := by
  refine s_b1 (call_reprD hgd hu) (fun x H Q h => ?_) hg hm (by decide +kernel) ha hs (by decide) (by decide)
  obtain ⟨σ, H0, F, ρ, env, st, d, rel, k1, q⟩ := h
  unfold gRepr at q
  split at q
  · rename_i t e
    split at q
    · rename_i ok
      rcases k1 with k1 | ⟨a, rfl, n, c⟩
      · exact ⟨x, d, F, ρ, t, rfl, k1, e, ok.1, ok.2.1, ok.2.2, fin_v rel (.str _) q⟩
      · rcases c with ⟨vs, ds, rfl, _⟩ | ⟨kvs, es, rfl, _⟩ | ⟨xs, ws, es, rfl, _⟩ <;> cases ok.1
    · exact q.elim
  · exact q.elim
end
end Sn

set_option Elab.async false
set_option linter.all false
set_option maxRecDepth 100000
/-! layer 17: what a def promises; calls -/
namespace Sn
open PySem PySem.Spec PyProof.Rows L2
section
variable (P : Program) (w : World) (K : PySem.W.Frag) (CA : Nat → Option Addr)
/-- behind a call -/
def AfterC (Q : VK) (E : XK) (F : Addr → Prop) (ρ : List Addr) (H : Hp) : R (D × Store) → Prop
  | .ok (d, st') => ∀ v H' F' ρ', Ext F ρ H F' ρ' H' → StRel P w K CA F' ρ' st' H' → Rep P w K F' ρ' H' v d → Q v H'
  | .exc x st' => ∀ c dx H' F' ρ', Ext F ρ H F' ρ' H' → StRel P w K CA F' ρ' st' H' → ExRep P w K CA F' ρ' H' c dx x → E c dx H'
  | .err => False
def spD (φ : List D → Store → R (D × Store)) : Sp := fun vs H Q E => ∃ F ρ st ds, StRel P w K CA F ρ st H ∧ Reps P w K F ρ H vs ds ∧ AfterC P w K CA Q E F ρ H (φ ds st)
/-- a def's promise, where nothing is printed around it -/
def FnG (mg : Str → Option Value) (base : Heap) (k : Nat) (f : Addr) (sp : Sp) : Prop :=
  ∀ (A : Around) (outer : List Env) (s : Shared) (H : Hp) (us : List Value) (vs : List V) (Q : VK) (E : XK), Room k A → A.guards = some [] → Env0 P w K mg base A outer s H → Vals vs us → sp vs H Q E →
    codeAny (model P w) A (.call (.ref f) ⟨us, []⟩) (CR (L2.CX P w) outer P w H s Q E) s
end
section
variable {X : Cx} {CA : Nat → Option Addr} {W : WX} {k : Nat} {fa : Addr} {x : Str} {p pos : Pos} {es : List Expr} {n : Nat} {φ : List D → Store → R (D × Store)} {g : FL}
theorem run_G {sp : Sp} {pins : List (Addr × Obj)} {σ : L2.St} {H : Hp} {s : Shared} {Q : VK} {us : List Value} {vs : List V} (T : FnG X.prog X.w X.K X.mg X.base k fa sp) (hr : Room k X.A) (hg : X.A.guards = some []) (tk : Takes X W)
    (I : Inv X pins σ H s) (r : Vals vs us) (h : sp vs H Q (WE W σ)) : wpAny (model X.prog X.w) X.A (call (.ref fa) us) (EP X pins σ Q) X.xe s := by
  have back := passAt tk σ
  refine wpAny_call (codeAny_mono (T X.A X.stack s H us vs Q (WE W σ) hr hg I.env0 r h) fun res s' got => ?_)
  match res, got with
  | .error e, got => exact back pins H s e s' I got
  | .ok (.ret u), got => exact I.after got
/-- the reading of a call -/
theorem t_call {σ : L2.St} {H : Hp} {Q : VK} {vs : List V} {H0 : Hp} {F : Addr → Prop} {ρ : List Addr} {env : En} {st : Store} {ds : List D} (rel : Rel X.prog X.w X.K CA H0 F ρ env st σ H) (k1 : Reps X.prog X.w X.K F ρ H vs ds)
    (q : After X.prog X.w X.K CA W (rkD X.prog X.w X.K .v) H0 F ρ env σ H Q (φ ds st)) : spD X.prog X.w X.K CA φ vs H Q (WE W σ) := by
  refine ⟨F, ρ, st, ds, rel.toStRel, k1, ?_⟩
  cases e : φ ds st with
  | err => rw [e] at q; exact q
  | exc y s => rw [e] at q; exact fun c dx H' F' ρ' x' s' z' => q c dx H' F' ρ' x' (rel.env_ext x' s') z'
  | ok pd => rw [e] at q; exact fun v H' F' ρ' x' s' z' => q v H' F' ρ' x' (rel.env_ext x' s') z'
theorem s_call {e : Expr} (T : FnG X.prog X.w X.K X.mg X.base k fa (spD X.prog X.w X.K CA φ)) (hr : Room k X.A) (hgd : X.A.guards = some []) (tk : Takes X W) (hg : Gl X x) (hm : X.mg x = some (.ref fa)) (hk : PySem.W.keepIn X.K (.ref fa) = true)
    (ha : PA X (e :: es) (tL X.prog X.w X.K CA W g)) (hs : (e :: es).all notStar = true) (hdb : (x == ("__debug__" : Str)) = false) : PE X (.Call (.Name x p) (e :: es) [] pos) (tD X.prog X.w X.K CA W .v (cCal φ g)) := by
  refine ⟨fun pins s σ H Q I h => ?_⟩
  obtain ⟨H0, F, ρ, env, st, rel, q⟩ := h
  have rd : tL X.prog X.w X.K CA W g σ H (fun vs H1 => spD X.prog X.w X.K CA φ vs H1 Q (WE W σ)) :=
    ⟨H0, F, ρ, env, st, rel, (After.bind (RK' := rkL X.prog X.w X.K) (rkD_ok .v) q).imp fun vs H1 ⟨F1, ρ1, ds, st1, x1, r1, k1, _, q1⟩ => t_call r1 k1 q1⟩
  refine wpAny_Call_Name_kw (ld_glob I hg hm ?_ hdb)
  have go := ha.run pos pins s σ H _ I rd
  rw [List.all_cons, Bool.and_eq_true] at hs
  exact PySem.W.callWith_K (h₀ := X.base) I.ok.mod.kin hk (thn go fun us s1 ⟨vs, H1, I1, r1, q1⟩ => ⟨I1.kIn, run_G T hr hgd tk I1 r1 q1⟩) (star_of hs.1) (any_of hs.2)
theorem s_call0 (T : FnG X.prog X.w X.K X.mg X.base k fa (spD X.prog X.w X.K CA φ)) (hr : Room k X.A) (hgd : X.A.guards = some []) (tk : Takes X W) (hg : Gl X x) (hm : X.mg x = some (.ref fa)) (hk : PySem.W.keepIn X.K (.ref fa) = true)
    (hdb : (x == ("__debug__" : Str)) = false) : PE X (.Call (.Name x p) [] [] pos) (tD X.prog X.w X.K CA W .v (cCal φ lNil)) := by
  refine ⟨fun pins s σ H Q I h => ?_⟩
  obtain ⟨H0, F, ρ, env, st, rel, q⟩ := h
  exact wpAny_Call_Name_kw (ld_glob I hg hm (PySem.W.callWith_K0 I.kIn hk (run_G (us := []) T hr hgd tk I .nil (t_call rel .nil q))) hdb)
end
end Sn

set_option Elab.async false
set_option linter.all false
set_option maxRecDepth 100000
/-! layer 18: a compared expression computes what its own syntax computes -/
namespace Sn
open PySem PySem.Spec PyProof.Rows L2
structure Okx (T : Tb) (c : Ck) (X : Cx) (CA : Nat → Option Addr) (W : WX) : Prop where
  N : X.N = c.N
  nd : c.N.Nodup
  sc : X.env.scope = c.sc
  fn : X.fn = c.fnb
  calm : X.calm = true
  tk : Takes X W
  B : ∀ x ∈ c.B, X.mg x = none
  G : ∀ (k : Nat) x, c.G[k]? = some x → ∃ u v d, X.mg x = some u ∧ RelV v u ∧ T.glo k = some d ∧ ∀ F ρ H, Rep X.prog X.w X.K F ρ H v d
  F : ∀ (f : Nat) p, c.F[f]? = some p → ∃ k fa, X.mg p.1 = some (.ref fa) ∧ PySem.W.keepIn X.K (.ref fa) = true ∧ Room k X.A ∧ FnG X.prog X.w X.K X.mg X.base k fa (spD X.prog X.w X.K CA (T.cal f))
  gu : X.A.guards = some []
  un : X.A.units + 200 < cLine
section
variable {T : Tb} {c : Ck} {X : Cx} {CA : Nat → Option Addr} {W : WX}
theorem Okx.blk (o : Okx T c X CA W) (s : Shared) (H : Hp) (scope : Scope) (C : Addr) (cl : List (Str × Addr)) (fp : List Addr) : Okx T (c.blk scope) (X.blk s H scope (compEnvC scope cl C X.env) fp) CA W0 := by
  refine ⟨o.N, o.nd, ?_, rfl, o.calm, takes0, o.B, o.G, o.F, o.gu, o.un⟩
  show relS scope X.env.scope = relS scope c.sc
  rw [o.sc]
theorem okName_d {x : Str} (h : okName x = true) : (x == ("__debug__" : Str)) = false ∧ (x == ("__classdict__" : Str)) = false ∧ x ≠ "__name__" := by
  unfold okName at h
  simp only [Bool.and_eq_true, decide_eq_true_eq] at h
  exact ⟨by simpa using h.1.1, by simpa using h.1.2, h.2⟩
theorem vis_of {sc : Scope} {x : Str} (h : visB (sc.names.lookup x) = true) : Vis sc x := by
  unfold visB at h
  split at h
  · exact .inl (by assumption)
  · exact .inr (.inl (by assumption))
  · exact .inr (.inr (by assumption))
  · cases h
theorem loc_of {sc : Scope} {x : Str} (h : locB (sc.names.lookup x) = true) : Loc sc x := by
  unfold locB at h
  split at h
  · exact .inl (by assumption)
  · exact .inr (by assumption)
  · cases h
theorem isLoc_of {o : Option NameKind} (h : isLocB o = true) : o = some .local := by
  unfold isLocB at h
  split at h
  · rfl
  · cases h
theorem gl_of (o : Okx T c X CA W) {x : Str} (h : gloB (c.sc.names.lookup x) = true) : Gl X x := by
  show X.env.scope.names.lookup x = _
  rw [o.sc]
  unfold gloB at h
  split at h
  · assumption
  · cases h
theorem blt_of (o : Okx T c X CA W) {x : Str} (h : c.blt x = true) : Gl X x ∧ X.mg x = none := by
  unfold Ck.blt at h
  simp only [Bool.and_eq_true, decide_eq_true_eq] at h
  exact ⟨gl_of o h.1, o.B x h.2⟩
theorem pv_of (o : Okx T c X CA W) {i : Nat} {x : Str} {p : Pos} (h : c.nm i x = true) : PE X (.Name x p) (tVar i) := by
  unfold Ck.nm at h
  simp only [Bool.and_eq_true, decide_eq_true_eq] at h
  obtain ⟨d1, d2, _⟩ := okName_d h.2
  exact pe_var (by rw [o.N]; exact h.1.1) (by rw [o.sc]; exact vis_of h.1.2) d1 d2
theorem pg_of (o : Okx T c X CA W) {i : Nat} {x : Str} {p : Pos} (h : c.tg i x = true) : PG X (.Name x p) (gName i) := by
  unfold Ck.tg at h
  simp only [Bool.and_eq_true, decide_eq_true_eq, Bool.or_eq_true] at h
  refine pg_name (by rw [o.N]; exact o.nd) (by rw [o.N]; exact h.1.1) (by rw [o.sc]; exact loc_of h.1.2) ?_
  rcases h.2 with h | h
  · exact .inl (by rw [o.fn]; exact h)
  · exact .inr (by rw [o.sc]; exact isLoc_of h)
theorem asg_len : ∀ {es : List Expr} {env : Env}, es.all notStar = true → (assignEach es env).length = es.length ∧ (assignEach es env).findIdx? (·.1) = none := by
  intro es env
  induction es with
  | nil => exact fun _ => ⟨rfl, rfl⟩
  | cons e es ih =>
    intro h
    rw [List.all_cons, Bool.and_eq_true] at h
    obtain ⟨h1, h2⟩ := ih h.2
    have e1 : assignEach (e :: es) env = (false, assign e env) :: assignEach es env := by
      cases e <;> first | rfl | cases h.1
    rw [e1]
    exact ⟨by rw [List.length_cons, h1, List.length_cons], by rw [List.findIdx?_cons, h2]; rfl⟩
theorem asg_map {e : Expr} {es : List Expr} {env : Env} (h : notStar e = true) : (assignEach (e :: es) env).map (·.2) = assign e env :: (assignEach es env).map (·.2) := by
  cases e <;> first | rfl | cases h
mutual
theorem main_T : ∀ {c : Ck} {X : Cx} {W : WX}, Okx T c X CA W → ∀ (t : Tg) (ex : Expr), chkT c t ex = true → PG X ex (gD X.prog X.w X.K CA t)
  | c, X, W, o, .nm i, ex, h => by
    unfold chkT at h
    split at h
    · exact s_gnm (pg_of o h)
    · cases h
  | c, X, W, o, .tp ts, ex, h => by
    unfold chkT at h
    split at h
    · obtain ⟨h1, h2, h3⟩ := main_Ts o ts _ h
      obtain ⟨h4, h5⟩ := asg_len (env := X.env) h3
      exact s_gtp (n := 0) o.calm h1 (h4.trans h2) h5
    · cases h
theorem main_Ts : ∀ {c : Ck} {X : Cx} {W : WX}, Okx T c X CA W → ∀ (t : TgL) (es : List Expr), chkTs c t es = true → PGs X es (gDs X.prog X.w X.K CA t) ∧ es.length = t.length ∧ es.all notStar = true
  | c, X, W, o, .nil, es, h => by
    unfold chkTs at h
    split at h
    · exact ⟨s_gnil, rfl, rfl⟩
    · cases h
  | c, X, W, o, .cons t ts, es, h => by
    unfold chkTs at h
    split at h
    · simp only [Bool.and_eq_true] at h
      obtain ⟨h1, h2, h3⟩ := main_Ts o ts _ h.2
      exact ⟨s_gcons (main_T o t _ h.1.2) h1 (asg_map h.1.1), by rw [List.length_cons, h2, TgL.length], by rw [List.all_cons, h.1.1, h3]; rfl⟩
    · cases h
end
theorem kv_of {ex : Expr} {k : Kd} {f : CE} (hk : notB k = true) (h : PE X ex (tD X.prog X.w X.K CA W k f)) : PE X ex (tD X.prog X.w X.K CA W .v f) := by
  cases k with
  | b => cases hk
  | v => exact h
  | n => exact pe_kv h
theorem o_bo {op : Bo} : OpR X (binaryOp op.op) (rG2 X.prog X.w X.K CA W op.k op.g) := by
  cases op
  · exact o_add
  · exact o_cat
  · exact o_sub
  · exact o_mul
  · exact o_div
  · exact o_mod
  · exact o_pow
  · exact o_rep
theorem o_co (hu : X.A.units + 200 < cLine) {op : Co} : OpR X (compareOp op.op) (rG2 X.prog X.w X.K CA W .v op.g) := by
  cases op
  · exact o_lt
  · exact o_le
  · exact o_gt
  · exact o_ge
  · exact o_is
  · exact o_isNot
  · exact o_eq (by omega)
  · exact o_ne (by omega)
  · exact o_in2 hu
  · exact o_notIn2 hu
theorem s_b1any (o : Okx T c X CA W) {op : B1} {a : Expr} {fa : CE} {p pos : Pos} (hb : c.blt op.nm = true) (ha : PE X a (tD X.prog X.w X.K CA W .b fa)) (hs : notStar a = true) : PE X (.Call (.Name op.nm p) [a] [] pos) (tD X.prog X.w X.K CA W op.k (c1 fa op.g)) := by
  obtain ⟨hg, hm⟩ := blt_of o hb
  cases op
  · exact s_len hg hm ha hs
  · exact s_abs hg hm ha hs
  · exact s_int hg hm ha hs
  · exact s_all o.calm hg hm ha hs
  · exact s_any o.calm hg hm ha hs
  · exact s_sum o.calm hg hm ha hs
  · exact s_min o.calm hg hm ha hs
  · exact s_max o.calm hg hm ha hs
  · exact s_tuple hg hm ha hs
  · exact s_list hg hm ha hs
  · exact s_sorted o.calm o.un hg hm ha hs
  · exact s_repr o.gu o.un hg hm ha hs
  · exact s_dict o.calm o.un hg hm ha hs
theorem cst_of {d : D} {v : Const} {j : Nat} {p : Pos} (h : cstOk d v = true) : PE X (.Constant v j p) (tD X.prog X.w X.K CA W .v (cPure d)) := by
  unfold cstOk at h
  split at h
  · exact s_const pe_non fun _ _ _ => .non
  · obtain rfl := of_decide_eq_true h
    exact s_const pe_bl fun _ _ _ => .bl _
  · obtain rfl := of_decide_eq_true h
    exact s_const pe_int fun _ _ _ => .int _
  · obtain rfl := of_decide_eq_true h
    exact s_const pe_str fun _ _ _ => .str _
  · cases h
theorem s_glo {k : Nat} {x : Str} {p : Pos} (o : Okx T c X CA W) (h : c.G[k]? = some x) (hg : Gl X x) (hd : (x == ("__debug__" : Str)) = false) : PE X (.Name x p) (tD X.prog X.w X.K CA W .v (cGlo (T.glo k))) := by
  obtain ⟨u, v, d, h1, h2, h3, h4⟩ := o.G k x h
  rw [h3]
  exact s_const (d := d) (pe_glob hg h1 h2 hd) h4
theorem s_ptsNil : PTs X [] (tT X.prog X.w X.K CA W cYes) := ⟨fun pins s σ H Q I ⟨H0, F, ρ, env, st, rel, q⟩ => pts_nil.run pins s σ H Q I (After.ok (RK := rkB) (d := true) rel rfl q)⟩
theorem ownOf_snd {N : List Str} {is : List Nat} : (ownOf N is).map (·.2) = is := by
  unfold ownOf
  rw [List.map_map]
  exact List.map_id' is
theorem fold_S {s : SR} {tg x : Expr} (h : chkS c s tg x = true) : ∀ env u, foldedSetIterable x env u = pure u := by
  intro env u
  cases x <;> first | rfl | skip
  exfalso
  cases s <;> (unfold chkS at h; simp at h)
theorem t_noPut {f : CE} {σ : L2.St} {H : Hp} {Q : Bool → Hp → Prop} (h : tT X.prog X.w X.K CA W (cT (cPut f)) σ H Q) : tT X.prog X.w X.K CA W (cT f) σ H Q := by
  obtain ⟨H0, F, ρ, env, st, rel, q⟩ := h
  refine ⟨H0, F, ρ, env, st, rel, ?_⟩
  unfold cT cPut at q
  unfold cT
  cases e : f env st with
  | err => rw [e] at q; exact q
  | exc x s => rw [e] at q; exact q
  | ok p =>
    rw [e] at q
    obtain ⟨d, s⟩ := p
    cases d <;> exact q.elim
theorem val_of {ex : Expr} {k : Kd} {f : CE} (q : PE X ex (tD X.prog X.w X.K CA W k f)) (he : ∀ whole, isTrue ex X.env whole = (do let v ← whole; standAt ex.pos; holding [v] (truthy v))) : PE X ex (tD X.prog X.w X.K CA W k f) ∧ (tOk ex = true → PT X ex (tT X.prog X.w X.K CA W (cT f))) := ⟨q, fun _ => s_tval q he⟩
theorem not_of {ex : Expr} {k : Kd} {f : CE} (q : PE X ex (tD X.prog X.w X.K CA W k f)) (he : tOk ex = false) : PE X ex (tD X.prog X.w X.K CA W k f) ∧ (tOk ex = true → PT X ex (tT X.prog X.w X.K CA W (cT f))) := ⟨q, fun h => by rw [he] at h; cases h⟩
mutual
theorem main_E : ∀ {c : Ck} {X : Cx} {W : WX}, Okx T c X CA W → ∀ (e : SE) (ex : Expr), chkE c e ex = true → PE X ex (tD X.prog X.w X.K CA W e.k (denE T e)) ∧ (tOk ex = true → PT X ex (tT X.prog X.w X.K CA W (cT (denE T e))))
  | c, X, W, o, .cst d, ex, h => by
    unfold chkE at h
    split at h
    · exact val_of (cst_of h) fun _ => rfl
    · cases h
  | c, X, W, o, .var i, ex, h => by
    unfold chkE at h
    split at h
    · exact val_of (s_var (CA := CA) (W := W) (pv_of o h)) fun _ => rfl
    · cases h
  | c, X, W, o, .own i, ex, h => by
    unfold chkE at h
    split at h
    · exact val_of (s_own (CA := CA) (W := W) (pv_of o h)) fun _ => rfl
    · cases h
  | c, X, W, o, .glb k, ex, h => by
    unfold chkE at h
    split at h
    · simp only [Bool.and_eq_true, decide_eq_true_eq] at h
      exact val_of (s_glo (W := W) o h.1.1 (gl_of o h.1.2) (okName_d h.2).1) fun _ => rfl
    · cases h
  | c, X, W, o, .tup es, ex, h => by
    unfold chkE at h
    split at h
    · exact ⟨s_tup (main_L o es _ h), fun h => by cases h⟩
    · cases h
  | c, X, W, o, .lst es, ex, h => by
    unfold chkE at h
    split at h
    · exact ⟨s_lst (main_L o es _ h), fun h => by cases h⟩
    · cases h
  | c, X, W, o, .op p a b, ex, h => by
    unfold chkE at h
    split at h
    · simp only [Bool.and_eq_true, decide_eq_true_eq] at h
      obtain ⟨⟨rfl, h1⟩, h2⟩ := h
      exact ⟨s_op o_bo (pe_kb (main_E o a _ h1).1) (pe_kb (main_E o b _ h2).1), fun h => by cases h⟩
    · cases h
  | c, X, W, o, .cmp p a b, ex, h => by
    unfold chkE at h
    split at h
    · simp only [Bool.and_eq_true, decide_eq_true_eq, Bool.not_eq_true'] at h
      obtain ⟨⟨⟨rfl, h0⟩, h1⟩, h2⟩ := h
      have ha := pe_kb (main_E o a _ h1).1
      have hb := pe_kb (main_E o b _ h2).1
      exact ⟨s_cmp (o_co o.un) ha hb h0, fun _ => s_tcmp (o_co o.un) ha hb h0⟩
    · cases h
  | c, X, W, o, .ch p p' a b d, ex, h => by
    unfold chkE at h
    split at h
    · simp only [Bool.and_eq_true, decide_eq_true_eq, Bool.not_eq_true'] at h
      obtain ⟨⟨⟨⟨⟨rfl, rfl⟩, h0⟩, h1⟩, h2⟩, h3⟩ := h
      have ha := pe_kb (main_E o a _ h1).1
      have hb := pe_kb (main_E o b _ h2).1
      have hc := pe_kb (main_E o d _ h3).1
      exact ⟨s_chain (o_co o.un) (o_co o.un) ha hb hc h0, fun _ => s_tchain (o_co o.un) (o_co o.un) ha hb hc h0⟩
    · cases h
  | c, X, W, o, .neg a, ex, h => by
    unfold chkE at h
    split at h
    · exact ⟨s_un o_neg (pe_kb (main_E o a _ h).1), fun h => by cases h⟩
    · cases h
  | c, X, W, o, .and_ es, ex, h => by
    unfold chkE at h
    split at h
    · rename_i xs pos
      have q := main_A o es _ pos h
      exact ⟨q.1, fun hx => (q.2 (by unfold tOk at hx; exact hx)).pt⟩
    · cases h
  | c, X, W, o, .or_ es, ex, h => by
    unfold chkE at h
    split at h
    · rename_i xs pos
      have q := main_O o es _ pos h
      exact ⟨q.1, fun hx => (q.2 (by unfold tOk at hx; exact hx)).pt⟩
    · cases h
  | c, X, W, o, .nt a, ex, h => by
    unfold chkE at h
    split at h
    · have q := main_E o a _ h
      exact ⟨s_not q.1, fun hx => s_tnot (q.2 (by unfold tOk at hx; exact hx))⟩
    · cases h
  | c, X, W, o, .ite t a b, ex, h => by
    unfold chkE at h
    split at h
    · simp only [Bool.and_eq_true] at h
      obtain ⟨⟨⟨⟨⟨h1, h2⟩, h3⟩, h4⟩, h5⟩, h6⟩ := h
      refine ⟨?_, fun h => by cases h⟩
      have qt := (main_E o t _ h1).2 h2
      have qa := (main_E o a _ h3).1
      have qb := (main_E o b _ h4).1
      show PE X _ (tD X.prog X.w X.K CA W (match a.k, b.k with | .n, .n => .n | _, _ => .v) _)
      split
      · rename_i e1 e2
        rw [e1] at qa
        rw [e2] at qb
        exact s_ite qt qa qb
      · exact s_ite qt (kv_of h5 qa) (kv_of h6 qb)
    · cases h
  | c, X, W, o, .cal f es, ex, h => by
    unfold chkE at h
    split at h
    · rename_i x p xs pos
      simp only [Bool.and_eq_true] at h
      obtain ⟨⟨⟨⟨h1, h2⟩, h3⟩, h4⟩, h5⟩ := h
      have qa := main_L o es _ h5
      split at h1
      · rename_i pr hF
        simp only [Bool.and_eq_true, decide_eq_true_eq] at h1
        obtain ⟨k, fa, e1, e2, e3, e4⟩ := o.F f pr hF
        rw [h1.1] at e1
        have q : PE X (.Call (.Name x p) xs [] pos) (tD X.prog X.w X.K CA W .v (cCal (T.cal f) (denL T es))) := by
          cases xs with
          | nil =>
            have e5 : denL T es = lNil := by
              unfold chkL at h5
              split at h5
              · rfl
              · cases h5
            rw [e5]
            exact s_call0 e4 e3 o.gu o.tk (gl_of o h2) e1 e2 (okName_d h3).1
          | cons e xs => exact s_call e4 e3 o.gu o.tk (gl_of o h2) e1 e2 qa h4 (okName_d h3).1
        exact ⟨q, fun _ => s_tval q fun _ => rfl⟩
      · cases h1
    · cases h
  | c, X, W, o, .b1 p a, ex, h => by
    unfold chkE at h
    split at h
    · simp only [Bool.and_eq_true, decide_eq_true_eq] at h
      obtain ⟨⟨⟨rfl, h1⟩, h2⟩, h3⟩ := h
      exact val_of (s_b1any (CA := CA) (W := W) o h1 (pe_kb (main_E o a _ h3).1) h2) fun _ => rfl
    · cases h
  | c, X, W, o, .isi t a, ex, h => by
    unfold chkE at h
    split at h
    · simp only [Bool.and_eq_true, decide_eq_true_eq] at h
      obtain ⟨⟨⟨⟨⟨⟨rfl, h1⟩, rfl⟩, h2⟩, h3⟩, h4⟩, h5⟩ := h
      obtain ⟨g1, m1⟩ := blt_of o h1
      obtain ⟨g2, m2⟩ := blt_of o h2
      obtain ⟨TT, hT⟩ := Option.isSome_iff_exists.mp h3
      refine val_of ?_ fun _ => rfl
      show PE X _ (tD X.prog X.w X.K CA W .v (c1 (denE T a) (gIsi (match tyOf? _ with | some T => T | none => ""))))
      rw [hT]
      exact s_isi hT g1 m1 g2 m2 (pe_kb (main_E o a _ h5).1) h4
    · cases h
  | c, X, W, o, .ix a b, ex, h => by
    unfold chkE at h
    split at h
    · simp only [Bool.and_eq_true, Bool.not_eq_true'] at h
      obtain ⟨⟨h1, h2⟩, h3⟩ := h
      exact val_of (s_ix2 o.un (pe_kb (main_E o a _ h2).1) (pe_kb (main_E o b _ h3).1) h1) fun _ => rfl
    · cases h
  | c, X, W, o, .sl n a lo hi, ex, h => by
    unfold chkE at h
    split at h
    · simp only [Bool.and_eq_true] at h
      obtain ⟨⟨h1, h2⟩, h3⟩ := h
      have qa := pe_kb (main_E o a _ h1).1
      cases n with
      | true => exact val_of (s_slice o_slN qa (main_O1 o lo _ h2) (main_O1 o hi _ h3)) fun _ => rfl
      | false => exact val_of (s_slice o_sl qa (main_O1 o lo _ h2) (main_O1 o hi _ h3)) fun _ => rfl
    · cases h
  | c, X, W, o, .rev a, ex, h => by
    unfold chkE at h
    split at h
    · simp only [Bool.and_eq_true, decide_eq_true_eq] at h
      obtain ⟨rfl, h1⟩ := h
      exact val_of (s_rev (pe_kb (main_E o a _ h1).1)) fun _ => rfl
    · cases h
  | c, X, W, o, .put a, ex, h => by
    unfold chkE at h
    simp only [Bool.and_eq_true] at h
    have q := main_E o a _ h.2
    cases e : a.k with
    | n =>
      rw [e] at q
      exact ⟨s_put q.1, fun hx => ptI (q.2 hx) fun σ H Q hq => t_noPut hq⟩
    | b => rw [e] at h; cases h.1
    | v => rw [e] at h; cases h.1
  | c, X, W, o, .lens a, ex, h => by
    unfold chkE at h
    split at h
    · simp only [Bool.and_eq_true, decide_eq_true_eq] at h
      obtain ⟨⟨⟨⟨⟨rfl, h1⟩, rfl⟩, h2⟩, h3⟩, h4⟩ := h
      obtain ⟨g1, m1⟩ := blt_of o h1
      obtain ⟨g2, m2⟩ := blt_of o h2
      exact val_of (s_lens o.calm o.un g1 m1 g2 m2 (pe_kb (main_E o a _ h4).1) h3) fun _ => rfl
    · cases h
  | c, X, W, o, .sumL a, ex, h => by
    unfold chkE at h
    split at h
    · simp only [Bool.and_eq_true, decide_eq_true_eq] at h
      obtain ⟨⟨⟨rfl, h1⟩, h2⟩, h3⟩ := h
      obtain ⟨g1, m1⟩ := blt_of o h1
      exact val_of (s_sumL o.calm o.un g1 m1 (pe_kb (main_E o a _ h3).1) h2) fun _ => rfl
    · cases h
  | c, X, W, o, .srtS a, ex, h => by
    unfold chkE at h
    split at h
    · simp only [Bool.and_eq_true, decide_eq_true_eq] at h
      obtain ⟨⟨⟨⟨⟨rfl, h1⟩, rfl⟩, h2⟩, h3⟩, h4⟩ := h
      obtain ⟨g1, m1⟩ := blt_of o h1
      obtain ⟨g2, m2⟩ := blt_of o h2
      exact val_of (s_srtS o.calm o.un g1 m1 g2 m2 (pe_kb (main_E o a _ h4).1) h3) fun _ => rfl
    · cases h
  | c, X, W, o, .idx t a b, ex, h => by
    unfold chkE at h
    split at h
    · simp only [Bool.and_eq_true, decide_eq_true_eq] at h
      obtain ⟨⟨⟨⟨⟨rfl, h1⟩, h2⟩, h3⟩, h4⟩, h5⟩ := h
      exact val_of (s_idx t o.un (pe_kb (main_E o a _ h4).1) (pe_kb (main_E o b _ h5).1) h3 (bare_base h1) h2) fun _ => rfl
    · cases h
  | c, X, W, o, .trg a, ex, h => by
    unfold chkE at h
    split at h
    · simp only [Bool.and_eq_true, decide_eq_true_eq] at h
      obtain ⟨⟨⟨⟨⟨rfl, h1⟩, rfl⟩, h2⟩, h3⟩, h4⟩ := h
      obtain ⟨g1, m1⟩ := blt_of o h1
      obtain ⟨g2, m2⟩ := blt_of o h2
      exact val_of (s_trg o.calm g1 m1 g2 m2 (pe_kb (main_E o a _ h4).1) h3) fun _ => rfl
    · cases h
  | c, X, W, o, .trd es, ex, h => by
    unfold chkE at h
    split at h
    · simp only [Bool.and_eq_true, decide_eq_true_eq] at h
      obtain ⟨⟨⟨⟨⟨⟨⟨rfl, h1⟩, rfl⟩, h2⟩, h3⟩, h4⟩, h5⟩, h6⟩ := h
      obtain ⟨g1, m1⟩ := blt_of o h1
      obtain ⟨g2, m2⟩ := blt_of o h2
      exact val_of (s_trd o.calm g1 m1 g2 m2 (main_L o es _ h6) h3 h4 h5) fun _ => rfl
    · cases h
  | c, X, W, o, .lrg a, ex, h => by
    unfold chkE at h
    split at h
    · simp only [Bool.and_eq_true, decide_eq_true_eq] at h
      obtain ⟨⟨⟨⟨⟨rfl, h1⟩, rfl⟩, h2⟩, h3⟩, h4⟩ := h
      obtain ⟨g1, m1⟩ := blt_of o h1
      obtain ⟨g2, m2⟩ := blt_of o h2
      exact val_of (s_lrg o.calm g1 m1 g2 m2 (pe_kb (main_E o a _ h4).1) h3) fun _ => rfl
    · cases h
  | c, X, W, o, .lc s t is d e, ex, h => by
    unfold chkE at h
    split at h
    · simp only [Bool.and_eq_true] at h
      obtain ⟨⟨⟨⟨⟨⟨h1, h2⟩, h3⟩, h4⟩, h5⟩, h6⟩, h7⟩ := h
      obtain ⟨pi, hf⟩ := main_S o s _ _ h1
      have ok := blkOk_by h2
      refine not_of (peI (pe_lc (g := gD X.prog X.w X.K CA t) (tt := tT X.prog X.w X.K CA W0 (denC T d)) (te := tD X.prog X.w X.K CA W0 .v (denE T e)) o.calm (by rw [o.N]; exact o.nd) pi (by rw [o.N, o.sc]; exact ok) (fun s H C cl fp => main_T (o.blk s H _ C cl fp) t _ h4) (fun s H C cl fp => main_C (o.blk s H _ C cl fp) d _ h5) (fun s H C cl fp => kv_of h7 (main_E (o.blk s H _ C cl fp) e _ h6).1) hf) fun σ H Q hq => ?_) rfl
      rw [ownOf_snd]
      exact t_lc (fun j hj => by simpa using List.all_eq_true.mp h3 j hj) hq
    · cases h
  | c, X, W, o, .lc2 s t is d s1 t1 d1 e, ex, h => by
    unfold chkE at h
    split at h
    · simp only [Bool.and_eq_true] at h
      obtain ⟨⟨⟨⟨⟨⟨⟨⟨⟨⟨h1, h2⟩, h3⟩, h3'⟩, h4⟩, h5⟩, h6⟩, h7⟩, h8⟩, h9⟩, h10⟩ := h
      obtain ⟨pi, hf⟩ := main_S o s _ _ h1
      have ok := blkOk_by h2
      refine not_of (peI (pe_lc2 (vs1 := t1.slots) (g := gD X.prog X.w X.K CA t) (tt := tT X.prog X.w X.K CA W0 (denC T d)) (wi1 := tI X.prog X.w X.K CA W0 (denS T s1)) (g1 := gD X.prog X.w X.K CA t1) (tt1 := tT X.prog X.w X.K CA W0 (denC T d1)) (te := tD X.prog X.w X.K CA W0 .v (denE T e)) o.calm (by rw [o.N]; exact o.nd) pi (by rw [o.N, o.sc]; exact ok) (fun j hj => by rw [ownOf_snd]; simpa using List.all_eq_true.mp h3' j hj) (fun s H C cl fp => main_T (o.blk s H _ C cl fp) t _ h4) (fun s H C cl fp => main_C (o.blk s H _ C cl fp) d _ h5)
        (fun s H C cl fp => (main_S (o.blk s H _ C cl fp) s1 _ _ h6).1) (fun s H C cl fp => main_T (o.blk s H _ C cl fp) t1 _ h7) (fun s H C cl fp => main_C (o.blk s H _ C cl fp) d1 _ h8) (fun s H C cl fp => kv_of h10 (main_E (o.blk s H _ C cl fp) e _ h9).1) hf (fold_S h6)) fun σ H Q hq => ?_) rfl
      rw [ownOf_snd]
      exact t_lc2 (fun j hj => by simpa using List.all_eq_true.mp h3 j hj) (fun j hj => hj) hq
    · cases h
theorem main_L : ∀ {c : Ck} {X : Cx} {W : WX}, Okx T c X CA W → ∀ (es : EL) (xs : List Expr), chkL c es xs = true → PA X xs (tL X.prog X.w X.K CA W (denL T es))
  | c, X, W, o, .nil, xs, h => by
    unfold chkL at h
    split at h
    · exact s_lnil
    · cases h
  | c, X, W, o, .cons e es, xs, h => by
    unfold chkL at h
    split at h
    · simp only [Bool.and_eq_true] at h
      exact s_lcons (kv_of h.1.1.2 (main_E o e _ h.1.1.1).1) (main_L o es _ h.2) h.1.2
    · cases h
theorem main_A : ∀ {c : Ck} {X : Cx} {W : WX}, Okx T c X CA W → ∀ (es : EL) (xs : List Expr) (pos : Pos), chkB c es xs = true → PE X (.BoolOp .And xs pos) (tD X.prog X.w X.K CA W .v (denA T es)) ∧ (tOks xs = true → PW X (.BoolOp .And xs pos) (tT X.prog X.w X.K CA W (cT (denA T es))))
  | c, X, W, o, .nil, xs, pos, h => by
    unfold chkB at h
    cases h
  | c, X, W, o, .cons e .nil, xs, pos, h => by
    unfold chkB at h
    split at h
    · simp only [Bool.and_eq_true] at h
      have q := main_E o e _ h.1
      exact ⟨pe_one (kv_of h.2 q.1), fun hx => s_and1 (q.2 (by simp only [tOks, Bool.and_eq_true] at hx; exact hx.1))⟩
    · cases h
  | c, X, W, o, .cons e (.cons e' es), xs, pos, h => by
    unfold chkB at h
    split at h
    · simp only [Bool.and_eq_true] at h
      have q := main_E o e _ h.1
      have q2 := main_A o (.cons e' es) _ pos h.2
      exact ⟨s_and q.1 q2.1, fun hx => by
        rw [tOks, Bool.and_eq_true] at hx
        exact s_tand (q.2 hx.1) (q2.2 hx.2)⟩
    · cases h
theorem main_O : ∀ {c : Ck} {X : Cx} {W : WX}, Okx T c X CA W → ∀ (es : EL) (xs : List Expr) (pos : Pos), chkB c es xs = true → PE X (.BoolOp .Or xs pos) (tD X.prog X.w X.K CA W .v (denO T es)) ∧ (tOks xs = true → PW X (.BoolOp .Or xs pos) (tT X.prog X.w X.K CA W (cT (denO T es))))
  | c, X, W, o, .nil, xs, pos, h => by
    unfold chkB at h
    cases h
  | c, X, W, o, .cons e .nil, xs, pos, h => by
    unfold chkB at h
    split at h
    · simp only [Bool.and_eq_true] at h
      have q := main_E o e _ h.1
      exact ⟨pe_one (kv_of h.2 q.1), fun hx => s_or1 (q.2 (by simp only [tOks, Bool.and_eq_true] at hx; exact hx.1))⟩
    · cases h
  | c, X, W, o, .cons e (.cons e' es), xs, pos, h => by
    unfold chkB at h
    split at h
    · simp only [Bool.and_eq_true] at h
      have q := main_E o e _ h.1
      have q2 := main_O o (.cons e' es) _ pos h.2
      exact ⟨s_or q.1 q2.1, fun hx => by
        rw [tOks, Bool.and_eq_true] at hx
        exact s_tor (q.2 hx.1) (q2.2 hx.2)⟩
    · cases h
theorem main_O1 : ∀ {c : Ck} {X : Cx} {W : WX}, Okx T c X CA W → ∀ (e : OE) (x : Option Expr), chkO c e x = true → PO X x (tO X.prog X.w X.K CA W (denO1 T e))
  | c, X, W, o, .none, x, h => by
    unfold chkO at h
    split at h
    · exact s_onone
    · cases h
  | c, X, W, o, .some e, x, h => by
    unfold chkO at h
    split at h
    · exact s_osome (main_E o e _ h).1
    · cases h
theorem main_C : ∀ {c : Ck} {X : Cx} {W : WX}, Okx T c X CA W → ∀ (e : OE) (xs : List Expr), chkC c e xs = true → PTs X xs (tT X.prog X.w X.K CA W (denC T e))
  | c, X, W, o, .none, x, h => by
    unfold chkC at h
    split at h
    · exact s_ptsNil
    · cases h
  | c, X, W, o, .some e, x, h => by
    unfold chkC at h
    split at h
    · simp only [Bool.and_eq_true] at h
      exact pts_one ((main_E o e _ h.1).2 h.2)
    · cases h
theorem main_S : ∀ {c : Ck} {X : Cx} {W : WX}, Okx T c X CA W → ∀ (s : SR) (tg x : Expr), chkS c s tg x = true → PI X tg x (tI X.prog X.w X.K CA W (denS T s)) ∧ ∀ u, foldedSetIterable x X.env u = pure u
  | c, X, W, o, .e a, tg, x, h => by
    have hf := fold_S h X.env
    unfold chkS at h
    simp only [Bool.and_eq_true] at h
    exact ⟨s_srcE (kv_of h.1.2 (main_E o a _ h.1.1).1), hf⟩
  | c, X, W, o, .r1 a, tg, x, h => by
    have hf := fold_S h X.env
    unfold chkS at h
    split at h
    · simp only [Bool.and_eq_true, decide_eq_true_eq] at h
      obtain ⟨⟨⟨rfl, h1⟩, h2⟩, h3⟩ := h
      obtain ⟨g1, m1⟩ := blt_of o h1
      exact ⟨s_srcR1 g1 m1 (pe_kb (main_E o a _ h3).1) h2, hf⟩
    · cases h
  | c, X, W, o, .r2 a b, tg, x, h => by
    have hf := fold_S h X.env
    unfold chkS at h
    split at h
    · simp only [Bool.and_eq_true, decide_eq_true_eq] at h
      obtain ⟨⟨⟨⟨⟨rfl, h1⟩, h2⟩, h3⟩, h4⟩, h5⟩ := h
      obtain ⟨g1, m1⟩ := blt_of o h1
      exact ⟨s_srcR2 g1 m1 (pe_kb (main_E o a _ h4).1) (pe_kb (main_E o b _ h5).1) h2 h3, hf⟩
    · cases h
  | c, X, W, o, .en a, tg, x, h => by
    have hf := fold_S h X.env
    unfold chkS at h
    split at h
    · simp only [Bool.and_eq_true, decide_eq_true_eq] at h
      obtain ⟨⟨⟨⟨⟨h0, rfl⟩, h1⟩, h2⟩, h3⟩, h4⟩ := h
      obtain ⟨g1, m1⟩ := blt_of o h1
      unfold isTupE at h0
      split at h0
      · exact ⟨s_srcEn g1 m1 (kv_of h4 (main_E o a _ h3).1) h2, hf⟩
      · cases h0
    · cases h
  | c, X, W, o, .zp a b, tg, x, h => by
    have hf := fold_S h X.env
    unfold chkS at h
    split at h
    · simp only [Bool.and_eq_true, decide_eq_true_eq] at h
      obtain ⟨⟨⟨⟨⟨⟨⟨⟨h0, rfl⟩, h1⟩, h2⟩, h3⟩, h4⟩, h5⟩, h6⟩, h7⟩ := h
      obtain ⟨g1, m1⟩ := blt_of o h1
      unfold isTupE at h0
      split at h0
      · exact ⟨s_srcZp g1 m1 (kv_of h6 (main_E o a _ h4).1) (kv_of h7 (main_E o b _ h5).1) h2 h3, hf⟩
      · cases h0
    · cases h
end
end
end Sn

set_option Elab.async false
set_option linter.all false
set_option maxRecDepth 100000
/-! layer 19: statements -/
namespace Sn
open PySem PySem.Spec PyProof.Rows L2
mutual
inductive SS where
  | pass | bk | ct | never | retN
  | ret (e : SE)
  | expr (e : SE)
  | asg (t : Tg) (e : SE)
  | own (i : Nat) (e : SE)
  | par (is : List Nat) (es : EL)
  | app (i : Nat) (e : SE)
  | setO (i : Nat) (b e : SE)
  | setS (a b e : SE)
  | swp (i : Nat) (a b : SE) (es : EL)
  | give (i : Nat)
  | if_ (c : SE) (a b : SL)
  | for_ (s : SR) (t : Tg) (b : SL)
  | while_ (n : Nat) (c : SE) (b : SL)
inductive SL where
  | nil
  | cons (s : SS) (ss : SL)
end
def EL.kf (T : Tb) : EL → List (Kd × CE)
  | .nil => []
  | .cons e es => (e.k, denE T e) :: es.kf T
def sErr : CS := fun _ _ => .err
section
variable (T : Tb)
mutual
def denS1 : SS → CS
  | .pass => sNx
  | .bk => sBk
  | .ct => sCt
  | .never => sErr
  | .retN => sRetN
  | .ret e => sRet (denE T e)
  | .expr e => sExpr (denE T e)
  | .asg t e => sAsg t (denE T e)
  | .own i e => sOwn i (denE T e)
  | .par is es => sPar is (es.kf T)
  | .app i e => sApp i (denE T e)
  | .setO i b e => sSetO i (denE T e) (denE T b)
  | .setS a b e => sSetS (denE T e) (denE T a) (denE T b)
  | .swp i a b es => sSwp i (denE T a) (denE T b) (es.kf T)
  | .give i => sGive i
  | .if_ c a b => sIf (cT (denE T c)) (denSs a) (denSs b)
  | .for_ s t b => sFor (denS T s) t (denSs b)
  | .while_ n c b => whileRun (cT (denE T c)) (denSs b) n
def denSs : SL → CS
  | .nil => sNx
  | .cons s ss => sSeq (denS1 s) (denSs ss)
end
end
def notLc : Expr → Bool
  | .ListComp _ _ _ _ => false
  | .SetComp _ _ _ _ => false
  | .DictComp _ _ _ _ _ => false
  | _ => true
def notTL : Expr → Bool
  | .Tuple _ _ _ => false
  | .List _ _ => false
  | _ => true
def notTup : Expr → Bool
  | .Tuple _ _ _ => false
  | _ => true
/-- the value's frame is swapped with the target's: a comprehension on the target's line -/
def swName (sc : Scope) (y : Str) (py : Pos) : Expr → Bool
  | .ListComp _ _ scope pos => isLocB (sc.names.lookup y) && decide (py.line = pos.line) && !(scope.names.any fun (n, k) => n == y && (k == .local || k == .cell))
  | _ => false
def noSw (sc : Scope) : Expr → Expr → Bool
  | .Name y py, x => (match x with | .ListComp _ _ _ _ => true | _ => false) && !swName sc y py x
  | _, _ => false
def nameB (sc : Scope) (line : Nat) : Expr → Bool
  | .Name x p => isLocB (sc.names.lookup x) && decide (p.line = line)
  | _ => false
def nameOf : Expr → Str
  | .Name x _ => x
  | _ => ""
def chkNs (c : Ck) : List Nat → List Expr → Bool
  | [], es => (match es with
    | [] => true
    | _ => false)
  | i :: is, es => (match es with
    | .Name x _ :: es => c.tg i x && chkNs c is es
    | _ => false)
def isLcS : SE → Bool
  | .lc _ _ _ _ _ => true
  | .lc2 _ _ _ _ _ _ _ _ => true
  | _ => false
def tsLine (ts : List Expr) : Nat := (ts.head?.map (·.pos.line)).getD 0
/-- rows of names that are stored from the right (two, three local names) -/
def swPar (sc : Scope) (ts vs : List Expr) : Bool := (ts.length == 2 || ts.length == 3) && vs.length == ts.length && ts.all (nameB sc (tsLine ts)) && decide ((ts.map nameOf).Nodup) && !(vs.all (foldedForSure 8)) && !(vs.all (constantsAlone 8))
def noPar (sc : Scope) (ts vs : List Expr) : Bool := !(ts.length == 2 || ts.length == 3) || vs.length != ts.length || !(ts.all (nameB sc (tsLine ts))) || vs.all (foldedForSure 8)
mutual
def chkS1 (c : Ck) : SS → Stmt → Bool
  | .pass, st => (match st with
    | .Pass _ => true
    | _ => false)
  | .bk, st => (match st with
    | .Break _ => true
    | _ => false)
  | .ct, st => (match st with
    | .Continue _ => true
    | _ => false)
  | .never, _ => true
  | .retN, st => (match st with
    | .Return none _ => true
    | _ => false)
  | .ret e, st => (match st with
    | .Return (some x) _ => chkE c e x && notB e.k
    | _ => false)
  | .expr e, st => (match st with
    | .Expr x _ => chkE c e x && notLc x
    | _ => false)
  | .asg t e, st => (match st with
    | .Assign [tg] x _ => chkE c e x && notB e.k && chkT c t tg && (notTL tg || notTup x) && (notLc x || !(match tg with | .Name _ _ => true | _ => false) || noSw c.sc tg x)
    | _ => false)
  | .own i e, st => (match st with
    | .Assign [.Name y py] x _ => chkE c e x && (match e.k with | .n => true | _ => false) && c.tg i y && (notLc x || noSw c.sc (.Name y py) x || (swName c.sc y py x && isLcS e))
    | _ => false)
  | .par is es, st => (match st with
    | .Assign [.Tuple ts _ _] (.Tuple xs _ _) _ => chkL c es xs && chkNs c is ts && (swPar c.sc ts xs || noPar c.sc ts xs)
    | _ => false)
  | .app i e, st => (match st with
    | .Expr (.Call (.Attribute (.Name x _) m apos) [a] [] cpos) _ => decide (m = ("append" : Str)) && c.nm i x && chkE c e a && notB e.k && notStar a && (apos.endLine == cpos.line)
    | _ => false)
  | .setO i b e, st => (match st with
    | .Assign [.Subscript (.Name x _) ib _] ex _ => c.nm i x && chkE c b ib && !isSlice ib && chkE c e ex && notB e.k && notLc ex
    | _ => false)
  | .setS a b e, st => (match st with
    | .Assign [.Subscript oa ib _] ex _ => chkE c a oa && chkE c b ib && !isSlice ib && chkE c e ex && notB e.k && notLc ex
    | _ => false)
  | .swp i a b es, st => (match st with
    | .Assign [.Tuple [.Subscript (.Name x px) ia p1, .Subscript (.Name y py) ib p2] _ _] (.Tuple xs _ _) _ => c.nm i x && c.nm i y && chkE c a ia && !isSlice ia && chkE c b ib && !isSlice ib && chkL c es xs && noPar c.sc [.Subscript (.Name x px) ia p1, .Subscript (.Name y py) ib p2] xs
    | _ => false)
  | .give _, _ => false
  | .if_ d a b, st => (match st with
    | .If x p q _ => chkE c d x && tOk x && chkSs c a p && chkSs c b q
    | _ => false)
  | .for_ s t b, st => (match st with
    | .For tg iter p [] _ => chkS c s tg iter && chkT c t tg && chkSs c b p
    | _ => false)
  | .while_ _ d b, st => (match st with
    | .While x p [] _ => chkE c d x && tOk x && chkSs c b p
    | _ => false)
def chkSs (c : Ck) : SL → List Stmt → Bool
  | .nil, sts => (match sts with
    | [] => true
    | _ => false)
  | .cons (.give _) ss, sts => chkSs c ss sts
  | .cons s ss, sts => (match sts with
    | st :: sts => chkS1 c s st && chkSs c ss sts
    | _ => false)
end
/-! ### how names in a row are stored -/
theorem blkKind {env : Env} (hk : env.scope.kind = .function) : env.blockKind = .function := by
  unfold Env.blockKind
  rw [hk]
  rfl
theorem nameB_inv {sc : Scope} {l : Nat} {e : Expr} (h : nameB sc l e = true) : ∃ x p, e = .Name x p ∧ sc.names.lookup x = some .local ∧ p.line = l := by
  unfold nameB at h
  split at h
  · simp only [Bool.and_eq_true, decide_eq_true_eq] at h
    exact ⟨_, _, rfl, isLoc_of h.1, h.2⟩
  · cases h
theorem star_any {vs : List Expr} (h : vs.all notStar = true) : (vs.any fun | .Starred .. => true | _ => false) = false := by
  induction vs with
  | nil => rfl
  | cons v vs ih =>
    rw [List.all_cons, Bool.and_eq_true] at h
    rw [List.any_cons, ih h.2, Bool.or_false]
    cases v <;> first | rfl | cases h.1
theorem swap2 {env : Env} {t1 t2 a b : Expr} {k m : Nat} {p q : Pos} (hk : env.scope.kind = .function) (h : swPar env.scope [t1, t2] [a, b] = true) (hs : [a, b].all notStar = true) :
    ∃ x px y py, t1 = .Name x px ∧ t2 = .Name y py ∧ env.scope.names.lookup x = some .local ∧ env.scope.names.lookup y = some .local ∧ x ≠ y ∧ swappedStores [.Tuple [t1, t2] k p] (.Tuple [a, b] m q) env = pure (some [x, y]) := by
  unfold swPar at h
  simp only [Bool.and_eq_true, List.all_cons, List.all_nil, decide_eq_true_eq, Bool.not_eq_true', Bool.and_true] at h
  obtain ⟨⟨⟨⟨_, h1, h2⟩, h3⟩, h4⟩, h5⟩ := h
  obtain ⟨x, px, rfl, e1, l1⟩ := nameB_inv h1
  obtain ⟨y, py, rfl, e2, l2⟩ := nameB_inv h2
  have hxy : x ≠ y := by simpa [nameOf] using h3
  refine ⟨x, px, y, py, rfl, rfl, e1, e2, hxy, ?_⟩
  have k1 : env.kindOf x = some .local := e1
  have k2 : env.kindOf y = some .local := e2
  have hb := blkKind hk
  have hl1 : px.line = px.line := rfl
  have hl2 : py.line = px.line := by rw [l2]; rfl
  have hyx : (y == x) = false := by simpa using Ne.symm hxy
  have hst := star_any hs
  unfold swappedStores
  simp only [hb, k1, k2, Expr.pos, hl2, List.length_cons, List.length_nil, List.head?_cons, Option.map_some, Option.getD_some, List.filterMap_cons, List.filterMap_nil, List.all_cons, List.all_nil, Bool.and_true, h4, h5]
  have hst' := hst
  simp only [List.any_cons, List.any_nil, Bool.or_false] at hst'
  obtain ⟨g1, g2⟩ := Bool.or_eq_false_iff.mp hst'
  simp [h4, h5, List.eraseDups, List.eraseDupsBy, List.eraseDupsBy.loop, hyx]
  intro g
  rcases g with g | g
  · have z : true = false := g.symm.trans g1
    cases z
  · have z : true = false := g.symm.trans g2
    cases z
theorem swap3 {env : Env} {t1 t2 t3 a b d : Expr} {k m : Nat} {p q : Pos} (hk : env.scope.kind = .function) (h : swPar env.scope [t1, t2, t3] [a, b, d] = true) (hs : [a, b, d].all notStar = true) :
    ∃ x px y py z pz, t1 = .Name x px ∧ t2 = .Name y py ∧ t3 = .Name z pz ∧ env.scope.names.lookup x = some .local ∧ env.scope.names.lookup y = some .local ∧ env.scope.names.lookup z = some .local ∧ x ≠ y ∧ x ≠ z ∧ y ≠ z ∧
      swappedStores [.Tuple [t1, t2, t3] k p] (.Tuple [a, b, d] m q) env = pure (some [x, y, z]) := by
  unfold swPar at h
  simp only [Bool.and_eq_true, List.all_cons, List.all_nil, decide_eq_true_eq, Bool.not_eq_true', Bool.and_true] at h
  obtain ⟨⟨⟨⟨_, h1, h2, h2'⟩, h3⟩, h4⟩, h5⟩ := h
  obtain ⟨x, px, rfl, e1, l1⟩ := nameB_inv h1
  obtain ⟨y, py, rfl, e2, l2⟩ := nameB_inv h2
  obtain ⟨z, pz, rfl, e3, l3⟩ := nameB_inv h2'
  have hn : (x ≠ y ∧ x ≠ z) ∧ y ≠ z := by simpa [nameOf] using h3
  obtain ⟨⟨hxy, hxz⟩, hyz⟩ := hn
  refine ⟨x, px, y, py, z, pz, rfl, rfl, rfl, e1, e2, e3, hxy, hxz, hyz, ?_⟩
  have k1 : env.kindOf x = some .local := e1
  have k2 : env.kindOf y = some .local := e2
  have k3 : env.kindOf z = some .local := e3
  have hb := blkKind hk
  have hl1 : px.line = px.line := rfl
  have hl2 : py.line = px.line := by rw [l2]; rfl
  have hl3 : pz.line = px.line := by rw [l3]; rfl
  have hyx : (y == x) = false := by simpa using Ne.symm hxy
  have hzx : (z == x) = false := by simpa using Ne.symm hxz
  have hzy : (z == y) = false := by simpa using Ne.symm hyz
  have hst := star_any hs
  unfold swappedStores
  simp only [hb, k1, k2, k3, Expr.pos, hl2, hl3, List.length_cons, List.length_nil, List.head?_cons, Option.map_some, Option.getD_some, List.filterMap_cons, List.filterMap_nil, List.all_cons, List.all_nil, Bool.and_true, h4, h5]
  have hst' := hst
  simp only [List.any_cons, List.any_nil, Bool.or_false] at hst'
  obtain ⟨g1, g2⟩ := Bool.or_eq_false_iff.mp hst'
  obtain ⟨g2, g3⟩ := Bool.or_eq_false_iff.mp g2
  simp [h4, h5, List.eraseDups, List.eraseDupsBy, List.eraseDupsBy.loop, hyx, hzx, hzy]
  intro g
  rcases g with g | g | g
  · have z : true = false := g.symm.trans g1
    cases z
  · have z : true = false := g.symm.trans g2
    cases z
  · have z : true = false := g.symm.trans g3
    cases z
theorem filter_short {sc : Scope} {env : Env} (hs : env.scope = sc) {l : Nat} : ∀ {ts : List Expr}, ts.all (nameB sc l) = false → (ts.filterMap fun
    | .Name id pos => if env.kindOf id == some .local && pos.line == l then some id else none
    | _ => none).length < ts.length := by
  intro ts
  induction ts with
  | nil => intro h; cases h
  | cons t ts ih =>
    intro h
    rw [List.all_cons] at h
    have le : (ts.filterMap fun
      | .Name id pos => if env.kindOf id == some .local && pos.line == l then some id else none
      | _ => none).length ≤ ts.length := List.length_filterMap_le _ _
    cases hn : nameB sc l t with
    | true =>
      rw [hn, Bool.true_and] at h
      have := ih h
      rw [List.filterMap_cons]
      split <;> simp only [List.length_cons] at * <;> omega
    | false =>
      rw [List.filterMap_cons]
      split
      · simp only [List.length_cons]; omega
      · exfalso
        rename_i b hb
        split at hb
        · split at hb
          · rename_i hc
            simp only [Bool.and_eq_true, beq_iff_eq] at hc
            unfold nameB at hn
            dsimp only at hn
            have e : sc.names.lookup ‹Str› = some NameKind.local := by rw [← hs]; exact hc.1
            rw [e] at hn
            rw [hc.2] at hn
            simp [isLocB] at hn
          · cases hb
        · cases hb
theorem noswap {env : Env} {ts vs : List Expr} {k m : Nat} {p q : Pos} (h : noPar env.scope ts vs = true) : swappedStores [.Tuple ts k p] (.Tuple vs m q) env = pure none := by
  unfold noPar at h
  simp only [Bool.or_eq_true, Bool.not_eq_true', bne_iff_ne] at h
  unfold swappedStores
  dsimp only
  split
  · rfl
  · rename_i h1
    split
    · rfl
    · split
      · rfl
      · rename_i h3
        split
        · rfl
        · rename_i h4
          exfalso
          rcases h with ((h | h) | h) | h
          · apply h1
            rw [h]
            rfl
          · apply h1
            have : (vs.length != ts.length) = true := by simpa using h
            rw [this]
            simp
          · have := filter_short (env := env) rfl h
            apply h3
            have e : ((ts.filterMap fun
              | .Name id pos => if env.kindOf id == some .local && pos.line == tsLine ts then some id else none
              | _ => none).length != ts.length) = true := by
              simp only [bne_iff_ne]
              omega
            rw [show tsLine ts = (ts.head?.map (·.pos.line)).getD 0 from rfl] at e
            rw [Bool.or_eq_true]
            exact .inl e
          · exact h4 h
theorem nosw1 {tg x : Expr} {env : Env} (h : (notTL tg || notTup x) = true) : swappedStores [tg] x env = pure none := by
  unfold swappedStores
  cases tg <;> first | rfl | (cases x <;> first | rfl | cases h)
theorem nosw2 {tg x : Expr} {l : Nat} {env : Env} (h : (notLc x || !(match tg with | .Name _ _ => true | _ => false)) = true) : swapsWithSole [tg] x l env = pure false := by
  unfold swapsWithSole swapsWith
  cases hx : notLc x with
  | true => cases x <;> first | rfl | cases hx
  | false =>
    rw [hx, Bool.false_or] at h
    cases tg <;> first | (cases h; done) | (cases x <;> rfl)

theorem nosw3 {tg x : Expr} {l : Nat} {env : Env} (hk : env.scope.kind = .function) (h : noSw env.scope tg x = true) : swapsWithSole [tg] x l env = pure false := by
  unfold noSw at h
  split at h
  · rename_i y py
    simp only [Bool.and_eq_true, Bool.not_eq_true'] at h
    obtain ⟨h1, h2⟩ := h
    split at h1
    · rename_i elt gs scope pos
      unfold swName at h2
      dsimp only at h2
      have hb := blkKind hk
      unfold swapsWithSole swapsWith
      simp only [hb]
      have e : (env.kindOf y == some .local && py.line == pos.line && !(scope.names.any fun (n, k) => n == y && (k == .local || k == .cell))) = false := by
        cases q : env.kindOf y == some NameKind.local with
        | false => rfl
        | true =>
          have q' : env.scope.names.lookup y = some .local := by simpa [Env.kindOf] using q
          rw [q'] at h2
          simp only [isLocB, Bool.true_and] at h2 ⊢
          rw [← h2]
          congr 1
      show pure ((ScopeKind.function == ScopeKind.function) && env.kindOf y == some .local && py.line == pos.line && !(scope.names.any fun (n, k) => n == y && (k == .local || k == .cell))) = pure false
      rw [show (ScopeKind.function == ScopeKind.function) = true from rfl, Bool.true_and, e]
    · cases h1
  · cases h
section
variable {T : Tb} {c : Ck} {X : Cx} {CA : Nat → Option Addr} {W : WX}
theorem main_K (o : Okx T c X CA W) : ∀ (es : EL) (xs : List Expr), chkL c es xs = true → PA X xs (tK X CA W (es.kf T)) ∧ xs.all notStar = true ∧ (es.kf T).length = xs.length
  | .nil, xs, h => by
    unfold chkL at h
    split at h
    · exact ⟨s_knil, rfl, rfl⟩
    · cases h
  | .cons e es, xs, h => by
    unfold chkL at h
    split at h
    · simp only [Bool.and_eq_true] at h
      obtain ⟨⟨⟨h1, h2⟩, h3⟩, h4⟩ := h
      obtain ⟨q1, q2, q3⟩ := main_K o es _ h4
      refine ⟨s_kcons (fun hk => by rw [hk] at h2; cases h2) (main_E o e _ h1).1 q1 h3, by rw [List.all_cons, h3, q2]; rfl, by rw [EL.kf, List.length_cons, q3, List.length_cons]⟩
    · cases h
theorem main_N (o : Okx T c X CA W) : ∀ (is : List Nat) (es : List Expr), chkNs c is es = true → PGs X es (gNames is) ∧ es.all notStar = true ∧ es.length = is.length
  | [], es, h => by
    unfold chkNs at h
    split at h
    · exact ⟨g_nnil, rfl, rfl⟩
    · cases h
  | i :: is, es, h => by
    unfold chkNs at h
    split at h
    · simp only [Bool.and_eq_true] at h
      obtain ⟨q1, q2, q3⟩ := main_N o is _ h.2
      exact ⟨g_ncons (pg_of o h.1) q1 (asg_map rfl), by rw [List.all_cons, q2]; rfl, by rw [List.length_cons, q3, List.length_cons]⟩
    · cases h
theorem tg_loc {i : Nat} {x : Str} (h : c.tg i x = true) : c.N[i]? = some x := by
  unfold Ck.tg at h
  simp only [Bool.and_eq_true, decide_eq_true_eq] at h
  exact h.1.1
theorem u_parAny (o : Okx T c X CA W) (hk : c.sc.kind = .function) {is : List Nat} {es : EL} {ts xs : List Expr} {n m : Nat} {p q pos : Pos} (h1 : chkL c es xs = true) (h2 : chkNs c is ts = true) (h3 : (swPar c.sc ts xs || noPar c.sc ts xs) = true) :
    PS X (.Assign [.Tuple ts n p] (.Tuple xs m q) pos) (tS X.prog X.w X.K CA W (sPar is (es.kf T))) := by
  obtain ⟨pa, hst, hl⟩ := main_K o es xs h1
  obtain ⟨pg, hst2, hl2⟩ := main_N o is ts h2
  have hkX : X.env.scope.kind = .function := by rw [o.sc]; exact hk
  have hNX : X.N.Nodup := by rw [o.N]; exact o.nd
  rw [Bool.or_eq_true] at h3
  rcases h3 with h3 | h3
  · have h0 := h3
    unfold swPar at h0
    simp only [Bool.and_eq_true, Bool.or_eq_true, beq_iff_eq] at h0
    obtain ⟨⟨⟨⟨⟨h5, h6⟩, _⟩, _⟩, _⟩, _⟩ := h0
    rw [← o.sc] at h3
    rcases h5 with h5 | h5
    · match ts, xs, h5, h6 with
      | [t1, t2], [a, b], _, _ =>
        obtain ⟨x, px, y, py, rfl, rfl, e1, e2, hxy, hw⟩ := swap2 (k := n) (m := m) (p := p) (q := q) hkX h3 hst
        match is, hl2 with
        | [i, j], _ =>
          unfold chkNs at h2
          unfold chkNs at h2
          simp only [Bool.and_eq_true] at h2
          have g1 := tg_loc h2.1
          have g2 := tg_loc h2.2.1
          refine u_par2 o.calm hNX (by rw [o.N]; exact g1) (by rw [o.N]; exact g2) (fun e => ?_) e1 e2 pa hw
          rw [e, g2] at g1
          cases g1
          exact hxy rfl
    · match ts, xs, h5, h6 with
      | [t1, t2, t3], [a, b, d], _, _ =>
        obtain ⟨x, px, y, py, z, pz, rfl, rfl, rfl, e1, e2, e3, hxy, hxz, hyz, hw⟩ := swap3 (k := n) (m := m) (p := p) (q := q) hkX h3 hst
        match is, hl2 with
        | [i, j, l], _ =>
          unfold chkNs at h2
          unfold chkNs at h2
          unfold chkNs at h2
          simp only [Bool.and_eq_true] at h2
          have g1 := tg_loc h2.1
          have g2 := tg_loc h2.2.1
          have g3 := tg_loc h2.2.2.1
          refine u_par3 o.calm hNX (by rw [o.N]; exact g1) (by rw [o.N]; exact g2) (by rw [o.N]; exact g3) (fun e => ?_) (fun e => ?_) (fun e => ?_) e1 e2 e3 pa hw
          · rw [e, g2] at g1
            cases g1
            exact hxy rfl
          · rw [e, g3] at g1
            cases g1
            exact hxz rfl
          · rw [e, g3] at g2
            cases g2
            exact hyz rfl
  · rw [← o.sc] at h3
    obtain ⟨q1, q2⟩ := asg_len (env := X.env) hst2
    exact u_parT o.calm pa pg (q1.trans hl2) q2 rfl (noswap h3) rfl
theorem u_ownLc (o : Okx T c X CA W) (hk : c.sc.kind = .function) {i : Nat} {e : SE} {y : Str} {py pos : Pos} {x : Expr} (h1 : chkE c e x = true) (h2 : c.tg i y = true) (h3 : swName c.sc y py x = true) (h4 : isLcS e = true) :
    PS X (.Assign [.Name y py] x pos) (tS X.prog X.w X.K CA W (sOwn i (denE T e))) := by
  have hkX : X.env.scope.kind = .function := by rw [o.sc]; exact hk
  have hNX : X.N.Nodup := by rw [o.N]; exact o.nd
  have hi : X.N[i]? = some y := by rw [o.N]; exact tg_loc h2
  unfold swName at h3
  split at h3
  · rename_i elt gs scope lpos
    simp only [Bool.and_eq_true, decide_eq_true_eq, Bool.not_eq_true'] at h3
    obtain ⟨⟨g1, g2⟩, g3⟩ := h3
    have hy : X.env.scope.names.lookup y = some .local := by rw [o.sc]; exact isLoc_of g1
    have hsw : swapsWith (.ListComp elt gs scope lpos) (some (.Name y py)) pos.line X.env = pure true := sw_true hkX hy (by rw [g2]; simp) g3
    unfold isLcS at h4
    split at h4
    · rename_i s t is d e
      unfold chkE at h1
      split at h1
      · rename_i hx
        cases hx
        simp only [Bool.and_eq_true] at h1
        obtain ⟨⟨⟨⟨⟨⟨h1, h2⟩, h3⟩, h4⟩, h5⟩, h6⟩, h7⟩ := h1
        obtain ⟨pi, hf⟩ := main_S o s _ _ h1
        have ok := blkOk_by h2
        refine psI (ps_setLc (i := i) (g := gD X.prog X.w X.K CA t) (tt := tT X.prog X.w X.K CA W0 (denC T d)) (te := tD X.prog X.w X.K CA W0 .v (denE T e)) o.calm hNX hi hy hsw pi (by rw [o.N, o.sc]; exact ok) (fun s H C cl fp => main_T (o.blk s H _ C cl fp) t _ h4) (fun s H C cl fp => main_C (o.blk s H _ C cl fp) d _ h5) (fun s H C cl fp => kv_of h7 (main_E (o.blk s H _ C cl fp) e _ h6).1) hf) fun D σ H hq => ?_
        rw [ownOf_snd]
        exact t_lc (fun j hj => by simpa using List.all_eq_true.mp h3 j hj) (u_own_t hq)
      · cases h1
    · rename_i s t is d s1 t1 d1 e
      unfold chkE at h1
      split at h1
      · rename_i hx
        cases hx
        simp only [Bool.and_eq_true] at h1
        obtain ⟨⟨⟨⟨⟨⟨⟨⟨⟨⟨h1, h2⟩, h3⟩, h3'⟩, h4⟩, h5⟩, h6⟩, h7⟩, h8⟩, h9⟩, h10⟩ := h1
        obtain ⟨pi, hf⟩ := main_S o s _ _ h1
        have ok := blkOk_by h2
        refine psI (ps_setLc2 (i := i) (vs1 := t1.slots) (g := gD X.prog X.w X.K CA t) (tt := tT X.prog X.w X.K CA W0 (denC T d)) (wi1 := tI X.prog X.w X.K CA W0 (denS T s1)) (g1 := gD X.prog X.w X.K CA t1) (tt1 := tT X.prog X.w X.K CA W0 (denC T d1)) (te := tD X.prog X.w X.K CA W0 .v (denE T e)) o.calm hNX hi hy hsw pi (by rw [o.N, o.sc]; exact ok)
          (fun j hj => by rw [ownOf_snd]; simpa using List.all_eq_true.mp h3' j hj) (fun s H C cl fp => main_T (o.blk s H _ C cl fp) t _ h4) (fun s H C cl fp => main_C (o.blk s H _ C cl fp) d _ h5)
          (fun s H C cl fp => (main_S (o.blk s H _ C cl fp) s1 _ _ h6).1) (fun s H C cl fp => main_T (o.blk s H _ C cl fp) t1 _ h7) (fun s H C cl fp => main_C (o.blk s H _ C cl fp) d1 _ h8) (fun s H C cl fp => kv_of h10 (main_E (o.blk s H _ C cl fp) e _ h9).1) hf (fold_S h6)) fun D σ H hq => ?_
        rw [ownOf_snd]
        exact t_lc2 (fun j hj => by simpa using List.all_eq_true.mp h3 j hj) (fun j hj => hj) (u_own_t hq)
      · cases h1
    · cases h4
  · cases h3
theorem sub_asg {a b : Expr} {p : Pos} {env : Env} (h : isSlice b = false) : ∀ v, assign (.Subscript a b p) env v = (do
      let ov ← holding [v] (eval a env)
      let iv ← holding [v, ov] (eval b env)
      standAt p
      holding [v, ov, iv] (setItem ov iv v)
      release [v, ov, iv] []) := by
  intro v
  cases b <;> first | rfl | cases h
mutual
theorem main_S1 (o : Okx T c X CA W) (hk : c.sc.kind = .function) (hp : PassesOwn (model X.prog X.w) X.A X.env X.xe) : ∀ (s : SS) (st : Stmt), chkS1 c s st = true → PS X st (tS X.prog X.w X.K CA W (denS1 T s))
  | .pass, st, h => by
    unfold chkS1 at h
    split at h
    · exact u_pass
    · cases h
  | .bk, st, h => by
    unfold chkS1 at h
    split at h
    · exact u_break
    · cases h
  | .ct, st, h => by
    unfold chkS1 at h
    split at h
    · exact u_cont
    · cases h
  | .never, st, h => psI ps_never fun D σ H ⟨H0, F, ρ, env, st, rel, q⟩ => q.elim
  | .retN, st, h => by
    unfold chkS1 at h
    split at h
    · exact u_retN
    · cases h
  | .ret e, st, h => by
    unfold chkS1 at h
    split at h
    · rw [Bool.and_eq_true] at h
      exact u_ret (kv_of h.2 (main_E o e _ h.1).1)
    · cases h
  | .expr e, st, h => by
    unfold chkS1 at h
    split at h
    · rw [Bool.and_eq_true] at h
      rename_i x pos
      refine u_expr (main_E o e _ h.1).1 ?_
      have h2 := h.2
      cases x <;> first | rfl | cases h2
    · cases h
  | .asg t e, st, h => by
    unfold chkS1 at h
    split at h
    · simp only [Bool.and_eq_true] at h
      obtain ⟨⟨⟨⟨h1, h2⟩, h3⟩, h4⟩, h5⟩ := h
      have pg := main_T o t _ h3
      refine u_asg (kv_of h2 (main_E o e _ h1).1) pg ?_ (nosw1 h4) ?_
      · rw [Bool.or_eq_true] at h5
        rcases h5 with h5 | h5
        · exact nosw2 h5
        · exact nosw3 (by rw [o.sc]; exact hk) (by rw [o.sc]; exact h5)
      cases t with
      | nm i =>
        unfold chkT at h3
        split at h3
        · rfl
        · cases h3
      | tp ts =>
        unfold chkT at h3
        split at h3
        · rfl
        · cases h3
    · cases h
  | .own i e, st, h => by
    unfold chkS1 at h
    split at h
    · simp only [Bool.and_eq_true, Bool.or_eq_true] at h
      obtain ⟨⟨⟨h1, h2⟩, h3⟩, h4⟩ := h
      have hkn : e.k = .n := by
        split at h2
        · assumption
        · cases h2
      rcases h4 with (h4 | h4) | h4
      · have q := (main_E o e _ h1).1
        rw [hkn] at q
        exact u_own q (pg_of o h3) (nosw2 (by rw [h4]; rfl)) (nosw1 rfl) rfl
      · have q := (main_E o e _ h1).1
        rw [hkn] at q
        exact u_own q (pg_of o h3) (nosw3 (by rw [o.sc]; exact hk) (by rw [o.sc]; exact h4)) (nosw1 rfl) rfl
      · exact u_ownLc o hk h1 h3 h4.1 h4.2
    · cases h
  | .par is es, st, h => by
    unfold chkS1 at h
    split at h
    · simp only [Bool.and_eq_true] at h
      exact u_parAny o hk h.1.1 h.1.2 h.2
    · cases h
  | .app i e, st, h => by
    unfold chkS1 at h
    split at h
    · simp only [Bool.and_eq_true, decide_eq_true_eq] at h
      obtain ⟨⟨⟨⟨⟨rfl, h1⟩, h2⟩, h3⟩, h4⟩, h5⟩ := h
      exact u_app (pv_of o h1) (kv_of h3 (main_E o e _ h2).1) h4 h5
    · cases h
  | .swp i a b es, st, h => by
    unfold chkS1 at h
    split at h
    · simp only [Bool.and_eq_true, Bool.not_eq_true'] at h
      obtain ⟨⟨⟨⟨⟨⟨⟨h1, h2⟩, h3⟩, h4⟩, h5⟩, h6⟩, h7⟩, h8⟩ := h
      rw [← o.sc] at h8
      exact u_swp o.calm (pv_of o h1) (pv_of o h2) (pe_kb (main_E o a _ h3).1) (pe_kb (main_E o b _ h5).1) (main_K o es _ h7).1 (sub_asg h4) (sub_asg h6) (asg_map rfl) (asg_map rfl) (asg_len (by rfl)).1 (asg_len (by rfl)).2 rfl (noswap h8) rfl
    · cases h
  | .setO i b e, st, h => by
    unfold chkS1 at h
    split at h
    · simp only [Bool.and_eq_true, Bool.not_eq_true'] at h
      obtain ⟨⟨⟨⟨⟨h1, h2⟩, h3⟩, h4⟩, h5⟩, h6⟩ := h
      exact u_setO (pv_of o h1) (pe_kb (main_E o b _ h2).1) (kv_of h5 (main_E o e _ h4).1) (nosw2 (by rw [h6]; rfl)) (nosw1 rfl) (sub_asg h3) rfl
    · cases h
  | .setS a b e, st, h => by
    unfold chkS1 at h
    split at h
    · simp only [Bool.and_eq_true, Bool.not_eq_true'] at h
      obtain ⟨⟨⟨⟨⟨h1, h2⟩, h3⟩, h4⟩, h5⟩, h6⟩ := h
      exact u_setS (pe_kb (main_E o a _ h1).1) (pe_kb (main_E o b _ h2).1) (kv_of h5 (main_E o e _ h4).1) (nosw2 (by rw [h6]; rfl)) (nosw1 rfl) (sub_asg h3) rfl
    · cases h
  | .give i, st, h => by
    unfold chkS1 at h
    cases h
  | .if_ d a b, st, h => by
    unfold chkS1 at h
    split at h
    · simp only [Bool.and_eq_true] at h
      obtain ⟨⟨⟨h1, h2⟩, h3⟩, h4⟩ := h
      exact u_if ((main_E o d _ h1).2 h2) (main_Ss o hk hp a _ h3) (main_Ss o hk hp b _ h4)
    · cases h
  | .for_ s t b, st, h => by
    unfold chkS1 at h
    split at h
    · simp only [Bool.and_eq_true] at h
      obtain ⟨⟨h1, h2⟩, h3⟩ := h
      obtain ⟨pi, hf⟩ := main_S o s _ _ h1
      exact u_for hp o.calm pi (main_T o t _ h2) (main_Ss o hk hp b _ h3) hf
    · cases h
  | .while_ n d b, st, h => by
    unfold chkS1 at h
    split at h
    · simp only [Bool.and_eq_true] at h
      obtain ⟨⟨h1, h2⟩, h3⟩ := h
      exact u_while hp ((main_E o d _ h1).2 h2) (main_Ss o hk hp b _ h3)
    · cases h
theorem main_Ss (o : Okx T c X CA W) (hk : c.sc.kind = .function) (hp : PassesOwn (model X.prog X.w) X.A X.env X.xe) : ∀ (ss : SL) (sts : List Stmt), chkSs c ss sts = true → PSs X sts (tS X.prog X.w X.K CA W (denSs T ss))
  | .nil, sts, h => by
    unfold chkSs at h
    split at h
    · exact u_nil
    · cases h
  | .cons s ss, sts, h => by
    cases s with
    | give i =>
      unfold chkSs at h
      exact u_give (main_Ss o hk hp ss sts h)
    | _ =>
      unfold chkSs at h
      split at h
      · rw [Bool.and_eq_true] at h
        exact u_cons (main_S1 o hk hp _ _ h.1) (main_Ss o hk hp ss _ h.2)
      · cases h
end
end
end Sn

set_option Elab.async false
set_option linter.all false
set_option maxRecDepth 100000
/-! layer 20: the defs of a program keep their promises, by levels of calls -/
namespace Sn
open PySem PySem.Spec PyProof.Rows L2
/-- a def: how many parameters, how many names, its body -/
structure FD where
  np : Nat
  nn : Nat
  body : SL
def startE (nn : Nat) (ds : List D) : En := ds.map (fun d => some (.val d)) ++ List.replicate (nn - ds.length) none
def endR : RS → R (D × Store)
  | .ok .nx _ st => .ok (.non, st)
  | .ok (.rt d) _ st => .ok (d, st)
  | .exc x _ st => .exc x st
  | _ => .err
def runBody (T : Tb) (d : FD) (ds : List D) (st : Store) : R (D × Store) := if ds.length = d.np then endR (denSs T d.body (startE d.nn ds) st) else .err
/-- the calls, k deep -/
def callN (fs : List FD) (gl : Nat → Option D) : Nat → Nat → List D → Store → R (D × Store)
  | 0, _ => fun _ _ => .err
  | k + 1, f => match fs[f]? with
    | some d => runBody ⟨callN fs gl k, gl⟩ d
    | none => fun _ _ => .err
section
variable {P : Program} {w : World} {K : PySem.W.Frag} {CA : Nat → Option Addr}
variable {F : Addr → Prop} {ρ : List Addr} {H : Hp} {vs : List V} {ds : List D} {st : Store}
theorem Rel.start {N : List Str} (s : StRel P w K CA F ρ st H) (r : Reps P w K F ρ H vs ds) (hl : ds.length ≤ N.length) : Rel P w K CA H F ρ (startE N.length ds) st (L2.start N vs) H := by
  have e := r.length
  refine ⟨s, ?_, fun a o h => ⟨o, h⟩, fun i d h => ?_, fun i d h => ?_, fun i j d e a h => ?_⟩
  · unfold startE L2.start
    simp only [List.length_append, List.length_map, List.length_replicate]
    omega
  · unfold startE at h
    unfold L2.start
    rw [List.getElem?_append] at h ⊢
    simp only [List.length_map] at h ⊢
    split at h
    · rename_i hi
      rw [if_pos (by omega)]
      rw [List.getElem?_map] at h ⊢
      cases q : ds[i]? with
      | none => rw [q] at h; cases h
      | some d' =>
        rw [q] at h
        cases h
        obtain ⟨v, e1, e2⟩ := r.get q
        exact ⟨v, by rw [e1]; rfl, e2⟩
    · rw [List.getElem?_replicate] at h
      split at h <;> cases h
  all_goals
    exfalso
    unfold startE at h
    rw [List.getElem?_append] at h
    split at h
    · rw [List.getElem?_map] at h
      cases q : ds[i]? with
      | none => rw [q] at h; cases h
      | some d' => rw [q] at h; cases h
    · rw [List.getElem?_replicate] at h
      split at h <;> cases h
end
section
variable {P : Program} {w : World} {K : PySem.W.Frag} {mg : Str → Option Value} {base : Heap} {CA : Nat → Option Addr}
/-- what holds behind a body holds behind its call -/
theorem AfterC.body {Q : VK} {E : XK} {F : Addr → Prop} {ρ : List Addr} {H : Hp} {r : RS} (h : AfterC P w K CA Q E F ρ H (endR r)) : AfterS P w K CA (fun c d _ H => E c d H) { nx := fun _ H' => Q .non H', rt := Q } H F ρ H r := by
  cases r with
  | err => exact h
  | exc x env st => exact fun c dx σ' H' F' ρ' s r k => h c dx H' F' ρ' s.ext r.toStRel k
  | ok fl env st => cases fl with
    | nx => exact fun σ' H' F' ρ' s r => h .non H' F' ρ' s.ext r.toStRel .non
    | bk => exact h.elim
    | ct => exact h.elim
    | rt d => exact fun v H' F' ρ' s r k => h v H' F' ρ' s.ext r k
/-- a def's promise by its body -/
theorem fn_G {k : Nat} {f : Addr} {x qual : Str} {params : Arguments} {body : List Stmt} {scope : Scope} {kws : List (Str × V)} {fd : FuncData} {N ps : List Str} {d : FD} {T : Tb} {c : Ck}
    (fu : FunD K x qual params body scope [] kws f fd) (S : FnScope N ps scope) (hb : ∀ (s : Shared) (us : List Value), us.length = ps.length → BindsTo s fd ⟨us, []⟩ (ps.zip us)) (hnp : d.np = ps.length) (hnn : d.nn = N.length)
    (hk : c.sc.kind = .function) (hchk : chkSs c d.body body = true)
    (ok : ∀ (cdv : Value) (A : Around) (outer : List Env) (s : Shared) (H : Hp) (E : XK), Room k (A.deeper (envOfC qual scope s.heap.objs.size f cdv)) → A.guards = some [] → Okx T c (cxOf (L2.CX P w) P w K mg base N qual scope f cdv A outer s H E) CA (fun c d _ H => E c d H)) :
    FnG P w K mg base (k + 1) f (spD P w K CA (runBody T d)) := by
  intro A outer s H us vs Q E room gu env0 rel promise
  obtain ⟨F, ρ, st, ds, srel, reps, after⟩ := promise
  unfold runBody at after
  split at after
  case isFalse => exact after.elim
  rename_i hlen
  obtain ⟨oc, od, dV, kV, doc, pm, an, cdv, ct, osl, efd, lk, hcd, _⟩ := fu.ex
  have nvs : vs.length = ps.length := by rw [reps.length, hlen, hnp]
  have nus : us.length = ps.length := by rw [← rel.length, nvs]
  have inK : K.In s.heap := env0.mod.kin.keeps fun b o e => (env0.bs b o e).1
  have roomB := room.deeper (envOfC qual scope s.heap.objs.size f cdv)
  have okB := ok cdv A outer s H E roomB gu
  have run := main_Ss okB hk (passes_of rfl) d.body body hchk
  have hpl : ps.length ≤ N.length := by
    have := congrArg List.length S.pre
    rw [List.length_take] at this
    omega
  have rd : tS P w K CA (fun c d _ H => E c d H) (denSs T d.body) { nx := fun _ H' => Q .non H', rt := Q } (L2.start N vs) H :=
    ⟨H, F, ρ, startE d.nn ds, st, by rw [hnn]; exact Rel.start srel reps (by omega), AfterC.body after⟩
  have bd := hb s us nus
  subst efd
  have kinds : ∀ y ∈ ps.zip us, scope.names.lookup y.1 = some .local ∨ (scope.names.lookup y.1 = some .cell ∧ ((cellsFrom (s.heap.objs.size + 1) scope.names []).lookup y.1).isSome = true) := by
    rintro ⟨n, v⟩ hy
    refine (S.par n (List.of_mem_zip hy).1).imp id fun hc => ⟨hc, ?_⟩
    exact PySem.W.cellsFrom_some _ _ _ (.inl hc)
  refine codeAny_call_function room.depth (inK _ _ lk) rfl S.co S.gen rfl (PySem.W.codeRec_of inK hcd) (bd _ _ _ _ (wpAny_newFunctionEnv_cells S.kind kinds ?_))
  rintro env rfl s1 made
  have noLim := env0.mod.nolimit.keeps fun b o e => (env0.bs b o e).1
  refine ⟨noLim.keeps made.toInCall.keep, codeAny_func ?_⟩
  have inv := inv_start (CX := L2.CX P w) (E := E) S room.hd env0 nvs rel made
  refine wpAny_mono (run.run [] s1 (L2.start N vs) H _ inv rd) (fun fl s' got => ?_) fun e s' got => got
  match fl, got with
  | .ret u, ⟨v, σ', H', J, rv, q⟩ => exact ⟨v, H', J.os, J.bare, J.base, J.hok, rv, q⟩
  | .next, ⟨σ', H', J, q⟩ => exact ⟨.non, H', J.os, J.bare, J.base, J.hok, rfl, q⟩
  | .brk, ⟨_, _, _, q⟩ => exact q.elim
  | .cont, ⟨_, _, _, q⟩ => exact q.elim
end
end Sn

set_option Elab.async false
set_option linter.all false
set_option maxRecDepth 100000
/-! layer 21: tables of defs; the law's end -/
namespace Sn
open PySem PySem.Spec PyProof.Rows L2
def plainP (p : Arguments) (ps : List Str) : Bool := p.posonlyargs.isEmpty && decide (p.args.map (·.arg) = ps) && p.vararg.isNone && p.kwonlyargs.isEmpty && p.kwarg.isNone && p.defaults.isEmpty && p.kw_defaults.isEmpty
theorem lookup_zip {α : Type} : ∀ {ps : List Str} {us : List α}, ps.length = us.length → ∀ n ∈ ps, ((ps.zip us).lookup n).isSome = true
  | [], _, _, n, h => by cases h
  | p :: ps, u :: us, hl, n, h => by
    rw [List.zip_cons_cons, List.lookup_cons]
    cases e : n == p with
    | true => rfl
    | false =>
      have hn : n ≠ p := by simpa using e
      rcases List.mem_cons.mp h with h | h
      · exact absurd h hn
      · exact lookup_zip (by simpa using hl) n h
theorem fm_congr {α β : Type} {f g : α → Option β} : ∀ {l : List α}, (∀ n ∈ l, f n = g n) → l.filterMap f = l.filterMap g
  | [], _ => rfl
  | a :: l, h => by
    rw [List.filterMap_cons, List.filterMap_cons, h a List.mem_cons_self, fm_congr fun n hn => h n (List.mem_cons_of_mem _ hn)]
theorem filterMap_zip {α : Type} : ∀ {ps : List Str} {us : List α}, ps.length = us.length → ps.Nodup → (ps.filterMap fun n => ((ps.zip us).lookup n).map (n, ·)) = ps.zip us
  | [], _, _, _ => rfl
  | p :: ps, u :: us, hl, hn => by
    rw [List.nodup_cons] at hn
    have ih := filterMap_zip (us := us) (by simpa using hl) hn.2
    have e : (ps.filterMap fun n => (((p, u) :: ps.zip us).lookup n).map (n, ·)) = (ps.filterMap fun n => ((ps.zip us).lookup n).map (n, ·)) := by
      refine fm_congr fun n hm => ?_
      have : (n == p) = false := by
        have : n ≠ p := fun e => hn.1 (e ▸ hm)
        simpa using this
      rw [List.lookup_cons, this]
    rw [List.zip_cons_cons, List.filterMap_cons, List.lookup_cons, beq_self_eq_true, e, ih]
    rfl
theorem bind_plain {fd : FuncData} {ps : List Str} (hp : plainP fd.params ps = true) (hd : fd.defaults = .none) (hn : ps.Nodup) {us : List Value} (hl : us.length = ps.length) : bindArgs fd ⟨us, []⟩ = pure (ps.zip us) := by
  unfold plainP at hp
  simp only [Bool.and_eq_true, List.isEmpty_iff, decide_eq_true_eq, Option.isNone_iff_eq_none] at hp
  obtain ⟨⟨⟨⟨⟨⟨h1, h2⟩, h3⟩, h4⟩, h5⟩, h6⟩, h7⟩ := hp
  unfold bindArgs
  have hm : List.filter (fun n => (List.lookup n (ps.zip us)).isNone) ps = [] := by
    rw [List.filter_eq_nil_iff]
    intro n hm
    have := lookup_zip (us := us) hl.symm n hm
    cases e : List.lookup n (ps.zip us) with
    | none => rw [e] at this; cases this
    | some _ => simp
  have hz := filterMap_zip (us := us) hl.symm hn
  have hs : notAStandIn Value.none = pure () := rfl
  simp [h1, h2, h3, h4, h5, hd, seqItems?, hl, hm, hz, hs]

/-- a def of the text: its name, its place at the top, its names, its parameters, its body -/
structure FT where
  name : Str
  at_ : Nat
  N : List Str
  ps : List Str
  body : SL
def FT.fd (t : FT) : FD := ⟨t.ps.length, t.N.length, t.body⟩
def nilSt : Stmt := .Pass ⟨0, 0, 0, 0⟩
def scopeB (N ps : List Str) (sc : Scope) : Bool := decide (sc.kind = .function) && !sc.isCoroutine && !sc.isGenerator && decide N.Nodup && decide (N.take ps.length = ps) && ps.all (fun x => locB (sc.names.lookup x)) && sc.names.all fun y => decide (y.2 ≠ .free)
theorem scopeB_ok {N ps : List Str} {sc : Scope} (h : scopeB N ps sc = true) : FnScope N ps sc := by
  unfold scopeB at h
  simp only [Bool.and_eq_true, decide_eq_true_eq, Bool.not_eq_true', List.all_eq_true] at h
  obtain ⟨⟨⟨⟨⟨⟨h1, h2⟩, h3⟩, h4⟩, h5⟩, h6⟩, h7⟩ := h
  exact ⟨h1, h2, h3, h4, h5, fun x hx => loc_of (h6 x hx), h7⟩
def tabB (Fs : List FT) (G B : List Str) (top : List Stmt) : Bool :=
  Fs.all fun t => scopeB t.N t.ps (defScope (top.getD t.at_ nilSt)) && plainP (defArgs (top.getD t.at_ nilSt)) t.ps && chkSs ⟨t.N, defScope (top.getD t.at_ nilSt), fun _ => true, Fs.map (fun u => (u.name, u.ps.length)), G, B⟩ t.body (defBody (top.getD t.at_ nilSt))
section
variable {P : Program} {w : World} {K : PySem.W.Frag} {mg : Str → Option Value} {base : Heap} {CA : Nat → Option Addr} {Fs : List FT} {G B : List Str} {top : List Stmt} {gl : Nat → Option D}
theorem all_G (hB : ∀ x ∈ B, mg x = none) (hG : ∀ (k : Nat) x, G[k]? = some x → ∃ u v d, mg x = some u ∧ RelV v u ∧ gl k = some d ∧ ∀ F ρ H, Rep P w K F ρ H v d)
    (hF : ∀ (f : Nat) t, Fs[f]? = some t → ∃ a fd, mg t.name = some (.ref a) ∧ FunD K t.name t.name (defArgs (top.getD t.at_ nilSt)) (defBody (top.getD t.at_ nilSt)) (defScope (top.getD t.at_ nilSt)) [] [] a fd)
    (hT : tabB Fs G B top = true) : ∀ (k f : Nat) (t : FT) (a : Addr), Fs[f]? = some t → mg t.name = some (.ref a) → FnG P w K mg base k a (spD P w K CA (callN (Fs.map FT.fd) gl k f)) := by
  intro k
  induction k with
  | zero =>
    intro f t a _ _ A outer s H us vs Q E _ _ _ _ ⟨F, ρ, st, ds, _, _, z⟩
    exact z.elim
  | succ k ih =>
    intro f t a ht ha
    obtain ⟨a', fd, e1, fu⟩ := hF f t ht
    rw [ha] at e1
    cases e1
    have hc := List.all_eq_true.mp hT t (List.mem_of_getElem? ht)
    simp only [Bool.and_eq_true] at hc
    obtain ⟨⟨c1, c2⟩, c3⟩ := hc
    have S := scopeB_ok c1
    have hd : (Fs.map FT.fd)[f]? = some t.fd := by rw [List.getElem?_map, ht]; rfl
    have ndp : t.ps.Nodup := by
      rw [← S.pre]
      exact S.nd.sublist (List.take_sublist _ _)
    have e : callN (Fs.map FT.fd) gl (k + 1) f = runBody ⟨callN (Fs.map FT.fd) gl k, gl⟩ t.fd := by
      rw [callN, hd]
    rw [e]
    refine fn_G (c := ⟨t.N, defScope (top.getD t.at_ nilSt), fun _ => true, Fs.map (fun u => (u.name, u.ps.length)), G, B⟩) fu S (fun s us hl => ?_) rfl rfl S.kind c3 fun cdv A outer s H E room gu => ?_
    · exact fu.bindsA (fun kV doc pm an cdv ct us hl => bind_plain (show plainP (defArgs (top.getD t.at_ nilSt)) t.ps = true from c2) rfl ndp hl) s us hl
    · refine ⟨rfl, S.nd, rfl, rfl, rfl, takes_of rfl rfl rfl rfl, hB, hG, fun f' p hp => ?_, gu, ?_⟩
      · have hp' : (Fs.map (fun u => (u.name, u.ps.length)))[f']? = some p := hp
        rw [List.getElem?_map] at hp'
        cases q : Fs[f']? with
        | none => rw [q] at hp'; cases hp'
        | some t' =>
          rw [q] at hp'
          cases hp'
          obtain ⟨a2, fd2, e2, fu2⟩ := hF f' t' q
          exact ⟨k, a2, e2, fu2.kp, room, ih f' t' a2 q e2⟩
      · have := room.un
        show (A.deeper _).units + 200 < cLine
        omega
end
/-! ### the law's end -/
section
/-- the script, as data -/
def scrD (ns : List Int) : D := .scr (ns.map D.int)
theorem reps_ints {P : Program} {w : World} {K : PySem.W.Frag} {F : Addr → Prop} {ρ : List Addr} {H : Hp} : ∀ ns : List Int, Reps P w K F ρ H (ns.map V.int) (ns.map D.int)
  | [] => .nil
  | n :: ns => .cons (.int n) (reps_ints ns)
/-- from the promise of the law's def to what the row asks -/
theorem law_end {P : Program} {w : World} {K : PySem.W.Frag} {mg mb : Str → Option Value} {k : Nat} {fa a : Addr} {s₁ : Shared} {vs : List Value} {ns : List Int} {CA : Nat → Option Addr} {φ : List D → Store → R (D × Store)} {st' : Store}
    (inK : K.In s₁.heap) (glo : s₁.heap.Ns mainGlobals mg) (bns : s₁.heap.Ns builtinsNs mb) (boot : ∀ x : Str, x ≠ "__name__" → mb x = bootBuiltins x) (lim : s₁.heap.NoLimit) (noGen : s₁.gens = #[])
    (obj : s₁.heap.get? a = some { cls := .type "list", data := .seq vs.toArray }) (whl : IntsAre vs ns) (few : ns.length ≤ sizeLine) (room : Room k callerA)
    (T : ∀ base : Heap, K.In base → base.Ns mainGlobals mg → FnG P w K mg base k fa (spD P w K CA φ)) (true_ : φ [scrD ns] [] = .ok (.bl true, st')) :
    codeAny (model P w) callerA (.call (.ref fa) ⟨[.ref a], []⟩) (fun r s' => r = .ok (.ret (.bool true)) ∧ OldK s₁.heap s'.heap ∧ s'.os = s₁.os ∧ AllBare s'.gens) s₁ := by
  have vv := vals_ints whl
  have lenVs := whl.length
  have sz : vs.toArray.size ≤ sizeLine := by rw [List.size_toArray, lenVs]; exact few
  -- the heap in which at most the script is told of
  suffices go : ∀ H : Hp, ScrAt K H a (ns.map V.int) → HOk P w H s₁.heap → (∀ b, H b ≠ none → b = a ∧ K.lookup b = none ∧ ∃ ob xs, H b = some (.frz ob xs)) →
      codeAny (model P w) callerA (.call (.ref fa) ⟨[.ref a], []⟩) (fun r s' => r = .ok (.ret (.bool true)) ∧ OldK s₁.heap s'.heap ∧ s'.os = s₁.os ∧ AllBare s'.gens) s₁ by
    cases inMod : K.lookup a with
    | some o =>
      have same := inK a o inMod
      rw [obj] at same
      cases same
      exact go (fun _ => none) (.inr ⟨_, vs.toArray, _, inMod, rfl, rfl, rfl, sz, by simpa using vv⟩) (fun _ _ z => nomatch z) fun _ z => absurd rfl z
    | none =>
      obtain ⟨T1, eT⟩ : ∃ T1 : Hp, T1 = fun b => if b = a then some (HO.frz { cls := .type "list", data := .seq vs.toArray } (.lst (ns.map V.int))) else none := ⟨_, rfl⟩
      have at_a : T1 a = some (.frz { cls := .type "list", data := .seq vs.toArray } (.lst (ns.map V.int))) := by rw [eT]; exact if_pos rfl
      have off : ∀ b u, T1 b = some u → b = a := fun b u z => by
        by_cases e : b = a
        · exact e
        · rw [eT] at z
          dsimp only at z
          rw [if_neg e] at z
          cases z
      refine go T1 (.inl ⟨_, at_a⟩) (fun b u z => ?_) fun b z => ?_
      · obtain rfl := off b u z
        rw [at_a] at z
        cases z
        exact ⟨obj, by rw [List.length_map]; exact few, vs, _, vv, obj⟩
      · cases q : T1 b with
        | none => exact absurd q z
        | some u =>
          obtain rfl := off b u q
          exact ⟨rfl, inMod, _, _, q.symm.trans at_a⟩
  intro H scr hok only
  have untold : ∀ {b : Addr} {o : Obj}, K.lookup b = some o ∨ (∃ es ep, s₁.heap.get? b = some o ∧ o.data = .dict es ep) → H b = none := by
    intro b o h
    cases q : H b with
    | none => rfl
    | some u =>
      obtain ⟨rfl, kn, _⟩ := only b (by rw [q]; exact fun z => nomatch z)
      rcases h with h | ⟨es, ep, h, d⟩
      · rw [kn] at h
        cases h
      · rw [obj] at h
        cases h
        cases d
  have keepNs : ∀ {b : Addr} {m : Str → Option Value}, s₁.heap.Ns b m → (hidT s₁.heap H).Ns b m := fun ⟨o, es, ep, e, d, r⟩ => ⟨o, es, ep, hidT_get e (untold (.inr ⟨es, ep, e, d⟩)), d, r⟩
  have inB : K.In (hidT s₁.heap H) := fun b o e => hidT_get (inK b o e) (untold (.inl e))
  have mod : Mod K mg (hidT s₁.heap H) := by
    obtain ⟨ml, l1, l2⟩ := lim
    exact ⟨inB, keepNs glo, ⟨mb, keepNs bns, boot⟩, ml, keepNs l1, l2⟩
  have noFr : ∀ b, b ∉ frs ([] : List Env) := fun b z => by cases z
  have start : Env0 P w K mg (hidT s₁.heap H) callerA [] s₁ H := ⟨rfl, mod, fun b o e => of_hidT e, Nat.le_of_eq (hidT_size _ _), trivial, fun b z => absurd z (noFr b), hok, .of_eq noGen⟩
  have promise : spD P w K CA φ [.ref a] H (fun v _ => v = .bl true) fun _ _ _ => False := by
    refine ⟨fun _ => False, [], [], [scrD ns], ⟨rfl, List.nodup_nil, fun _ z => (by cases z), fun _ z => z.elim, fun n o b z => (by simp at z)⟩, .cons (.scr scr (reps_ints ns) (by rw [List.length_map]; exact few)) .nil, ?_⟩
    rw [true_]
    exact fun v H' F' ρ' _ _ r => by cases r; rfl
  refine codeAny_mono (T _ inB (keepNs glo) callerA [] s₁ H [.ref a] [.ref a] _ _ room rfl start (.cons rfl .nil) promise) fun r s' got => ?_
  match r, got with
  | .error e, got =>
    obtain ⟨_, _, _, _, _, _, _, _, _, _, _, _, z⟩ := got
    exact z.elim
  | .ok (.ret u), ⟨v, H', os, bare, un, hok', rv, q⟩ =>
    have ev : v = .bl true := q
    subst ev
    have eu : u = Value.bool true := rv
    subst eu
    refine ⟨rfl, OldK.of_keep fun b o e => ?_, os, bare⟩
    cases q : H b with
    | none => exact un.keep b o e q (noFr b) (by simp)
    | some u =>
      obtain ⟨_, _, ob, xs, z⟩ := only b (by rw [q]; exact fun z => nomatch z)
      have z2 := un.frzs b ob _ z
      obtain ⟨e1, _⟩ := hok b _ z
      obtain ⟨e2, _⟩ := hok' b _ z2
      rw [e] at e1
      cases e1
      exact e2
end
end Sn

set_option Elab.async false
set_option linter.all false
set_option maxRecDepth 100000
/-! layer 22: from the head's facts to the law's end -/
namespace Sn
open PySem PySem.Spec PyProof.Rows L2
def fnOf (Fs : List FT) (top : List Stmt) : List He.DefD := Fs.map fun t => ⟨(t.name, none), t.name, t.name, defArgs (top.getD t.at_ nilSt), defBody (top.getD t.at_ nilSt), defScope (top.getD t.at_ nilSt), [], []⟩
def faOf (Fs : List FT) (Gn : List Str) (Gi : List Int) (Bn : List Str) : List He.Fa := (Fs.map fun t => He.Fa.glo t.name) ++ (Bn.map He.Fa.free ++ (Gn.zip Gi).map fun p => He.Fa.int p.1 p.2)
section
variable {P : Program} {w : World} {K : PySem.W.Frag} {mg : Str → Option Value} {h : Heap} {CA : Nat → Option Addr} {Fs : List FT} {Gn Bn : List Str} {Gi : List Int} {top : List Stmt}
theorem facts_of (c : He.SaysD (faOf Fs Gn Gi Bn) (fnOf Fs top) K) : ∀ f ∈ faOf Fs Gn Gi Bn, f.ok K = true := fun f hf => by
  obtain ⟨i, hi, e⟩ := List.mem_iff_getElem.mp hf
  exact He.SaysD.fact c i (by rw [List.getElem?_eq_getElem hi, e])
theorem fns_of (c : He.SaysD (faOf Fs Gn Gi Bn) (fnOf Fs top) K) (X : K.In h) (G : h.Ns mainGlobals mg) (f : Nat) (t : FT) (e : Fs[f]? = some t) :
    ∃ a fd, mg t.name = some (.ref a) ∧ FunD K t.name t.name (defArgs (top.getD t.at_ nilSt)) (defBody (top.getD t.at_ nilSt)) (defScope (top.getD t.at_ nilSt)) [] [] a fd := by
  have m : He.Fa.glo t.name ∈ faOf Fs Gn Gi Bn := List.mem_append_left _ (List.mem_map.mpr ⟨t, List.mem_of_getElem? e, rfl⟩)
  have g := He.glo_ok X G (facts_of c _ m)
  obtain ⟨fd, fu⟩ := He.SaysD.def_ c f (d := ⟨(t.name, none), t.name, t.name, defArgs (top.getD t.at_ nilSt), defBody (top.getD t.at_ nilSt), defScope (top.getD t.at_ nilSt), [], []⟩) (by unfold fnOf; rw [List.getElem?_map, e]; rfl)
  exact ⟨_, fd, g, fu⟩
/-- the law's end, from the head's facts -/
theorem law_all {k iL : Nat} {tL : FT} {fa a : Addr} {s₁ : Shared} {vs : List Value} {ns : List Int} {mb : Str → Option Value} {st' : Store}
    (X : K.In s₁.heap) (glo : s₁.heap.Ns mainGlobals mg) (bns : s₁.heap.Ns builtinsNs mb) (boot : ∀ x : Str, x ≠ "__name__" → mb x = bootBuiltins x) (lim : s₁.heap.NoLimit) (noGen : s₁.gens = #[])
    (obj : s₁.heap.get? a = some { cls := .type "list", data := .seq vs.toArray }) (whl : IntsAre vs ns) (few : ns.length ≤ sizeLine) (room : Room k callerA)
    (c : He.SaysD (faOf Fs Gn Gi Bn) (fnOf Fs top) K) (tab : tabB Fs Gn Bn top = true) (lG : Gn.length = Gi.length) (eL : Fs[iL]? = some tL) (hmg : mg tL.name = some (.ref fa))
    (true_ : callN (Fs.map FT.fd) (fun k => (Gi[k]?).map D.int) k iL [scrD ns] [] = .ok (.bl true, st')) :
    codeAny (model P w) callerA (.call (.ref fa) ⟨[.ref a], []⟩) (fun r s' => r = .ok (.ret (.bool true)) ∧ OldK s₁.heap s'.heap ∧ s'.os = s₁.os ∧ AllBare s'.gens) s₁ := by
  refine law_end (K := K) (mg := mg) (CA := fun _ => none) X glo bns boot lim noGen obj whl few room (fun base KB GB => ?_) true_
  refine all_G (B := Bn) (G := Gn) (top := top) (fun x hx => ?_) (fun k x hx => ?_) (fns_of c X glo) tab k iL tL fa eL hmg
  · exact He.free_ok X glo (facts_of c (.free x) (List.mem_append_right _ (List.mem_append_left _ (List.mem_map.mpr ⟨x, hx, rfl⟩))))
  · have lk : k < Gi.length := by
      rw [← lG]
      exact (List.getElem?_eq_some_iff.mp hx).1
    have m : He.Fa.int x Gi[k] ∈ faOf Fs Gn Gi Bn := by
      refine List.mem_append_right _ (List.mem_append_right _ (List.mem_map.mpr ⟨(x, Gi[k]), ?_, rfl⟩))
      refine List.mem_of_getElem? (i := k) ?_
      rw [List.getElem?_zip_eq_some]
      exact ⟨hx, List.getElem?_eq_getElem lk⟩
    obtain ⟨t, e⟩ := He.int_ok X glo (facts_of c _ m)
    exact ⟨_, .int Gi[k], .int Gi[k], e, ⟨t, rfl⟩, by rw [List.getElem?_eq_getElem lk]; rfl, fun F ρ H => .int _⟩
end
end Sn

set_option Elab.async false
set_option linter.all false
set_option maxRecDepth 100000
/-! layer 23: the equations of the own definitions, as rules of simp -/
namespace Sn
open PySem PySem.Spec PyProof.Rows L2
@[simp] theorem z_denE_1 : type_of% @denE.eq_1 := denE.eq_1
@[simp] theorem z_denE_2 : type_of% @denE.eq_2 := denE.eq_2
@[simp] theorem z_denE_3 : type_of% @denE.eq_3 := denE.eq_3
@[simp] theorem z_denE_4 : type_of% @denE.eq_4 := denE.eq_4
@[simp] theorem z_denE_5 : type_of% @denE.eq_5 := denE.eq_5
@[simp] theorem z_denE_6 : type_of% @denE.eq_6 := denE.eq_6
@[simp] theorem z_denE_7 : type_of% @denE.eq_7 := denE.eq_7
@[simp] theorem z_denE_8 : type_of% @denE.eq_8 := denE.eq_8
@[simp] theorem z_denE_9 : type_of% @denE.eq_9 := denE.eq_9
@[simp] theorem z_denE_10 : type_of% @denE.eq_10 := denE.eq_10
@[simp] theorem z_denE_11 : type_of% @denE.eq_11 := denE.eq_11
@[simp] theorem z_denE_12 : type_of% @denE.eq_12 := denE.eq_12
@[simp] theorem z_denE_13 : type_of% @denE.eq_13 := denE.eq_13
@[simp] theorem z_denE_14 : type_of% @denE.eq_14 := denE.eq_14
@[simp] theorem z_denE_15 : type_of% @denE.eq_15 := denE.eq_15
@[simp] theorem z_denE_16 : type_of% @denE.eq_16 := denE.eq_16
@[simp] theorem z_denE_17 : type_of% @denE.eq_17 := denE.eq_17
@[simp] theorem z_denE_18 : type_of% @denE.eq_18 := denE.eq_18
@[simp] theorem z_denE_19 : type_of% @denE.eq_19 := denE.eq_19
@[simp] theorem z_denE_20 : type_of% @denE.eq_20 := denE.eq_20
@[simp] theorem z_denE_21 : type_of% @denE.eq_21 := denE.eq_21
@[simp] theorem z_denE_22 : type_of% @denE.eq_22 := denE.eq_22
@[simp] theorem z_denE_23 : type_of% @denE.eq_23 := denE.eq_23
@[simp] theorem z_denE_24 : type_of% @denE.eq_24 := denE.eq_24
@[simp] theorem z_denE_25 : type_of% @denE.eq_25 := denE.eq_25
@[simp] theorem z_denE_26 : type_of% @denE.eq_26 := denE.eq_26
@[simp] theorem z_denE_27 : type_of% @denE.eq_27 := denE.eq_27
@[simp] theorem z_denE_28 : type_of% @denE.eq_28 := denE.eq_28
@[simp] theorem z_denE_29 : type_of% @denE.eq_29 := denE.eq_29
@[simp] theorem z_denE_30 : type_of% @denE.eq_30 := denE.eq_30
@[simp] theorem z_denL_1 : type_of% @denL.eq_1 := denL.eq_1
@[simp] theorem z_denL_2 : type_of% @denL.eq_2 := denL.eq_2
@[simp] theorem z_denA_1 : type_of% @denA.eq_1 := denA.eq_1
@[simp] theorem z_denA_2 : type_of% @denA.eq_2 := denA.eq_2
@[simp] theorem z_denA_3 : type_of% @denA.eq_3 := denA.eq_3
@[simp] theorem z_denO_1 : type_of% @denO.eq_1 := denO.eq_1
@[simp] theorem z_denO_2 : type_of% @denO.eq_2 := denO.eq_2
@[simp] theorem z_denO_3 : type_of% @denO.eq_3 := denO.eq_3
@[simp] theorem z_denO1_1 : type_of% @denO1.eq_1 := denO1.eq_1
@[simp] theorem z_denO1_2 : type_of% @denO1.eq_2 := denO1.eq_2
@[simp] theorem z_denC_1 : type_of% @denC.eq_1 := denC.eq_1
@[simp] theorem z_denC_2 : type_of% @denC.eq_2 := denC.eq_2
@[simp] theorem z_denS_1 : type_of% @denS.eq_1 := denS.eq_1
@[simp] theorem z_denS_2 : type_of% @denS.eq_2 := denS.eq_2
@[simp] theorem z_denS_3 : type_of% @denS.eq_3 := denS.eq_3
@[simp] theorem z_denS_4 : type_of% @denS.eq_4 := denS.eq_4
@[simp] theorem z_denS_5 : type_of% @denS.eq_5 := denS.eq_5
@[simp] theorem z_denS1_1 : type_of% @denS1.eq_1 := denS1.eq_1
@[simp] theorem z_denS1_2 : type_of% @denS1.eq_2 := denS1.eq_2
@[simp] theorem z_denS1_3 : type_of% @denS1.eq_3 := denS1.eq_3
@[simp] theorem z_denS1_4 : type_of% @denS1.eq_4 := denS1.eq_4
@[simp] theorem z_denS1_5 : type_of% @denS1.eq_5 := denS1.eq_5
@[simp] theorem z_denS1_6 : type_of% @denS1.eq_6 := denS1.eq_6
@[simp] theorem z_denS1_7 : type_of% @denS1.eq_7 := denS1.eq_7
@[simp] theorem z_denS1_8 : type_of% @denS1.eq_8 := denS1.eq_8
@[simp] theorem z_denS1_9 : type_of% @denS1.eq_9 := denS1.eq_9
@[simp] theorem z_denS1_10 : type_of% @denS1.eq_10 := denS1.eq_10
@[simp] theorem z_denS1_11 : type_of% @denS1.eq_11 := denS1.eq_11
@[simp] theorem z_denS1_12 : type_of% @denS1.eq_12 := denS1.eq_12
@[simp] theorem z_denS1_13 : type_of% @denS1.eq_13 := denS1.eq_13
@[simp] theorem z_denS1_14 : type_of% @denS1.eq_14 := denS1.eq_14
@[simp] theorem z_denS1_15 : type_of% @denS1.eq_15 := denS1.eq_15
@[simp] theorem z_denS1_16 : type_of% @denS1.eq_16 := denS1.eq_16
@[simp] theorem z_denS1_17 : type_of% @denS1.eq_17 := denS1.eq_17
@[simp] theorem z_denS1_18 : type_of% @denS1.eq_18 := denS1.eq_18
@[simp] theorem z_denSs_1 : type_of% @denSs.eq_1 := denSs.eq_1
@[simp] theorem z_denSs_2 : type_of% @denSs.eq_2 := denSs.eq_2
@[simp] theorem z_sSeq_1 : type_of% @sSeq.eq_1 := sSeq.eq_1
@[simp] theorem z_sNx_1 : type_of% @sNx.eq_1 := sNx.eq_1
@[simp] theorem z_sBk_1 : type_of% @sBk.eq_1 := sBk.eq_1
@[simp] theorem z_sCt_1 : type_of% @sCt.eq_1 := sCt.eq_1
@[simp] theorem z_sErr_1 : type_of% @sErr.eq_1 := sErr.eq_1
@[simp] theorem z_sRetN_1 : type_of% @sRetN.eq_1 := sRetN.eq_1
@[simp] theorem z_sRet_1 : type_of% @sRet.eq_1 := sRet.eq_1
@[simp] theorem z_sExpr_1 : type_of% @sExpr.eq_1 := sExpr.eq_1
@[simp] theorem z_sIf_1 : type_of% @sIf.eq_1 := sIf.eq_1
@[simp] theorem z_sAsg_1 : type_of% @sAsg.eq_1 := sAsg.eq_1
@[simp] theorem z_cPure_1 : type_of% @cPure.eq_1 := cPure.eq_1
@[simp] theorem z_cVar_1 : type_of% @cVar.eq_1 := cVar.eq_1
@[simp] theorem z_cOwn_1 : type_of% @cOwn.eq_1 := cOwn.eq_1
@[simp] theorem z_c1_1 : type_of% @c1.eq_1 := c1.eq_1
@[simp] theorem z_c2_1 : type_of% @c2.eq_1 := c2.eq_1
@[simp] theorem z_cNot_1 : type_of% @cNot.eq_1 := cNot.eq_1
@[simp] theorem z_cAnd_1 : type_of% @cAnd.eq_1 := cAnd.eq_1
@[simp] theorem z_cOr_1 : type_of% @cOr.eq_1 := cOr.eq_1
@[simp] theorem z_cIte_1 : type_of% @cIte.eq_1 := cIte.eq_1
@[simp] theorem z_cT_1 : type_of% @cT.eq_1 := cT.eq_1
@[simp] theorem z_cTup_1 : type_of% @cTup.eq_1 := cTup.eq_1
@[simp] theorem z_cLst_1 : type_of% @cLst.eq_1 := cLst.eq_1
@[simp] theorem z_lNil_1 : type_of% @lNil.eq_1 := lNil.eq_1
@[simp] theorem z_lCons_1 : type_of% @lCons.eq_1 := lCons.eq_1
@[simp] theorem z_cGlo_1 : type_of% @cGlo.eq_1 := cGlo.eq_1
@[simp] theorem z_cGlo_2 : type_of% @cGlo.eq_2 := cGlo.eq_2
@[simp] theorem z_cCal_1 : type_of% @cCal.eq_1 := cCal.eq_1
@[simp] theorem z_Tg_put_1 : type_of% @Tg.put.eq_1 := Tg.put.eq_1
@[simp] theorem z_Tg_put_2 : type_of% @Tg.put.eq_2 := Tg.put.eq_2
@[simp] theorem z_Tg_put_3 : type_of% @Tg.put.eq_3 := Tg.put.eq_3
@[simp] theorem z_TgL_put_1 : type_of% @TgL.put.eq_1 := TgL.put.eq_1
@[simp] theorem z_TgL_put_2 : type_of% @TgL.put.eq_2 := TgL.put.eq_2
@[simp] theorem z_TgL_put_3 : type_of% @TgL.put.eq_3 := TgL.put.eq_3
@[simp] theorem z_TgL_length_1 : type_of% @TgL.length.eq_1 := TgL.length.eq_1
@[simp] theorem z_TgL_length_2 : type_of% @TgL.length.eq_2 := TgL.length.eq_2
@[simp] theorem z_R_bindS_1 : type_of% @R.bindS.eq_1 := R.bindS.eq_1
@[simp] theorem z_R_bindS_2 : type_of% @R.bindS.eq_2 := R.bindS.eq_2
@[simp] theorem z_R_bindS_3 : type_of% @R.bindS.eq_3 := R.bindS.eq_3
@[simp] theorem z_endR_1 : type_of% @endR.eq_1 := endR.eq_1
@[simp] theorem z_endR_2 : type_of% @endR.eq_2 := endR.eq_2
@[simp] theorem z_endR_3 : type_of% @endR.eq_3 := endR.eq_3
@[simp] theorem z_endR_4 : type_of% @endR.eq_4 := endR.eq_4
@[simp] theorem z_startE_1 : type_of% @startE.eq_1 := startE.eq_1
@[simp] theorem z_runBody_1 : type_of% @runBody.eq_1 := runBody.eq_1
@[simp] theorem z_B1_g_1 : type_of% @B1.g.eq_1 := B1.g.eq_1
@[simp] theorem z_B1_g_2 : type_of% @B1.g.eq_2 := B1.g.eq_2
@[simp] theorem z_B1_g_3 : type_of% @B1.g.eq_3 := B1.g.eq_3
@[simp] theorem z_B1_g_4 : type_of% @B1.g.eq_4 := B1.g.eq_4
@[simp] theorem z_B1_g_5 : type_of% @B1.g.eq_5 := B1.g.eq_5
@[simp] theorem z_B1_g_6 : type_of% @B1.g.eq_6 := B1.g.eq_6
@[simp] theorem z_B1_g_7 : type_of% @B1.g.eq_7 := B1.g.eq_7
@[simp] theorem z_B1_g_8 : type_of% @B1.g.eq_8 := B1.g.eq_8
@[simp] theorem z_B1_g_9 : type_of% @B1.g.eq_9 := B1.g.eq_9
@[simp] theorem z_B1_g_10 : type_of% @B1.g.eq_10 := B1.g.eq_10
@[simp] theorem z_B1_g_11 : type_of% @B1.g.eq_11 := B1.g.eq_11
@[simp] theorem z_B1_g_12 : type_of% @B1.g.eq_12 := B1.g.eq_12
@[simp] theorem z_B1_g_13 : type_of% @B1.g.eq_13 := B1.g.eq_13
@[simp] theorem z_Bo_g_1 : type_of% @Bo.g.eq_1 := Bo.g.eq_1
@[simp] theorem z_Bo_g_2 : type_of% @Bo.g.eq_2 := Bo.g.eq_2
@[simp] theorem z_Bo_g_3 : type_of% @Bo.g.eq_3 := Bo.g.eq_3
@[simp] theorem z_Bo_g_4 : type_of% @Bo.g.eq_4 := Bo.g.eq_4
@[simp] theorem z_Bo_g_5 : type_of% @Bo.g.eq_5 := Bo.g.eq_5
@[simp] theorem z_Bo_g_6 : type_of% @Bo.g.eq_6 := Bo.g.eq_6
@[simp] theorem z_Bo_g_7 : type_of% @Bo.g.eq_7 := Bo.g.eq_7
@[simp] theorem z_Bo_g_8 : type_of% @Bo.g.eq_8 := Bo.g.eq_8
@[simp] theorem z_Co_g_1 : type_of% @Co.g.eq_1 := Co.g.eq_1
@[simp] theorem z_Co_g_2 : type_of% @Co.g.eq_2 := Co.g.eq_2
@[simp] theorem z_Co_g_3 : type_of% @Co.g.eq_3 := Co.g.eq_3
@[simp] theorem z_Co_g_4 : type_of% @Co.g.eq_4 := Co.g.eq_4
@[simp] theorem z_Co_g_5 : type_of% @Co.g.eq_5 := Co.g.eq_5
@[simp] theorem z_Co_g_6 : type_of% @Co.g.eq_6 := Co.g.eq_6
@[simp] theorem z_Co_g_7 : type_of% @Co.g.eq_7 := Co.g.eq_7
@[simp] theorem z_Co_g_8 : type_of% @Co.g.eq_8 := Co.g.eq_8
@[simp] theorem z_Co_g_9 : type_of% @Co.g.eq_9 := Co.g.eq_9
@[simp] theorem z_Co_g_10 : type_of% @Co.g.eq_10 := Co.g.eq_10
@[simp] theorem z_cChain_1 : type_of% @cChain.eq_1 := cChain.eq_1
@[simp] theorem z_sOwn_1 : type_of% @sOwn.eq_1 := sOwn.eq_1
@[simp] theorem z_sGive_1 : type_of% @sGive.eq_1 := sGive.eq_1
@[simp] theorem z_sApp_1 : type_of% @sApp.eq_1 := sApp.eq_1
@[simp] theorem z_sFor_1 : type_of% @sFor.eq_1 := sFor.eq_1
@[simp] theorem z_srcE_1 : type_of% @srcE.eq_1 := srcE.eq_1
@[simp] theorem z_srcR1_1 : type_of% @srcR1.eq_1 := srcR1.eq_1
@[simp] theorem z_srcEn_1 : type_of% @srcEn.eq_1 := srcEn.eq_1
@[simp] theorem z_R_noExc_1 : type_of% @R.noExc.eq_1 := R.noExc.eq_1
@[simp] theorem z_R_noExc_2 : type_of% @R.noExc.eq_2 := R.noExc.eq_2
@[simp] theorem z_cLc_1 : type_of% @cLc.eq_1 := cLc.eq_1
@[simp] theorem z_oSome_1 : type_of% @oSome.eq_1 := oSome.eq_1
@[simp] theorem z_oNone_1 : type_of% @oNone.eq_1 := oNone.eq_1
@[simp] theorem z_cSl_1 : type_of% @cSl.eq_1 := cSl.eq_1
@[simp] theorem z_sPar_1 : type_of% @sPar.eq_1 := sPar.eq_1
@[simp] theorem z_EL_kf_1 : type_of% @EL.kf.eq_1 := EL.kf.eq_1
@[simp] theorem z_EL_kf_2 : type_of% @EL.kf.eq_2 := EL.kf.eq_2
@[simp] theorem z_kEval_1 : type_of% @kEval.eq_1 := kEval.eq_1
@[simp] theorem z_kEval_2 : type_of% @kEval.eq_2 := kEval.eq_2
@[simp] theorem z_setK_1 : type_of% @setK.eq_1 := setK.eq_1
@[simp] theorem z_setK_2 : type_of% @setK.eq_2 := setK.eq_2
@[simp] theorem z_setK_3 : type_of% @setK.eq_3 := setK.eq_3
@[simp] theorem z_slotOf_1 : type_of% @slotOf.eq_1 := slotOf.eq_1
@[simp] theorem z_slotOf_2 : type_of% @slotOf.eq_2 := slotOf.eq_2
@[simp] theorem z_cLc2_1 : type_of% @cLc2.eq_1 := cLc2.eq_1
@[simp] theorem z_SE_k_1 : type_of% @SE.k.eq_1 := SE.k.eq_1
@[simp] theorem z_SE_k_2 : type_of% @SE.k.eq_2 := SE.k.eq_2
@[simp] theorem z_SE_k_3 : type_of% @SE.k.eq_3 := SE.k.eq_3
@[simp] theorem z_SE_k_4 : type_of% @SE.k.eq_4 := SE.k.eq_4
@[simp] theorem z_SE_k_5 : type_of% @SE.k.eq_5 := SE.k.eq_5
@[simp] theorem z_SE_k_6 : type_of% @SE.k.eq_6 := SE.k.eq_6
@[simp] theorem z_SE_k_7 : type_of% @SE.k.eq_7 := SE.k.eq_7
@[simp] theorem z_SE_k_8 : type_of% @SE.k.eq_8 := SE.k.eq_8
@[simp] theorem z_SE_k_9 : type_of% @SE.k.eq_9 := SE.k.eq_9
@[simp] theorem z_SE_k_10 : type_of% @SE.k.eq_10 := SE.k.eq_10
@[simp] theorem z_SE_k_11 : type_of% @SE.k.eq_11 := SE.k.eq_11
@[simp] theorem z_SE_k_12 : type_of% @SE.k.eq_12 := SE.k.eq_12
@[simp] theorem z_cIdx_1 : type_of% @cIdx.eq_1 := cIdx.eq_1
@[simp] theorem z_cTrd_1 : type_of% @cTrd.eq_1 := cTrd.eq_1
@[simp] theorem z_sSwp_1 : type_of% @sSwp.eq_1 := sSwp.eq_1
@[simp] theorem z_sPutK_1 : type_of% @sPutK.eq_1 := sPutK.eq_1
end Sn

set_option Elab.async false
set_option linter.all false
set_option maxRecDepth 100000
/-! layer 24: loops, kinds of values -/
namespace Sn
open PySem PySem.Spec
@[simp] theorem gIs_non (st : Store) : gIs .non .non st = .ok (.bl true, st) := rfl
@[simp] theorem gIs_int (i : Int) (st : Store) : gIs (.int i) .non st = .ok (.bl false, st) := rfl
@[simp] theorem gIsNot_non (st : Store) : gIsNot .non .non st = .ok (.bl false, st) := rfl
@[simp] theorem gIsNot_int (i : Int) (st : Store) : gIsNot (.int i) .non st = .ok (.bl true, st) := rfl
@[simp] theorem walk_tup (xs : List D) : walkOf (.tup xs) = some xs := rfl
@[simp] theorem walk_lst (xs : List D) : walkOf (.lst xs) = some xs := rfl
@[simp] theorem items_tup (xs : List D) : (D.tup xs).items = some xs := rfl
@[simp] theorem items_lst (xs : List D) : (D.lst xs).items = some xs := rfl
@[simp] theorem gLen_tup (xs : List D) (st : Store) : gLen (.tup xs) st = .ok (.int xs.length, st) := rfl
@[simp] theorem gLen_lst (xs : List D) (st : Store) : gLen (.lst xs) st = .ok (.int xs.length, st) := rfl
@[simp] theorem gIx2_tup (xs : List D) (e : D) (st : Store) : gIx2 (.tup xs) e st = gIx (.tup xs) e st := rfl
@[simp] theorem gIx2_lst (xs : List D) (e : D) (st : Store) : gIx2 (.lst xs) e st = gIx (.lst xs) e st := rfl
@[simp] theorem gIx2_ref (n : Nat) (e : D) (st : Store) : gIx2 (.ref n) e st = gIx (.ref n) e st := rfl
theorem lcLoop_map {α : Type} {enc : α → D} {g : α → Option D} {f : D → Store → R (Option D × Store)} {st : Store} : ∀ {xs : List α}, (∀ x ∈ xs, f (enc x) st = .ok (g x, st)) → lcLoop f (xs.map enc) st = .ok (xs.filterMap g, st)
  | [], _ => rfl
  | x :: xs, h => by
    rw [List.map_cons, lcLoop, h x List.mem_cons_self]
    simp only [R.bind_ok]
    rw [lcLoop_map fun y hy => h y (List.mem_cons_of_mem _ hy), List.filterMap_cons]
    simp only [R.bind_ok]
    cases g x <;> rfl
theorem lcLoop_all {α : Type} {enc : α → D} {g : α → D} {f : D → Store → R (Option D × Store)} {st : Store} {xs : List α} (h : ∀ x ∈ xs, f (enc x) st = .ok (some (g x), st)) : lcLoop f (xs.map enc) st = .ok (xs.map g, st) := by
  rw [lcLoop_map (g := fun x => some (g x)) h]
  simp
@[simp] theorem blsOf_map {α : Type} (f : α → Bool) : ∀ xs : List α, blsOf (xs.map fun x => .bl (f x)) = some (xs.map f)
  | [] => rfl
  | x :: xs => by
    rw [List.map_cons]
    simp only [blsOf, blsOf_map f xs]
    rfl
@[simp] theorem intsOf_map {α : Type} (f : α → Int) : ∀ xs : List α, intsOf (xs.map fun x => .int (f x)) = some (xs.map f)
  | [] => rfl
  | x :: xs => by
    rw [List.map_cons]
    simp only [intsOf, intsOf_map f xs]
    rfl
theorem gEq_int (i j : Int) (st : Store) : gEq (.int i) (.int j) st = .ok (.bl (decide (i = j)), st) := by
  simp [gEq, D.can, D.plain, D.depth, D.eqv, Bool.beq_eq_decide_eq]
theorem gNe_int (i j : Int) (st : Store) : gNe (.int i) (.int j) st = .ok (.bl (!decide (i = j)), st) := by
  simp [gNe, D.can, D.plain, D.depth, D.eqv, Bool.beq_eq_decide_eq]
theorem lc2Loop_map {α : Type} {enc : α → D} {g : α → List D} {f : D → Store → R (List D × Store)} {st : Store} : ∀ {xs : List α}, (∀ x ∈ xs, f (enc x) st = .ok (g x, st)) → lc2Loop f (xs.map enc) st = .ok (xs.flatMap g, st)
  | [], _ => rfl
  | x :: xs, h => by
    rw [List.map_cons, lc2Loop, h x List.mem_cons_self]
    simp only [R.bind_ok]
    rw [lc2Loop_map fun y hy => h y (List.mem_cons_of_mem _ hy), List.flatMap_cons]
    simp only [R.bind_ok]
/-- a loop: what holds behind each turn -/
theorem forRun_inv {α : Type} {enc : α → D} {t : Tg} {g : CS} {xs : List α} (I : List α → En → Store → Prop)
    (h : ∀ pre x post env st, xs = pre ++ x :: post → I pre env st → ∃ env' env2 st2, t.put (enc x) env = some env' ∧ g env' st = .ok .nx env2 st2 ∧ I (pre ++ [x]) env2 st2) :
    ∀ (pre post : List α) (env : En) (st : Store), xs = pre ++ post → I pre env st → ∃ env2 st2, forRun t g (post.map enc) env st = .ok .nx env2 st2 ∧ I xs env2 st2
  | pre, [], env, st, e, i => by
    rw [List.append_nil] at e
    subst e
    exact ⟨env, st, rfl, i⟩
  | pre, x :: post, env, st, e, i => by
    obtain ⟨env', env2, st2, h1, h2, i2⟩ := h pre x post env st e i
    obtain ⟨env3, st3, h3, i3⟩ := forRun_inv I h (pre ++ [x]) post env2 st2 (by rw [e]; simp) i2
    refine ⟨env3, st3, ?_, i3⟩
    rw [List.map_cons, forRun, h1]
    dsimp only
    rw [h2]
    exact h3
@[simp] theorem ty_int : tyOf? (Str.ofString "int") = some "int" := by decide
@[simp] theorem ty_bool : tyOf? (Str.ofString "bool") = some "bool" := by decide
@[simp] theorem ty_tuple : tyOf? (Str.ofString "tuple") = some "tuple" := by decide
@[simp] theorem isi_int_int (i : Int) (st : Store) : gIsi "int" (.int i) st = .ok (.bl true, st) := by
  have : L2.kitB "int" "int" = some true := by decide +kernel
  simp [gIsi, tyName, this]
@[simp] theorem isi_bool_int (i : Int) (st : Store) : gIsi "bool" (.int i) st = .ok (.bl false, st) := by
  have : L2.kitB "int" "bool" = some false := by decide +kernel
  simp [gIsi, tyName, this]
@[simp] theorem isi_tuple_tup (xs : List D) (st : Store) : gIsi "tuple" (.tup xs) st = .ok (.bl true, st) := by
  have : L2.kitB "tuple" "tuple" = some true := by decide +kernel
  simp [gIsi, tyName, this]
theorem add_int (i j : Int) (st : Store) : gAdd (.int i) (.int j) st = .ok (.int (i + j), st) := rfl
theorem sub_int (i j : Int) (st : Store) : gSub (.int i) (.int j) st = .ok (.int (i - j), st) := rfl
theorem le_int (i j : Int) (st : Store) : gLe (.int i) (.int j) st = .ok (.bl (decide (i ≤ j)), st) := rfl
theorem lt_int (i j : Int) (st : Store) : gLt (.int i) (.int j) st = .ok (.bl (decide (i < j)), st) := rfl
theorem gt_int (i j : Int) (st : Store) : gGt (.int i) (.int j) st = .ok (.bl (decide (j < i)), st) := rfl
theorem ge_int (i j : Int) (st : Store) : gGe (.int i) (.int j) st = .ok (.bl (decide (j ≤ i)), st) := rfl
theorem tuple_lst (xs : List D) (st : Store) : gTuple (.lst xs) st = .ok (.tup xs, st) := rfl
theorem tuple_tup (xs : List D) (st : Store) : gTuple (.tup xs) st = .ok (.tup xs, st) := rfl
theorem list_tup (xs : List D) (st : Store) : gList (.tup xs) st = .ok (.lst xs, st) := rfl
theorem list_lst (xs : List D) (st : Store) : gList (.lst xs) st = .ok (.lst xs, st) := rfl
/-- one row of statements behind another one -/
def slApp : SL → SL → SL
  | .nil, q => q
  | .cons s p, q => .cons s (slApp p q)
theorem slApp_ok : ∀ (p q : SL) (T : Tb) (e e' : En) (s s' : Store), denSs T p e s = .ok .nx e' s' → denSs T (slApp p q) e s = denSs T q e' s'
  | .nil, q, T, e, e', s, s', h => by
    simp at h
    obtain ⟨rfl, rfl⟩ := h
    rfl
  | .cons x p, q, T, e, e', s, s', h => by
    rw [denSs] at h
    rw [slApp, denSs]
    unfold sSeq at h ⊢
    cases q1 : denS1 T x e s with
    | ok fl e1 s1 =>
      rw [q1] at h
      cases fl with
      | nx => exact slApp_ok p q T e1 e' s1 s' h
      | bk => cases h
      | ct => cases h
      | rt d => cases h
    | exc x e1 s1 => rw [q1] at h; cases h
    | err => rw [q1] at h; cases h
end Sn

set_option Elab.async false
set_option linter.all false
set_option maxRecDepth 100000
set_option maxHeartbeats 0
namespace Kl
open PySem PySem.Spec PyProof.Rows L2 Sn
def b_is_whole : SL := (.cons (.ret (.and_ (.cons (.isi "int" (.var 0)) (.cons (.nt (.isi "bool" (.var 0))) (.cons (.ch .le .le (.var 1) (.var 0) (.var 2)) .nil))))) .nil)
def b_is_tuple_of : SL := (.cons (.ret (.and_ (.cons (.isi "tuple" (.var 0)) (.cons (.ch .le .le (.var 1) (.b1 .len (.var 0)) (.var 2)) .nil)))) .nil)
def b_is_number : SL := (.cons (.ret (.cal 0 (.cons (.var 0) (.cons (.neg (.glb 0)) (.cons (.glb 0) .nil))))) .nil)
def b_fits_place : SL := (.cons (.if_ (.or_ (.cons (.nt (.cal 1 (.cons (.var 0) (.cons (.cst (.int 2)) (.cons (.cst (.int 2)) .nil))))) (.cons (.nt (.cal 0 (.cons (.ix (.var 0) (.cst (.int 0))) (.cons (.cst (.int 0)) (.cons (.op .sub (.glb 1) (.cst (.int 1))) .nil))))) .nil))) (.cons (.ret (.cst (.bl false))) .nil) .nil) (.cons (.ret (.or_ (.cons (.cmp .isN (.ix (.var 0) (.cst (.int 1))) (.cst .non)) (.cons (.cal 2 (.cons (.ix (.var 0) (.cst (.int 1))) .nil)) .nil)))) .nil))
def b_fits_places : SL := (.cons (.if_ (.or_ (.cons (.nt (.cal 1 (.cons (.var 0) (.cons (.cst (.int 0)) (.cons (.glb 2) .nil))))) (.cons (.nt (.b1 .all (.lc (.e (.var 0)) (.nm 1) [1] .none (.cal 3 (.cons (.var 1) .nil))))) .nil))) (.cons (.ret (.cst (.bl false))) .nil) .nil) (.cons (.ret (.cmp .eq (.lens (.var 0)) (.b1 .len (.var 0)))) .nil))
def b_fits_dealing : SL := (.cons (.if_ (.or_ (.cons (.nt (.cal 1 (.cons (.var 0) (.cons (.cst (.int 4)) (.cons (.cst (.int 4)) .nil))))) (.cons (.nt (.cal 0 (.cons (.ix (.var 0) (.cst (.int 0))) (.cons (.cst (.int 0)) (.cons (.glb 3) .nil))))) .nil))) (.cons (.ret (.cst (.bl false))) .nil) .nil) (.cons (.if_ (.and_ (.cons (.cmp .notN (.ix (.var 0) (.cst (.int 1))) (.cst .non)) (.cons (.nt (.cal 0 (.cons (.ix (.var 0) (.cst (.int 1))) (.cons (.cst (.int 0)) (.cons (.op .sub (.glb 3) (.cst (.int 1))) .nil))))) .nil))) (.cons (.ret (.cst (.bl false))) .nil) .nil) (.cons (.ret (.and_ (.cons (.cal 4 (.cons (.ix (.var 0) (.cst (.int 2))) .nil)) (.cons (.cal 4 (.cons (.ix (.var 0) (.cst (.int 3))) .nil)) (.cons (.b1 .all (.lc (.e (.ix (.var 0) (.cst (.int 3)))) (.tp (.cons (.nm 1) (.cons (.nm 2) .nil))) [1, 2] .none (.cmp .notN (.var 2) (.cst .non)))) .nil))))) .nil)))
def b_sees_it : SL := (.cons (.ret (.cmp .lt (.ix (.var 1) (.cst (.int 1))) (.ix (.var 0) (.cst (.int 0))))) .nil)
def b_meets : SL := (.cons (.asg (.nm 2) (.b1 .dict (.lc (.e (.ix (.var 1) (.cst (.int 3)))) (.nm 3) [3] .none (.tup (.cons (.var 3) (.cons (.cst (.bl true)) .nil)))))) (.cons (.ret (.b1 .any (.lc (.e (.ix (.var 0) (.cst (.int 3)))) (.nm 3) [3] .none (.cmp .isin (.var 3) (.var 2))))) .nil))
def b_fits_history : SL := (.cons (.if_ (.or_ (.cons (.nt (.cal 1 (.cons (.var 0) (.cons (.cst (.int 0)) (.cons (.glb 3) .nil))))) (.cons (.nt (.b1 .all (.lc (.e (.var 0)) (.nm 2) [2] .none (.cal 5 (.cons (.var 2) .nil))))) .nil))) (.cons (.ret (.cst (.bl false))) .nil) .nil) (.cons (.own 1 (.lc (.e (.var 0)) (.nm 2) [2] (.some (.cmp .notN (.ix (.var 2) (.cst (.int 1))) (.cst .non))) (.var 2))) (.cons (.give 1) (.cons (.if_ (.cmp .ne (.b1 .sorted (.lc (.e (.var 1)) (.nm 2) [2] .none (.ix (.var 2) (.cst (.int 1))))) (.lrg (.b1 .len (.var 1)))) (.cons (.ret (.cst (.bl false))) .nil) .nil) (.cons (.for_ (.e (.var 0)) (.nm 2) (.cons (.if_ (.or_ (.cons (.cmp .gt (.ix (.var 2) (.cst (.int 0))) (.b1 .len (.var 1))) (.cons (.and_ (.cons (.cmp .notN (.ix (.var 2) (.cst (.int 1))) (.cst .non)) (.cons (.cmp .gt (.ix (.var 2) (.cst (.int 0))) (.ix (.var 2) (.cst (.int 1)))) .nil))) .nil))) (.cons (.ret (.cst (.bl false))) .nil) .nil) .nil)) (.cons (.own 3 (.lc2 (.e (.var 1)) (.nm 2) [2, 4] .none (.e (.var 1)) (.nm 4) (.some (.cmp .lt (.ix (.var 2) (.cst (.int 1))) (.ix (.var 4) (.cst (.int 1))))) (.tup (.cons (.var 2) (.cons (.var 4) .nil))))) (.cons (.give 3) (.cons (.ret (.b1 .all (.lc (.e (.var 3)) (.tp (.cons (.nm 2) (.cons (.nm 4) .nil))) [2, 4] .none (.or_ (.cons (.cal 6 (.cons (.var 4) (.cons (.var 2) .nil))) (.cons (.nt (.cal 7 (.cons (.var 2) (.cons (.var 4) .nil)))) .nil)))))) .nil))))))))
def b_has_read : SL := (.cons (.asg (.nm 2) (.b1 .dict (.lc (.e (.var 0)) (.nm 3) [3] .none (.tup (.cons (.var 3) (.cons (.cst (.bl true)) .nil)))))) (.cons (.ret (.b1 .any (.lc (.e (.var 1)) (.tp (.cons (.nm 4) (.cons (.nm 5) .nil))) [4, 5] .none (.or_ (.cons (.cmp .isin (.tup (.cons (.var 4) (.cons (.var 5) .nil))) (.var 2)) (.cons (.cmp .isin (.tup (.cons (.var 4) (.cons (.cst .non) .nil))) (.var 2)) .nil)))))) .nil))
def b_committed : SL := (.cons (.ret (.lc (.en (.var 0)) (.tp (.cons (.nm 1) (.cons (.nm 2) .nil))) [1, 2] (.some (.cmp .notN (.ix (.var 2) (.cst (.int 1))) (.cst .non))) (.var 1))) .nil)
def b_is_pair : SL := (.cons (.par [3, 4] (.cons (.ix (.var 0) (.var 1)) (.cons (.ix (.var 0) (.var 2)) .nil))) (.cons (.ret (.and_ (.cons (.cmp .ne (.var 1) (.var 2)) (.cons (.nt (.cal 6 (.cons (.var 3) (.cons (.var 4) .nil)))) (.cons (.cal 9 (.cons (.ix (.var 3) (.cst (.int 2))) (.cons (.ix (.var 4) (.cst (.int 3))) .nil))) .nil))))) .nil))
def b_need_history : SL := (.cons (.if_ (.nt (.cal 8 (.cons (.var 0) .nil))) (.cons .never .nil) .nil) .nil)
def b_leads : SL := (.cons (.ret (.and_ (.cons (.cmp .ne (.var 1) (.var 2)) (.cons (.or_ (.cons (.cal 6 (.cons (.ix (.var 0) (.var 2)) (.cons (.ix (.var 0) (.var 1)) .nil))) (.cons (.cal 11 (.cons (.var 0) (.cons (.var 1) (.cons (.var 2) .nil)))) .nil))) .nil)))) .nil)
def b_steps_in : SL := (.cons (.asg (.nm 1) (.cal 10 (.cons (.var 0) .nil))) (.cons (.ret (.b1 .dict (.lc (.e (.var 1)) (.nm 2) [2] .none (.tup (.cons (.var 2) (.cons (.lc (.e (.var 1)) (.nm 3) [3] (.some (.cal 37 (.cons (.var 0) (.cons (.var 2) (.cons (.var 3) .nil))))) (.var 3)) .nil)))))) .nil))
def b_order_in : SL := (.cons (.par [1, 2, 3] (.cons (.cal 38 (.cons (.var 0) .nil)) (.cons (.cal 10 (.cons (.var 0) .nil)) (.cons (.lst .nil) .nil)))) (.cons (.while_ 100000 (.cmp .ne (.var 2) (.lst .nil)) (.cons (.own 4 (.lc (.e (.var 2)) (.nm 5) [5] (.some (.nt (.b1 .any (.lc (.e (.var 2)) (.nm 6) [6] .none (.cmp .isin (.var 5) (.ix (.var 1) (.var 6))))))) (.var 5))) (.cons (.give 4) (.cons (.if_ (.cmp .eq (.var 4) (.lst .nil)) (.cons (.ret (.cst .non)) .nil) .nil) (.cons (.app 3 (.ix (.var 4) (.cst (.int 0)))) (.cons (.own 2 (.lc (.e (.var 2)) (.nm 5) [5] (.some (.cmp .ne (.var 5) (.ix (.var 4) (.cst (.int 0))))) (.var 5))) (.cons (.give 2) .nil))))))) (.cons (.ret (.b1 .tup (.own 3))) .nil)))
def b_fits_unlike : SL := (.cons (.if_ (.or_ (.cons (.nt (.isi "tuple" (.var 1))) (.cons (.nt (.b1 .all (.lc (.e (.var 1)) (.nm 2) [2] .none (.and_ (.cons (.cal 0 (.cons (.var 2) (.cons (.cst (.int 0)) (.cons (.op .pow (.cst (.int 10)) (.cst (.int 9))) .nil)))) (.cons (.cmp .isin (.var 2) (.var 0)) .nil)))))) .nil))) (.cons (.ret (.cst (.bl false))) .nil) .nil) (.cons (.ret (.cmp .eq (.lens (.var 1)) (.b1 .len (.var 1)))) .nil))
def b_fits_order : SL := (.cons (.asg (.nm 2) (.cal 10 (.cons (.var 0) .nil))) (.cons (.if_ (.or_ (.cons (.nt (.cal 41 (.cons (.var 2) (.cons (.var 1) .nil)))) (.cons (.cmp .ne (.b1 .len (.var 1)) (.b1 .len (.var 2))) .nil))) (.cons (.ret (.cst (.bl false))) .nil) .nil) (.cons (.ret (.nt (.b1 .any (.lc2 (.en (.var 1)) (.tp (.cons (.nm 4) (.cons (.nm 5) .nil))) [3, 4, 5] .none (.e (.sl false (.var 1) (.some (.op .add (.var 4) (.cst (.int 1)))) .none)) (.nm 3) .none (.cal 37 (.cons (.var 0) (.cons (.var 3) (.cons (.var 5) .nil)))))))) .nil)))
def b_is_order : SL := (.cons (.expr (.cal 14 (.cons (.var 0) .nil))) (.cons (.ret (.cal 52 (.cons (.var 0) (.cons (.var 1) .nil)))) .nil))
def b_order_of : SL := (.cons (.expr (.cal 14 (.cons (.var 0) .nil))) (.cons (.ret (.cal 51 (.cons (.var 0) .nil))) .nil))
def b__law_cup : SL := (.cons (.asg (.nm 1) (.b1 .abs (.ix (.op .cat (.b1 .list (.var 0)) (.lst (.cons (.cst (.int 0)) .nil))) (.cst (.int 0))))) (.cons (.ret (.put (.lst (.cons (.ite (.cmp .ge (.var 1) (.op .pow (.cst (.int 10)) (.cst (.int 18)))) (.op .div (.var 1) (.cst (.int 109))) (.cst (.int 0))) (.cons (.op .add (.op .mod (.b1 .int (.op .add (.op .mul (.var 1) (.cst (.int 347))) (.cst (.int 3701)))) (.cst (.int 2077503017))) (.cst (.int 223))) .nil))))) .nil))
def b__law_roll : SL := (.cons (.if_ (.cmp .gt (.ix (.var 0) (.cst (.int 0))) (.cst (.int 0))) (.cons (.asg (.nm 3) (.op .mod (.b1 .int (.ix (.var 0) (.cst (.int 0)))) (.var 1))) (.cons (.setS (.var 0) (.cst (.int 0)) (.op .div (.ix (.var 0) (.cst (.int 0))) (.var 1))) (.cons (.ret (.var 3)) .nil))) .nil) (.cons (.setS (.var 0) (.cst (.int 1)) (.op .mod (.b1 .int (.op .add (.op .mul (.ix (.var 0) (.cst (.int 1))) (.cst (.int 31147))) (.cst (.int 8093)))) (.cst (.int 2147483249)))) (.cons (.asg (.nm 2) (.op .mod (.b1 .int (.op .mul (.ix (.var 0) (.cst (.int 1))) (.op .add (.ix (.var 0) (.cst (.int 1))) (.cst (.int 281))))) (.cst (.int 2147483587)))) (.cons (.ret (.op .mod (.b1 .int (.op .div (.var 2) (.cst (.int 881)))) (.var 1))) .nil))))
def b__law_some : SL := (.cons (.ret (.ix (.var 1) (.cal 17 (.cons (.var 0) (.cons (.b1 .len (.var 1)) .nil))))) .nil)
def b__law_places : SL := (.cons (.asg (.nm 3) (.tup .nil)) (.cons (.for_ (.r1 (.cal 17 (.cons (.var 0) (.cons (.op .add (.var 1) (.cst (.int 1))) .nil)))) (.nm 4) (.cons (.asg (.nm 5) (.tup (.cons (.cal 17 (.cons (.var 0) (.cons (.cst (.int 2)) .nil))) (.cons (.cal 18 (.cons (.var 0) (.cons (.ite (.var 2) (.lst (.cons (.cst (.int 0)) (.cons (.cst (.int 1)) (.cons (.cst (.int 2)) (.cons (.cst .non) .nil))))) (.lst (.cons (.cst (.int 0)) (.cons (.cst (.int 1)) (.cons (.cst (.int 2)) .nil))))) .nil))) .nil)))) (.cons (.asg (.nm 3) (.op .add (.var 3) (.ite (.cmp .notin (.var 5) (.var 3)) (.tup (.cons (.var 5) .nil)) (.tup .nil)))) .nil))) (.cons (.ret (.var 3)) .nil)))
def b__law_history : SL := (.cons (.own 3 (.lst .nil)) (.cons (.for_ (.r1 (.var 1)) (.nm 4) (.cons (.asg (.nm 8) (.cal 18 (.cons (.var 0) (.cons (.lst (.cons (.cal 17 (.cons (.var 0) (.cons (.op .add (.var 4) (.cst (.int 1))) .nil))) (.cons (.cal 17 (.cons (.var 0) (.cons (.op .add (.var 4) (.cst (.int 1))) .nil))) (.cons (.cst (.int 0)) (.cons (.var 4) .nil))))) .nil)))) (.cons (.asg (.nm 9) (.sumL (.lc (.e (.sl true (.own 3) (.some (.var 8)) .none)) (.nm 7) [7] .none (.b1 .list (.ix (.var 7) (.cst (.int 3))))))) (.cons (.asg (.nm 10) (.b1 .tup (.lc (.e (.cal 19 (.cons (.var 0) (.cons (.cst (.int 2)) (.cons (.cst (.bl false)) .nil))))) (.nm 12) [12] (.some (.cmp .notin (.var 12) (.var 9))) (.var 12)))) (.cons (.app 3 (.tup (.cons (.var 8) (.cons (.var 4) (.cons (.cal 19 (.cons (.var 0) (.cons (.cst (.int 3)) (.cons (.cst (.bl true)) .nil)))) (.cons (.var 10) .nil)))))) .nil))))) (.cons (.for_ (.r1 (.var 2)) (.nm 5) (.cons (.app 3 (.tup (.cons (.cal 17 (.cons (.var 0) (.cons (.op .add (.var 1) (.cst (.int 1))) .nil))) (.cons (.cst .non) (.cons (.cal 19 (.cons (.var 0) (.cons (.cst (.int 3)) (.cons (.cst (.bl true)) .nil)))) (.cons (.cal 19 (.cons (.var 0) (.cons (.cst (.int 2)) (.cons (.cst (.bl false)) .nil)))) .nil)))))) .nil)) (.cons (.asg (.nm 6) (.lst .nil)) (.cons (.give 3) (.cons (.for_ (.e (.var 3)) (.nm 7) (.cons (.asg (.nm 11) (.cal 17 (.cons (.var 0) (.cons (.op .add (.b1 .len (.var 6)) (.cst (.int 1))) .nil)))) (.cons (.asg (.nm 6) (.op .cat (.op .cat (.sl true (.var 6) .none (.some (.var 11))) (.lst (.cons (.var 7) .nil))) (.sl true (.var 6) (.some (.var 11)) .none))) .nil))) (.cons (.ret (.b1 .tup (.var 6))) .nil)))))))
def b__law_done : SL := (.cons (.ret (.lc (.r1 (.b1 .len (.var 0))) (.nm 1) [1] (.some (.cmp .notN (.ix (.ix (.var 0) (.var 1)) (.cst (.int 1))) (.cst .non))) (.var 1))) .nil)
def b__law_saw : SL := (.cons (.ret (.cmp .le (.op .add (.ix (.var 1) (.cst (.int 1))) (.cst (.int 1))) (.ix (.var 0) (.cst (.int 0))))) .nil)
def b__law_has_read : SL := (.cons (.for_ (.e (.ix (.var 1) (.cst (.int 3)))) (.tp (.cons (.nm 2) (.cons (.nm 3) .nil))) (.cons (.for_ (.e (.ix (.var 0) (.cst (.int 2)))) (.tp (.cons (.nm 4) (.cons (.nm 5) .nil))) (.cons (.if_ (.and_ (.cons (.cmp .eq (.var 4) (.var 2)) (.cons (.or_ (.cons (.cmp .isN (.var 5) (.cst .non)) (.cons (.cmp .eq (.var 5) (.var 3)) .nil))) .nil))) (.cons (.ret (.cst (.bl true))) .nil) .nil) .nil)) .nil)) (.cons (.ret (.cst (.bl false))) .nil))
def b__law_pairs : SL := (.cons (.own 1 (.lst .nil)) (.cons (.for_ (.e (.cal 21 (.cons (.var 0) .nil))) (.nm 2) (.cons (.for_ (.e (.cal 21 (.cons (.var 0) .nil))) (.nm 3) (.cons (.if_ (.and_ (.cons (.cmp .ne (.var 2) (.var 3)) (.cons (.nt (.cal 22 (.cons (.ix (.var 0) (.var 2)) (.cons (.ix (.var 0) (.var 3)) .nil)))) (.cons (.cal 23 (.cons (.ix (.var 0) (.var 2)) (.cons (.ix (.var 0) (.var 3)) .nil))) .nil)))) (.cons (.app 1 (.tup (.cons (.var 2) (.cons (.var 3) .nil)))) .nil) .nil) .nil)) .nil)) (.cons (.give 1) (.cons (.ret (.var 1)) .nil))))
def b__law_steps : SL := (.cons (.asg (.nm 1) (.cal 24 (.cons (.var 0) .nil))) (.cons (.for_ (.e (.cal 21 (.cons (.var 0) .nil))) (.nm 2) (.cons (.asg (.nm 1) (.op .cat (.var 1) (.lc (.e (.cal 21 (.cons (.var 0) .nil))) (.nm 3) [3] (.some (.cal 22 (.cons (.ix (.var 0) (.var 3)) (.cons (.ix (.var 0) (.var 2)) .nil)))) (.tup (.cons (.var 2) (.cons (.var 3) .nil)))))) .nil)) (.cons (.ret (.srtS (.var 1))) .nil)))
def b__law_first_order : SL := (.cons (.par [2, 3, 4] (.cons (.cal 46 (.cons (.var 0) .nil)) (.cons (.tup .nil) (.cons (.cal 21 (.cons (.var 0) .nil)) .nil)))) (.cons (.for_ (.r1 (.b1 .len (.var 4))) (.nm 1) (.cons (.for_ (.e (.var 4)) (.nm 5) (.cons (.if_ (.and_ (.cons (.cmp .notin (.var 5) (.var 3)) (.cons (.cmp .eq (.lc (.e (.var 2)) (.tp (.cons (.nm 6) (.cons (.nm 7) .nil))) [6, 7] (.some (.and_ (.cons (.cmp .eq (.var 7) (.var 5)) (.cons (.cmp .notin (.var 6) (.var 3)) .nil)))) (.cst (.int 1))) (.lst .nil)) .nil))) (.cons (.asg (.nm 3) (.op .add (.var 3) (.tup (.cons (.var 5) .nil)))) (.cons .bk .nil)) .nil) .nil)) .nil)) (.cons (.ret (.ite (.cmp .eq (.b1 .len (.var 3)) (.b1 .len (.var 4))) (.var 3) (.cst .non))) .nil)))
def b__law_is_order : SL := (.cons (.if_ (.or_ (.cons (.nt (.isi "tuple" (.var 1))) (.cons (.cmp .ne (.lc (.e (.var 1)) (.nm 2) [2] (.some (.or_ (.cons (.isi "bool" (.var 2)) (.cons (.nt (.isi "int" (.var 2))) .nil)))) (.cst (.int 1))) (.lst .nil)) .nil))) (.cons (.ret (.cst (.bl false))) .nil) .nil) (.cons (.if_ (.cmp .ne (.b1 .sorted (.var 1)) (.cal 21 (.cons (.var 0) .nil))) (.cons (.ret (.cst (.bl false))) .nil) .nil) (.cons (.ret (.cmp .eq (.lc (.e (.cal 46 (.cons (.var 0) .nil))) (.tp (.cons (.nm 2) (.cons (.nm 3) .nil))) [2, 3] (.some (.cmp .gt (.idx true (.var 1) (.var 2)) (.idx true (.var 1) (.var 3)))) (.cst (.int 1))) (.lst .nil))) .nil)))
def b__law_two : SL := (.cons (.asg (.nm 0) (.tup (.cons (.tup (.cons (.cst (.int 0)) (.cons (.cst (.int 0)) (.cons (.tup (.cons (.tup (.cons (.cst (.int 0)) (.cons (.cst (.int 1)) .nil))) (.cons (.tup (.cons (.cst (.int 0)) (.cons (.cst (.int 2)) .nil))) .nil))) (.cons (.tup (.cons (.tup (.cons (.cst (.int 0)) (.cons (.cst (.int 1)) .nil))) .nil)) .nil))))) (.cons (.tup (.cons (.cst (.int 0)) (.cons (.cst .non) (.cons (.tup (.cons (.tup (.cons (.cst (.int 0)) (.cons (.cst (.int 1)) .nil))) (.cons (.tup (.cons (.cst (.int 0)) (.cons (.cst (.int 2)) .nil))) .nil))) (.cons (.tup (.cons (.tup (.cons (.cst (.int 0)) (.cons (.cst (.int 2)) .nil))) .nil)) .nil))))) .nil)))) (.cons (.ret (.tup (.cons (.var 0) (.cons (.tup (.cons (.tup (.cons (.cst (.int 0)) (.cons (.cst (.int 0)) (.cons (.tup .nil) (.cons (.tup (.cons (.tup (.cons (.cst (.int 0)) (.cons (.cst (.int 1)) .nil))) .nil)) .nil))))) (.cons (.tup (.cons (.cst (.int 0)) (.cons (.cst (.int 1)) (.cons (.tup (.cons (.tup (.cons (.cst (.int 0)) (.cons (.cst (.int 1)) .nil))) .nil)) (.cons (.tup (.cons (.tup (.cons (.cst (.int 1)) (.cons (.cst (.int 1)) .nil))) .nil)) .nil))))) (.cons (.tup (.cons (.cst (.int 1)) (.cons (.cst (.int 2)) (.cons (.tup (.cons (.tup (.cons (.cst (.int 1)) (.cons (.cst .non) .nil))) .nil)) (.cons (.tup .nil) .nil))))) .nil)))) .nil)))) .nil))
def b__law_near : SL := (.cons (.par [4, 5] (.cons (.cal 17 (.cons (.var 0) (.cons (.b1 .len (.var 1)) .nil))) (.cons (.cal 17 (.cons (.var 0) (.cons (.b1 .len (.var 1)) .nil))) .nil))) (.cons (.own 2 (.b1 .list (.var 1))) (.cons (.swp 2 (.var 4) (.var 5) (.cons (.ix (.var 1) (.var 5)) (.cons (.ix (.var 1) (.var 4)) .nil))) (.cons (.asg (.nm 3) (.lst (.cons (.b1 .tup (.own 2)) (.cons (.b1 .tup (.own 2)) (.cons (.rev (.var 1)) (.cons (.op .add (.sl false (.var 1) (.some (.cst (.int 1))) .none) (.sl false (.var 1) .none (.some (.cst (.int 1))))) (.cons (.sl false (.var 1) .none (.some (.neg (.cst (.int 1))))) (.cons (.op .add (.var 1) (.sl false (.var 1) .none (.some (.cst (.int 1))))) (.cons (.b1 .list (.var 1)) (.cons (.cst .non) (.cons (.tup .nil) .nil))))))))))) (.cons (.asg (.nm 3) (.op .cat (.var 3) (.lst (.cons (.op .add (.op .add (.sl false (.var 1) .none (.some (.var 4))) (.tup (.cons (.cst (.bl true)) .nil))) (.sl false (.var 1) (.some (.op .add (.var 4) (.cst (.int 1)))) .none)) (.cons (.op .add (.var 1) (.tup (.cons (.cst (.int 99)) .nil))) .nil))))) (.cons (.ret (.cal 18 (.cons (.var 0) (.cons (.op .cat (.var 3) (.lst (.cons (.op .add (.op .add (.sl false (.var 1) .none (.some (.var 4))) (.tup (.cons (.neg (.cst (.int 1))) .nil))) (.sl false (.var 1) (.some (.op .add (.var 4) (.cst (.int 1)))) .none)) .nil))) .nil)))) .nil))))))
def b_law : SL := (.cons (.asg (.nm 1) (.cal 16 (.cons (.var 0) .nil))) (.cons (.for_ (.r1 (.cst (.int 5))) (.nm 2) (.cons (.asg (.nm 9) (.cal 20 (.cons (.var 1) (.cons (.op .add (.cst (.int 1)) (.cal 17 (.cons (.var 1) (.cons (.cst (.int 5)) .nil)))) (.cons (.cal 17 (.cons (.var 1) (.cons (.cst (.int 3)) .nil))) .nil))))) (.cons (.asg (.nm 10) (.cal 47 (.cons (.var 9) .nil))) (.cons (.if_ (.or_ (.cons (.cmp .ne (.b1 .repr (.cal 54 (.cons (.var 9) .nil))) (.b1 .repr (.var 10))) (.cons (.and_ (.cons (.cmp .notN (.var 10) (.cst .non)) (.cons (.cmp .notN (.cal 53 (.cons (.var 9) (.cons (.var 10) .nil))) (.cst (.bl true))) .nil))) .nil))) (.cons (.ret (.cst (.bl false))) .nil) .nil) (.cons (.for_ (.r1 (.cst (.int 3))) (.nm 11) (.cons (.asg (.nm 14) (.cal 56 (.cons (.var 1) (.cons (.ite (.cmp .notN (.var 10) (.cst .non)) (.var 10) (.b1 .tup (.cal 21 (.cons (.var 9) .nil)))) .nil)))) (.cons (.own 15 (.lc (.en (.var 9)) (.tp (.cons (.nm 16) (.cons (.nm 17) .nil))) [16, 17] (.some (.cmp .isN (.ix (.var 17) (.cst (.int 1))) (.cst .non))) (.var 16))) (.cons (.give 15) (.cons (.if_ (.and_ (.cons (.cmp .ne (.var 15) (.lst .nil)) (.cons (.isi "tuple" (.var 14)) (.cons (.cmp .eq (.cal 17 (.cons (.var 1) (.cons (.cst (.int 4)) .nil))) (.cst (.int 0))) .nil)))) (.cons (.asg (.nm 14) (.op .add (.var 14) (.tup (.cons (.cal 18 (.cons (.var 1) (.cons (.var 15) .nil))) .nil)))) .nil) .nil) (.cons (.if_ (.cmp .ne (.b1 .repr (.cal 53 (.cons (.var 9) (.cons (.var 14) .nil)))) (.b1 .repr (.cal 55 (.cons (.var 9) (.cons (.var 14) .nil))))) (.cons (.ret (.cst (.bl false))) .nil) .nil) .nil)))))) .nil))))) (.cons (.asg (.tp (.cons (.nm 12) (.cons (.nm 13) .nil))) (.cal 28 .nil)) (.cons (.if_ (.or_ (.cons (.cmp .notN (.cal 54 (.cons (.var 13) .nil)) (.cst .non)) (.cons (.cmp .ne (.cal 54 (.cons (.sl false (.var 13) .none (.some (.cst (.int 2)))) .nil)) (.tup (.cons (.cst (.int 1)) (.cons (.cst (.int 0)) .nil)))) (.cons (.cmp .ne (.cal 54 (.cons (.var 12) .nil)) (.tup (.cons (.cst (.int 0)) .nil))) (.cons (.cmp .ne (.cal 54 (.cons (.tup .nil) .nil)) (.tup .nil)) .nil))))) (.cons (.ret (.cst (.bl false))) .nil) .nil) (.cons (.if_ (.or_ (.cons (.cmp .notN (.cal 53 (.cons (.var 12) (.cons (.tup (.cons (.cst (.int 0)) .nil)) .nil))) (.cst (.bl true))) (.cons (.cmp .notN (.cal 53 (.cons (.tup .nil) (.cons (.tup .nil) .nil))) (.cst (.bl true))) .nil))) (.cons (.ret (.cst (.bl false))) .nil) .nil) (.cons (.for_ (.e (.tup (.cons (.tup (.cons (.cst (.int 0)) (.cons (.cst (.int 1)) .nil))) (.cons (.tup (.cons (.cst (.int 1)) (.cons (.cst (.int 0)) .nil))) (.cons (.tup .nil) (.cons (.tup (.cons (.cst (.int 1)) .nil)) (.cons (.tup (.cons (.cst (.int 0)) (.cons (.cst (.int 0)) .nil))) (.cons (.tup (.cons (.cst (.int 0)) (.cons (.cst (.bl true)) .nil))) (.cons (.tup (.cons (.cst (.int 0)) (.cons (.cst .non) .nil))) (.cons (.tup (.cons (.lst (.cons (.cst (.int 0)) .nil)) .nil)) (.cons (.tup (.cons (.cst (.str "0")) .nil)) (.cons (.lst (.cons (.cst (.int 0)) .nil)) (.cons (.cst (.int 0)) (.cons (.tup (.cons (.cst (.int 2)) .nil)) .nil)))))))))))))) (.nm 3) (.cons (.if_ (.cmp .notN (.cal 53 (.cons (.var 12) (.cons (.var 3) .nil))) (.cst (.bl false))) (.cons (.ret (.cst (.bl false))) .nil) .nil) .nil)) (.cons (.asg (.nm 4) (.tup (.cons (.tup (.cons (.cst (.int 0)) (.cons (.cst (.int 2)) (.cons (.tup .nil) (.cons (.tup .nil) .nil))))) (.cons (.tup (.cons (.cst (.int 0)) (.cons (.cst (.int 0)) (.cons (.tup .nil) (.cons (.tup .nil) .nil))))) (.cons (.tup (.cons (.cst (.int 0)) (.cons (.cst (.int 1)) (.cons (.tup .nil) (.cons (.tup .nil) .nil))))) .nil))))) (.cons (.asg (.nm 5) (.tup (.cons (.tup (.cons (.cst (.int 2)) (.cons (.cst (.int 2)) (.cons (.tup .nil) (.cons (.tup .nil) .nil))))) (.cons (.tup (.cons (.cst (.int 0)) (.cons (.cst (.int 0)) (.cons (.tup .nil) (.cons (.tup .nil) .nil))))) (.cons (.tup (.cons (.cst (.int 1)) (.cons (.cst (.int 1)) (.cons (.tup .nil) (.cons (.tup .nil) .nil))))) .nil))))) (.cons (.asg (.nm 6) (.tup (.cons (.tup (.cons (.cst (.int 0)) (.cons (.cst (.int 0)) (.cons (.tup .nil) (.cons (.tup (.cons (.tup (.cons (.cst (.int 0)) (.cons (.cst (.int 1)) .nil))) .nil)) .nil))))) (.cons (.tup (.cons (.cst (.int 0)) (.cons (.cst (.int 1)) (.cons (.tup (.cons (.tup (.cons (.cst (.int 0)) (.cons (.cst .non) .nil))) .nil)) (.cons (.tup (.cons (.tup (.cons (.cst (.int 0)) (.cons (.cst (.int 2)) .nil))) .nil)) .nil))))) (.cons (.tup (.cons (.cst (.int 0)) (.cons (.cst (.int 2)) (.cons (.tup (.cons (.tup (.cons (.cst (.int 0)) (.cons (.cst (.int 2)) .nil))) .nil)) (.cons (.tup .nil) .nil))))) (.cons (.tup (.cons (.cst (.int 0)) (.cons (.cst .non) (.cons (.tup (.cons (.tup (.cons (.cst (.int 0)) (.cons (.cst (.int 2)) .nil))) .nil)) (.cons (.tup .nil) .nil))))) .nil)))))) (.cons (.asg (.nm 7) (.lst (.cons (.tup (.cons (.var 4) (.cons (.tup (.cons (.cst (.int 0)) (.cons (.cst (.int 1)) (.cons (.cst (.int 2)) .nil)))) .nil))) (.cons (.tup (.cons (.var 5) (.cons (.tup (.cons (.cst (.int 1)) (.cons (.cst (.int 2)) (.cons (.cst (.int 0)) .nil)))) .nil))) (.cons (.tup (.cons (.var 6) (.cons (.tup (.cons (.cst (.int 2)) (.cons (.cst (.int 1)) (.cons (.cst (.int 0)) .nil)))) .nil))) (.cons (.tup (.cons (.sl false (.var 6) .none (.some (.cst (.int 2)))) (.cons (.tup (.cons (.cst (.int 1)) (.cons (.cst (.int 0)) .nil))) .nil))) (.cons (.tup (.cons (.sl false (.var 6) .none (.some (.cst (.int 1)))) (.cons (.tup (.cons (.cst (.int 0)) .nil)) .nil))) .nil))))))) (.cons (.if_ (.cmp .ne (.lc (.e (.var 7)) (.tp (.cons (.nm 9) (.cons (.nm 10) .nil))) [9, 10] (.some (.cmp .ne (.b1 .repr (.cal 54 (.cons (.var 9) .nil))) (.b1 .repr (.var 10)))) (.var 9)) (.lst .nil)) (.cons (.ret (.cst (.bl false))) .nil) .nil) (.cons (.asg (.nm 8) (.b1 .tup (.lc (.r1 (.cst (.int 30))) (.nm 16) [16] .none (.tup (.cons (.var 16) (.cons (.var 16) (.cons (.tup (.cons (.tup (.cons (.cst (.int 0)) (.cons (.var 16) .nil))) .nil)) (.cons (.tup (.cons (.tup (.cons (.cst (.int 0)) (.cons (.var 16) .nil))) .nil)) .nil)))))))) (.cons (.ret (.and_ (.cons (.cmp .eq (.cal 54 (.cons (.var 8) .nil)) (.trg (.cst (.int 30)))) (.cons (.cmp .eq (.cal 54 (.cons (.rev (.var 8)) .nil)) (.trd (.cons (.cst (.int 29)) (.cons (.neg (.cst (.int 1))) (.cons (.neg (.cst (.int 1))) .nil))))) (.cons (.cmp .isN (.cal 53 (.cons (.var 8) (.cons (.rev (.trg (.cst (.int 30)))) .nil))) (.cst (.bl false))) .nil))))) .nil)))))))))))))
def Fs : List FT := [⟨"is_whole", 6, ["value", "low", "high"], ["value", "low", "high"], b_is_whole⟩,
  ⟨"is_tuple_of", 7, ["value", "low", "high"], ["value", "low", "high"], b_is_tuple_of⟩,
  ⟨"is_number", 8, ["value"], ["value"], b_is_number⟩,
  ⟨"fits_place", 12, ["value"], ["value"], b_fits_place⟩,
  ⟨"fits_places", 13, ["value", "one"], ["value"], b_fits_places⟩,
  ⟨"fits_dealing", 14, ["value", "table", "key"], ["value"], b_fits_dealing⟩,
  ⟨"sees_it", 15, ["one", "other"], ["one", "other"], b_sees_it⟩,
  ⟨"meets", 16, ["one", "other", "known", "place"], ["one", "other"], b_meets⟩,
  ⟨"fits_history", 17, ["value", "done", "one", "pairs", "other"], ["value"], b_fits_history⟩,
  ⟨"has_read", 18, ["reads", "changes", "known", "place", "table", "key"], ["reads", "changes"], b_has_read⟩,
  ⟨"committed", 19, ["history", "at", "one"], ["history"], b_committed⟩,
  ⟨"is_pair", 20, ["history", "first", "second", "one", "other"], ["history", "first", "second"], b_is_pair⟩,
  ⟨"is_whole", 6, ["value", "low", "high"], ["value", "low", "high"], b_is_whole⟩,
  ⟨"is_whole", 6, ["value", "low", "high"], ["value", "low", "high"], b_is_whole⟩,
  ⟨"need_history", 21, ["value"], ["value"], b_need_history⟩,
  ⟨"is_whole", 6, ["value", "low", "high"], ["value", "low", "high"], b_is_whole⟩,
  ⟨"_law_cup", 31, ["script", "cell"], ["script"], b__law_cup⟩,
  ⟨"_law_roll", 32, ["cup", "many", "deep", "found"], ["cup", "many"], b__law_roll⟩,
  ⟨"_law_some", 33, ["cup", "things"], ["cup", "things"], b__law_some⟩,
  ⟨"_law_places", 34, ["cup", "most", "wholes", "found", "turn", "place"], ["cup", "most", "wholes"], b__law_places⟩,
  ⟨"_law_history", 35, ["cup", "many", "open_ones", "found", "commit", "turn", "mixed", "one", "snapshot", "unseen", "changes", "at", "place"], ["cup", "many", "open_ones"], b__law_history⟩,
  ⟨"_law_done", 36, ["history", "at"], ["history"], b__law_done⟩,
  ⟨"_law_saw", 37, ["one", "other"], ["one", "other"], b__law_saw⟩,
  ⟨"_law_has_read", 38, ["one", "other", "table", "key", "own", "place"], ["one", "other"], b__law_has_read⟩,
  ⟨"_law_pairs", 39, ["history", "found", "first", "second"], ["history"], b__law_pairs⟩,
  ⟨"is_whole", 6, ["value", "low", "high"], ["value", "low", "high"], b_is_whole⟩,
  ⟨"is_whole", 6, ["value", "low", "high"], ["value", "low", "high"], b_is_whole⟩,
  ⟨"is_whole", 6, ["value", "low", "high"], ["value", "low", "high"], b_is_whole⟩,
  ⟨"_law_two", 43, ["both"], [], b__law_two⟩,
  ⟨"law", 45, ["script", "cup", "turn", "odd", "alone", "seen", "turned", "rows", "wide", "history", "due", "look", "both", "three", "value", "opened", "at", "one"], ["script"], b_law⟩,
  ⟨"is_whole", 6, ["value", "low", "high"], ["value", "low", "high"], b_is_whole⟩,
  ⟨"is_whole", 6, ["value", "low", "high"], ["value", "low", "high"], b_is_whole⟩,
  ⟨"is_whole", 6, ["value", "low", "high"], ["value", "low", "high"], b_is_whole⟩,
  ⟨"is_whole", 6, ["value", "low", "high"], ["value", "low", "high"], b_is_whole⟩,
  ⟨"is_whole", 6, ["value", "low", "high"], ["value", "low", "high"], b_is_whole⟩,
  ⟨"is_whole", 6, ["value", "low", "high"], ["value", "low", "high"], b_is_whole⟩,
  ⟨"is_whole", 6, ["value", "low", "high"], ["value", "low", "high"], b_is_whole⟩,
  ⟨"leads", 23, ["history", "first", "second"], ["history", "first", "second"], b_leads⟩,
  ⟨"steps_in", 24, ["history", "done", "first", "second"], ["history"], b_steps_in⟩,
  ⟨"is_whole", 6, ["value", "low", "high"], ["value", "low", "high"], b_is_whole⟩,
  ⟨"is_whole", 6, ["value", "low", "high"], ["value", "low", "high"], b_is_whole⟩,
  ⟨"fits_unlike", 26, ["done", "value", "one"], ["done", "value"], b_fits_unlike⟩,
  ⟨"is_whole", 6, ["value", "low", "high"], ["value", "low", "high"], b_is_whole⟩,
  ⟨"is_whole", 6, ["value", "low", "high"], ["value", "low", "high"], b_is_whole⟩,
  ⟨"is_whole", 6, ["value", "low", "high"], ["value", "low", "high"], b_is_whole⟩,
  ⟨"is_whole", 6, ["value", "low", "high"], ["value", "low", "high"], b_is_whole⟩,
  ⟨"_law_steps", 40, ["history", "seen", "first", "second"], ["history"], b__law_steps⟩,
  ⟨"_law_first_order", 41, ["history", "turn", "steps", "found", "done", "one", "other", "there"], ["history"], b__law_first_order⟩,
  ⟨"is_whole", 6, ["value", "low", "high"], ["value", "low", "high"], b_is_whole⟩,
  ⟨"is_whole", 6, ["value", "low", "high"], ["value", "low", "high"], b_is_whole⟩,
  ⟨"is_whole", 6, ["value", "low", "high"], ["value", "low", "high"], b_is_whole⟩,
  ⟨"order_in", 25, ["history", "steps", "left", "found", "free", "one", "other"], ["history"], b_order_in⟩,
  ⟨"fits_order", 27, ["history", "value", "done", "other", "at", "one"], ["history", "value"], b_fits_order⟩,
  ⟨"is_order", 28, ["history", "value"], ["history", "value"], b_is_order⟩,
  ⟨"order_of", 29, ["history"], ["history"], b_order_of⟩,
  ⟨"_law_is_order", 42, ["history", "value", "one", "other"], ["history", "value"], b__law_is_order⟩,
  ⟨"_law_near", 44, ["cup", "order", "swapped", "some", "at", "other"], ["cup", "order"], b__law_near⟩]
def Gn : List Str := ["NUMBER", "TABLES", "PLACES", "DEALINGS"]
def Gi : List Int := [1000000000, 4, 2000, 30]
def Bn : List Str := ["abs", "all", "any", "bool", "dict", "enumerate", "int", "isinstance", "len", "list", "range", "repr", "set", "sorted", "sum", "tuple"]
def lawAt : Nat := 45
def loose : List Str := (["__name__", "HallError", "InvalidHistory", "NUMBER", "TABLES", "DEALINGS", "PLACES", "is_whole", "is_tuple_of", "is_number", "fits_place", "fits_places", "fits_dealing", "sees_it", "meets", "fits_history", "has_read", "committed", "is_pair", "need_history"] : List Str) ++ (["leads", "steps_in", "order_in", "fits_unlike", "fits_order", "is_order", "order_of", "_law_cup", "_law_roll", "_law_some", "_law_places", "_law_history", "_law_done", "_law_saw", "_law_has_read", "_law_pairs", "_law_steps", "_law_first_order", "_law_is_order", "_law_two"] : List Str) ++ (["_law_near"] : List Str)
def topS : List Stmt := PySem.Challenge.pw_snapshothall_k42_whole_first_orders.main.body
theorem tab_ok : tabB Fs Gn Bn topS = true := by decide +kernel
end Kl

set_option Elab.async false
set_option linter.all false
set_option maxRecDepth 100000
/-! maths 1: the program's small functions -/
namespace Kl
open PySem PySem.Spec Sn
def gl (k : Nat) : Option D := (Gi[k]?).map D.int
abbrev C (k f : Nat) := callN (Fs.map FT.fd) gl k f
@[simp] theorem gl0 : gl 0 = some (.int 1000000000) := rfl
@[simp] theorem gl1 : gl 1 = some (.int 4) := rfl
@[simp] theorem gl2 : gl 2 = some (.int 2000) := rfl
@[simp] theorem gl3 : gl 3 = some (.int 30) := rfl
variable {k : Nat} {st : Store}
@[simp] theorem is_whole_int (i lo hi : Int) : C (k + 1) 0 [.int i, .int lo, .int hi] st = .ok (.bl (decide (lo ≤ i) && decide (i ≤ hi)), st) := by
  show runBody ⟨C k, gl⟩ ⟨3, 3, b_is_whole⟩ _ _ = _
  simp [b_is_whole, gLe]
  by_cases h : lo ≤ i <;> simp [h]
@[simp] theorem is_tuple_of (xs : List D) (lo hi : Int) : C (k + 1) 1 [.tup xs, .int lo, .int hi] st = .ok (.bl (decide (lo ≤ xs.length) && decide ((xs.length : Int) ≤ hi)), st) := by
  show runBody ⟨C k, gl⟩ ⟨3, 3, b_is_tuple_of⟩ _ _ = _
  simp [b_is_tuple_of, gLe, gLen]
  by_cases h : lo ≤ (xs.length : Int) <;> simp [h]
@[simp] theorem is_number (i : Int) : C (k + 2) 2 [.int i] st = .ok (.bl (decide (-1000000000 ≤ i) && decide (i ≤ 1000000000)), st) := by
  show runBody ⟨C (k + 1), gl⟩ ⟨1, 1, b_is_number⟩ _ _ = _
  simp [b_is_number, gNeg]
end Kl

set_option Elab.async false
set_option linter.all false
set_option maxRecDepth 100000
/-! maths 2: places, dealings, histories as data; that they fit -/
namespace Kl
open PySem PySem.Spec Sn
abbrev Pl := Int × Option Int
def oD : Option Int → D
  | none => .non
  | some i => .int i
def pD (p : Pl) : D := .tup [.int p.1, oD p.2]
def psD (ps : List Pl) : D := .tup (ps.map pD)
structure De where
  b : Int
  e : Option Int
  r : List Pl
  c : List Pl
def dD (d : De) : D := .tup [.int d.b, oD d.e, psD d.r, psD d.c]
def hD (h : List De) : D := .tup (h.map dD)
variable {k : Nat} {st : Store}
@[simp] theorem oD_isNon (o : Option Int) : (oD o).isNon = o.isNone := by cases o <;> rfl
theorem atI_nat {α : Type} (xs : List α) (i : Nat) : L2.atI xs (i : Int) = xs[i]? := by
  unfold L2.atI L2.ixN
  rw [if_pos (by omega)]
  by_cases h : (i : Int) < xs.length
  · rw [if_pos h]
    simp
  · rw [if_neg h, List.getElem?_eq_none (by omega)]
    rfl
@[simp] theorem atI0 {α : Type} (x : α) (xs : List α) : L2.atI (x :: xs) 0 = some x := atI_nat _ 0
@[simp] theorem atI1 {α : Type} (x y : α) (xs : List α) : L2.atI (x :: y :: xs) 1 = some y := atI_nat _ 1
@[simp] theorem atI2 {α : Type} (x y z : α) (xs : List α) : L2.atI (x :: y :: z :: xs) 2 = some z := atI_nat _ 2
@[simp] theorem atI3 {α : Type} (x y z u : α) (xs : List α) : L2.atI (x :: y :: z :: u :: xs) 3 = some u := atI_nat _ 3
theorem small2 : (2 : Nat) ≤ sizeLine := by unfold sizeLine; omega
def okP (p : Pl) : Prop := 0 ≤ p.1 ∧ p.1 ≤ 3 ∧ ∀ i, p.2 = some i → -1000000000 ≤ i ∧ i ≤ 1000000000
theorem fits_place {p : Pl} (h : okP p) : C (k + 3) 3 [pD p] st = .ok (.bl true, st) := by
  obtain ⟨t, o⟩ := p
  obtain ⟨h1, h2, h3⟩ := h
  simp only at h1 h2 h3
  show runBody ⟨C (k + 2), gl⟩ ⟨1, 1, b_fits_place⟩ _ _ = _
  cases o with
  | none => simp [b_fits_place, pD, gIx, gSub, h1, h2, oD]
  | some i =>
    have := h3 i rfl
    simp [b_fits_place, pD, gIx, gSub, h1, h2, oD, this]
theorem eqv_oD (o o' : Option Int) : D.eqv (oD o) (oD o') = decide (o = o') := by
  cases o <;> cases o' <;> simp [oD, D.eqv, Bool.beq_eq_decide_eq]
theorem eqv_pD (p q : Pl) : D.eqv (pD p) (pD q) = decide (p = q) := by
  obtain ⟨a, b⟩ := p
  obtain ⟨c, d⟩ := q
  simp [pD, D.eqv, D.eqvs, eqv_oD, Prod.mk.injEq, Bool.beq_eq_decide_eq]
theorem hash_pD (p : Pl) : (isTup (pD p) && hashOk (pD p) && (pD p).noText) = true := by
  obtain ⟨a, b⟩ := p
  cases b <;> simp [pD, isTup, hashOk, D.hashy, D.hashys, D.depth, D.depths, D.noText, D.noTexts, oD]
theorem distinct_nodup : ∀ (ps acc : List Pl), (acc ++ ps).Nodup → (ps.map pD).foldl (fun acc x => if (acc.any fun y => D.eqv y x) = true then acc else acc ++ [x]) (acc.map pD) = (acc ++ ps).map pD
  | [], acc, _ => by simp
  | p :: ps, acc, h => by
    have hn : p ∉ acc := fun hm => by
      rw [List.nodup_append] at h
      exact h.2.2 p hm p List.mem_cons_self rfl
    have e : ((acc.map pD).any fun y => D.eqv y (pD p)) = false := by
      rw [List.any_eq_false]
      intro y hy
      obtain ⟨q, hq, rfl⟩ := List.mem_map.mp hy
      rw [eqv_pD]
      simp
      rintro rfl
      exact hn hq
    rw [List.map_cons, List.foldl_cons, e]
    have := distinct_nodup ps (acc ++ [p]) (by rw [List.append_assoc]; exact h)
    rw [List.map_append, List.append_assoc] at this
    exact this
def okPs (ps : List Pl) : Prop := (∀ p ∈ ps, okP p) ∧ ps.Nodup ∧ ps.length < 63
theorem fits_places {ps : List Pl} (h : okPs ps) : C (k + 4) 4 [psD ps] st = .ok (.bl true, st) := by
  obtain ⟨h1, h2, h3⟩ := h
  show runBody ⟨C (k + 3), gl⟩ ⟨1, 2, b_fits_places⟩ _ _ = _
  have l1 : (ps.length : Int) ≤ 2000 := by omega
  have lc : lcLoop (lcBody (.nm 1) [1] cYes (cCal (C (k + 3) 3) (lCons (cVar 1) lNil)) [some (.val (.tup (ps.map pD))), none]) (ps.map pD) st = .ok (ps.map fun _ => .bl true, st) :=
    lcLoop_all fun p hp => by simp [lcBody, wipeE, cYes, fits_place (h1 p hp)]
  have hs : ((ps.map pD).all fun d => isTup d && hashOk d && d.noText) = true := by
    rw [List.all_eq_true]
    intro d hd
    obtain ⟨p, _, rfl⟩ := List.mem_map.mp hd
    exact hash_pD p
  have dl : (distinctD (ps.map pD)).length = ps.length := by
    have := distinct_nodup ps [] (by simpa using h2)
    unfold distinctD
    rw [List.map_nil] at this
    rw [this]
    simp
  have ls : gLens (.tup (ps.map pD)) st = .ok (.int ps.length, st) := by
    unfold gLens
    dsimp only
    rw [if_pos ⟨.inl hs, by simpa using h3⟩, dl]
  have ln : gLen (.tup (ps.map pD)) st = .ok (.int ps.length, st) := by simp [gLen]
  have ga : ((ps.map fun _ => true).all id) = true := by simp
  simp [b_fits_places, psD, l1, lc, gAll, ls, ln, gEq_int]
structure okD (d : De) : Prop where
  b0 : 0 ≤ d.b
  b1 : d.b ≤ 30
  e : ∀ i, d.e = some i → 0 ≤ i ∧ i ≤ 29
  r : okPs d.r
  c : okPs d.c
  n : ∀ p ∈ d.c, p.2.isSome = true
theorem fits_dealing {d : De} (h : okD d) : C (k + 5) 5 [dD d] st = .ok (.bl true, st) := by
  obtain ⟨b, e, r, c⟩ := d
  obtain ⟨h1, h2, h3, h4, h5, h6⟩ := h
  simp only at h1 h2 h3 h4 h5 h6
  show runBody ⟨C (k + 4), gl⟩ ⟨1, 3, b_fits_dealing⟩ _ _ = _
  have lc : ∀ D0, lcLoop (lcBody (.tp (.cons (.nm 1) (.cons (.nm 2) .nil))) [1, 2] cYes (c2 (cVar 2) (cPure .non) gIsNot) [some (.val D0), none, none]) (c.map pD) st = .ok (c.map fun _ => .bl true, st) := fun D0 =>
    lcLoop_all fun p hp => by
      have := h6 p hp
      obtain ⟨t, o⟩ := p
      cases o with
      | none => cases this
      | some i => simp [lcBody, wipeE, cYes, pD, oD]
  have hr : C (k + 4) 4 [.tup (r.map pD)] st = .ok (.bl true, st) := fits_places h4
  have hc : C (k + 4) 4 [.tup (c.map pD)] st = .ok (.bl true, st) := fits_places h5
  cases e with
  | none => simp [b_fits_dealing, dD, gIx, gSub, h1, h2, oD, psD, hr, hc, lc, gAll]
  | some i =>
    have := h3 i rfl
    have h8 : i ≤ 30 - 1 := by omega
    simp [b_fits_dealing, dD, gIx, gSub, h1, h2, oD, psD, hr, hc, lc, gAll, this.1, this.2]
theorem sees_it {one other : De} {e : Int} (h : other.e = some e) : C (k + 1) 6 [dD one, dD other] st = .ok (.bl (decide (e < one.b)), st) := by
  show runBody ⟨C k, gl⟩ ⟨2, 2, b_sees_it⟩ _ _ = _
  simp [b_sees_it, dD, gIx, h, oD, gLt]
/-! dicts of places -/
structure KI (es : List (D × D)) (S : List Pl) : Prop where
  key : ∀ e ∈ es, ∃ p, e.1 = pD p
  has : ∀ q, (es.any fun e => D.eqv e.1 (pD q)) = decide (q ∈ S)
theorem KI.put {es : List (D × D)} {S : List Pl} {v : D} (h : KI es S) (p : Pl) : KI (putD es (pD p) v) (S ++ [p]) := by
  unfold putD
  by_cases a : (es.any fun e => D.eqv e.1 (pD p)) = true
  · rw [if_pos a]
    have keys : ∀ (l : List (D × D)) q, ((l.map fun e => if D.eqv e.1 (pD p) = true then (e.1, v) else e).any fun e => D.eqv e.1 q) = l.any fun e => D.eqv e.1 q := fun l q => by
      induction l with
      | nil => rfl
      | cons e l ih =>
        rw [List.map_cons, List.any_cons, List.any_cons, ih]
        congr 1
        split <;> rfl
    refine ⟨fun e he => ?_, fun q => ?_⟩
    · obtain ⟨e0, h0, rfl⟩ := List.mem_map.mp he
      split
      · exact h.key e0 h0
      · exact h.key e0 h0
    · rw [keys, h.has]
      rw [h.has] at a
      simp only [decide_eq_true_eq] at a
      by_cases e : q = p
      · subst e; simp [a]
      · simp [e]
  · rw [if_neg a]
    refine ⟨fun e he => ?_, fun q => ?_⟩
    · rcases List.mem_append.mp he with he | he
      · exact h.key e he
      · rw [List.mem_singleton] at he
        subst he
        exact ⟨p, rfl⟩
    · rw [List.any_append, h.has]
      by_cases e : q = p
      · subst e; simp [eqv_pD]
      · have e' : p ≠ q := fun z => e z.symm
        simp [eqv_pD, e, e']
theorem KI.fold {v : D} : ∀ (ps : List Pl) {es : List (D × D)} {S : List Pl}, KI es S → KI ((ps.map fun p => (pD p, v)).foldl (fun l p => putD l p.1 p.2) es) (S ++ ps)
  | [], es, S, h => by simpa using h
  | p :: ps, es, S, h => by
    have := KI.fold (v := v) ps (h.put (v := v) p)
    rw [List.append_assoc] at this
    exact this
theorem pairs_map (v : D) : ∀ ps : List Pl, pairsD (ps.map fun p => .tup [pD p, v]) = some (ps.map fun p => (pD p, v))
  | [] => rfl
  | p :: ps => by
    rw [List.map_cons, pairsD, pairs_map v ps]
    rfl
theorem hash2 (p : Pl) : (isTup (pD p) && hashOk (pD p)) = true := by
  have := hash_pD p
  rw [Bool.and_eq_true] at this
  exact this.1
theorem find_any {α : Type} (f : α → Bool) : ∀ l : List α, (l.find? f).isSome = l.any f
  | [] => rfl
  | x :: l => by
    rw [List.find?_cons, List.any_cons, ← find_any f l]
    cases f x <;> rfl
theorem dict_of (ps : List Pl) : ∃ es, (∀ st, gDict (.lst (ps.map fun p => .tup [pD p, .bl true])) st = .ok (.dct es, st)) ∧ ∀ q st, gIn2 (pD q) (.dct es) st = .ok (.bl (decide (q ∈ ps)), st) := by
  refine ⟨(ps.map fun p => (pD p, D.bl true)).foldl (fun l p => putD l p.1 p.2) [], fun st => ?_, fun q st => ?_⟩
  · unfold gDict
    dsimp only
    rw [pairs_map]
    dsimp only
    refine if_pos (.inr (List.all_eq_true.mpr fun e he => ?_))
    obtain ⟨p, _, rfl⟩ := List.mem_map.mp he
    exact hash2 p
  · have K := KI.fold (v := .bl true) ps (es := []) (S := []) ⟨fun e he => (by cases he), fun q => rfl⟩
    rw [List.nil_append] at K
    unfold gIn2
    dsimp only
    rw [if_pos, getD]
    · rw [Option.isSome_map, find_any, K.has q]
    · unfold keyFit
      rw [Bool.or_eq_true]
      right
      rw [Bool.and_assoc, Bool.and_eq_true, List.all_eq_true]
      refine ⟨fun e he => ?_, hash2 q⟩
      obtain ⟨p, hp⟩ := K.key e he
      rw [hp]
      exact hash2 p
end Kl

set_option Elab.async false
set_option linter.all false
set_option maxRecDepth 100000
/-! maths 3: pairs and triples, as the program has them -/
namespace Sn
open PySem PySem.Spec
@[simp] theorem le_sz1 : 1 ≤ sizeLine := by unfold sizeLine; omega
@[simp] theorem le_sz2 : 2 ≤ sizeLine := by unfold sizeLine; omega
@[simp] theorem le_sz3 : 3 ≤ sizeLine := by unfold sizeLine; omega
@[simp] theorem le_sz4 : 4 ≤ sizeLine := by unfold sizeLine; omega
@[simp] theorem le_sz6 : 6 ≤ sizeLine := by unfold sizeLine; omega
end Sn
namespace Kl
open PySem PySem.Spec Sn
variable {k : Nat} {st : Store}
@[simp] theorem dD0 (d : De) : gIx2 (dD d) (.int 0) st = .ok (.int d.b, st) := by simp [dD, gIx]
@[simp] theorem dD1 (d : De) : gIx2 (dD d) (.int 1) st = .ok (oD d.e, st) := by simp [dD, gIx]
@[simp] theorem dD2 (d : De) : gIx2 (dD d) (.int 2) st = .ok (psD d.r, st) := by simp [dD, gIx]
@[simp] theorem dD3 (d : De) : gIx2 (dD d) (.int 3) st = .ok (psD d.c, st) := by simp [dD, gIx]
@[simp] theorem walk_psD (ps : List Pl) : walkOf (psD ps) = some (ps.map pD) := rfl
@[simp] theorem walk_hD (h : List De) : walkOf (hD h) = some (h.map dD) := rfl
theorem meets (one other : De) : C (k + 1) 7 [dD one, dD other] st = .ok (.bl (one.c.any fun p => decide (p ∈ other.c)), st) := by
  show runBody ⟨C k, gl⟩ ⟨2, 4, b_meets⟩ _ _ = _
  obtain ⟨es, h1, h2⟩ := dict_of other.c
  have l1 : lcLoop (lcBody (.nm 3) [3] cYes (cTup (lCons (cVar 3) (lCons (cPure (.bl true)) lNil))) [some (.val (dD one)), some (.val (dD other)), none, none]) (other.c.map pD) st = .ok (other.c.map fun p => .tup [pD p, .bl true], st) :=
    lcLoop_all fun p hp => by simp [lcBody, wipeE, cYes]
  have l2 : lcLoop (lcBody (.nm 3) [3] cYes (c2 (cVar 3) (cVar 2) gIn2) [some (.val (dD one)), some (.val (dD other)), some (.val (.dct es)), none]) (one.c.map pD) st = .ok (one.c.map fun p => .bl (decide (p ∈ other.c)), st) :=
    lcLoop_all fun p hp => by simp [lcBody, wipeE, cYes, h2]
  simp [b_meets, l1, h1, l2, gAny]
def RB (r c : List Pl) : Bool := c.any fun q => decide (q ∈ r) || decide ((q.1, none) ∈ r)
theorem has_read (r c : List Pl) : C (k + 1) 9 [psD r, psD c] st = .ok (.bl (RB r c), st) := by
  show runBody ⟨C k, gl⟩ ⟨2, 6, b_has_read⟩ _ _ = _
  obtain ⟨es, h1, h2⟩ := dict_of r
  have l1 : lcLoop (lcBody (.nm 3) [3] cYes (cTup (lCons (cVar 3) (lCons (cPure (.bl true)) lNil))) [some (.val (psD r)), some (.val (psD c)), none, none, none, none]) (r.map pD) st = .ok (r.map fun p => .tup [pD p, .bl true], st) :=
    lcLoop_all fun p hp => by simp [lcBody, wipeE, cYes]
  have l2 : lcLoop (lcBody (.tp (.cons (.nm 4) (.cons (.nm 5) .nil))) [4, 5] cYes (cOr (c2 (cTup (lCons (cVar 4) (lCons (cVar 5) lNil))) (cVar 2) gIn2) (c2 (cTup (lCons (cVar 4) (lCons (cPure .non) lNil))) (cVar 2) gIn2)) [some (.val (psD r)), some (.val (psD c)), some (.val (.dct es)), none, none, none]) (c.map pD) st = .ok (c.map fun q => .bl (decide (q ∈ r) || decide ((q.1, none) ∈ r)), st) :=
    lcLoop_all fun q hq => by
      obtain ⟨t, o⟩ := q
      have e1 : ∀ st, gIn2 (.tup [.int t, oD o]) (.dct es) st = .ok (.bl (decide ((t, o) ∈ r)), st) := fun st => h2 (t, o) st
      have e2 : ∀ st, gIn2 (.tup [.int t, .non]) (.dct es) st = .ok (.bl (decide ((t, none) ∈ r)), st) := fun st => h2 (t, none) st
      by_cases a : (t, o) ∈ r <;> simp [lcBody, wipeE, cYes, pD, e1, e2, a]
  simp [b_has_read, l1, h1, l2, gAny, RB]
end Kl

set_option Elab.async false
set_option linter.all false
set_option maxRecDepth 100000
/-! maths 4: pairs and triples, as the program has them -/
namespace Kl
open PySem PySem.Spec Sn
variable {k : Nat} {st : Store}
@[simp] theorem gIsNot_oD (o : Option Int) : gIsNot (oD o) .non st = .ok (.bl o.isSome, st) := by cases o <;> rfl
@[simp] theorem gIs_oD (o : Option Int) : gIs (oD o) .non st = .ok (.bl o.isNone, st) := by cases o <;> rfl
def at_ (h : List De) (i : Nat) : De := h.getD i ⟨0, none, [], []⟩
theorem ixH {h : List De} {i : Nat} (hi : i < h.length) : gIx2 (hD h) (.int (i : Nat)) st = .ok (dD (at_ h i), st) := by
  unfold hD
  rw [gIx2_tup]
  unfold gIx
  dsimp only
  rw [atI_nat, List.getElem?_map, List.getElem?_eq_getElem hi]
  simp [at_, hi]
theorem enum_h : ∀ (h : List De) (n : Nat), enumD n (h.map dD) = (List.range h.length).map fun i => .tup [.int ((n + i : Nat) : Int), dD (at_ h i)]
  | [], _ => rfl
  | d :: h, n => by
    rw [List.map_cons, enumD, enum_h h, List.length_cons, List.range_succ_eq_map, List.map_cons, List.map_map]
    congr 1
    refine List.map_congr_left fun i _ => ?_
    simp only [Function.comp_apply]
    have : n + 1 + i = n + (i + 1) := by omega
    rw [this]
    rfl
def doneL (h : List De) : List Nat := (List.range h.length).filter fun i => (at_ h i).e.isSome
theorem done_lt {h : List De} {i : Nat} (hi : i ∈ doneL h) : i < h.length := by
  unfold doneL at hi
  rw [List.mem_filter, List.mem_range] at hi
  exact hi.1
theorem done_e {h : List De} {i : Nat} (hi : i ∈ doneL h) : ∃ e, (at_ h i).e = some e := by
  unfold doneL at hi
  rw [List.mem_filter] at hi
  exact Option.isSome_iff_exists.mp hi.2
def iD (i : Nat) : D := .int (i : Nat)
theorem filterMap_if {α β : Type} (p : α → Bool) (f : α → β) : ∀ xs : List α, (xs.filterMap fun x => if p x = true then some (f x) else none) = (xs.filter p).map f
  | [] => rfl
  | x :: xs => by
    rw [List.filterMap_cons, List.filter_cons, filterMap_if p f xs]
    cases p x <;> rfl
theorem committed (h : List De) : C (k + 1) 10 [hD h] st = .ok (.lst ((doneL h).map iD), st) := by
  show runBody ⟨C k, gl⟩ ⟨1, 3, b_committed⟩ _ _ = _
  have l1 : lcLoop (lcBody (.tp (.cons (.nm 1) (.cons (.nm 2) .nil))) [1, 2] (cT (c2 (c2 (cVar 2) (cPure (.int 1)) gIx2) (cPure .non) gIsNot)) (cVar 1) [some (.val (hD h)), none, none]) (enumD 0 (h.map dD)) st = .ok ((doneL h).map iD, st) := by
    rw [enum_h, lcLoop_map (g := fun i => if (at_ h i).e.isSome = true then some (iD i) else none)]
    · rw [filterMap_if]; rfl
    · intro i hi
      simp [lcBody, wipeE, iD]
      split <;> simp [*]
  have hI : (hD h).items = some (h.map dD) := rfl
  simp [b_committed, hI, l1]
theorem is_pair {h : List De} {f s : Nat} {e : Int} (hf : f < h.length) (hs : s < h.length) (he : (at_ h s).e = some e) :
    C (k + 2) 11 [hD h, iD f, iD s] st = .ok (.bl (!decide (f = s) && (!decide (e < (at_ h f).b) && RB (at_ h f).r (at_ h s).c)), st) := by
  show runBody ⟨C (k + 1), gl⟩ ⟨3, 5, b_is_pair⟩ _ _ = _
  have hne : gNe (iD f) (iD s) st = .ok (.bl (!decide (f = s)), st) := by
    unfold iD
    rw [gNe_int]
    congr 4
    simp [Int.ofNat_inj]
  have i1 : gIx2 (hD h) (iD f) st = .ok (dD (at_ h f), st) := ixH hf
  have i2 : gIx2 (hD h) (iD s) st = .ok (dD (at_ h s), st) := ixH hs
  simp [b_is_pair, i1, i2, hne, sees_it he, has_read]
  by_cases a : f = s
  · simp [a]
  · by_cases b : e < (at_ h f).b <;> simp [a, b]
def pairB (h : List De) (f s : Nat) : Bool := !decide (f = s) && (!decide (((at_ h s).e.getD 0) < (at_ h f).b) && RB (at_ h f).r (at_ h s).c)
def PL (h : List De) : List (Nat × Nat) := (doneL h).flatMap fun f => ((doneL h).filter (pairB h f)).map fun s => (f, s)
def prD (p : Nat × Nat) : D := .tup [iD p.1, iD p.2]
end Kl

set_option Elab.async false
set_option linter.all false
set_option maxRecDepth 100000
/-! maths 5: the program's triples -/
namespace Kl
open PySem PySem.Spec Sn
variable {k : Nat} {st : Store}
def eN (h : List De) (i : Nat) : Int := (at_ h i).e.getD 0
/-- the triple is counted -/
def cond (h : List De) (f m l : Nat) : Bool := decide (eN h l < eN h m) && (decide (l = f) || decide (eN h l < eN h f))
def trD (t : Nat × Nat × Nat) : D := .tup [iD t.1, iD t.2.1, iD t.2.2]
def T2 (h : List De) (p : Nat × Nat) (qs : List (Nat × Nat)) : List (Nat × Nat × Nat) := qs.filterMap fun q => if decide (p.2 = q.1) && cond h p.1 p.2 q.2 then some (p.1, p.2, q.2) else none
def T1 (h : List De) (ps : List (Nat × Nat)) : List (Nat × Nat × Nat) := ps.flatMap fun p => T2 h p (PL h)
def TA (h : List De) : List (Nat × Nat × Nat) := T1 h (PL h)
theorem PL_mem {h : List De} {p : Nat × Nat} (hp : p ∈ PL h) : p.1 ∈ doneL h ∧ p.2 ∈ doneL h := by
  unfold PL at hp
  rw [List.mem_flatMap] at hp
  obtain ⟨f, hf, hp⟩ := hp
  obtain ⟨s, hs, rfl⟩ := List.mem_map.mp hp
  exact ⟨hf, (List.mem_filter.mp hs).1⟩
theorem eN_of {h : List De} {i : Nat} (hi : i ∈ doneL h) : (at_ h i).e = some (eN h i) := by
  obtain ⟨e, he⟩ := done_e hi
  unfold eN
  rw [he]
  rfl
theorem ixE {h : List De} {i : Nat} (hi : i ∈ doneL h) : ∀ st, gIx2 (hD h) (iD i) st = .ok (dD (at_ h i), st) := fun st => ixH (done_lt hi)
theorem eq_iD (i j : Nat) : gEq (iD i) (iD j) st = .ok (.bl (decide (i = j)), st) := by
  unfold iD
  rw [gEq_int]
  congr 3
  simp [Int.ofNat_inj]
theorem ltE (i j : Int) : gLt (.int i) (.int j) st = .ok (.bl (decide (i < j)), st) := rfl
theorem T2_app (h : List De) (p : Nat × Nat) (a b : List (Nat × Nat)) : T2 h p (a ++ b) = T2 h p a ++ T2 h p b := by
  unfold T2
  rw [List.filterMap_append]
theorem T1_app (h : List De) (a b : List (Nat × Nat)) : T1 h (a ++ b) = T1 h a ++ T1 h b := by
  unfold T1
  rw [List.flatMap_append]
theorem T2_len (h : List De) (p : Nat × Nat) (qs : List (Nat × Nat)) : (T2 h p qs).length ≤ qs.length := List.length_filterMap_le _ _
theorem T1_len (h : List De) : ∀ ps : List (Nat × Nat), (T1 h ps).length ≤ ps.length * (PL h).length
  | [] => by simp [T1]
  | p :: ps => by
    have := T1_len h ps
    have h2 := T2_len h p (PL h)
    have e : T1 h (p :: ps) = T2 h p (PL h) ++ T1 h ps := rfl
    rw [e, List.length_append, List.length_cons, Nat.succ_mul]
    omega
end Kl

set_option Elab.async false
set_option linter.all false
set_option maxRecDepth 100000
/-! maths 6: sorting; the program's look at histories -/
namespace Kl
open PySem PySem.Spec Sn
variable {k : Nat} {st : Store}
theorem leD_int (a b : Int) : leD (.int a) (.int b) = decide (a ≤ b) := by
  unfold leD
  simp [PySem.W.dataLe, PySem.W.sortLe, PySem.W.keyToks, PyProof.Rows.lexLt, PyProof.Rows.itemLt, D.toP]
  by_cases h : a ≤ b <;> simp [h] <;> omega
theorem leD_tr (p q : Nat × Nat × Nat) (h : p.1 < q.1 ∨ (p.1 = q.1 ∧ (p.2.1 < q.2.1 ∨ (p.2.1 = q.2.1 ∧ p.2.2 ≤ q.2.2)))) : leD (trD p) (trD q) = true := by
  obtain ⟨a, b, c⟩ := p
  obtain ⟨x, y, z⟩ := q
  unfold leD
  simp [PySem.W.dataLe, PySem.W.sortLe, PySem.W.keyToks, PySem.W.keyToksAll, PyProof.Rows.lexLt, PyProof.Rows.itemLt, D.toP, D.toPs, trD, iD]
  simp at h
  omega
theorem sort_ints (xs : List Int) : gSorted (.lst (xs.map D.int)) st = .ok (.lst ((xs.mergeSort fun a b => decide (a ≤ b)).map D.int), st) := by
  unfold gSorted
  dsimp only
  rw [if_pos]
  · rw [List.map_mergeSort (s := leD)]
    intro a _ b _
    exact (leD_int a b).symm
  · unfold sortOk
    simp only [Bool.and_eq_true, Bool.or_eq_true, List.all_eq_true, D.plains_eq]
    refine ⟨⟨⟨fun d hd => ?_, fun d hd e he => ?_⟩, .inr fun d hd => ?_⟩, fun d hd => ?_⟩
    · obtain ⟨i, _, rfl⟩ := List.mem_map.mp hd
      rfl
    · obtain ⟨i, _, rfl⟩ := List.mem_map.mp hd
      obtain ⟨j, _, rfl⟩ := List.mem_map.mp he
      rfl
    · obtain ⟨i, _, rfl⟩ := List.mem_map.mp hd
      rfl
    · obtain ⟨i, _, rfl⟩ := List.mem_map.mp hd
      rfl
theorem sort_range {xs : List Int} {n : Nat} (h : xs.Perm ((List.range n).map Int.ofNat)) : (xs.mergeSort fun a b => decide (a ≤ b)) = (List.range n).map Int.ofNat := by
  refine List.Perm.eq_of_pairwise (le := fun a b => decide (a ≤ b) = true) (fun a b _ _ h1 h2 => ?_) (List.pairwise_mergeSort (fun a b c h1 h2 => ?_) (fun a b => ?_) _) ?_ ((List.mergeSort_perm _ _).trans h)
  · simp at h1 h2
    omega
  · simp at h1 h2 ⊢
    omega
  · simp
    omega
  · rw [List.pairwise_map]
    refine List.Pairwise.imp ?_ (List.pairwise_lt_range (n := n))
    intro a b hab
    simp
    omega
theorem sort_tr {ts : List (Nat × Nat × Nat)} (h : ts.Pairwise fun p q => p.1 < q.1 ∨ (p.1 = q.1 ∧ (p.2.1 < q.2.1 ∨ (p.2.1 = q.2.1 ∧ p.2.2 ≤ q.2.2)))) : gSorted (.lst (ts.map trD)) st = .ok (.lst (ts.map trD), st) := by
  unfold gSorted
  dsimp only
  rw [if_pos]
  · rw [List.mergeSort_of_pairwise]
    rw [List.pairwise_map]
    exact h.imp fun hpq => leD_tr _ _ hpq
  · unfold sortOk
    simp only [Bool.and_eq_true, Bool.or_eq_true, List.all_eq_true, D.plains_eq]
    refine ⟨⟨⟨fun d hd => ?_, fun d hd e he => ?_⟩, .inl fun d hd => ?_⟩, fun d hd => ?_⟩
    · obtain ⟨i, _, rfl⟩ := List.mem_map.mp hd
      rfl
    · obtain ⟨i, _, rfl⟩ := List.mem_map.mp hd
      obtain ⟨j, _, rfl⟩ := List.mem_map.mp he
      rfl
    · obtain ⟨i, _, rfl⟩ := List.mem_map.mp hd
      rfl
    · obtain ⟨i, _, rfl⟩ := List.mem_map.mp hd
      rfl
/-! ### histories -/
def dn (h : List De) : List De := h.filter fun d => d.e.isSome
def eOf (d : De) : Int := d.e.getD 0
structure okH (h : List De) : Prop where
  len : h.length ≤ 30
  all : ∀ d ∈ h, okD d
  ns : ((dn h).map eOf).Perm ((List.range (dn h).length).map Int.ofNat)
  b : ∀ d ∈ h, d.b ≤ (dn h).length
  be : ∀ d ∈ h, ∀ e, d.e = some e → d.b ≤ e
  nc : ∀ x ∈ dn h, ∀ y ∈ dn h, eOf x < eOf y → eOf x < y.b ∨ ∀ p ∈ x.c, p ∉ y.c
theorem dn_e {h : List De} {d : De} (hd : d ∈ dn h) : d.e = some (eOf d) := by
  unfold dn at hd
  rw [List.mem_filter] at hd
  obtain ⟨e, he⟩ := Option.isSome_iff_exists.mp hd.2
  unfold eOf
  rw [he]
  rfl
def tests : SL := (.cons (.if_ (.or_ (.cons (.cmp .gt (.ix (.var 2) (.cst (.int 0))) (.b1 .len (.var 1))) (.cons (.and_ (.cons (.cmp .notN (.ix (.var 2) (.cst (.int 1))) (.cst .non)) (.cons (.cmp .gt (.ix (.var 2) (.cst (.int 0))) (.ix (.var 2) (.cst (.int 1)))) .nil))) .nil))) (.cons (.ret (.cst (.bl false))) .nil) .nil) .nil)
theorem tests_ok {h : List De} (o : okH h) {d : De} (hd : d ∈ h) {T : Tb} {x a b : Option Sl} :
    denSs T tests [x, some (.val (.lst ((dn h).map dD))), some (.val (dD d)), a, b] st = .ok .nx [x, some (.val (.lst ((dn h).map dD))), some (.val (dD d)), a, b] st := by
  have h1 := o.b d hd
  have h2 : ¬ ((dn h).length : Int) < d.b := by omega
  cases e : d.e with
  | none => simp [tests, gGt, h2, e, oD]
  | some i =>
    have h3 := o.be d hd i e
    have h4 : ¬ i < d.b := by omega
    simp [tests, gGt, h2, e, oD, h4]
end Kl

set_option Elab.async false
set_option linter.all false
set_option maxRecDepth 100000
/-! maths 7: the program's look at histories; triples_of -/
namespace Kl
open PySem PySem.Spec Sn
variable {k : Nat} {st : Store}
def PH (h : List De) : List (De × De) := (dn h).flatMap fun x => ((dn h).filter fun y => decide (eOf x < eOf y)).map fun y => (x, y)
def dpD (p : De × De) : D := .tup [dD p.1, dD p.2]
theorem PH_mem {h : List De} {p : De × De} (hp : p ∈ PH h) : p.1 ∈ dn h ∧ p.2 ∈ dn h ∧ eOf p.1 < eOf p.2 := by
  unfold PH at hp
  rw [List.mem_flatMap] at hp
  obtain ⟨f, hf, hp⟩ := hp
  obtain ⟨s, hs, rfl⟩ := List.mem_map.mp hp
  rw [List.mem_filter] at hs
  exact ⟨hf, hs.1, by simpa using hs.2⟩
theorem flat_len {α β : Type} {f : α → List β} {n : Nat} : ∀ {xs : List α}, (∀ x ∈ xs, (f x).length ≤ n) → (xs.flatMap f).length ≤ xs.length * n
  | [], _ => by simp
  | x :: xs, h => by
    have h1 := flat_len (xs := xs) fun y hy => h y (List.mem_cons_of_mem _ hy)
    have h2 := h x List.mem_cons_self
    rw [List.flatMap_cons, List.length_append, List.length_cons, Nat.succ_mul]
    omega
theorem dn_len (h : List De) : (dn h).length ≤ h.length := List.length_filter_le _ _
theorem fits_history {h : List De} (o : okH h) : C (k + 6) 8 [hD h] st = .ok (.bl true, st) := by
  show runBody ⟨C (k + 5), gl⟩ ⟨1, 5, b_fits_history⟩ _ _ = _
  have l0 : (h.length : Int) ≤ 30 := by have := o.len; omega
  have dl := dn_len h
  have ol := o.len
  have itO : C (k + 5) 1 [hD h, .int 0, .int 30] st = .ok (.bl true, st) := by
    have := is_tuple_of (k := k + 4) (st := st) (h.map dD) 0 30
    rw [List.length_map] at this
    simpa [l0, hD] using this
  have l1 : lcLoop (lcBody (.nm 2) [2] cYes (cCal (C (k + 5) 5) (lCons (cVar 2) lNil)) [some (.val (hD h)), none, none, none, none]) (h.map dD) st = .ok (h.map fun _ => .bl true, st) :=
    lcLoop_all fun d hd => by simp [lcBody, wipeE, cYes, fits_dealing (o.all d hd)]
  have l2 : lcLoop (lcBody (.nm 2) [2] (cT (c2 (c2 (cVar 2) (cPure (.int 1)) gIx2) (cPure .non) gIsNot)) (cVar 2) [some (.val (hD h)), none, none, none, none]) (h.map dD) st = .ok ((dn h).map dD, st) := by
    rw [lcLoop_map (g := fun d => if d.e.isSome = true then some (dD d) else none)]
    · rw [filterMap_if]; rfl
    · intro d hd
      simp [lcBody, wipeE]
      split <;> simp [*]
  have l3 : lcLoop (lcBody (.nm 2) [2] cYes (c2 (cVar 2) (cPure (.int 1)) gIx2) [some (.val (hD h)), some (.val (.lst ((dn h).map dD))), none, none, none]) ((dn h).map dD) st = .ok (((dn h).map eOf).map D.int, st) := by
    rw [List.map_map]
    refine lcLoop_all fun d hd => ?_
    have := dn_e hd
    simp [lcBody, wipeE, cYes, this, oD]
  have so : gSorted (.lst (((dn h).map eOf).map D.int)) st = .ok (.lst (((List.range (dn h).length).map Int.ofNat).map D.int), st) := by
    rw [sort_ints, sort_range o.ns]
  have lr : gLrg (.int ((dn h).length : Nat)) st = .ok (.lst (((List.range (dn h).length).map Int.ofNat).map D.int), st) := by
    unfold gLrg
    dsimp only
    rw [if_pos (by omega)]
    simp
  have ne : ∀ xs : List Int, gNe (.lst (xs.map D.int)) (.lst (xs.map D.int)) st = .ok (.bl false, st) := fun xs => by
    have hd : D.depths (xs.map D.int) ≤ 1 := by
      induction xs with
      | nil => simp [D.depths]
      | cons x xs ih => simp [D.depths, D.depth]; omega
    have hp : D.plains (xs.map D.int) = true := by
      rw [D.plains_eq, List.all_eq_true]
      intro d hd
      obtain ⟨i, _, rfl⟩ := List.mem_map.mp hd
      rfl
    have he : D.eqvs (xs.map D.int) (xs.map D.int) = true := by
      clear hd hp
      induction xs with
      | nil => rfl
      | cons x xs ih => simp [D.eqvs, D.eqv, ih]
    have : D.depths (xs.map D.int) + 1 ≤ 40 := by omega
    simp [gNe, D.can, D.plain, D.depth, D.eqv, hp, he, this]
  have L : ∃ env2 st2, forRun (.nm 2) (denSs ⟨C (k + 5), gl⟩ tests) (h.map dD) [some (.val (hD h)), some (.val (.lst ((dn h).map dD))), none, none, none] st = .ok .nx env2 st2 ∧ (st2 = st ∧ ∃ a, env2 = [some (.val (hD h)), some (.val (.lst ((dn h).map dD))), a, none, none]) := by
    refine forRun_inv (xs := h) (fun pre env st' => st' = st ∧ ∃ a, env = [some (.val (hD h)), some (.val (.lst ((dn h).map dD))), a, none, none]) (fun pre d post env st' e i => ?_) [] h _ _ rfl ⟨rfl, none, rfl⟩
    obtain ⟨rfl, a, rfl⟩ := i
    exact ⟨_, _, _, rfl, tests_ok o (by rw [e]; simp), rfl, _, rfl⟩
  obtain ⟨env2, st2, h1, rfl, a, rfl⟩ := L
  have l4 : lc2Loop (lc2Body (.nm 2) [2, 4] cYes (srcE (cVar 1)) (.nm 4) [4] (cT (c2 (c2 (cVar 2) (cPure (.int 1)) gIx2) (c2 (cVar 4) (cPure (.int 1)) gIx2) gLt)) (cTup (lCons (cVar 2) (lCons (cVar 4) lNil))) [some (.val (hD h)), some (.val (.lst ((dn h).map dD))), a, none, none]) ((dn h).map dD) st2 = .ok ((PH h).map dpD, st2) := by
    rw [lc2Loop_map (g := fun x => (((dn h).filter fun y => decide (eOf x < eOf y)).map fun y => dpD (x, y)))]
    · congr 2
      unfold PH
      rw [List.map_flatMap]
      simp
      rfl
    · intro x hx
      have l5 : lcLoop (lcBody (.nm 4) [4] (cT (c2 (c2 (cVar 2) (cPure (.int 1)) gIx2) (c2 (cVar 4) (cPure (.int 1)) gIx2) gLt)) (cTup (lCons (cVar 2) (lCons (cVar 4) lNil))) [some (.val (hD h)), some (.val (.lst ((dn h).map dD))), some (.val (dD x)), none, none]) ((dn h).map dD) st2 = .ok (((dn h).filter fun y => decide (eOf x < eOf y)).map fun y => dpD (x, y), st2) := by
        rw [lcLoop_map (g := fun y => if decide (eOf x < eOf y) = true then some (dpD (x, y)) else none)]
        · rw [filterMap_if]
        · intro y hy
          have e1 : oD x.e = .int (eOf x) := by rw [dn_e hx]; rfl
          have e2 : oD y.e = .int (eOf y) := by rw [dn_e hy]; rfl
          simp [lcBody, wipeE, e1, e2, ltE, dpD]
          split <;> simp [*]
      simp [lc2Body, wipeE, cYes, l5]
  have pz : (PH h).length ≤ sizeLine := by
    have : (PH h).length ≤ (dn h).length * (dn h).length := flat_len fun x _ => by
      rw [List.length_map]
      exact List.length_filter_le _ _
    have h2 : (dn h).length * (dn h).length ≤ 30 * 30 := Nat.mul_le_mul (by omega) (by omega)
    unfold sizeLine
    omega
  have l6 : lcLoop (lcBody (.tp (.cons (.nm 2) (.cons (.nm 4) .nil))) [2, 4] cYes (cOr (cCal (C (k + 5) 6) (lCons (cVar 4) (lCons (cVar 2) lNil))) (cNot (cCal (C (k + 5) 7) (lCons (cVar 2) (lCons (cVar 4) lNil))))) [some (.val (hD h)), some (.val (.lst ((dn h).map dD))), a, some (.val (.lst ((PH h).map dpD))), none]) ((PH h).map dpD) st2 = .ok ((PH h).map fun _ => .bl true, st2) := by
    refine lcLoop_all fun p hp => ?_
    obtain ⟨x, y⟩ := p
    obtain ⟨hx, hy, hlt⟩ := PH_mem hp
    have si := sees_it (k := k + 4) (st := st2) (one := y) (other := x) (dn_e hx)
    have me := meets (k := k + 4) (st := st2) x y
    rcases o.nc x hx y hy hlt with c | c
    · simp [lcBody, wipeE, cYes, dpD, si, c]
    · have : (x.c.any fun p => decide (p ∈ y.c)) = false := by
        rw [List.any_eq_false]
        intro p hp
        simpa using c p hp
      rw [this] at me
      by_cases c2 : eOf x < y.b <;> simp [lcBody, wipeE, cYes, dpD, si, me, c2]
  simp only [tests] at h1
  simp at h1
  have z1 : sizeLine = sizeLine := rfl
  simp [-List.map_map, b_fits_history, itO, l1, gAll, l2, l3, so, lr, ne, h1, l4, Tg.slots, pz, l6]
end Kl

set_option Elab.async false
set_option linter.all false
set_option maxRecDepth 100000
/-! maths 8: the law's own pairs -/
namespace Sn
open PySem PySem.Spec
/-- a loop that returns at the first thing it looks for -/
theorem forRun_find {α : Type} {enc : α → D} {t : Tg} {g : CS} {st : Store} {r : D} (I : En → Prop) (P : α → Bool) : ∀ {xs : List α},
    (∀ x ∈ xs, ∀ env, I env → ∃ env', t.put (enc x) env = some env' ∧ ((P x = true ∧ ∃ e2, g env' st = .ok (.rt r) e2 st) ∨ (P x = false ∧ ∃ e2, g env' st = .ok .nx e2 st ∧ I e2))) →
    ∀ env, I env → (xs.any P = true ∧ ∃ e2, forRun t g (xs.map enc) env st = .ok (.rt r) e2 st) ∨ (xs.any P = false ∧ ∃ e2, forRun t g (xs.map enc) env st = .ok .nx e2 st ∧ I e2)
  | [], _, env, i => .inr ⟨rfl, env, rfl, i⟩
  | x :: xs, h, env, i => by
    obtain ⟨env', p, c⟩ := h x List.mem_cons_self env i
    rcases c with ⟨c, e2, q⟩ | ⟨c, e2, q, i2⟩
    · left
      refine ⟨by rw [List.any_cons, c]; rfl, e2, ?_⟩
      rw [List.map_cons, forRun, p]
      dsimp only
      rw [q]
    · have := forRun_find I P (fun y hy => h y (List.mem_cons_of_mem _ hy)) e2 i2
      rw [List.any_cons, c, Bool.false_or, List.map_cons, forRun, p]
      dsimp only
      rw [q]
      exact this
end Sn
namespace Kl
open PySem PySem.Spec Sn
variable {k : Nat} {st : Store}
@[simp] theorem len_hD (h : List De) : gLen (hD h) st = .ok (.int h.length, st) := by simp [hD]
theorem law_done {h : List De} (hl : h.length ≤ 30) : C (k + 1) 21 [hD h] st = .ok (.lst ((doneL h).map iD), st) := by
  show runBody ⟨C k, gl⟩ ⟨1, 2, b__law_done⟩ _ _ = _
  have l1 : lcLoop (lcBody (.nm 1) [1] (cT (c2 (c2 (c2 (cVar 0) (cVar 1) gIx2) (cPure (.int 1)) gIx2) (cPure .non) gIsNot)) (cVar 1) [some (.val (hD h)), none]) ((List.range h.length).map iD) st = .ok ((doneL h).map iD, st) := by
    rw [lcLoop_map (g := fun i => if (at_ h i).e.isSome = true then some (iD i) else none)]
    · rw [filterMap_if]; rfl
    · intro i hi
      have ix := ixH (st := st) (List.mem_range.mp hi)
      simp only [List.mem_range] at hi
      simp [lcBody, wipeE, iD, ix]
      split <;> simp [*]
  have e : (List.range h.length).map iD = (List.range h.length).map fun i => .int (i : Nat) := rfl
  rw [e] at l1
  have z : (h.length : Int) ≤ 16777216 := by omega
  have z2 : (-4611686018427387904 : Int) ≤ (h.length : Int) := by omega
  simp [b__law_done, l1, z, z2]
theorem law_saw {one other : De} {e : Int} (h : other.e = some e) : C (k + 1) 22 [dD one, dD other] st = .ok (.bl (decide (e < one.b)), st) := by
  show runBody ⟨C k, gl⟩ ⟨2, 2, b__law_saw⟩ _ _ = _
  simp [b__law_saw, h, oD, gAdd, gLe]
  by_cases c : e < one.b
  · have : e + 1 ≤ one.b := by omega
    simp [c, this]
  · have : ¬ e + 1 ≤ one.b := by omega
    simp [c, this]
theorem can_oD (a b : Option Int) : D.can (oD a) (oD b) = true := by cases a <;> cases b <;> rfl
theorem gEq_oD (a b : Option Int) : gEq (oD a) (oD b) st = .ok (.bl (decide (a = b)), st) := by
  simp [gEq, can_oD, eqv_oD]
def hitB (p q : Pl) : Bool := decide (p.1 = q.1) && (p.2.isNone || decide (p.2 = q.2))
def RBL (r c : List Pl) : Bool := c.any fun q => r.any fun p => hitB p q
def hb : SL := (.cons (.if_ (.and_ (.cons (.cmp .eq (.var 4) (.var 2)) (.cons (.or_ (.cons (.cmp .isN (.var 5) (.cst .non)) (.cons (.cmp .eq (.var 5) (.var 3)) .nil))) .nil))) (.cons (.ret (.cst (.bl true))) .nil) .nil) .nil)
theorem law_has_read (one other : De) : C (k + 1) 23 [dD one, dD other] st = .ok (.bl (RBL one.r other.c), st) := by
  show runBody ⟨C k, gl⟩ ⟨2, 6, b__law_has_read⟩ _ _ = _
  have inn : ∀ (q : Pl) (x y : Option Sl), ((one.r.any fun p => hitB p q) = true ∧ ∃ e2, forRun (.tp (.cons (.nm 4) (.cons (.nm 5) .nil))) (denSs ⟨C k, gl⟩ hb) (one.r.map pD) [some (.val (dD one)), some (.val (dD other)), some (.val (.int q.1)), some (.val (oD q.2)), x, y] st = .ok (.rt (.bl true)) e2 st) ∨
      ((one.r.any fun p => hitB p q) = false ∧ ∃ e2, forRun (.tp (.cons (.nm 4) (.cons (.nm 5) .nil))) (denSs ⟨C k, gl⟩ hb) (one.r.map pD) [some (.val (dD one)), some (.val (dD other)), some (.val (.int q.1)), some (.val (oD q.2)), x, y] st = .ok .nx e2 st ∧ ∃ x y, e2 = [some (.val (dD one)), some (.val (dD other)), some (.val (.int q.1)), some (.val (oD q.2)), x, y]) := fun q x y => by
    refine forRun_find (fun env => ∃ x y, env = [some (.val (dD one)), some (.val (dD other)), some (.val (.int q.1)), some (.val (oD q.2)), x, y]) (fun p => hitB p q) (fun p hp env i => ?_) _ ⟨x, y, rfl⟩
    obtain ⟨x, y, rfl⟩ := i
    obtain ⟨t, o⟩ := p
    refine ⟨[some (.val (dD one)), some (.val (dD other)), some (.val (.int q.1)), some (.val (oD q.2)), some (.val (.int t)), some (.val (oD o))], by simp [pD], ?_⟩
    obtain ⟨qt, qo⟩ := q
    by_cases a : t = qt
    · subst a
      cases o with
      | none =>
        left
        exact ⟨by simp [hitB], _, by simp [hb, gEq_int]; rfl⟩
      | some i =>
        by_cases c : qo = some i
        · subst c
          left
          exact ⟨by simp [hitB], _, by simp [hb, gEq_int, gEq_oD]; rfl⟩
        · have c' : ¬ some i = qo := fun z => c z.symm
          right
          exact ⟨by simp [hitB, c'], [some (.val (dD one)), some (.val (dD other)), some (.val (.int t)), some (.val (oD qo)), some (.val (.int t)), some (.val (oD (some i)))], by simp [hb, gEq_int, gEq_oD, c'], _, _, rfl⟩
    · right
      exact ⟨by simp [hitB, a], [some (.val (dD one)), some (.val (dD other)), some (.val (.int qt)), some (.val (oD qo)), some (.val (.int t)), some (.val (oD o))], by simp [hb, a, gEq_int], _, _, rfl⟩
  have out : (RBL one.r other.c = true ∧ ∃ e2, forRun (.tp (.cons (.nm 2) (.cons (.nm 3) .nil))) (denSs ⟨C k, gl⟩ (.cons (.for_ (.e (.ix (.var 0) (.cst (.int 2)))) (.tp (.cons (.nm 4) (.cons (.nm 5) .nil))) hb) .nil)) (other.c.map pD) [some (.val (dD one)), some (.val (dD other)), none, none, none, none] st = .ok (.rt (.bl true)) e2 st) ∨
      (RBL one.r other.c = false ∧ ∃ e2, forRun (.tp (.cons (.nm 2) (.cons (.nm 3) .nil))) (denSs ⟨C k, gl⟩ (.cons (.for_ (.e (.ix (.var 0) (.cst (.int 2)))) (.tp (.cons (.nm 4) (.cons (.nm 5) .nil))) hb) .nil)) (other.c.map pD) [some (.val (dD one)), some (.val (dD other)), none, none, none, none] st = .ok .nx e2 st ∧ ∃ x y z u, e2 = [some (.val (dD one)), some (.val (dD other)), x, y, z, u]) := by
    refine forRun_find (fun env => ∃ x y z u, env = [some (.val (dD one)), some (.val (dD other)), x, y, z, u]) (fun q => one.r.any fun p => hitB p q) (fun q hq env i => ?_) _ ⟨none, none, none, none, rfl⟩
    obtain ⟨x, y, z, u, rfl⟩ := i
    refine ⟨[some (.val (dD one)), some (.val (dD other)), some (.val (.int q.1)), some (.val (oD q.2)), z, u], by obtain ⟨t, o⟩ := q; simp [pD], ?_⟩
    rcases inn q z u with ⟨c, e2, f⟩ | ⟨c, e2, f, x, y, rfl⟩
    · left
      refine ⟨c, e2, ?_⟩
      simp only [denSs, denS1, denS, denE, sSeq, sFor, srcE, cVar, c2, cPure]
      simp only [List.getElem?_cons_zero, R.bind_ok, dD2, walk_psD, R.bindS]
      rw [f]
    · right
      refine ⟨c, [some (.val (dD one)), some (.val (dD other)), some (.val (.int q.1)), some (.val (oD q.2)), x, y], ?_, some (.val (.int q.1)), some (.val (oD q.2)), x, y, rfl⟩
      simp only [denSs, denS1, denS, denE, sSeq, sFor, srcE, cVar, c2, cPure]
      simp only [List.getElem?_cons_zero, R.bind_ok, dD2, walk_psD, R.bindS]
      rw [f]
      rfl
  simp only [hb] at out
  rcases out with ⟨c, e2, f⟩ | ⟨c, e2, f, _⟩
  · simp at f
    simp [b__law_has_read, f, c]
  · simp at f
    simp [b__law_has_read, f, c]
end Kl

set_option Elab.async false
set_option linter.all false
set_option maxRecDepth 100000
/-! maths 9: the law's own pairs and triples -/
namespace Kl
open PySem PySem.Spec Sn
variable {k : Nat} {st : Store}
theorem RBL_eq (r c : List Pl) : RBL r c = RB r c := by
  unfold RBL RB
  congr 1
  funext q
  obtain ⟨t, o⟩ := q
  rw [Bool.eq_iff_iff, List.any_eq_true, Bool.or_eq_true, decide_eq_true_eq, decide_eq_true_eq]
  constructor
  · rintro ⟨⟨t', o'⟩, hp, e⟩
    simp only [hitB, Bool.and_eq_true, decide_eq_true_eq, Bool.or_eq_true, Option.isNone_iff_eq_none] at e
    obtain ⟨rfl, rfl | rfl⟩ := e
    · exact .inr hp
    · exact .inl hp
  · rintro (hp | hp)
    · exact ⟨_, hp, by simp [hitB]⟩
    · exact ⟨_, hp, by simp [hitB]⟩
theorem ne_iD (i j : Nat) : gNe (iD i) (iD j) st = .ok (.bl (!decide (i = j)), st) := by
  unfold iD
  rw [gNe_int]
  congr 4
  simp [Int.ofNat_inj]
def P1 (h : List De) (f : Nat) (ss : List Nat) : List (Nat × Nat) := (ss.filter (pairB h f)).map fun s => (f, s)
def pin : SL := (.cons (.if_ (.and_ (.cons (.cmp .ne (.var 2) (.var 3)) (.cons (.nt (.cal 22 (.cons (.ix (.var 0) (.var 2)) (.cons (.ix (.var 0) (.var 3)) .nil)))) (.cons (.cal 23 (.cons (.ix (.var 0) (.var 2)) (.cons (.ix (.var 0) (.var 3)) .nil))) .nil)))) (.cons (.app 1 (.tup (.cons (.var 2) (.cons (.var 3) .nil)))) .nil) .nil) .nil)
theorem P1_one (h : List De) (f s : Nat) : P1 h f [s] = if pairB h f s = true then [(f, s)] else [] := by
  unfold P1
  by_cases c : pairB h f s = true <;> simp [c]
theorem pin_ok {h : List De} {f s : Nat} (hf : f ∈ doneL h) (hs : s ∈ doneL h) {acc : List D} (hz : acc.length < sizeLine) :
    denSs ⟨C (k + 1), gl⟩ pin [some (.val (hD h)), some (.own (.lst acc)), some (.val (iD f)), some (.val (iD s))] st =
      .ok .nx [some (.val (hD h)), some (.own (.lst (acc ++ (P1 h f [s]).map prD))), some (.val (iD f)), some (.val (iD s))] st := by
  obtain ⟨e, he⟩ := done_e hs
  have pb : pairB h f s = (!decide (f = s) && (!decide (e < (at_ h f).b) && RB (at_ h f).r (at_ h s).c)) := by unfold pairB; rw [he]; rfl
  have sw := law_saw (k := k) (st := st) (one := at_ h f) he
  have hr := law_has_read (k := k) (st := st) (at_ h f) (at_ h s)
  rw [RBL_eq] at hr
  rw [P1_one, pb]
  by_cases a : f = s
  · simp [pin, ne_iD, ixE hf, ixE hs, a]
  · by_cases b : e < (at_ h f).b
    · simp [pin, ne_iD, ixE hf, ixE hs, a, sw, b]
    · cases c : RB (at_ h f).r (at_ h s).c with
      | true =>
        rw [c] at hr
        simp [pin, ne_iD, ixE hf, ixE hs, a, sw, b, hr, hz, prD]
      | false =>
        rw [c] at hr
        simp [pin, ne_iD, ixE hf, ixE hs, a, sw, b, hr, hz, prD]
theorem doneL_len (h : List De) : (doneL h).length ≤ h.length := by
  have := List.length_filter_le (fun i => (at_ h i).e.isSome) (List.range h.length)
  rw [List.length_range] at this
  exact this
theorem P1_len (h : List De) (f : Nat) (ss : List Nat) : (P1 h f ss).length ≤ ss.length := by
  unfold P1
  rw [List.length_map]
  exact List.length_filter_le _ _
theorem P1_app (h : List De) (f : Nat) (a b : List Nat) : P1 h f (a ++ b) = P1 h f a ++ P1 h f b := by
  unfold P1
  rw [List.filter_append, List.map_append]
theorem PL_P1 (h : List De) : PL h = (doneL h).flatMap fun f => P1 h f (doneL h) := rfl
theorem law_pairs {h : List De} (hl : h.length ≤ 30) : C (k + 2) 24 [hD h] st = .ok (.lst ((PL h).map prD), st) := by
  show runBody ⟨C (k + 1), gl⟩ ⟨1, 4, b__law_pairs⟩ _ _ = _
  have dl := doneL_len h
  have ld := law_done (k := k) (st := st) hl
  have L : ∃ env2 st2, forRun (.nm 2) (denSs ⟨C (k + 1), gl⟩ (.cons (.for_ (.e (.cal 21 (.cons (.var 0) .nil))) (.nm 3) pin) .nil)) ((doneL h).map iD) [some (.val (hD h)), some (.own (.lst [])), none, none] st = .ok .nx env2 st2 ∧
      (st2 = st ∧ ∃ a b, env2 = [some (.val (hD h)), some (.own (.lst (((doneL h).flatMap fun f => P1 h f (doneL h)).map prD))), a, b]) := by
    refine forRun_inv (xs := doneL h) (fun pre env st' => st' = st ∧ ∃ a b, env = [some (.val (hD h)), some (.own (.lst ((pre.flatMap fun f => P1 h f (doneL h)).map prD))), a, b]) (fun pre f post env st' e i => ?_) [] (doneL h) _ _ rfl ⟨rfl, none, none, rfl⟩
    obtain ⟨rfl, a, b, rfl⟩ := i
    have hf : f ∈ doneL h := by rw [e]; simp
    have lp : pre.length ≤ (doneL h).length := by rw [e]; simp
    have L2 : ∃ env2 st2, forRun (.nm 3) (denSs ⟨C (k + 1), gl⟩ pin) ((doneL h).map iD) [some (.val (hD h)), some (.own (.lst ((pre.flatMap fun f => P1 h f (doneL h)).map prD))), some (.val (iD f)), b] st' = .ok .nx env2 st2 ∧
        (st2 = st' ∧ ∃ b, env2 = [some (.val (hD h)), some (.own (.lst (((pre.flatMap fun f => P1 h f (doneL h)) ++ P1 h f (doneL h)).map prD))), some (.val (iD f)), b]) := by
      refine forRun_inv (xs := doneL h) (fun pre2 env st2 => st2 = st' ∧ ∃ b, env = [some (.val (hD h)), some (.own (.lst (((pre.flatMap fun f => P1 h f (doneL h)) ++ P1 h f pre2).map prD))), some (.val (iD f)), b]) (fun pre2 s post2 env st2 e2 i => ?_) [] (doneL h) _ _ rfl ⟨rfl, b, by simp [P1]⟩
      obtain ⟨rfl, b, rfl⟩ := i
      have hs : s ∈ doneL h := by rw [e2]; simp
      have ls : pre2.length ≤ (doneL h).length := by rw [e2]; simp
      refine ⟨[some (.val (hD h)), some (.own (.lst (((pre.flatMap fun f => P1 h f (doneL h)) ++ P1 h f pre2).map prD))), some (.val (iD f)), some (.val (iD s))], _, _, rfl, pin_ok hf hs ?_, rfl, some (.val (iD s)), ?_⟩
      · have h1 : (pre.flatMap fun f => P1 h f (doneL h)).length ≤ pre.length * (doneL h).length := flat_len fun x _ => P1_len h x _
        have h2 := P1_len h f pre2
        have h3 : pre.length * (doneL h).length ≤ 30 * 30 := Nat.mul_le_mul (by omega) (by omega)
        have sz : (2000 : Nat) < sizeLine := by unfold sizeLine; omega
        simp only [List.length_map, List.length_append]
        omega
      · rw [P1_app, ← List.append_assoc, List.map_append, List.map_append, List.map_append]
    obtain ⟨env2, st2, h1, rfl, b2, rfl⟩ := L2
    refine ⟨[some (.val (hD h)), some (.own (.lst ((pre.flatMap fun f => P1 h f (doneL h)).map prD))), some (.val (iD f)), b], _, st2, rfl, ?_, rfl, some (.val (iD f)), b2, rfl⟩
    simp only [denSs, denS1, denS, denE, denL, sSeq, sFor, srcE, cCal, lCons, lNil, cVar]
    simp only [List.getElem?_cons_zero, R.bind_ok, ld, walk_lst, R.bindS]
    rw [h1, List.flatMap_append]
    simp
  obtain ⟨env2, st2, h1, rfl, a, b, rfl⟩ := L
  simp only [pin] at h1
  simp at h1
  simp [b__law_pairs, ld, h1, PL_P1]
end Kl

set_option Elab.async false
set_option linter.all false
set_option maxRecDepth 100000
/-! maths 10: the law's own triples -/
namespace Kl
open PySem PySem.Spec Sn
variable {k : Nat} {st : Store}
theorem eqv_prD (p q : Nat × Nat) : D.eqv (prD p) (prD q) = decide (p = q) := by
  obtain ⟨a, b⟩ := p
  obtain ⟨c, d⟩ := q
  simp [prD, iD, D.eqv, D.eqvs, Prod.mk.injEq, Bool.beq_eq_decide_eq, Int.ofNat_inj]
theorem in_pairs (p : Nat × Nat) (ps : List (Nat × Nat)) : gIn2 (prD p) (.lst (ps.map prD)) st = .ok (.bl (decide (p ∈ ps)), st) := by
  have hp : D.plains (ps.map prD) = true := by
    rw [D.plains_eq, List.all_eq_true]
    intro d hd
    obtain ⟨q, _, rfl⟩ := List.mem_map.mp hd
    rfl
  have h1 : (prD p).depth = 1 := by simp [prD, iD, D.depth, D.depths]
  have h2 : (prD p).plain = true := rfl
  have hc : D.can (prD p) (.lst (ps.map prD)) = true := by
    simp [D.can, h1, h2, D.plain, hp]
    omega
  have ha : ((ps.map prD).any fun z => D.eqv z (prD p)) = decide (p ∈ ps) := by
    rw [Bool.eq_iff_iff, List.any_eq_true, decide_eq_true_eq]
    constructor
    · rintro ⟨d, hd, e⟩
      obtain ⟨q, hq, rfl⟩ := List.mem_map.mp hd
      rw [eqv_prD, decide_eq_true_eq] at e
      exact e ▸ hq
    · intro h
      exact ⟨_, List.mem_map.mpr ⟨p, h, rfl⟩, by rw [eqv_prD]; simp⟩
  unfold gIn2
  dsimp only
  unfold gIn
  rw [items_lst]
  dsimp only
  rw [if_pos hc, ha]
def keep (h : List De) (f m l : Nat) : Bool := decide ((f, m) ∈ PL h) && (decide ((m, l) ∈ PL h) && (decide (eN h l < eN h m) && decide (eN h l ≤ eN h f)))
def T3 (h : List De) (f m : Nat) (ls : List Nat) : List (Nat × Nat × Nat) := (ls.filter (keep h f m)).map fun l => (f, m, l)
theorem T3_one (h : List De) (f m l : Nat) : T3 h f m [l] = if keep h f m l = true then [(f, m, l)] else [] := by
  unfold T3
  by_cases c : keep h f m l = true <;> simp [c]
theorem T3_app (h : List De) (f m : Nat) (a b : List Nat) : T3 h f m (a ++ b) = T3 h f m a ++ T3 h f m b := by
  unfold T3
  rw [List.filter_append, List.map_append]
theorem T3_len (h : List De) (f m : Nat) (ss : List Nat) : (T3 h f m ss).length ≤ ss.length := by
  unfold T3
  rw [List.length_map]
  exact List.length_filter_le _ _
def T4 (h : List De) (f : Nat) (ms : List Nat) : List (Nat × Nat × Nat) := ms.flatMap fun m => T3 h f m (doneL h)
def T5 (h : List De) (fs : List Nat) : List (Nat × Nat × Nat) := fs.flatMap fun f => T4 h f (doneL h)
def TB (h : List De) : List (Nat × Nat × Nat) := T5 h (doneL h)
end Kl

set_option Elab.async false
set_option linter.all false
set_option maxRecDepth 100000
/-! maths 11: both have the same triples, in order -/
namespace Kl
open PySem PySem.Spec Sn
variable {k : Nat} {st : Store}
theorem self_map (h : List De) : (List.range h.length).map (at_ h) = h := by
  refine List.ext_getElem (by simp) fun i h1 h2 => ?_
  simp [at_, h2]
theorem dn_eq (h : List De) : dn h = (doneL h).map (at_ h) := by
  unfold dn doneL
  conv => lhs; rw [← self_map h]
  rw [List.filter_map]
  rfl
theorem eN_inj {h : List De} (o : okH h) : ∀ i ∈ doneL h, ∀ j ∈ doneL h, eN h i = eN h j → i = j := by
  have n1 : ((List.range (dn h).length).map Int.ofNat).Nodup := by
    refine List.Pairwise.map _ (fun a b hab => ?_) List.nodup_range
    intro e
    exact hab (Int.ofNat.inj e)
  have n2 : ((dn h).map eOf).Nodup := o.ns.nodup_iff.mpr n1
  rw [dn_eq, List.map_map] at n2
  intro i hi j hj e
  obtain ⟨a, ha, rfl⟩ := List.mem_iff_getElem.mp hi
  obtain ⟨b, hb, rfl⟩ := List.mem_iff_getElem.mp hj
  have n3 := List.pairwise_iff_getElem.mp (List.pairwise_map.mp n2)
  rcases Nat.lt_trichotomy a b with c | c | c
  · exact absurd e (n3 a b ha hb c)
  · subst c
    rfl
  · exact absurd e.symm (n3 b a hb ha c)
theorem doneL_sorted (h : List De) : (doneL h).Pairwise (· < ·) := List.Pairwise.filter _ List.pairwise_lt_range
theorem doneL_nodup (h : List De) : (doneL h).Nodup := (doneL_sorted h).imp fun hab e => by omega
theorem mem_PL {h : List De} {f m : Nat} (hf : f ∈ doneL h) (hm : m ∈ doneL h) : (f, m) ∈ PL h ↔ pairB h f m = true := by
  unfold PL
  rw [List.mem_flatMap]
  constructor
  · rintro ⟨f', _, hp⟩
    obtain ⟨s, hs, e⟩ := List.mem_map.mp hp
    cases e
    exact (List.mem_filter.mp hs).2
  · intro hp
    exact ⟨f, hf, List.mem_map.mpr ⟨m, List.mem_filter.mpr ⟨hm, hp⟩, rfl⟩⟩
theorem flat_one {β : Type} {m : Nat} {X : List β} : ∀ {fs : List Nat}, fs.Nodup → m ∈ fs → (fs.flatMap fun s => if m = s then X else []) = X
  | [], _, h => by cases h
  | s :: fs, nd, h => by
    rw [List.flatMap_cons]
    rw [List.nodup_cons] at nd
    by_cases e : m = s
    · subst e
      have : (fs.flatMap fun s => if m = s then X else []) = [] := by
        rw [List.flatMap_eq_nil_iff]
        intro x hx
        rw [if_neg]
        rintro rfl
        exact nd.1 hx
      simp [this]
    · rw [if_neg e, List.nil_append]
      exact flat_one nd.2 ((List.mem_cons.mp h).resolve_left e)
theorem flat_if {α β : Type} (p : α → Bool) (g : α → List β) : ∀ l : List α, (l.filter p).flatMap g = l.flatMap fun x => if p x = true then g x else []
  | [] => rfl
  | x :: l => by
    rw [List.filter_cons, List.flatMap_cons, ← flat_if p g l]
    cases p x <;> simp
theorem T2_P1 (h : List De) (f m s : Nat) (ss : List Nat) : T2 h (f, m) (P1 h s ss) = if m = s then ((ss.filter (pairB h m)).filter (cond h f m)).map (fun l => (f, m, l)) else [] := by
  unfold T2 P1
  rw [List.filterMap_map]
  by_cases e : m = s
  · subst e
    rw [if_pos rfl, ← filterMap_if]
    congr 1
    funext l
    simp
  · rw [if_neg e, List.filterMap_eq_nil_iff]
    intro l _
    simp [e]
theorem T2_flat (h : List De) (p : Nat × Nat) (ss : List Nat) : ∀ fs : List Nat, T2 h p (fs.flatMap fun s => P1 h s ss) = fs.flatMap fun s => T2 h p (P1 h s ss)
  | [] => rfl
  | f :: fs => by rw [List.flatMap_cons, T2_app, T2_flat h p ss fs, List.flatMap_cons]
theorem T2_all {h : List De} {f m : Nat} (hm : m ∈ doneL h) : T2 h (f, m) (PL h) = (((doneL h).filter (pairB h m)).filter (cond h f m)).map (fun l => (f, m, l)) := by
  rw [PL_P1, T2_flat]
  simp only [T2_P1]
  exact flat_one (doneL_nodup h) hm
theorem flat_congr {α β : Type} {f g : α → List β} : ∀ {l : List α}, (∀ x ∈ l, f x = g x) → l.flatMap f = l.flatMap g
  | [], _ => rfl
  | x :: l, h => by rw [List.flatMap_cons, List.flatMap_cons, h x List.mem_cons_self, flat_congr fun y hy => h y (List.mem_cons_of_mem _ hy)]
theorem TA_TB' {h : List De} (inj : ∀ i ∈ doneL h, ∀ j ∈ doneL h, eN h i = eN h j → i = j) : TA h = TB h := by
  unfold TA TB T1 T5
  rw [PL_P1, List.flatMap_assoc]
  refine flat_congr fun f hf => ?_
  unfold T4 P1
  rw [List.flatMap_map, flat_if]
  refine flat_congr fun m hm => ?_
  show (if pairB h f m = true then T2 h (f, m) (PL h) else []) = _
  rw [T2_all hm]
  unfold T3
  by_cases a : pairB h f m = true
  · rw [if_pos a, List.filter_filter]
    congr 1
    refine List.filter_congr fun l hl => ?_
    have e1 : decide ((f, m) ∈ PL h) = true := decide_eq_true ((mem_PL hf hm).mpr a)
    have e2 : decide ((m, l) ∈ PL h) = pairB h m l := by
      rw [Bool.eq_iff_iff, decide_eq_true_eq]
      exact mem_PL hm hl
    unfold keep cond
    rw [e1, e2, Bool.true_and]
    have e3 : (decide (l = f) || decide (eN h l < eN h f)) = decide (eN h l ≤ eN h f) := by
      rw [Bool.eq_iff_iff, Bool.or_eq_true, decide_eq_true_eq, decide_eq_true_eq, decide_eq_true_eq]
      constructor
      · rintro (rfl | h1) <;> omega
      · intro h1
        by_cases c : eN h l = eN h f
        · exact .inl (inj l hl f hf c)
        · right
          omega
    rw [e3]
    exact Bool.and_comm _ _
  · rw [if_neg a]
    symm
    rw [List.map_eq_nil_iff, List.filter_eq_nil_iff]
    intro l hl
    have : ¬ (f, m) ∈ PL h := fun z => a ((mem_PL hf hm).mp z)
    simp [keep, this]
theorem TA_TB {h : List De} (o : okH h) : TA h = TB h := TA_TB' (eN_inj o)
theorem TB_sorted (h : List De) : (TB h).Pairwise fun p q => p.1 < q.1 ∨ (p.1 = q.1 ∧ (p.2.1 < q.2.1 ∨ (p.2.1 = q.2.1 ∧ p.2.2 ≤ q.2.2))) := by
  have mem3 : ∀ f m x, x ∈ T3 h f m (doneL h) → x.1 = f ∧ x.2.1 = m := fun f m x hx => by
    unfold T3 at hx
    obtain ⟨l, _, rfl⟩ := List.mem_map.mp hx
    exact ⟨rfl, rfl⟩
  have mem4 : ∀ f x, x ∈ T4 h f (doneL h) → x.1 = f := fun f x hx => by
    unfold T4 at hx
    obtain ⟨m, _, hx⟩ := List.mem_flatMap.mp hx
    exact (mem3 f m x hx).1
  unfold TB T5
  rw [List.pairwise_flatMap]
  refine ⟨fun f _ => ?_, (doneL_sorted h).imp fun {f f'} hff x hx y hy => ?_⟩
  · unfold T4
    rw [List.pairwise_flatMap]
    refine ⟨fun m _ => ?_, (doneL_sorted h).imp fun {m m'} hmm x hx y hy => ?_⟩
    · unfold T3
      rw [List.pairwise_map]
      exact (List.Pairwise.filter _ (doneL_sorted h)).imp fun {a b} hab => .inr ⟨rfl, .inr ⟨rfl, by dsimp only; omega⟩⟩
    · have h1 := mem3 f m x hx
      have h2 := mem3 f m' y hy
      exact .inr ⟨by rw [h1.1, h2.1], .inl (by rw [h1.2, h2.2]; exact hmm)⟩
  · exact .inl (by rw [mem4 f x hx, mem4 f' y hy]; exact hff)
end Kl

set_option Elab.async false
set_option linter.all false
set_option maxRecDepth 100000
/-! maths 12: the texts of the triples; the law's comparison -/
namespace Kl
open PySem PySem.Spec Sn
variable {k : Nat} {st : Store}
theorem small_repr : ∀ i < 30, (match reprD (iD i) with | some t => decide (t.length ≤ 2) | none => false) = true := by decide +kernel
theorem repr_iD {i : Nat} (h : i < 30) : ∃ t, reprD (iD i) = some t ∧ t.length ≤ 2 := by
  have := small_repr i h
  cases e : reprD (iD i) with
  | none => rw [e] at this; cases this
  | some t => rw [e] at this; exact ⟨t, rfl, by simpa using this⟩
theorem piled_le {B : Nat} : ∀ {ts : List Str}, (∀ t ∈ ts, t.length ≤ B) → piled ts ≤ ts.length * (B + 2)
  | [], _ => by simp [piled]
  | t :: ts, h => by
    have h1 := piled_le (ts := ts) fun x hx => h x (List.mem_cons_of_mem _ hx)
    have h2 := h t List.mem_cons_self
    have e : piled (t :: ts) = t.length + 2 + piled ts := by simp [piled]
    rw [e, List.length_cons, Nat.succ_mul]
    omega
theorem text_le {B : Nat} {ts : List Str} (h : ∀ t ∈ ts, t.length ≤ B) : (tupleText ts).length ≤ ts.length * (B + 2) + 3 := by
  have h1 := piled_le h
  unfold tupleText
  rw [strLen_append, strLen_append]
  have e1 : (("(" : String) : Str).length = 1 := rfl
  have e2 : ((if ts.length == 1 then ",)" else ")" : String) : Str).length ≤ 2 := by split <;> decide
  cases ts with
  | nil =>
    have : (Str.join ", " []).length = 0 := rfl
    omega
  | cons t ts =>
    have := join_length_add (t :: ts) (by simp)
    omega
theorem repr_trD {t : Nat × Nat × Nat} (h1 : t.1 < 30) (h2 : t.2.1 < 30) (h3 : t.2.2 < 30) : ∃ x, reprD (trD t) = some x ∧ x.length ≤ 15 := by
  obtain ⟨a, ha, la⟩ := repr_iD h1
  obtain ⟨b, hb, lb⟩ := repr_iD h2
  obtain ⟨c, hc, lc⟩ := repr_iD h3
  refine ⟨tupleText [a, b, c], by simp [trD, reprD, reprDs, ha, hb, hc], ?_⟩
  have := text_le (B := 2) (ts := [a, b, c]) (by simp; omega)
  simpa using this
theorem repr_trDs : ∀ {ts : List (Nat × Nat × Nat)}, (∀ t ∈ ts, t.1 < 30 ∧ t.2.1 < 30 ∧ t.2.2 < 30) → ∃ xs, reprDs (ts.map trD) = some xs ∧ xs.length = ts.length ∧ ∀ x ∈ xs, x.length ≤ 15
  | [], _ => ⟨[], rfl, rfl, fun _ h => by cases h⟩
  | t :: ts, h => by
    obtain ⟨h1, h2, h3⟩ := h t List.mem_cons_self
    obtain ⟨x, e1, l1⟩ := repr_trD h1 h2 h3
    obtain ⟨xs, e2, l2, l3⟩ := repr_trDs (ts := ts) fun y hy => h y (List.mem_cons_of_mem _ hy)
    refine ⟨x :: xs, by rw [List.map_cons, reprDs, e1, e2]; rfl, by simp [l2], fun y hy => ?_⟩
    rcases List.mem_cons.mp hy with rfl | hy
    · exact l1
    · exact l3 y hy
theorem depths_trD : ∀ ts : List (Nat × Nat × Nat), D.depths (ts.map trD) ≤ 1
  | [] => by simp [D.depths]
  | t :: ts => by
    have := depths_trD ts
    rw [List.map_cons, D.depths]
    have e : (trD t).depth = 1 := by simp [trD, iD, D.depth, D.depths]
    omega
theorem TB_mem {h : List De} {t : Nat × Nat × Nat} (ht : t ∈ TB h) : t.1 ∈ doneL h ∧ t.2.1 ∈ doneL h ∧ t.2.2 ∈ doneL h := by
  unfold TB T5 at ht
  obtain ⟨f, hf, ht⟩ := List.mem_flatMap.mp ht
  unfold T4 at ht
  obtain ⟨m, hm, ht⟩ := List.mem_flatMap.mp ht
  unfold T3 at ht
  obtain ⟨l, hl, rfl⟩ := List.mem_map.mp ht
  exact ⟨hf, hm, (List.mem_filter.mp hl).1⟩
theorem TB_len (h : List De) : (TB h).length ≤ (doneL h).length * ((doneL h).length * (doneL h).length) :=
  flat_len fun f _ => flat_len fun m _ => T3_len h f m _
/-- the text of the triples -/
theorem repr_TB {h : List De} (hl : h.length ≤ 30) : ∃ t, ∀ st, gRepr (.tup ((TB h).map trD)) st = .ok (.str t, st) := by
  have dl := doneL_len h
  obtain ⟨xs, e, l, b⟩ := repr_trDs (ts := TB h) fun t ht => by
    obtain ⟨h1, h2, h3⟩ := TB_mem ht
    have a1 := done_lt h1
    have a2 := done_lt h2
    have a3 := done_lt h3
    omega
  refine ⟨tupleText xs, fun st => ?_⟩
  have h1 := TB_len h
  have h2 : (doneL h).length * ((doneL h).length * (doneL h).length) ≤ 30 * (30 * 30) := Nat.mul_le_mul (by omega) (Nat.mul_le_mul (by omega) (by omega))
  have h3 := text_le b
  have h4 : (tupleText xs).length ≤ sizeLine := by unfold sizeLine; omega
  have h5 := depths_trD (TB h)
  have er : reprD (.tup ((TB h).map trD)) = some (tupleText xs) := by rw [reprD, e]; rfl
  unfold gRepr
  rw [er]
  dsimp only
  rw [if_pos ⟨rfl, h4, by rw [D.depth]; omega⟩]
theorem ne_str (t : Str) : gNe (.str t) (.str t) st = .ok (.bl false, st) := by
  simp [gNe, D.can, D.plain, D.depth, D.eqv]
theorem eq_str (t : Str) : gEq (.str t) (.str t) st = .ok (.bl true, st) := by
  simp [gEq, D.can, D.plain, D.depth, D.eqv]
theorem PL_len {h : List De} (hl : h.length ≤ 30) : (PL h).length ≤ 2000 := by
  have dl := doneL_len h
  have h1 : (PL h).length ≤ (doneL h).length * (doneL h).length := flat_len fun f _ => P1_len h f _
  have h2 : (doneL h).length * (doneL h).length ≤ 30 * 30 := Nat.mul_le_mul (by omega) (by omega)
  omega
end Kl

set_option Elab.async false
set_option linter.all false
set_option maxRecDepth 100000
/-! maths 13: the cup, rolls -/
namespace Kl
open PySem PySem.Spec Sn
variable {k : Nat} {st : Store}
abbrev St (a b : Int) : Store := [O.lst [.int a, .int b]]
theorem law_cup {ns : List Int} (hl : ns.length ≤ 63) : ∃ a b, C (k + 1) 16 [scrD ns] [] = .ok (.ref 0, St a b) := by
  show ∃ a b, runBody ⟨C k, gl⟩ ⟨1, 2, b__law_cup⟩ [scrD ns] [] = _
  have z : ns.length + 1 ≤ sizeLine := by unfold sizeLine; omega
  have h0 : ∃ c : Int, L2.atI ((ns.map D.int) ++ [D.int 0]) 0 = some (.int c) := by
    cases ns with
    | nil => exact ⟨0, rfl⟩
    | cons n ns => exact ⟨n, by simp⟩
  obtain ⟨c, hc⟩ := h0
  by_cases c1 : c < 0
  · by_cases c2 : (1000000000000000000 : Int) ≤ -c
    · exact ⟨_, _, by simp [b__law_cup, scrD, gList, gCat, z, gIx, hc, gAbs, c1, c2, gGe, gPow, gDiv, gMul, gAdd, gMod, gInt, cPut]; exact ⟨rfl, rfl⟩⟩
    · exact ⟨_, _, by simp [b__law_cup, scrD, gList, gCat, z, gIx, hc, gAbs, c1, c2, gGe, gPow, gDiv, gMul, gAdd, gMod, gInt, cPut]; exact ⟨rfl, rfl⟩⟩
  · by_cases c2 : (1000000000000000000 : Int) ≤ c
    · exact ⟨_, _, by simp [b__law_cup, scrD, gList, gCat, z, gIx, hc, gAbs, c1, c2, gGe, gPow, gDiv, gMul, gAdd, gMod, gInt, cPut]; exact ⟨rfl, rfl⟩⟩
    · exact ⟨_, _, by simp [b__law_cup, scrD, gList, gCat, z, gIx, hc, gAbs, c1, c2, gGe, gPow, gDiv, gMul, gAdd, gMod, gInt, cPut]; exact ⟨rfl, rfl⟩⟩
@[simp] theorem ixN0 : L2.ixN 2 0 = some 0 := rfl
@[simp] theorem ixN1 : L2.ixN 2 1 = some 1 := rfl
theorem law_roll (a b : Int) {n : Int} (h0 : 0 < n) (h1 : n < 1073741824) : ∃ r a' b', 0 ≤ r ∧ r < n ∧ C (k + 1) 17 [.ref 0, .int n] (St a b) = .ok (.int r, St a' b') := by
  show ∃ r a' b', 0 ≤ r ∧ r < n ∧ runBody ⟨C k, gl⟩ ⟨2, 4, b__law_roll⟩ [.ref 0, .int n] (St a b) = _
  by_cases c : 0 < a
  · refine ⟨a % n, a / n, b, Int.emod_nonneg _ (by omega), Int.emod_lt_of_pos _ h0, ?_⟩
    simp [b__law_roll, gIx, gGt, c, gMod, gInt, h0, h1, gDiv, sSetS]
  · have hb0 : 0 ≤ (b * 31147 + 8093) % 2147483249 := Int.emod_nonneg _ (by omega)
    have hb1 : (b * 31147 + 8093) % 2147483249 < 2147483249 := Int.emod_lt_of_pos _ (by omega)
    refine ⟨((((b * 31147 + 8093) % 2147483249) * ((b * 31147 + 8093) % 2147483249 + 281)) % 2147483587) / 881 % n, a, (b * 31147 + 8093) % 2147483249, Int.emod_nonneg _ (by omega), Int.emod_lt_of_pos _ h0, ?_⟩
    generalize he : (b * 31147 + 8093) % 2147483249 = b' at hb0 hb1 ⊢
    have m : (-18446744073709551616 : Int) < b' ∧ b' < 18446744073709551616 := by omega
    simp [b__law_roll, gIx, gGt, c, gMod, gInt, h0, h1, gDiv, sSetS, gMul, gAdd, he, m.1, m.2]
theorem law_some (a b : Int) {xs : List D} (h0 : xs ≠ []) (h1 : xs.length ≤ 1000) : ∃ x a' b', x ∈ xs ∧ C (k + 2) 18 [.ref 0, .lst xs] (St a b) = .ok (x, St a' b') := by
  have l0 : 0 < xs.length := List.length_pos_iff.mpr h0
  obtain ⟨r, a', b', r0, r1, e⟩ := law_roll (k := k) a b (n := (xs.length : Nat)) (by omega) (by omega)
  have hr : L2.atI xs r = some (xs[r.toNat]'(by omega)) := by
    have := atI_nat xs r.toNat
    rw [Int.toNat_of_nonneg r0] at this
    rw [this]
    exact List.getElem?_eq_getElem _
  refine ⟨xs[r.toNat]'(by omega), a', b', List.getElem_mem _, ?_⟩
  show runBody ⟨C (k + 1), gl⟩ ⟨2, 2, b__law_some⟩ _ _ = _
  simp [b__law_some, e, gIx, hr]
end Kl

set_option Elab.async false
set_option linter.all false
set_option maxRecDepth 100000
/-! maths 14: the law's own places -/
namespace Kl
open PySem PySem.Spec Sn
variable {k : Nat} {st : Store}
theorem plain_pD (p : Pl) : (pD p).plain = true := by
  obtain ⟨t, o⟩ := p
  cases o <;> rfl
theorem depth_pD (p : Pl) : (pD p).depth = 1 := by
  obtain ⟨t, o⟩ := p
  cases o <;> simp [pD, oD, D.depth, D.depths]
theorem notin_places (p : Pl) (ps : List Pl) : gNotIn2 (pD p) (psD ps) st = .ok (.bl (!decide (p ∈ ps)), st) := by
  have hp : D.plains (ps.map pD) = true := by
    rw [D.plains_eq, List.all_eq_true]
    intro d hd
    obtain ⟨q, _, rfl⟩ := List.mem_map.mp hd
    exact plain_pD q
  have hc : D.can (pD p) (.tup (ps.map pD)) = true := by
    simp [D.can, depth_pD, plain_pD, D.plain, hp]
    omega
  have ha : ((ps.map pD).any fun z => D.eqv z (pD p)) = decide (p ∈ ps) := by
    rw [Bool.eq_iff_iff, List.any_eq_true, decide_eq_true_eq]
    constructor
    · rintro ⟨d, hd, e⟩
      obtain ⟨q, hq, rfl⟩ := List.mem_map.mp hd
      rw [eqv_pD, decide_eq_true_eq] at e
      exact e ▸ hq
    · intro h
      exact ⟨_, List.mem_map.mpr ⟨p, h, rfl⟩, by rw [eqv_pD]; simp⟩
  show gNotIn (pD p) (.tup (ps.map pD)) st = _
  unfold gNotIn
  rw [items_tup]
  dsimp only
  rw [if_pos hc, ha]
structure goodP (w : Bool) (p : Pl) : Prop where
  t0 : 0 ≤ p.1
  t1 : p.1 ≤ 1
  i : ∀ i, p.2 = some i → 0 ≤ i ∧ i ≤ 2
  s : w = false → p.2.isSome = true
def pb : SL := (.cons (.asg (.nm 5) (.tup (.cons (.cal 17 (.cons (.var 0) (.cons (.cst (.int 2)) .nil))) (.cons (.cal 18 (.cons (.var 0) (.cons (.ite (.var 2) (.lst (.cons (.cst (.int 0)) (.cons (.cst (.int 1)) (.cons (.cst (.int 2)) (.cons (.cst .non) .nil))))) (.lst (.cons (.cst (.int 0)) (.cons (.cst (.int 1)) (.cons (.cst (.int 2)) .nil))))) .nil))) .nil)))) (.cons (.asg (.nm 3) (.op .add (.var 3) (.ite (.cmp .notin (.var 5) (.var 3)) (.tup (.cons (.var 5) .nil)) (.tup .nil)))) .nil))
theorem pb_ok (a b : Int) {m : Int} {w : Bool} {ps : List Pl} (hn : ps.Nodup) (hg : ∀ p ∈ ps, goodP w p) (hz : ps.length ≤ 100) {x y : Option Sl} :
    ∃ ps' a' b' y', denSs ⟨C (k + 2), gl⟩ pb [some (.val (.ref 0)), some (.val (.int m)), some (.val (.bl w)), some (.val (psD ps)), x, y] (St a b) =
      .ok .nx [some (.val (.ref 0)), some (.val (.int m)), some (.val (.bl w)), some (.val (psD ps')), x, y'] (St a' b') ∧ ps'.Nodup ∧ (∀ p ∈ ps', goodP w p) ∧ ps'.length ≤ ps.length + 1 := by
  obtain ⟨r, a1, b1, r0, r1, e1⟩ := law_roll (k := k + 1) a b (n := 2) (by omega) (by omega)
  obtain ⟨o, a2, b2, e2, ho, ho2⟩ : ∃ (o : Option Int) (a2 b2 : Int), C (k + 2) 18 [.ref 0, if w = true then .lst [.int 0, .int 1, .int 2, .non] else .lst [.int 0, .int 1, .int 2]] (St a1 b1) = .ok (oD o, St a2 b2) ∧ (∀ i, o = some i → 0 ≤ i ∧ i ≤ 2) ∧ (w = false → o.isSome = true) := by
    cases w with
    | true =>
      obtain ⟨x, a2, b2, hx, e⟩ := law_some (k := k) a1 b1 (xs := [.int 0, .int 1, .int 2, .non]) (by simp) (by simp)
      simp only [List.mem_cons, List.not_mem_nil, or_false] at hx
      rcases hx with rfl | rfl | rfl | rfl
      · exact ⟨some 0, a2, b2, e, fun i hi => by cases hi; omega, fun h => rfl⟩
      · exact ⟨some 1, a2, b2, e, fun i hi => by cases hi; omega, fun h => rfl⟩
      · exact ⟨some 2, a2, b2, e, fun i hi => by cases hi; omega, fun h => rfl⟩
      · exact ⟨none, a2, b2, e, (fun i hi => by cases hi), fun h => by cases h⟩
    | false =>
      obtain ⟨x, a2, b2, hx, e⟩ := law_some (k := k) a1 b1 (xs := [.int 0, .int 1, .int 2]) (by simp) (by simp)
      simp only [List.mem_cons, List.not_mem_nil, or_false] at hx
      rcases hx with rfl | rfl | rfl
      · exact ⟨some 0, a2, b2, e, fun i hi => by cases hi; omega, fun h => rfl⟩
      · exact ⟨some 1, a2, b2, e, fun i hi => by cases hi; omega, fun h => rfl⟩
      · exact ⟨some 2, a2, b2, e, fun i hi => by cases hi; omega, fun h => rfl⟩
  have ni : ∀ st, gNotIn2 (.tup [.int r, oD o]) (psD ps) st = .ok (.bl (!decide ((r, o) ∈ ps)), st) := fun st => notin_places (r, o) ps
  have gp : goodP w (r, o) := ⟨r0, by dsimp only; omega, ho, ho2⟩
  have z0 : ps.length ≤ sizeLine := by unfold sizeLine; omega
  have z1 : ps.length + 1 ≤ sizeLine := by unfold sizeLine; omega
  by_cases c : (r, o) ∈ ps
  · refine ⟨ps, a2, b2, some (.val (.tup [.int r, oD o])), ?_, hn, hg, by omega⟩
    have ad : ∀ st, gAdd (psD ps) (.tup []) st = .ok (psD ps, st) := fun st => by simp [psD, gAdd, z0]
    cases w with
    | true => simp at e2; simp [pb, e1, e2, ni, c, ad]
    | false => simp at e2; simp [pb, e1, e2, ni, c, ad]
  · refine ⟨ps ++ [(r, o)], a2, b2, some (.val (.tup [.int r, oD o])), ?_, ?_, fun p hp => ?_, by simp⟩
    · have ad : ∀ st, gAdd (psD ps) (.tup [.tup [.int r, oD o]]) st = .ok (psD (ps ++ [(r, o)]), st) := fun st => by simp [psD, gAdd, z1, pD]
      cases w with
      | true => simp at e2; simp [pb, e1, e2, ni, c, ad]
      | false => simp at e2; simp [pb, e1, e2, ni, c, ad]
    · rw [List.nodup_append]
      refine ⟨hn, by simp, fun p hp q hq => ?_⟩
      rw [List.mem_singleton] at hq
      subst hq
      rintro rfl
      exact c hp
    · rcases List.mem_append.mp hp with hp | hp
      · exact hg p hp
      · rw [List.mem_singleton] at hp
        subst hp
        exact gp
theorem law_places (a b : Int) {m : Nat} (hm : m ≤ 10) (w : Bool) : ∃ ps a' b', C (k + 3) 19 [.ref 0, .int (m : Nat), .bl w] (St a b) = .ok (psD ps, St a' b') ∧ ps.Nodup ∧ (∀ p ∈ ps, goodP w p) ∧ ps.length ≤ m := by
  obtain ⟨r, a1, b1, r0, r1, e1⟩ := law_roll (k := k + 1) a b (n := (m : Int) + 1) (by omega) (by omega)
  have L : ∃ env2 st2, forRun (.nm 4) (denSs ⟨C (k + 2), gl⟩ pb) ((List.range r.toNat).map iD) [some (.val (.ref 0)), some (.val (.int (m : Nat))), some (.val (.bl w)), some (.val (psD [])), none, none] (St a1 b1) = .ok .nx env2 st2 ∧
      ∃ ps a' b' x y, st2 = St a' b' ∧ env2 = [some (.val (.ref 0)), some (.val (.int (m : Nat))), some (.val (.bl w)), some (.val (psD ps)), x, y] ∧ ps.Nodup ∧ (∀ p ∈ ps, goodP w p) ∧ ps.length ≤ (List.range r.toNat).length := by
    refine forRun_inv (xs := List.range r.toNat) (fun pre env st2 => ∃ ps a' b' x y, st2 = St a' b' ∧ env = [some (.val (.ref 0)), some (.val (.int (m : Nat))), some (.val (.bl w)), some (.val (psD ps)), x, y] ∧ ps.Nodup ∧ (∀ p ∈ ps, goodP w p) ∧ ps.length ≤ pre.length) (fun pre i post env st2 e j => ?_) [] _ _ _ rfl ⟨[], a1, b1, none, none, rfl, rfl, List.nodup_nil, (fun p hp => by cases hp), Nat.le_refl _⟩
    obtain ⟨ps, a', b', x, y, rfl, rfl, h1, h2, h3⟩ := j
    have lp : pre.length ≤ (List.range r.toNat).length := by rw [e]; simp
    rw [List.length_range] at lp
    obtain ⟨ps', a2, b2, y', t, h4, h5, h6⟩ := pb_ok (k := k) a' b' (m := (m : Nat)) h1 h2 (by omega) (x := some (.val (iD i))) (y := y)
    exact ⟨_, _, _, rfl, t, ps', a2, b2, _, y', rfl, rfl, h4, h5, by rw [List.length_append]; simp; omega⟩
  obtain ⟨env2, st2, h1, ps, a', b', x, y, rfl, rfl, h2, h3, h4⟩ := L
  rw [List.length_range] at h4
  refine ⟨ps, a', b', ?_, h2, h3, by omega⟩
  show runBody ⟨C (k + 2), gl⟩ ⟨3, 6, b__law_places⟩ _ _ = _
  have e : (List.range r.toNat).map iD = (List.range r.toNat).map fun i => .int (i : Nat) := rfl
  have ep : psD [] = .tup [] := rfl
  rw [e, ep] at h1
  simp only [pb] at h1
  simp at h1
  have z : r ≤ 16777216 := by omega
  have z2 : (-4611686018427387904 : Int) ≤ r := by omega
  simp [b__law_places, gAdd, e1, z, z2, h1]
end Kl

set_option Elab.async false
set_option linter.all false
set_option maxRecDepth 100000
/-! maths 15: the law's own histories: a turn of the commits -/
namespace Kl
open PySem PySem.Spec Sn
variable {k : Nat} {st : Store}
theorem cut_from (xs : List D) {s : Int} (h : 0 ≤ s) : cutD xs (some s) none = xs.drop s.toNat := by
  unfold cutD HT.sIx
  dsimp only
  rw [if_neg (by omega)]
  by_cases c : s.toNat ≤ xs.length
  · rw [Nat.min_eq_left c, List.take_of_length_le (by rw [List.length_drop]; exact Nat.le_refl _)]
  · rw [Nat.min_eq_right (by omega), List.drop_eq_nil_of_le (as := xs) (i := s.toNat) (by omega), List.drop_eq_nil_of_le (Nat.le_refl _), List.take_nil]
theorem cut_to (xs : List D) {s : Int} (h : 0 ≤ s) : cutD xs none (some s) = xs.take s.toNat := by
  unfold cutD HT.sIx
  dsimp only
  rw [if_neg (by omega), List.drop_zero, Nat.sub_zero]
  by_cases c : s.toNat ≤ xs.length
  · rw [Nat.min_eq_left c]
  · rw [Nat.min_eq_right (by omega), List.take_of_length_le (Nat.le_refl _), List.take_of_length_le (by omega)]
theorem notin_lst (p : Pl) (ps : List Pl) : gNotIn2 (pD p) (.lst (ps.map pD)) st = .ok (.bl (!decide (p ∈ ps)), st) := by
  have hp : D.plains (ps.map pD) = true := by
    rw [D.plains_eq, List.all_eq_true]
    intro d hd
    obtain ⟨q, _, rfl⟩ := List.mem_map.mp hd
    exact plain_pD q
  have hc : D.can (pD p) (.lst (ps.map pD)) = true := by
    simp [D.can, depth_pD, plain_pD, D.plain, hp]
    omega
  have ha : ((ps.map pD).any fun z => D.eqv z (pD p)) = decide (p ∈ ps) := by
    rw [Bool.eq_iff_iff, List.any_eq_true, decide_eq_true_eq]
    constructor
    · rintro ⟨d, hd, e⟩
      obtain ⟨q, hq, rfl⟩ := List.mem_map.mp hd
      rw [eqv_pD, decide_eq_true_eq] at e
      exact e ▸ hq
    · intro h
      exact ⟨_, List.mem_map.mpr ⟨p, h, rfl⟩, by rw [eqv_pD]; simp⟩
  show gNotIn (pD p) (.lst (ps.map pD)) st = _
  unfold gNotIn
  rw [items_lst]
  dsimp only
  rw [if_pos hc, ha]
theorem mapM_lst (f : D → Option (List D)) (hf : ∀ ys, f (.lst ys) = some ys) : ∀ ds : List De, (ds.map fun d => D.lst (d.c.map pD)).mapM f = some (ds.map fun d => d.c.map pD)
  | [] => rfl
  | d :: ds => by
    rw [List.map_cons, List.mapM_cons, mapM_lst f hf ds, hf]
    rfl
theorem sum_c {ds : List De} (h : ds.length ≤ 30) (hc : ∀ d ∈ ds, d.c.length ≤ 3) : gSumL (.lst (ds.map fun d => .lst (d.c.map pD))) st = .ok (.lst ((ds.flatMap fun d => d.c).map pD), st) := by
  have e : (ds.map fun d => d.c.map pD).flatten = (ds.flatMap fun d => d.c).map pD := by
    rw [List.map_flatMap, List.flatMap_def]
  have l : (ds.flatMap fun d => d.c).length ≤ ds.length * 3 := flat_len hc
  unfold gSumL
  dsimp only
  rw [mapM_lst _ fun _ => rfl]
  dsimp only
  rw [e, if_pos]
  rw [List.length_map]
  unfold sizeLine
  omega
/-- a dealing's places are good -/
structure GD (d : De) : Prop where
  rn : d.r.Nodup
  rg : ∀ p ∈ d.r, goodP true p
  rl : d.r.length ≤ 3
  cn : d.c.Nodup
  cg : ∀ p ∈ d.c, goodP false p
  cl : d.c.length ≤ 2
structure Cs (cs : List De) : Prop where
  e : cs.map (·.e) = (List.range cs.length).map fun i => some (Int.ofNat i)
  g : ∀ d ∈ cs, GD d
  b : ∀ d ∈ cs, 0 ≤ d.b ∧ d.b ≤ eOf d
  nc : cs.Pairwise fun x y => eOf x < y.b ∨ ∀ p ∈ x.c, p ∉ y.c
theorem Cs.put {cs : List De} (h : Cs cs) {d : De} (e : d.e = some (Int.ofNat cs.length)) (b0 : 0 ≤ d.b) (b1 : d.b ≤ cs.length) (g : GD d) (n : ∀ p ∈ d.c, p ∉ (cs.drop d.b.toNat).flatMap fun x => x.c) : Cs (cs ++ [d]) := by
  have ed : eOf d = Int.ofNat cs.length := by unfold eOf; rw [e]; rfl
  refine ⟨?_, fun x hx => ?_, fun x hx => ?_, ?_⟩
  · rw [List.map_append, h.e, List.length_append]
    simp [List.range_succ, e]
  · rcases List.mem_append.mp hx with hx | hx
    · exact h.g x hx
    · rw [List.mem_singleton] at hx
      exact hx ▸ g
  · rcases List.mem_append.mp hx with hx | hx
    · exact h.b x hx
    · rw [List.mem_singleton] at hx
      subst hx
      exact ⟨b0, by rw [ed]; exact b1⟩
  · rw [List.pairwise_append]
    refine ⟨h.nc, List.pairwise_singleton _ _, fun x hx y hy => ?_⟩
    rw [List.mem_singleton] at hy
    subst hy
    obtain ⟨i, hi, rfl⟩ := List.mem_iff_getElem.mp hx
    have ei : eOf cs[i] = Int.ofNat i := by
      have h1 : (cs.map (·.e))[i]'(by simpa using hi) = cs[i].e := by simp
      have h2 : cs[i].e = some (Int.ofNat i) := by
        rw [← h1]
        simp [h.e]
      unfold eOf
      rw [h2]
      rfl
    by_cases c : (i : Int) < y.b
    · left
      rw [ei]
      exact c
    · right
      intro p hp hp2
      refine n p hp2 (List.mem_flatMap.mpr ⟨cs[i], ?_, hp⟩)
      rw [List.mem_iff_getElem]
      refine ⟨i - y.b.toNat, by rw [List.length_drop]; omega, ?_⟩
      rw [List.getElem_drop]
      congr 1
      omega
end Kl

set_option Elab.async false
set_option linter.all false
set_option maxRecDepth 100000
/-! maths 16: a commit is drawn -/
namespace Kl
open PySem PySem.Spec Sn
variable {k : Nat} {st : Store}
theorem list_psD (ps : List Pl) : gList (psD ps) st = .ok (.lst (ps.map pD), st) := rfl
theorem lc_c {E : En} (hE : E.length = 13) (ds : List De) : lcLoop (lcBody (.nm 7) [7] cYes (c1 (c2 (cVar 7) (cPure (.int 3)) gIx2) gList) E) (ds.map dD) st = .ok (ds.map fun d => .lst (d.c.map pD), st) :=
  lcLoop_all fun d hd => by simp [lcBody, wipeE, cYes, hE, list_psD]
theorem lc_new {E : En} (hE : E.length = 13) {us : List Pl} (h9 : E[9]? = some (some (.val (.lst (us.map pD))))) (ps : List Pl) : lcLoop (lcBody (.nm 12) [12] (cT (c2 (cVar 12) (cVar 9) gNotIn2)) (cVar 12) E) (ps.map pD) st = .ok ((ps.filter fun p => !decide (p ∈ us)).map pD, st) := by
  rw [lcLoop_map (g := fun p => if (!decide (p ∈ us)) = true then some (pD p) else none)]
  · rw [filterMap_if]
  · intro p hp
    have h9' : (E.set 12 (some (.val (pD p))))[9]? = some (some (.val (.lst (us.map pD)))) := by
      rw [List.getElem?_set_ne (by decide)]
      exact h9
    have h9g : E[9]'(by omega) = some (.val (.lst (us.map pD))) := (List.getElem?_eq_some_iff.mp h9).2
    by_cases c : p ∈ us <;> simp [lcBody, wipeE, hE, h9g, notin_lst, c]
def cb : SL := (.cons (.asg (.nm 8) (.cal 18 (.cons (.var 0) (.cons (.lst (.cons (.cal 17 (.cons (.var 0) (.cons (.op .add (.var 4) (.cst (.int 1))) .nil))) (.cons (.cal 17 (.cons (.var 0) (.cons (.op .add (.var 4) (.cst (.int 1))) .nil))) (.cons (.cst (.int 0)) (.cons (.var 4) .nil))))) .nil)))) (.cons (.asg (.nm 9) (.sumL (.lc (.e (.sl true (.own 3) (.some (.var 8)) .none)) (.nm 7) [7] .none (.b1 .list (.ix (.var 7) (.cst (.int 3))))))) (.cons (.asg (.nm 10) (.b1 .tup (.lc (.e (.cal 19 (.cons (.var 0) (.cons (.cst (.int 2)) (.cons (.cst (.bl false)) .nil))))) (.nm 12) [12] (.some (.cmp .notin (.var 12) (.var 9))) (.var 12)))) (.cons (.app 3 (.tup (.cons (.var 8) (.cons (.var 4) (.cons (.cal 19 (.cons (.var 0) (.cons (.cst (.int 3)) (.cons (.cst (.bl true)) .nil)))) (.cons (.var 10) .nil)))))) .nil))))
theorem cb_ok (a b : Int) {m o : D} {cs : List De} (h : Cs cs) (hz : cs.length ≤ 8) {x5 x6 x7 x8 x9 x10 x11 : Option Sl} :
    ∃ d a' b' y8 y9 y10, denSs ⟨C (k + 3), gl⟩ cb [some (.val (.ref 0)), some (.val m), some (.val o), some (.own (.lst (cs.map dD))), some (.val (.int (cs.length : Nat))), x5, x6, x7, x8, x9, x10, x11, none] (St a b) =
      .ok .nx [some (.val (.ref 0)), some (.val m), some (.val o), some (.own (.lst ((cs ++ [d]).map dD))), some (.val (.int (cs.length : Nat))), x5, x6, x7, y8, y9, y10, x11, none] (St a' b') ∧ Cs (cs ++ [d]) := by
  obtain ⟨r1, a1, b1, r10, r11, e1⟩ := law_roll (k := k + 2) a b (n := (cs.length : Int) + 1) (by omega) (by omega)
  obtain ⟨r2, a2, b2, r20, r21, e2⟩ := law_roll (k := k + 2) a1 b1 (n := (cs.length : Int) + 1) (by omega) (by omega)
  obtain ⟨s, a3, b3, e3, s0, s1⟩ : ∃ (s a3 b3 : Int), C (k + 3) 18 [.ref 0, .lst [.int r1, .int r2, .int 0, .int (cs.length : Nat)]] (St a2 b2) = .ok (.int s, St a3 b3) ∧ 0 ≤ s ∧ s ≤ cs.length := by
    obtain ⟨x, a3, b3, hx, e⟩ := law_some (k := k + 1) a2 b2 (xs := [.int r1, .int r2, .int 0, .int (cs.length : Nat)]) (by simp) (by simp)
    simp only [List.mem_cons, List.not_mem_nil, or_false] at hx
    rcases hx with rfl | rfl | rfl | rfl
    · exact ⟨_, a3, b3, e, r10, by omega⟩
    · exact ⟨_, a3, b3, e, r20, by omega⟩
    · exact ⟨_, a3, b3, e, by omega, by omega⟩
    · exact ⟨_, a3, b3, e, by omega, by omega⟩
  obtain ⟨ps, a4, b4, e4, n4, g4, l4⟩ := law_places (k := k) a3 b3 (m := 2) (by omega) false
  obtain ⟨rs, a5, b5, e5, n5, g5, l5⟩ := law_places (k := k) a4 b4 (m := 3) (by omega) true
  have cut : cutD (cs.map dD) (some s) none = (cs.drop s.toNat).map dD := by rw [cut_from _ s0, List.map_drop]
  have sm : ∀ st, gSumL (.lst ((cs.drop s.toNat).map fun d => .lst (d.c.map pD))) st = .ok (.lst (((cs.drop s.toNat).flatMap fun d => d.c).map pD), st) := fun st => by
    refine sum_c (by rw [List.length_drop]; omega) fun d hd => ?_
    have := (h.g d (List.mem_of_mem_drop hd)).cl
    omega
  refine ⟨⟨s, some (Int.ofNat cs.length), rs, ps.filter fun p => !decide (p ∈ (cs.drop s.toNat).flatMap fun d => d.c)⟩, a5, b5, some (.val (.int s)), some (.val (.lst (((cs.drop s.toNat).flatMap fun d => d.c).map pD))), some (.val (psD (ps.filter fun p => !decide (p ∈ (cs.drop s.toNat).flatMap fun d => d.c)))), ?_, ?_⟩
  · have z1 : cs.length < sizeLine := by unfold sizeLine; omega
    have e4' : C (k + 3) 19 [.ref 0, .int 2, .bl false] (St a3 b3) = .ok (psD ps, St a4 b4) := e4
    have e5' : C (k + 3) 19 [.ref 0, .int 3, .bl true] (St a4 b4) = .ok (psD rs, St a5 b5) := e5
    have ln := lc_new (st := St a4 b4) (E := [some (.val (.ref 0)), some (.val m), some (.val o), some (.own (.lst (cs.map dD))), some (.val (.int (cs.length : Nat))), x5, x6, x7, some (.val (.int s)), some (.val (.lst (((cs.drop s.toNat).flatMap fun d => d.c).map pD))), x10, x11, none]) rfl (us := (cs.drop s.toNat).flatMap fun d => d.c) rfl ps
    simp only [cb, denSs, denS1, denE, denL, denS, denO1, denC, B1.g, Bo.g, Co.g]
    simp [-List.map_drop, gAdd, e1, e2, e3, gSlN, cut, lc_c, sm, e4', e5', ln, gTuple, z1]
    exact ⟨rfl, rfl⟩
  · refine h.put rfl s0 s1 ⟨n5, g5, l5, n4.filter _, fun p hp => g4 p (List.mem_filter.mp hp).1, Nat.le_trans (List.length_filter_le _ _) l4⟩ fun p hp => ?_
    have := (List.mem_filter.mp hp).2
    simpa using this
end Kl

set_option Elab.async false
set_option linter.all false
set_option maxRecDepth 100000
/-! maths 17: open ones are drawn; all are mixed -/
namespace Kl
open PySem PySem.Spec Sn
variable {k : Nat} {st : Store}
structure Os (m : Nat) (os : List De) : Prop where
  g : ∀ d ∈ os, GD d
  e : ∀ d ∈ os, d.e = none
  b : ∀ d ∈ os, 0 ≤ d.b ∧ d.b ≤ m
def ob : SL := (.cons (.app 3 (.tup (.cons (.cal 17 (.cons (.var 0) (.cons (.op .add (.var 1) (.cst (.int 1))) .nil))) (.cons (.cst .non) (.cons (.cal 19 (.cons (.var 0) (.cons (.cst (.int 3)) (.cons (.cst (.bl true)) .nil)))) (.cons (.cal 19 (.cons (.var 0) (.cons (.cst (.int 2)) (.cons (.cst (.bl false)) .nil)))) .nil)))))) .nil)
theorem ob_ok (a b : Int) {m : Nat} {o : D} {fs os : List De} (hm : m ≤ 8) (h : Os m os) (hz : (fs ++ os).length ≤ 16) {x4 x5 x6 x7 x8 x9 x10 x11 : Option Sl} :
    ∃ d a' b', denSs ⟨C (k + 3), gl⟩ ob [some (.val (.ref 0)), some (.val (.int (m : Nat))), some (.val o), some (.own (.lst ((fs ++ os).map dD))), x4, x5, x6, x7, x8, x9, x10, x11, none] (St a b) =
      .ok .nx [some (.val (.ref 0)), some (.val (.int (m : Nat))), some (.val o), some (.own (.lst ((fs ++ (os ++ [d])).map dD))), x4, x5, x6, x7, x8, x9, x10, x11, none] (St a' b') ∧ Os m (os ++ [d]) := by
  obtain ⟨r1, a1, b1, r10, r11, e1⟩ := law_roll (k := k + 2) a b (n := (m : Int) + 1) (by omega) (by omega)
  obtain ⟨rs, a4, b4, e4, n4, g4, l4⟩ := law_places (k := k) a1 b1 (m := 3) (by omega) true
  obtain ⟨ps, a5, b5, e5, n5, g5, l5⟩ := law_places (k := k) a4 b4 (m := 2) (by omega) false
  have e4' : C (k + 3) 19 [.ref 0, .int 3, .bl true] (St a1 b1) = .ok (psD rs, St a4 b4) := e4
  have e5' : C (k + 3) 19 [.ref 0, .int 2, .bl false] (St a4 b4) = .ok (psD ps, St a5 b5) := e5
  have z1 : fs.length + os.length < sizeLine := by rw [List.length_append] at hz; unfold sizeLine; omega
  have gd : GD ⟨r1, none, rs, ps⟩ := ⟨n4, g4, l4, n5, g5, l5⟩
  refine ⟨⟨r1, none, rs, ps⟩, a5, b5, ?_, fun d hd => ?_, fun d hd => ?_, fun d hd => ?_⟩
  · simp [ob, gAdd, e1, e4', e5', z1]
    rfl
  · rcases List.mem_append.mp hd with hd | hd
    · exact h.g d hd
    · rw [List.mem_singleton] at hd; subst hd; exact gd
  · rcases List.mem_append.mp hd with hd | hd
    · exact h.e d hd
    · rw [List.mem_singleton] at hd; subst hd; rfl
  · rcases List.mem_append.mp hd with hd | hd
    · exact h.b d hd
    · rw [List.mem_singleton] at hd; subst hd; exact ⟨r10, by dsimp only; omega⟩
def mb : SL := (.cons (.asg (.nm 11) (.cal 17 (.cons (.var 0) (.cons (.op .add (.b1 .len (.var 6)) (.cst (.int 1))) .nil)))) (.cons (.asg (.nm 6) (.op .cat (.op .cat (.sl true (.var 6) .none (.some (.var 11))) (.lst (.cons (.var 7) .nil))) (.sl true (.var 6) (.some (.var 11)) .none))) .nil))
theorem mb_ok (a b : Int) {ms : List De} {d : De} (hz : ms.length ≤ 16) {x1 x2 x3 x4 x5 x8 x9 x10 x11 x12 : Option Sl} :
    ∃ (ms' : List De) (a' b' : Int) (y : Option Sl), denSs ⟨C (k + 3), gl⟩ mb [some (.val (.ref 0)), x1, x2, x3, x4, x5, some (.val (.lst (ms.map dD))), some (.val (dD d)), x8, x9, x10, x11, x12] (St a b) =
      .ok .nx [some (.val (.ref 0)), x1, x2, x3, x4, x5, some (.val (.lst (ms'.map dD))), some (.val (dD d)), x8, x9, x10, y, x12] (St a' b') ∧ ms'.Perm (ms ++ [d]) := by
  obtain ⟨r1, a1, b1, r10, r11, e1⟩ := law_roll (k := k + 2) a b (n := (ms.length : Int) + 1) (by omega) (by omega)
  have c1 : cutD (ms.map dD) none (some r1) = (ms.take r1.toNat).map dD := by rw [cut_to _ r10, List.map_take]
  have c2 : cutD (ms.map dD) (some r1) none = (ms.drop r1.toNat).map dD := by rw [cut_from _ r10, List.map_drop]
  have l1 : (ms.take r1.toNat).length ≤ 16 := by rw [List.length_take]; omega
  have l2 : (ms.drop r1.toNat).length ≤ 16 := by rw [List.length_drop]; omega
  have g1 : ∀ st, gCat (.lst ((ms.take r1.toNat).map dD)) (.lst [dD d]) st = .ok (.lst ((ms.take r1.toNat ++ [d]).map dD), st) := fun st => by
    unfold gCat
    dsimp only
    rw [if_pos (by simp only [List.length_map, List.length_singleton]; unfold sizeLine; omega), List.map_append]
    rfl
  have g2 : ∀ st, gCat (.lst ((ms.take r1.toNat ++ [d]).map dD)) (.lst ((ms.drop r1.toNat).map dD)) st = .ok (.lst ((ms.take r1.toNat ++ [d] ++ ms.drop r1.toNat).map dD), st) := fun st => by
    unfold gCat
    dsimp only
    rw [if_pos (by simp only [List.length_map, List.length_append, List.length_singleton]; unfold sizeLine; omega), List.map_append (l₁ := ms.take r1.toNat ++ [d])]
  refine ⟨ms.take r1.toNat ++ [d] ++ ms.drop r1.toNat, a1, b1, some (.val (.int r1)), ?_, ?_⟩
  · simp only [mb, denSs, denS1, denE, denL, denO1, B1.g, Bo.g]
    simp [-List.map_drop, -List.map_take, -List.map_append, -List.append_assoc, gAdd, e1, gSlN, c1, c2, g1, g2]
  · have p1 : (ms.take r1.toNat ++ [d] ++ ms.drop r1.toNat).Perm (ms.take r1.toNat ++ ms.drop r1.toNat ++ [d]) := by
      rw [List.append_assoc, List.append_assoc]
      exact List.Perm.append_left _ List.perm_append_comm
    rw [List.take_append_drop] at p1
    exact p1
end Kl

set_option Elab.async false
set_option linter.all false
set_option maxRecDepth 100000
/-! maths 18: a drawn history fits -/
namespace Kl
open PySem PySem.Spec Sn
variable {k : Nat} {st : Store}
theorem okP_of {w : Bool} {p : Pl} (g : goodP w p) : okP p := ⟨g.t0, by have := g.t1; omega, fun i hi => by have := g.i i hi; omega⟩
theorem okH_of {m : Nat} {cs os h : List De} (hm : m ≤ 8) (ho : os.length ≤ 4) (c : Cs cs) (lc : cs.length = m) (q : Os m os) (p : h.Perm (cs ++ os)) : okH h := by
  have eo : ∀ i (hi : i < cs.length), cs[i].e = some (Int.ofNat i) := fun i hi => by
    have h1 : (cs.map (·.e))[i]'(by simpa using hi) = cs[i].e := by simp
    rw [← h1]
    simp [c.e]
  have eC : ∀ d ∈ cs, ∃ i : Nat, i < m ∧ d.e = some (Int.ofNat i) := fun d hd => by
    obtain ⟨i, hi, rfl⟩ := List.mem_iff_getElem.mp hd
    exact ⟨i, by omega, eo i hi⟩
  have dC : dn cs = cs := List.filter_eq_self.mpr fun d hd => by
    obtain ⟨i, _, e⟩ := eC d hd
    rw [e]
    rfl
  have dO : dn os = [] := List.filter_eq_nil_iff.mpr fun d hd => by
    rw [q.e d hd]
    simp
  have dp : (dn h).Perm cs := by
    have h1 : (dn h).Perm (dn (cs ++ os)) := p.filter _
    have h2 : dn (cs ++ os) = cs := by
      have : dn (cs ++ os) = dn cs ++ dn os := List.filter_append ..
      rw [this, dC, dO, List.append_nil]
    rwa [h2] at h1
  have dl : (dn h).length = m := by rw [dp.length_eq, lc]
  have sub : ∀ d ∈ h, d ∈ cs ∨ d ∈ os := fun d hd => List.mem_append.mp (p.mem_iff.mp hd)
  have gd : ∀ d ∈ h, GD d := fun d hd => (sub d hd).elim (c.g d) (q.g d)
  have eE : cs.map eOf = (List.range cs.length).map Int.ofNat := by
    have := congrArg (List.map fun o : Option Int => o.getD 0) c.e
    rw [List.map_map, List.map_map] at this
    exact this
  refine ⟨?_, fun d hd => ?_, ?_, fun d hd => ?_, fun d hd e he => ?_, ?_⟩
  · rw [p.length_eq, List.length_append]
    omega
  · have g := gd d hd
    refine ⟨?_, ?_, fun i hi => ?_, ⟨fun x hx => okP_of (g.rg x hx), g.rn, by have := g.rl; omega⟩, ⟨fun x hx => okP_of (g.cg x hx), g.cn, by have := g.cl; omega⟩, fun x hx => (g.cg x hx).s rfl⟩
    · exact (sub d hd).elim (fun z => (c.b d z).1) fun z => (q.b d z).1
    · rcases sub d hd with z | z
      · obtain ⟨i, hi, e⟩ := eC d z
        have h1 := (c.b d z).2
        unfold eOf at h1
        rw [e] at h1
        simp at h1
        omega
      · have := (q.b d z).2
        omega
    · rcases sub d hd with z | z
      · obtain ⟨j, hj, e⟩ := eC d z
        rw [e] at hi
        cases hi
        simp
        omega
      · rw [q.e d z] at hi
        cases hi
  · rw [dl]
    have h1 := dp.map eOf
    rw [eE, lc] at h1
    exact h1
  · rw [dl]
    rcases sub d hd with z | z
    · obtain ⟨i, hi, e⟩ := eC d z
      have h1 := (c.b d z).2
      unfold eOf at h1
      rw [e] at h1
      simp at h1
      omega
    · exact (q.b d z).2
  · rcases sub d hd with z | z
    · have h1 := (c.b d z).2
      unfold eOf at h1
      rw [he] at h1
      exact h1
    · rw [q.e d z] at he
      cases he
  · intro x hx y hy hlt
    have hx' := dp.mem_iff.mp hx
    have hy' := dp.mem_iff.mp hy
    obtain ⟨i, hi, rfl⟩ := List.mem_iff_getElem.mp hx'
    obtain ⟨j, hj, rfl⟩ := List.mem_iff_getElem.mp hy'
    have e1 : eOf cs[i] = Int.ofNat i := by unfold eOf; rw [eo i hi]; rfl
    have e2 : eOf cs[j] = Int.ofNat j := by unfold eOf; rw [eo j hj]; rfl
    rw [e1, e2] at hlt
    have hij : i < j := by
      have : (i : Int) < j := hlt
      omega
    exact List.pairwise_iff_getElem.mp c.nc i j hi hj hij
end Kl

set_option Elab.async false
set_option linter.all false
set_option maxRecDepth 100000
/-! maths 19: the law's own histories -/
namespace Kl
open PySem PySem.Spec Sn
variable {k : Nat} {st : Store}
theorem range_at {n i : Nat} {pre post : List Nat} (e : List.range n = pre ++ i :: post) : i = pre.length ∧ pre.length < n := by
  have hl : pre.length < (List.range n).length := by rw [e]; simp
  have h1 : (List.range n)[pre.length]'hl = i := by simp [e]
  rw [List.getElem_range] at h1
  rw [List.length_range] at hl
  exact ⟨h1.symm, hl⟩
theorem law_history_full (a b : Int) {m o : Nat} (hm : m ≤ 7) (ho : o ≤ 4) : ∃ h a' b' cs os, C (k + 4) 20 [.ref 0, .int (m : Nat), .int (o : Nat)] (St a b) = .ok (hD h, St a' b') ∧ okH h ∧ h.Perm (cs ++ os) ∧ cs.length = m ∧ os.length = o ∧ Cs cs ∧ Os m os := by
  have L1 : ∃ env2 st2, forRun (.nm 4) (denSs ⟨C (k + 3), gl⟩ cb) ((List.range m).map iD) [some (.val (.ref 0)), some (.val (.int (m : Nat))), some (.val (.int (o : Nat))), some (.own (.lst [])), none, none, none, none, none, none, none, none, none] (St a b) = .ok .nx env2 st2 ∧
      ∃ cs a' b' x4 x8 x9 x10, cs.length = (List.range m).length ∧ Cs cs ∧ st2 = St a' b' ∧ env2 = [some (.val (.ref 0)), some (.val (.int (m : Nat))), some (.val (.int (o : Nat))), some (.own (.lst (cs.map dD))), x4, none, none, none, x8, x9, x10, none, none] := by
    refine forRun_inv (xs := List.range m) (fun pre env st2 => ∃ (cs : List De) (a' b' : Int) (x4 x8 x9 x10 : Option Sl), cs.length = pre.length ∧ Cs cs ∧ st2 = St a' b' ∧ env = [some (.val (.ref 0)), some (.val (.int (m : Nat))), some (.val (.int (o : Nat))), some (.own (.lst (cs.map dD))), x4, none, none, none, x8, x9, x10, none, none]) (fun pre i post env st2 e j => ?_) [] _ _ _ rfl ⟨[], a, b, none, none, none, none, rfl, ⟨rfl, (fun d hd => by cases hd), (fun d hd => by cases hd), List.Pairwise.nil⟩, rfl, rfl⟩
    obtain ⟨cs, a', b', x4, x8, x9, x10, h1, h2, rfl, rfl⟩ := j
    obtain ⟨rfl, hi⟩ := range_at e
    obtain ⟨d, a2, b2, y8, y9, y10, t, h3⟩ := cb_ok (k := k) a' b' (m := .int (m : Nat)) (o := .int (o : Nat)) h2 (by omega) (x5 := none) (x6 := none) (x7 := none) (x8 := x8) (x9 := x9) (x10 := x10) (x11 := none)
    rw [h1] at t
    exact ⟨_, _, _, rfl, t, cs ++ [d], a2, b2, some (.val (.int (pre.length : Nat))), y8, y9, y10, by simp [h1], h3, rfl, rfl⟩
  obtain ⟨env1, st1, f1, cs, a1, b1, x4, x8, x9, x10, lc, hc, rfl, rfl⟩ := L1
  rw [List.length_range] at lc
  have L2 : ∃ env2 st2, forRun (.nm 5) (denSs ⟨C (k + 3), gl⟩ ob) ((List.range o).map iD) [some (.val (.ref 0)), some (.val (.int (m : Nat))), some (.val (.int (o : Nat))), some (.own (.lst (cs.map dD))), x4, none, none, none, x8, x9, x10, none, none] (St a1 b1) = .ok .nx env2 st2 ∧
      ∃ os a' b' x5, os.length = (List.range o).length ∧ Os m os ∧ st2 = St a' b' ∧ env2 = [some (.val (.ref 0)), some (.val (.int (m : Nat))), some (.val (.int (o : Nat))), some (.own (.lst ((cs ++ os).map dD))), x4, x5, none, none, x8, x9, x10, none, none] := by
    refine forRun_inv (xs := List.range o) (fun pre env st2 => ∃ (os : List De) (a' b' : Int) (x5 : Option Sl), os.length = pre.length ∧ Os m os ∧ st2 = St a' b' ∧ env = [some (.val (.ref 0)), some (.val (.int (m : Nat))), some (.val (.int (o : Nat))), some (.own (.lst ((cs ++ os).map dD))), x4, x5, none, none, x8, x9, x10, none, none]) (fun pre i post env st2 e j => ?_) [] _ _ _ rfl ⟨[], a1, b1, none, rfl, ⟨(fun d hd => by cases hd), (fun d hd => by cases hd), (fun d hd => by cases hd)⟩, rfl, by simp⟩
    obtain ⟨os, a', b', x5, h1, h2, rfl, rfl⟩ := j
    obtain ⟨rfl, hi⟩ := range_at e
    obtain ⟨d, a2, b2, t, h3⟩ := ob_ok (k := k) a' b' (m := m) (o := .int (o : Nat)) (fs := cs) (by omega) h2 (by rw [List.length_append]; omega) (x4 := x4) (x5 := some (.val (iD pre.length))) (x6 := none) (x7 := none) (x8 := x8) (x9 := x9) (x10 := x10) (x11 := none)
    exact ⟨_, _, _, rfl, t, os ++ [d], a2, b2, some (.val (iD pre.length)), by simp [h1], h3, rfl, rfl⟩
  obtain ⟨env2, st2, f2, os, a2, b2, x5, lo, hos, rfl, rfl⟩ := L2
  rw [List.length_range] at lo
  have L3 : ∃ env2 st2, forRun (.nm 7) (denSs ⟨C (k + 3), gl⟩ mb) ((cs ++ os).map dD) [some (.val (.ref 0)), some (.val (.int (m : Nat))), some (.val (.int (o : Nat))), some (.val (.lst ((cs ++ os).map dD))), x4, x5, some (.val (.lst (([] : List De).map dD))), none, x8, x9, x10, none, none] (St a2 b2) = .ok .nx env2 st2 ∧
      ∃ (ms : List De) (a' b' : Int) (x7 x11 : Option Sl), ms.Perm (cs ++ os) ∧ st2 = St a' b' ∧ env2 = [some (.val (.ref 0)), some (.val (.int (m : Nat))), some (.val (.int (o : Nat))), some (.val (.lst ((cs ++ os).map dD))), x4, x5, some (.val (.lst (ms.map dD))), x7, x8, x9, x10, x11, none] := by
    refine forRun_inv (xs := cs ++ os) (fun pre env st2 => ∃ (ms : List De) (a' b' : Int) (x7 x11 : Option Sl), ms.Perm pre ∧ st2 = St a' b' ∧ env = [some (.val (.ref 0)), some (.val (.int (m : Nat))), some (.val (.int (o : Nat))), some (.val (.lst ((cs ++ os).map dD))), x4, x5, some (.val (.lst (ms.map dD))), x7, x8, x9, x10, x11, none]) (fun pre d post env st2 e j => ?_) [] _ _ _ rfl ⟨[], a2, b2, none, none, List.Perm.refl _, rfl, rfl⟩
    obtain ⟨ms, a', b', x7, x11, h1, rfl, rfl⟩ := j
    have lp : pre.length ≤ (cs ++ os).length := by rw [e]; simp
    have lm := h1.length_eq
    rw [List.length_append] at lp
    obtain ⟨ms', a3, b3, y, t, h3⟩ := mb_ok (k := k) a' b' (ms := ms) (d := d) (by omega) (x1 := some (.val (.int (m : Nat)))) (x2 := some (.val (.int (o : Nat)))) (x3 := some (.val (.lst ((cs ++ os).map dD)))) (x4 := x4) (x5 := x5) (x8 := x8) (x9 := x9) (x10 := x10) (x11 := x11) (x12 := none)
    exact ⟨_, _, _, rfl, t, ms', a3, b3, some (.val (dD d)), y, h3.trans (h1.append_right _), rfl, rfl⟩
  obtain ⟨env3, st3, f3, ms, a3, b3, x7, x11, pm, rfl, rfl⟩ := L3
  refine ⟨ms, a3, b3, cs, os, ?_, okH_of (by omega) (by omega) hc lc hos pm, pm, lc, lo, hc, hos⟩
  show runBody ⟨C (k + 3), gl⟩ ⟨3, 13, b__law_history⟩ _ _ = _
  have e1 : ∀ n, (List.range n).map iD = (List.range n).map fun i => .int (i : Nat) := fun n => rfl
  rw [e1] at f1 f2
  have z1 : ((m : Nat) : Int) ≤ 16777216 := by omega
  have z2 : (-4611686018427387904 : Int) ≤ ((m : Nat) : Int) := by omega
  have z3 : ((o : Nat) : Int) ≤ 16777216 := by omega
  have z4 : (-4611686018427387904 : Int) ≤ ((o : Nat) : Int) := by omega
  simp only [cb] at f1
  simp only [ob] at f2
  simp only [mb] at f3
  simp [-List.map_append] at f1 f2 f3
  simp [-List.map_append, b__law_history, z1, z2, z3, z4, f1, f2, f3, gTuple]
  rfl
theorem law_history (a b : Int) {m o : Nat} (hm : m ≤ 7) (ho : o ≤ 4) : ∃ h a' b', C (k + 4) 20 [.ref 0, .int (m : Nat), .int (o : Nat)] (St a b) = .ok (hD h, St a' b') ∧ okH h := by
  obtain ⟨h, a', b', _, _, e, ok, _⟩ := law_history_full (k := k) a b hm ho
  exact ⟨h, a', b', e, ok⟩
end Kl

set_option Elab.async false
set_option linter.all false
set_option maxRecDepth 100000
/-! maths 20: fixed histories -/
namespace Kl
open PySem PySem.Spec Sn
variable {k : Nat} {st : Store}
def both : List De := [⟨0, some 0, [(0, some 1), (0, some 2)], [(0, some 1)]⟩, ⟨0, none, [(0, some 1), (0, some 2)], [(0, some 2)]⟩]
def three : List De := [⟨0, some 0, [], [(0, some 1)]⟩, ⟨0, some 1, [(0, some 1)], [(1, some 1)]⟩, ⟨1, some 2, [(1, none)], []⟩]
def okPB (p : Pl) : Bool := decide (0 ≤ p.1) && decide (p.1 ≤ 3) && (match p.2 with | none => true | some i => decide (-1000000000 ≤ i) && decide (i ≤ 1000000000))
theorem okPB_ok {p : Pl} (h : okPB p = true) : okP p := by
  obtain ⟨t, o⟩ := p
  simp only [okPB, Bool.and_eq_true, decide_eq_true_eq] at h
  refine ⟨h.1.1, h.1.2, fun i hi => ?_⟩
  simp only at hi
  subst hi
  simpa using h.2
def okPsB (ps : List Pl) : Bool := ps.all okPB && decide ps.Nodup && decide (ps.length < 63)
theorem okPsB_ok {ps : List Pl} (h : okPsB ps = true) : okPs ps := by
  simp only [okPsB, Bool.and_eq_true, decide_eq_true_eq, List.all_eq_true] at h
  exact ⟨fun p hp => okPB_ok (h.1.1 p hp), h.1.2, h.2⟩
def okDB (d : De) : Bool := decide (0 ≤ d.b) && decide (d.b ≤ 30) && (match d.e with | none => true | some i => decide (0 ≤ i) && decide (i ≤ 29)) && okPsB d.r && okPsB d.c && d.c.all (·.2.isSome)
theorem okDB_ok {d : De} (h : okDB d = true) : okD d := by
  simp only [okDB, Bool.and_eq_true, decide_eq_true_eq, List.all_eq_true] at h
  obtain ⟨⟨⟨⟨⟨h1, h2⟩, h3⟩, h4⟩, h5⟩, h6⟩ := h
  refine ⟨h1, h2, fun i hi => ?_, okPsB_ok h4, okPsB_ok h5, h6⟩
  rw [hi] at h3
  simpa using h3
def okHB (h : List De) : Bool := decide (h.length ≤ 30) && h.all okDB && decide (((dn h).map eOf).Perm ((List.range (dn h).length).map Int.ofNat)) && h.all (fun d => decide (d.b ≤ (dn h).length) && (match d.e with | none => true | some e => decide (d.b ≤ e))) && (dn h).all fun x => (dn h).all fun y => !decide (eOf x < eOf y) || decide (eOf x < y.b) || x.c.all fun p => !decide (p ∈ y.c)
theorem okHB_ok {h : List De} (e : okHB h = true) : okH h := by
  simp only [okHB, Bool.and_eq_true, decide_eq_true_eq, List.all_eq_true] at e
  obtain ⟨⟨⟨⟨h1, h2⟩, h3⟩, h4⟩, h5⟩ := e
  refine ⟨h1, fun d hd => okDB_ok (h2 d hd), h3, fun d hd => (h4 d hd).1, fun d hd i hi => ?_, fun x hx y hy hlt => ?_⟩
  · have := (h4 d hd).2
    rw [hi] at this
    simpa using this
  · have := h5 x hx y hy
    simp only [Bool.or_eq_true, Bool.not_eq_true', decide_eq_false_iff_not, decide_eq_true_eq, List.all_eq_true] at this
    rcases this with (c | c) | c
    · exact absurd hlt c
    · exact .inl c
    · exact .inr c
end Kl

set_option Elab.async false
set_option linter.all false
set_option maxRecDepth 100000
/-! maths 21: _law_committed, _law_round -/
namespace Kl
open PySem PySem.Spec Sn
variable {k : Nat} {st : Store}
/-! ### the round -/
theorem okH_perm {h h' : List De} (o : okH h) (p : h'.Perm h) : okH h' := by
  have dp : (dn h').Perm (dn h) := p.filter _
  refine ⟨by rw [p.length_eq]; exact o.len, fun d hd => o.all d (p.mem_iff.mp hd), ?_, fun d hd => ?_, fun d hd => o.be d (p.mem_iff.mp hd), fun x hx y hy => o.nc x (dp.mem_iff.mp hx) y (dp.mem_iff.mp hy)⟩
  · rw [dp.length_eq]
    exact (dp.map eOf).trans o.ns
  · rw [dp.length_eq]
    exact o.b d (p.mem_iff.mp hd)
theorem mem_at {h : List De} {d : De} (hd : d ∈ h) (e : d.e.isSome = true) : ∃ i ∈ doneL h, at_ h i = d := by
  obtain ⟨i, hi, rfl⟩ := List.mem_iff_getElem.mp hd
  have ea : at_ h i = h[i] := by simp [at_, hi]
  refine ⟨i, ?_, ea⟩
  unfold doneL
  rw [List.mem_filter, List.mem_range, ea]
  exact ⟨hi, e⟩
/-- a triple that is counted -/
theorem TB_has {h : List De} {x y z : De} (hx : x ∈ h) (hy : y ∈ h) (hz : z ∈ h) {ex ey ez : Int} (e1 : x.e = some ex) (e2 : y.e = some ey) (e3 : z.e = some ez)
    (xy : ex ≠ ey) (yz : ez < ey) (xz : ez ≤ ex) (b1 : ¬ ey < x.b) (b2 : ¬ ez < y.b) (r1 : RB x.r y.c = true) (r2 : RB y.r z.c = true) : TB h ≠ [] := by
  obtain ⟨f, hf, ef⟩ := mem_at hx (by rw [e1]; rfl)
  obtain ⟨m, hm, em⟩ := mem_at hy (by rw [e2]; rfl)
  obtain ⟨l, hl, el⟩ := mem_at hz (by rw [e3]; rfl)
  have nf : eN h f = ex := by unfold eN; rw [ef, e1]; rfl
  have nm : eN h m = ey := by unfold eN; rw [em, e2]; rfl
  have nl : eN h l = ez := by unfold eN; rw [el, e3]; rfl
  have fm : f ≠ m := fun z => xy (by rw [← nf, ← nm, z])
  have ml : m ≠ l := fun z => by
    have : ey = ez := by rw [← nm, ← nl, z]
    omega
  have p1 : pairB h f m = true := by simp [pairB, fm, ef, em, e2, b1, r1]
  have p2 : pairB h m l = true := by simp [pairB, ml, em, el, e3, b2, r2]
  have q1 := (mem_PL hf hm).mpr p1
  have q2 := (mem_PL hm hl).mpr p2
  have : (f, m, l) ∈ TB h := by
    unfold TB T5 T4 T3
    refine List.mem_flatMap.mpr ⟨f, hf, List.mem_flatMap.mpr ⟨m, hm, List.mem_map.mpr ⟨l, List.mem_filter.mpr ⟨hl, ?_⟩, rfl⟩⟩⟩
    simp [keep, q1, q2, nf, nm, nl, yz, xz]
  intro z
  rw [z] at this
  cases this
end Kl

set_option Elab.async false
set_option linter.all false
set_option maxRecDepth 100000
/-! maths 20t: _law_two -/
namespace Kl
open PySem PySem.Spec Sn
variable {k : Nat} {st : Store}
theorem law_two : C (k + 1) 28 [] st = .ok (.tup [hD both, hD three], st) := by
  show runBody ⟨C k, gl⟩ ⟨0, 1, b__law_two⟩ [] st = _
  simp [b__law_two, hD, dD, psD, pD, oD, both, three]
end Kl

set_option Elab.async false
set_option linter.all false
set_option maxRecDepth 100000
/-! maths 25: comparisons, texts, sorted triples; a history behind a commit that clashes with none -/
namespace Sn
open PySem PySem.Spec
mutual
theorem eqv_refl : ∀ d : D, d.plain = true → D.eqv d d = true
  | .non, _ => rfl
  | .bl b, _ => by simp [D.eqv]
  | .int i, _ => by simp [D.eqv]
  | .str x, _ => by simp [D.eqv]
  | .tup xs, h => by
    rw [D.plain] at h
    rw [D.eqv]
    exact eqvs_refl xs h
  | .lst xs, h => by
    rw [D.plain] at h
    rw [D.eqv]
    exact eqvs_refl xs h
  | .dct _, h => by simp [D.plain] at h
  | .scr _, h => by simp [D.plain] at h
  | .ref _, h => by simp [D.plain] at h
  | .fn _, h => by simp [D.plain] at h
theorem eqvs_refl : ∀ xs : List D, D.plains xs = true → D.eqvs xs xs = true
  | [], _ => rfl
  | x :: xs, h => by
    rw [D.plains, Bool.and_eq_true] at h
    rw [D.eqvs, eqv_refl x h.1, eqvs_refl xs h.2]
    rfl
end
theorem ne_self {d : D} {st : Store} (p : d.plain = true) (z : d.depth ≤ 40) : gNe d d st = .ok (.bl false, st) := by
  have hm : min d.depth d.depth ≤ 40 := by omega
  have c : D.can d d = true := by
    unfold D.can
    rw [p, decide_eq_true hm]
    rfl
  unfold gNe
  rw [if_pos c, eqv_refl d p]
  rfl
theorem eq_self {d : D} {st : Store} (p : d.plain = true) (z : d.depth ≤ 40) : gEq d d st = .ok (.bl true, st) := by
  have hm : min d.depth d.depth ≤ 40 := by omega
  have c : D.can d d = true := by
    unfold D.can
    rw [p, decide_eq_true hm]
    rfl
  unfold gEq
  rw [if_pos c, eqv_refl d p]
end Sn
namespace Kl
open PySem PySem.Spec Sn
variable {k : Nat} {st : Store}
/-! texts -/
theorem repr_iDs : ∀ {is : List Nat}, (∀ i ∈ is, i < 30) → ∃ xs, reprDs (is.map iD) = some xs ∧ xs.length = is.length ∧ ∀ x ∈ xs, x.length ≤ 2
  | [], _ => ⟨[], rfl, rfl, fun _ h => by cases h⟩
  | i :: is, h => by
    obtain ⟨x, e1, l1⟩ := repr_iD (h i List.mem_cons_self)
    obtain ⟨xs, e2, l2, l3⟩ := repr_iDs (is := is) fun y hy => h y (List.mem_cons_of_mem _ hy)
    refine ⟨x :: xs, by rw [List.map_cons, reprDs, e1, e2]; rfl, by simp [l2], fun y hy => ?_⟩
    rcases List.mem_cons.mp hy with rfl | hy
    · exact l1
    · exact l3 y hy
theorem depths_iD : ∀ is : List Nat, D.depths (is.map iD) = 0
  | [] => by simp [D.depths]
  | i :: is => by rw [List.map_cons, D.depths, depths_iD is]; simp [iD, D.depth]
theorem repr_nats {is : List Nat} (h : ∀ i ∈ is, i < 30) (l : is.length ≤ 1000) : ∃ t, ∀ st, gRepr (.tup (is.map iD)) st = .ok (.str t, st) := by
  obtain ⟨xs, e, ll, b⟩ := repr_iDs h
  refine ⟨tupleText xs, fun st => ?_⟩
  have h3 := text_le b
  have h4 : (tupleText xs).length ≤ sizeLine := by unfold sizeLine; omega
  have er : reprD (.tup (is.map iD)) = some (tupleText xs) := by rw [reprD, e]; rfl
  unfold gRepr
  rw [er]
  dsimp only
  rw [if_pos ⟨rfl, h4, by rw [D.depth, depths_iD]; omega⟩]
end Kl

set_option Elab.async false
set_option linter.all false
set_option maxRecDepth 100000
/-! graphs 1: leads, steps -/
namespace Kl
open PySem PySem.Spec Sn
variable {k : Nat} {st : Store}
/-- a step leads from f to s -/
def leadsB (h : List De) (f s : Nat) : Bool := !decide (f = s) && (decide (eN h f < (at_ h s).b) || pairB h f s)
theorem leads {h : List De} {f s : Nat} (hf : f ∈ doneL h) (hs : s ∈ doneL h) : C (k + 3) 37 [hD h, iD f, iD s] st = .ok (.bl (leadsB h f s), st) := by
  show runBody ⟨C (k + 2), gl⟩ ⟨3, 3, b_leads⟩ _ _ = _
  have i1 : ∀ st, gIx2 (hD h) (iD f) st = .ok (dD (at_ h f), st) := fun st => ixE hf st
  have i2 : ∀ st, gIx2 (hD h) (iD s) st = .ok (dD (at_ h s), st) := fun st => ixE hs st
  have hne : ∀ st, gNe (iD f) (iD s) st = .ok (.bl (!decide (f = s)), st) := fun st => ne_iD f s
  have se := sees_it (k := k + 1) (st := st) (one := at_ h s) (other := at_ h f) (eN_of hf)
  have ip := is_pair (k := k) (st := st) (done_lt hf) (done_lt hs) (eN_of hs)
  have pb : pairB h f s = (!decide (f = s) && (!decide (eN h s < (at_ h f).b) && RB (at_ h f).r (at_ h s).c)) := rfl
  rw [← pb] at ip
  by_cases a : f = s
  · subst a
    simp [b_leads, hne, leadsB]
  · by_cases b : eN h f < (at_ h s).b
    · simp [b_leads, hne, i1, i2, a, se, b, leadsB]
    · simp [b_leads, hne, i1, i2, a, se, b, ip, leadsB]
def succL (h : List De) (f : Nat) : List Nat := (doneL h).filter (leadsB h f)
/-- the dict of the steps -/
def stepsD (h : List De) : D := .dct ((doneL h).map fun f => (iD f, .lst ((succL h f).map iD)))
theorem put_new {es : List (D × D)} {n : D} {v : D} (h : (es.any fun p => D.eqv p.1 n) = false) : putD es n v = es ++ [(n, v)] := by
  unfold putD
  rw [h]
  rfl
theorem eqv_iD (i j : Nat) : D.eqv (iD i) (iD j) = decide (i = j) := by
  simp [iD, D.eqv, Bool.beq_eq_decide_eq, Int.ofNat_inj]
theorem fold_keys (g : Nat → D) : ∀ (is acc : List Nat), (acc ++ is).Nodup → (is.map fun i => (iD i, g i)).foldl (fun l p => putD l p.1 p.2) (acc.map fun i => (iD i, g i)) = (acc ++ is).map fun i => (iD i, g i)
  | [], acc, _ => by simp
  | i :: is, acc, nd => by
    have hn : ((acc.map fun i => (iD i, g i)).any fun p => D.eqv p.1 (iD i)) = false := by
      rw [List.any_eq_false]
      intro p hp
      obtain ⟨j, hj, rfl⟩ := List.mem_map.mp hp
      rw [eqv_iD]
      simp
      rintro rfl
      rw [List.nodup_append] at nd
      exact nd.2.2 j hj j List.mem_cons_self rfl
    rw [List.map_cons, List.foldl_cons, put_new hn]
    have := fold_keys g is (acc ++ [i]) (by rw [List.append_assoc]; exact nd)
    rw [List.map_append, List.append_assoc] at this
    exact this
theorem pairs_keys (g : Nat → D) : ∀ is : List Nat, pairsD (is.map fun i => .tup [iD i, g i]) = some (is.map fun i => (iD i, g i))
  | [] => rfl
  | i :: is => by
    rw [List.map_cons, pairsD, pairs_keys g is]
    rfl
theorem dict_keys (g : Nat → D) {is : List Nat} (nd : is.Nodup) : gDict (.lst (is.map fun i => .tup [iD i, g i])) st = .ok (.dct (is.map fun i => (iD i, g i)), st) := by
  have e := fold_keys g is [] (by simpa using nd)
  rw [List.map_nil, List.nil_append] at e
  unfold gDict
  dsimp only
  rw [pairs_keys]
  dsimp only
  rw [if_pos, e]
  left
  rw [List.all_eq_true]
  intro p hp
  obtain ⟨i, _, rfl⟩ := List.mem_map.mp hp
  rfl
theorem get_keys (g : Nat → D) {is : List Nat} {f : Nat} (nd : is.Nodup) (hf : f ∈ is) : gIx2 (.dct (is.map fun i => (iD i, g i))) (iD f) st = .ok (g f, st) := by
  have hk : keyFit (is.map fun i => (iD i, g i)) (iD f) = true := by
    unfold keyFit
    rw [Bool.or_eq_true]
    left
    rw [Bool.and_eq_true, List.all_eq_true]
    refine ⟨fun p hp => ?_, rfl⟩
    obtain ⟨i, _, rfl⟩ := List.mem_map.mp hp
    rfl
  have hg : getD (is.map fun i => (iD i, g i)) (iD f) = some (g f) := by
    unfold getD
    rw [List.find?_map]
    have e : (fun p : D × D => D.eqv p.1 (iD f)) ∘ (fun i => (iD i, g i)) = fun i => decide (i = f) := by
      funext i
      exact eqv_iD i f
    rw [e]
    have h2 : is.find? (fun i => decide (i = f)) = some f := by
      rw [List.find?_eq_some_iff_append]
      obtain ⟨a, b, rfl⟩ := List.append_of_mem hf
      refine ⟨by simp, a, b, rfl, fun x hx => ?_⟩
      simp
      rintro rfl
      rw [List.nodup_append] at nd
      exact nd.2.2 x hx x List.mem_cons_self rfl
    rw [h2]
    rfl
  unfold gIx2
  dsimp only
  rw [if_pos hk, hg]
theorem steps_in (h : List De) : C (k + 4) 38 [hD h] st = .ok (stepsD h, st) := by
  show runBody ⟨C (k + 3), gl⟩ ⟨1, 4, b_steps_in⟩ _ _ = _
  have cm := committed (k := k + 2) (st := st) h
  have l1 : lcLoop (lcBody (.nm 2) [2] cYes (cTup (lCons (cVar 2) (lCons (cLc (srcE (cVar 1)) (.nm 3) [3] (cT (cCal (C (k + 3) 37) (lCons (cVar 0) (lCons (cVar 2) (lCons (cVar 3) lNil))))) (cVar 3)) lNil))) [some (.val (hD h)), some (.val (.lst ((doneL h).map iD))), none, none]) ((doneL h).map iD) st = .ok ((doneL h).map (fun f => D.tup [iD f, .lst ((succL h f).map iD)]), st) := by
    refine lcLoop_all fun f hf => ?_
    have l2 : lcLoop (lcBody (.nm 3) [3] (cT (cCal (C (k + 3) 37) (lCons (cVar 0) (lCons (cVar 2) (lCons (cVar 3) lNil))))) (cVar 3) [some (.val (hD h)), some (.val (.lst ((doneL h).map iD))), some (.val (iD f)), none]) ((doneL h).map iD) st = .ok ((succL h f).map iD, st) := by
      rw [lcLoop_map (g := fun s => if leadsB h f s = true then some (iD s) else none)]
      · rw [filterMap_if]; rfl
      · intro s hs
        have le := leads (k := k) (st := st) hf hs
        cases c : leadsB h f s <;> rw [c] at le <;> simp [lcBody, wipeE, le]
    simp [lcBody, wipeE, cYes, l2]
  have dk := dict_keys (st := st) (fun f => .lst ((succL h f).map iD)) (doneL_nodup h)
  simp [b_steps_in, cm, l1, dk, stepsD]
theorem ix_steps {h : List De} {f : Nat} (hf : f ∈ doneL h) : ∀ st, gIx2 (stepsD h) (iD f) st = .ok (.lst ((succL h f).map iD), st) := fun st => get_keys (fun f => .lst ((succL h f).map iD)) (doneL_nodup h) hf
theorem in_iDs (i : Nat) (is : List Nat) : gIn2 (iD i) (.lst (is.map iD)) st = .ok (.bl (decide (i ∈ is)), st) := by
  show gIn (iD i) (.lst (is.map iD)) st = _
  have hp : D.plains (is.map iD) = true := by
    rw [D.plains_eq, List.all_eq_true]
    intro d hd
    obtain ⟨j, _, rfl⟩ := List.mem_map.mp hd
    rfl
  have hc : D.can (iD i) (.lst (is.map iD)) = true := by
    have e1 : (iD i).depth = 0 := rfl
    have h2 : min (iD i).depth (D.depth (.lst (is.map iD))) ≤ 40 := by omega
    unfold D.can
    rw [D.plain, hp, decide_eq_true h2]
    rfl
  have ha : ((is.map iD).any fun z => D.eqv z (iD i)) = decide (i ∈ is) := by
    rw [List.any_map]
    have e : (fun z => D.eqv z (iD i)) ∘ iD = fun j => decide (j = i) := by
      funext j
      exact eqv_iD j i
    rw [e, Bool.eq_iff_iff, List.any_eq_true, decide_eq_true_eq]
    constructor
    · rintro ⟨j, hj, q⟩
      exact (by simpa using q : j = i) ▸ hj
    · exact fun hi => ⟨i, hi, by simp⟩
  unfold gIn
  rw [items_lst]
  dsimp only
  rw [if_pos hc, ha]
theorem in_iDsT (i : Nat) (is : List Nat) : gIn2 (iD i) (.tup (is.map iD)) st = .ok (.bl (decide (i ∈ is)), st) := in_iDs i is
theorem notin_iDs (i : Nat) (is : List Nat) : gNotIn2 (iD i) (.lst (is.map iD)) st = .ok (.bl (!decide (i ∈ is)), st) := by
  have h : gIn (iD i) (.lst (is.map iD)) st = .ok (.bl (decide (i ∈ is)), st) := in_iDs i is
  show gNotIn (iD i) (.lst (is.map iD)) st = _
  unfold gIn at h
  unfold gNotIn
  rw [items_lst] at h ⊢
  dsimp only at h ⊢
  split at h
  · rename_i c
    injection h with h
    injection h with h1 h2
    injection h1 with h1
    rw [if_pos c, h1]
  · cases h
theorem notin_iDsT (i : Nat) (is : List Nat) : gNotIn2 (iD i) (.tup (is.map iD)) st = .ok (.bl (!decide (i ∈ is)), st) := notin_iDs i is
end Kl

set_option Elab.async false
set_option linter.all false
set_option maxRecDepth 100000
/-! graphs 4: the law's own steps -/
namespace Sn
open PySem PySem.Spec
/-- a loop that breaks at the first thing it looks for -/
theorem forRun_brk {α : Type} {enc : α → D} {t : Tg} {g : CS} {st : Store} (I : En → Prop) (P : α → Bool) (J : α → En → Prop) : ∀ {xs : List α},
    (∀ x ∈ xs, ∀ env, I env → ∃ env', t.put (enc x) env = some env' ∧ ((P x = true ∧ ∃ e2, g env' st = .ok .bk e2 st ∧ J x e2) ∨ (P x = false ∧ ∃ e2, g env' st = .ok .nx e2 st ∧ I e2))) →
    ∀ env, I env → ∃ e2, forRun t g (xs.map enc) env st = .ok .nx e2 st ∧ (match xs.find? P with | some x => J x e2 | none => I e2)
  | [], _, env, i => ⟨env, rfl, i⟩
  | x :: xs, h, env, i => by
    obtain ⟨env', p, c⟩ := h x List.mem_cons_self env i
    rcases c with ⟨c, e2, q, j⟩ | ⟨c, e2, q, i2⟩
    · refine ⟨e2, ?_, ?_⟩
      · rw [List.map_cons, forRun, p]
        dsimp only
        rw [q]
      · rw [List.find?_cons, c]
        exact j
    · obtain ⟨e3, r, j⟩ := forRun_brk I P J (fun y hy => h y (List.mem_cons_of_mem _ hy)) e2 i2
      refine ⟨e3, ?_, ?_⟩
      · rw [List.map_cons, forRun, p]
        dsimp only
        rw [q]
        exact r
      · rw [List.find?_cons, c]
        exact j
end Sn
namespace Kl
open PySem PySem.Spec Sn
variable {k : Nat} {st : Store}
def sawL (h : List De) (f : Nat) : List Nat := (doneL h).filter fun s => decide (eN h f < (at_ h s).b)
def sawP (h : List De) (f : Nat) : List (Nat × Nat) := (sawL h f).map fun s => (f, s)
def SN (h : List De) (fs : List Nat) : List (Nat × Nat) := PL h ++ fs.flatMap (sawP h)
def sb : SL := (.cons (.asg (.nm 1) (.op .cat (.var 1) (.lc (.e (.cal 21 (.cons (.var 0) .nil))) (.nm 3) [3] (.some (.cal 22 (.cons (.ix (.var 0) (.var 3)) (.cons (.ix (.var 0) (.var 2)) .nil)))) (.tup (.cons (.var 2) (.cons (.var 3) .nil)))))) .nil)
theorem sb_ok {h : List De} (hl : h.length ≤ 30) {fs : List Nat} {f : Nat} (hf : f ∈ doneL h) (hz : (SN h fs).length ≤ 5000) :
    denSs ⟨C (k + 1), gl⟩ sb [some (.val (hD h)), some (.val (.lst ((SN h fs).map prD))), some (.val (iD f)), none] st =
      .ok .nx [some (.val (hD h)), some (.val (.lst ((SN h (fs ++ [f])).map prD))), some (.val (iD f)), none] st := by
  have ld := law_done (k := k) (st := st) hl
  have l1 : lcLoop (lcBody (.nm 3) [3] (cT (cCal (C (k + 1) 22) (lCons (c2 (cVar 0) (cVar 3) gIx2) (lCons (c2 (cVar 0) (cVar 2) gIx2) lNil)))) (cTup (lCons (cVar 2) (lCons (cVar 3) lNil))) [some (.val (hD h)), some (.val (.lst ((SN h fs).map prD))), some (.val (iD f)), none]) ((doneL h).map iD) st = .ok ((sawP h f).map prD, st) := by
    rw [lcLoop_map (g := fun s => if decide (eN h f < (at_ h s).b) = true then some (prD (f, s)) else none)]
    · rw [filterMap_if]
      unfold sawP sawL
      rw [List.map_map]
      rfl
    · intro s hs
      have i1 : ∀ st, gIx2 (hD h) (iD s) st = .ok (dD (at_ h s), st) := fun st => ixE hs st
      have i2 : ∀ st, gIx2 (hD h) (iD f) st = .ok (dD (at_ h f), st) := fun st => ixE hf st
      have ls := law_saw (k := k) (st := st) (one := at_ h s) (other := at_ h f) (eN_of hf)
      by_cases c : eN h f < (at_ h s).b <;> simp [lcBody, wipeE, i1, i2, ls, c, prD]
  have dl := doneL_len h
  have sl : (sawP h f).length ≤ 30 := by
    unfold sawP sawL
    rw [List.length_map]
    exact Nat.le_trans (List.length_filter_le _ _) (by omega)
  have ct : gCat (.lst ((SN h fs).map prD)) (.lst ((sawP h f).map prD)) st = .ok (.lst ((SN h (fs ++ [f])).map prD), st) := by
    unfold gCat
    dsimp only
    rw [if_pos (by simp only [List.length_map]; unfold sizeLine; omega)]
    unfold SN
    rw [List.flatMap_append, List.flatMap_singleton, ← List.append_assoc, List.map_append (l₁ := PL h ++ fs.flatMap (sawP h))]
  simp [sb, ld, l1, ct]
theorem prD_inj {p q : Nat × Nat} (h : prD p = prD q) : p = q := by
  obtain ⟨a, b⟩ := p
  obtain ⟨c, d⟩ := q
  simp [prD, iD] at h
  simp
  omega
theorem pre_list {S : List (Nat × Nat)} : ∀ {L : List D}, (∀ d ∈ L, d ∈ S.map prD) → ∃ ps : List (Nat × Nat), L = ps.map prD ∧ ∀ p ∈ ps, p ∈ S
  | [], _ => ⟨[], rfl, fun p h => by cases h⟩
  | d :: L, h => by
    obtain ⟨p, hp, rfl⟩ := List.mem_map.mp (h d List.mem_cons_self)
    obtain ⟨ps, e, q⟩ := pre_list (S := S) fun x hx => h x (List.mem_cons_of_mem _ hx)
    refine ⟨p :: ps, by rw [List.map_cons, e], fun y hy => ?_⟩
    rcases List.mem_cons.mp hy with rfl | hy
    · exact hp
    · exact q y hy
theorem distinct_pr (S : List (Nat × Nat)) : ∃ ps : List (Nat × Nat), distinctD (S.map prD) = ps.map prD ∧ ps.Nodup ∧ ∀ p, p ∈ ps ↔ p ∈ S := by
  obtain ⟨ps, e, q⟩ := pre_list (S := S) (L := distinctD (S.map prD)) fun d hd => Sn.distinct_sub _ d hd
  have eqs : ∀ x ∈ S.map prD, ∀ y ∈ [] ++ S.map prD, D.eqv y x = decide (y.key = x.key) := fun x hx y hy => by
    obtain ⟨p, _, rfl⟩ := List.mem_map.mp hx
    obtain ⟨r, _, rfl⟩ := List.mem_map.mp (by simpa using hy : y ∈ S.map prD)
    rw [Sn.eqv_key _ _ rfl rfl, NestedKey.decide_eq]
  obtain ⟨d1, d2⟩ := Sn.distinct_keys D.key (S.map prD) [] eqs List.nodup_nil
  have e2 : (S.map prD).foldl (fun acc x => if (acc.any fun y => D.eqv y x) = true then acc else acc ++ [x]) [] = ps.map prD := e
  rw [e2] at d1 d2
  refine ⟨ps, e, ?_, fun p => ⟨q p, fun hp => ?_⟩⟩
  · exact L2.nodup_of_map (L2.nodup_of_map d1)
  · have := (d2 (prD p).key).mpr (List.mem_map.mpr ⟨prD p, List.mem_map.mpr ⟨p, hp, rfl⟩, rfl⟩)
    obtain ⟨d, hd, hk⟩ := List.mem_map.mp this
    obtain ⟨r, hr, rfl⟩ := List.mem_map.mp hd
    have := Sn.pair_key (d := prD r) (e := prD p) rfl rfl hk
    rw [← prD_inj this]
    exact hr
theorem mem_SN {h : List De} (o : okH h) (p : Nat × Nat) : p ∈ SN h (doneL h) ↔ (p.1 ∈ doneL h ∧ p.2 ∈ doneL h ∧ leadsB h p.1 p.2 = true) := by
  obtain ⟨f, s⟩ := p
  unfold SN
  rw [List.mem_append]
  have self : ∀ i ∈ doneL h, ¬ eN h i < (at_ h i).b := fun i hi => by
    have hm : at_ h i ∈ h := by
      have hl := done_lt hi
      have ea : at_ h i = h[i] := by simp [at_, hl]
      rw [ea]
      exact List.getElem_mem hl
    have := o.be _ hm _ (eN_of hi)
    omega
  constructor
  · rintro (hp | hp)
    · obtain ⟨h1, h2⟩ := PL_mem hp
      refine ⟨h1, h2, ?_⟩
      have := (mem_PL h1 h2).mp hp
      have ne : f ≠ s := fun e => by subst e; simp [pairB] at this
      simp [leadsB, ne, this]
    · obtain ⟨f', hf, hp⟩ := List.mem_flatMap.mp hp
      unfold sawP sawL at hp
      obtain ⟨s', hs, e⟩ := List.mem_map.mp hp
      cases e
      obtain ⟨h1, h2⟩ := List.mem_filter.mp hs
      refine ⟨hf, h1, ?_⟩
      have ne : f ≠ s := fun e => by
        subst e
        exact self f hf (by simpa using h2)
      simp [leadsB, ne]
      exact .inl (by simpa using h2)
  · rintro ⟨h1, h2, l⟩
    dsimp only at h1 h2 l
    unfold leadsB at l
    simp only [Bool.and_eq_true, Bool.or_eq_true, Bool.not_eq_true', decide_eq_false_iff_not, decide_eq_true_eq] at l
    rcases l.2 with l | l
    · right
      refine List.mem_flatMap.mpr ⟨f, h1, List.mem_map.mpr ⟨s, List.mem_filter.mpr ⟨h2, by simpa using l⟩, rfl⟩⟩
    · exact .inl ((mem_PL h1 h2).mpr l)
theorem SN_len (h : List De) (fs : List Nat) (hl : h.length ≤ 30) (hf : fs.length ≤ 30) : (SN h fs).length ≤ 2900 := by
  have dl := doneL_len h
  have h1 := PL_len hl
  have h2 : (fs.flatMap (sawP h)).length ≤ fs.length * 30 := flat_len fun f _ => by
    unfold sawP sawL
    rw [List.length_map]
    exact Nat.le_trans (List.length_filter_le _ _) (by omega)
  unfold SN
  rw [List.length_append]
  omega
theorem law_steps {h : List De} (o : okH h) (few : ∀ ps : List (Nat × Nat), ps.Nodup → (∀ p ∈ ps, p.1 ∈ doneL h ∧ p.2 ∈ doneL h ∧ leadsB h p.1 p.2 = true) → ps.length < 63) :
    ∃ ps : List (Nat × Nat), C (k + 3) 46 [hD h] st = .ok (.lst (ps.map prD), st) ∧ ps.length < 63 ∧ ∀ p, p ∈ ps ↔ (p.1 ∈ doneL h ∧ p.2 ∈ doneL h ∧ leadsB h p.1 p.2 = true) := by
  have hl := o.len
  have dl := doneL_len h
  have lp := law_pairs (k := k) (st := st) hl
  have ld := law_done (k := k + 1) (st := st) hl
  have L : ∃ env2 st2, forRun (.nm 2) (denSs ⟨C (k + 2), gl⟩ sb) ((doneL h).map iD) [some (.val (hD h)), some (.val (.lst ((SN h []).map prD))), none, none] st = .ok .nx env2 st2 ∧
      (st2 = st ∧ ∃ x, env2 = [some (.val (hD h)), some (.val (.lst ((SN h (doneL h)).map prD))), x, none]) := by
    refine forRun_inv (xs := doneL h) (fun pre env st2 => st2 = st ∧ ∃ x, env = [some (.val (hD h)), some (.val (.lst ((SN h pre).map prD))), x, none]) (fun pre f post env st2 e i => ?_) [] _ _ _ rfl ⟨rfl, none, rfl⟩
    obtain ⟨rfl, x, rfl⟩ := i
    have hf : f ∈ doneL h := by rw [e]; simp
    have lpre : pre.length ≤ (doneL h).length := by rw [e]; simp
    have sz := SN_len h pre hl (by omega)
    exact ⟨_, _, _, rfl, sb_ok (k := k + 1) hl hf (by omega), rfl, _, rfl⟩
  obtain ⟨env2, st2, f1, rfl, x, rfl⟩ := L
  obtain ⟨ps, d1, d2, d3⟩ := distinct_pr (SN h (doneL h))
  have mem : ∀ p, p ∈ ps ↔ (p.1 ∈ doneL h ∧ p.2 ∈ doneL h ∧ leadsB h p.1 p.2 = true) := fun p => (d3 p).trans (mem_SN o p)
  have fw : ps.length < 63 := few ps d2 fun p hp => (mem p).mp hp
  obtain ⟨qs, e1, e2⟩ := pre_list (S := ps) (L := (ps.map prD).mergeSort leD) fun d hd => (List.mergeSort_perm _ _).mem_iff.mp hd
  have pm : (qs.map prD).Perm (ps.map prD) := by rw [← e1]; exact List.mergeSort_perm _ _
  refine ⟨qs, ?_, ?_, fun p => ?_⟩
  · show runBody ⟨C (k + 2), gl⟩ ⟨1, 4, b__law_steps⟩ _ _ = _
    have sr : gSrtS (.lst ((SN h (doneL h)).map prD)) st2 = .ok (.lst (qs.map prD), st2) := by
      unfold gSrtS
      dsimp only
      rw [if_pos, d1, e1]
      refine ⟨?_, by rw [d1, List.length_map]; exact fw⟩
      rw [List.all_eq_true]
      intro d hd
      obtain ⟨p, _, rfl⟩ := List.mem_map.mp hd
      rfl
    have e0 : (SN h []).map prD = (PL h).map prD := by unfold SN; simp
    rw [e0] at f1
    simp only [sb] at f1
    simp at f1
    simp [b__law_steps, lp, ld, f1, sr]
  · have := pm.length_eq
    rw [List.length_map, List.length_map] at this
    omega
  · rw [← mem p]
    constructor
    · exact e2 p
    · intro hp
      obtain ⟨q, hq, e⟩ := List.mem_map.mp (pm.mem_iff.mpr (List.mem_map.mpr ⟨p, hp, rfl⟩))
      rw [← prD_inj e]
      exact hq
theorem few_of {h : List De} (n7 : (doneL h).length ≤ 7) : ∀ ps : List (Nat × Nat), ps.Nodup → (∀ p ∈ ps, p.1 ∈ doneL h ∧ p.2 ∈ doneL h ∧ leadsB h p.1 p.2 = true) → ps.length < 63 := by
  intro ps nd hp
  have := Sn.nodup_le nd (m := (doneL h).flatMap fun f => (doneL h).map fun s => (f, s)) fun p hm => by
    obtain ⟨h1, h2, _⟩ := hp p hm
    exact List.mem_flatMap.mpr ⟨p.1, h1, List.mem_map.mpr ⟨p.2, h2, rfl⟩⟩
  have l2 : ((doneL h).flatMap fun f => (doneL h).map fun s => (f, s)).length ≤ (doneL h).length * (doneL h).length := flat_len fun f _ => by rw [List.length_map]; exact Nat.le_refl _
  have : (doneL h).length * (doneL h).length ≤ 7 * 7 := Nat.mul_le_mul n7 n7
  omega
end Kl

set_option Elab.async false
set_option linter.all false
set_option maxRecDepth 100000
/-! graphs 2: a ring is looked for -/
namespace Kl
open PySem PySem.Spec Sn
variable {k : Nat} {st : Store}
/-- those that stay: from which a step leads on -/
def stayL (h : List De) (left : List Nat) : List Nat := left.filter fun i => (succL h i).any fun j => decide (j ∈ left)
theorem stay_len (h : List De) (left : List Nat) : (stayL h left).length ≤ left.length := List.length_filter_le _ _
theorem stay_sub {h : List De} {left : List Nat} {i : Nat} (hi : i ∈ stayL h left) : i ∈ left := (List.mem_filter.mp hi).1
def wb : SL := (.cons (.own 3 (.lc (.e (.var 2)) (.nm 4) [4] (.some (.b1 .any (.lc (.e (.ix (.var 1) (.var 4))) (.nm 5) [5] .none (.cmp .isin (.var 5) (.var 2))))) (.var 4))) (.cons (.give 3) (.cons (.if_ (.cmp .eq (.b1 .len (.var 3)) (.b1 .len (.var 2))) (.cons .bk .nil) .nil) (.cons (.asg (.nm 2) (.var 3)) .nil))))
theorem len_iDs (is : List Nat) : gLen (.lst (is.map iD)) st = .ok (.int (is.length : Nat), st) := by simp
theorem eq_len (a b : Nat) : gEq (.int (a : Nat)) (.int (b : Nat)) st = .ok (.bl (decide (a = b)), st) := by
  rw [gEq_int]
  congr 3
  simp [Int.ofNat_inj]
theorem wb_ok {h : List De} {left : List Nat} (hl : ∀ i ∈ left, i ∈ doneL h) {T : Tb} {x3 : Option Sl} :
    denSs T wb [some (.val (hD h)), some (.val (stepsD h)), some (.val (.lst (left.map iD))), x3, none, none] st =
      if (stayL h left).length = left.length then .ok .bk [some (.val (hD h)), some (.val (stepsD h)), some (.val (.lst (left.map iD))), some (.val (.lst ((stayL h left).map iD))), none, none] st
      else .ok .nx [some (.val (hD h)), some (.val (stepsD h)), some (.val (.lst ((stayL h left).map iD))), some (.val (.lst ((stayL h left).map iD))), none, none] st := by
  have l1 : ∀ x3, lcLoop (lcBody (.nm 4) [4] (cT (c1 (cLc (srcE (c2 (cVar 1) (cVar 4) gIx2)) (.nm 5) [5] cYes (c2 (cVar 5) (cVar 2) gIn2)) gAny)) (cVar 4) [some (.val (hD h)), some (.val (stepsD h)), some (.val (.lst (left.map iD))), x3, none, none]) (left.map iD) st = .ok ((stayL h left).map iD, st) := fun x3 => by
    rw [lcLoop_map (g := fun i => if ((succL h i).any fun j => decide (j ∈ left)) = true then some (iD i) else none)]
    · rw [filterMap_if]; rfl
    · intro i hi
      have ix := ix_steps (hl i hi)
      have l2 : lcLoop (lcBody (.nm 5) [5] cYes (c2 (cVar 5) (cVar 2) gIn2) [some (.val (hD h)), some (.val (stepsD h)), some (.val (.lst (left.map iD))), x3, some (.val (iD i)), none]) ((succL h i).map iD) st = .ok ((succL h i).map (fun j => D.bl (decide (j ∈ left))), st) :=
        lcLoop_all fun j hj => by simp [lcBody, wipeE, cYes, in_iDs]
      have ga : gAny (.lst ((succL h i).map (fun j => D.bl (decide (j ∈ left))))) st = .ok (.bl ((succL h i).any fun j => decide (j ∈ left)), st) := by
        simp [gAny]
      cases c : (succL h i).any fun j => decide (j ∈ left) <;> rw [c] at ga <;> simp [lcBody, wipeE, ix, l2, ga]
  have el := eq_len (st := st) (stayL h left).length left.length
  by_cases c : (stayL h left).length = left.length
  · rw [if_pos c]
    rw [decide_eq_true c] at el
    simp [wb, l1, el]
  · rw [if_neg c]
    rw [decide_eq_false c] at el
    simp [wb, l1, el]
/-- the last ones that are left -/
def coreN (h : List De) : Nat → List Nat → List Nat
  | 0, left => left
  | n + 1, left => if (stayL h left).length = left.length then left else coreN h n (stayL h left)
theorem core_stays (h : List De) : ∀ (n : Nat) (left : List Nat), left.length ≤ n → stayL h (coreN h n left) = coreN h n left
  | 0, left, hl => by
    have : left = [] := List.eq_nil_of_length_eq_zero (by omega)
    subst this
    rfl
  | n + 1, left, hl => by
    rw [coreN]
    split
    · rename_i c
      exact List.filter_eq_self.mpr fun i hi => by
        have := List.length_filter_eq_length_iff.mp c
        exact this i hi
    · rename_i c
      exact core_stays h n _ (by have := stay_len h left; omega)
theorem core_sub (h : List De) : ∀ (n : Nat) (left : List Nat), ∀ i ∈ coreN h n left, i ∈ left
  | 0, left, i, hi => hi
  | n + 1, left, i, hi => by
    rw [coreN] at hi
    split at hi
    · exact hi
    · exact stay_sub (core_sub h n _ i hi)
theorem while_core {h : List De} {T : Tb} : ∀ (n m : Nat) (left : List Nat) (x3 : Option Sl), (∀ i ∈ left, i ∈ doneL h) → left.length ≤ n → n < m →
    ∃ y3, whileRun (cT (cPure (.bl true))) (denSs T wb) m [some (.val (hD h)), some (.val (stepsD h)), some (.val (.lst (left.map iD))), x3, none, none] st =
      .ok .nx [some (.val (hD h)), some (.val (stepsD h)), some (.val (.lst ((coreN h n left).map iD))), y3, none, none] st
  | n, 0, left, x3, hl, hn, hm => by omega
  | 0, m + 1, left, x3, hl, hn, hm => by
    have : left = [] := List.eq_nil_of_length_eq_zero (by omega)
    subst this
    refine ⟨some (.val (.lst [])), ?_⟩
    rw [whileRun]
    have w := wb_ok (h := h) (left := []) (st := st) (T := T) (x3 := x3) hl
    simp [stayL] at w
    simp [w, coreN]
  | n + 1, m + 1, left, x3, hl, hn, hm => by
    rw [whileRun]
    have w := wb_ok (h := h) (left := left) (st := st) (T := T) (x3 := x3) hl
    by_cases c : (stayL h left).length = left.length
    · rw [if_pos c] at w
      refine ⟨some (.val (.lst ((stayL h left).map iD))), ?_⟩
      simp [w, coreN, c]
    · rw [if_neg c] at w
      have sl := stay_len h left
      obtain ⟨y3, r⟩ := while_core (h := h) (T := T) n m (stayL h left) (some (.val (.lst ((stayL h left).map iD)))) (fun i hi => hl i (stay_sub hi)) (by omega) (by omega)
      refine ⟨y3, ?_⟩
      simp [w, coreN, c, r]
def core (h : List De) : List Nat := coreN h (doneL h).length (doneL h)
theorem core_done {h : List De} {i : Nat} (hi : i ∈ core h) : i ∈ doneL h := core_sub h _ _ i hi
theorem core_succ {h : List De} {i : Nat} (hi : i ∈ core h) : ∃ j ∈ core h, leadsB h i j = true := by
  have hs : stayL h (core h) = core h := core_stays h _ _ (Nat.le_refl _)
  rw [← hs] at hi
  have := (List.mem_filter.mp hi).2
  rw [List.any_eq_true] at this
  obtain ⟨j, hj, hm⟩ := this
  exact ⟨j, by simpa using hm, (List.mem_filter.mp hj).2⟩
end Kl

set_option Elab.async false
set_option linter.all false
set_option maxRecDepth 100000
/-! graphs 3: a ring is walked -/
namespace Kl
open PySem PySem.Spec Sn
variable {k : Nat} {st : Store}
/-- each one of a row leads to the next, the last one to x -/
def Path (h : List De) : List Nat → Nat → Prop
  | [], _ => True
  | [a], x => leadsB h a x = true
  | a :: b :: r, x => leadsB h a b = true ∧ Path h (b :: r) x
theorem Path.snoc {h : List De} : ∀ {W : List Nat} {x y : Nat}, Path h W x → leadsB h x y = true → Path h (W ++ [x]) y
  | [], x, y, _, l => l
  | [a], x, y, p, l => ⟨p, l⟩
  | a :: b :: r, x, y, p, l => ⟨p.1, Path.snoc (W := b :: r) p.2 l⟩
theorem Path.tail {h : List De} {a : Nat} {r : List Nat} {x : Nat} (p : Path h (a :: r) x) : Path h r x := by
  cases r with
  | nil => trivial
  | cons b r => exact p.2
theorem Path.drop {h : List De} : ∀ (n : Nat) {W : List Nat} {x : Nat}, Path h W x → Path h (W.drop n) x
  | 0, _, _, p => p
  | n + 1, [], _, p => p
  | n + 1, _ :: _, _, p => by rw [List.drop_succ_cons]; exact Path.drop n p.tail
def nx (h : List De) (i : Nat) : Nat := (((succL h i).filter fun j => decide (j ∈ core h)).head?).getD 0
theorem nx_ok {h : List De} {i : Nat} (hi : i ∈ core h) : ((succL h i).filter fun j => decide (j ∈ core h)).head? = some (nx h i) ∧ nx h i ∈ core h ∧ leadsB h i (nx h i) = true := by
  obtain ⟨j, hj, l⟩ := core_succ hi
  have hm : j ∈ (succL h i).filter fun j => decide (j ∈ core h) := List.mem_filter.mpr ⟨List.mem_filter.mpr ⟨core_done hj, l⟩, by simpa using hj⟩
  unfold nx
  cases e : (succL h i).filter fun j => decide (j ∈ core h) with
  | nil => rw [e] at hm; cases hm
  | cons a r =>
    have ha : a ∈ (succL h i).filter fun j => decide (j ∈ core h) := by rw [e]; exact List.mem_cons_self
    obtain ⟨h1, h2⟩ := List.mem_filter.mp ha
    exact ⟨rfl, by simpa using h2, (List.mem_filter.mp h1).2⟩
def rb : SL := (.cons (.app 2 (.var 3)) (.cons (.asg (.nm 3) (.ix (.lc (.e (.ix (.var 0) (.var 3))) (.nm 4) [4] (.some (.cmp .isin (.var 4) (.var 1))) (.var 4)) (.cst (.int 0)))) .nil))
theorem rb_ok {h : List De} {W : List Nat} {x : Nat} (hx : x ∈ core h) (hW : W.length < 100) {T : Tb} :
    denSs T rb [some (.val (stepsD h)), some (.val (.lst ((core h).map iD))), some (.own (.lst (W.map iD))), some (.val (iD x)), none] st =
      .ok .nx [some (.val (stepsD h)), some (.val (.lst ((core h).map iD))), some (.own (.lst ((W ++ [x]).map iD))), some (.val (iD (nx h x))), none] st := by
  have ix := ix_steps (core_done hx)
  have z : W.length < sizeLine := by unfold sizeLine; omega
  have l1 : ∀ W', lcLoop (lcBody (.nm 4) [4] (cT (c2 (cVar 4) (cVar 1) gIn2)) (cVar 4) [some (.val (stepsD h)), some (.val (.lst ((core h).map iD))), some (.own (.lst (W' : List D))), some (.val (iD x)), none]) ((succL h x).map iD) st = .ok (((succL h x).filter fun j => decide (j ∈ core h)).map iD, st) := fun W' => by
    rw [lcLoop_map (g := fun j => if decide (j ∈ core h) = true then some (iD j) else none)]
    · rw [filterMap_if]
    · intro j hj
      by_cases c : j ∈ core h <;> simp [lcBody, wipeE, in_iDs, c]
  obtain ⟨n1, n2, n3⟩ := nx_ok hx
  have i0 : gIx2 (.lst (((succL h x).filter fun j => decide (j ∈ core h)).map iD)) (.int 0) st = .ok (iD (nx h x), st) := by
    cases e : (succL h x).filter fun j => decide (j ∈ core h) with
    | nil => rw [e] at n1; cases n1
    | cons a r =>
      rw [e] at n1
      cases n1
      simp [gIx]
  simp [rb, z]
  rw [← List.map_singleton (f := iD), ← List.map_append]
  simp [ix, l1, i0]
theorem while_round {h : List De} {T : Tb} (hc : (core h).length ≤ 40) : ∀ (n m : Nat) (W : List Nat) (x : Nat), W.Nodup → (∀ i ∈ W, i ∈ core h) → x ∈ core h → Path h W x → (core h).length - W.length ≤ n → n < m →
    ∃ (W' : List Nat) (x' : Nat), whileRun (cT (c2 (cVar 3) (cOwn 2) gNotIn2)) (denSs T rb) m [some (.val (stepsD h)), some (.val (.lst ((core h).map iD))), some (.own (.lst (W.map iD))), some (.val (iD x)), none] st =
      .ok .nx [some (.val (stepsD h)), some (.val (.lst ((core h).map iD))), some (.own (.lst (W'.map iD))), some (.val (iD x')), none] st ∧ W'.Nodup ∧ (∀ i ∈ W', i ∈ core h) ∧ x' ∈ W' ∧ Path h W' x'
  | n, 0, W, x, _, _, _, _, hn, hm => by omega
  | n, m + 1, W, x, nd, sub, hx, p, hn, hm => by
    rw [whileRun]
    have ni := notin_iDs (st := st) x W
    by_cases c : x ∈ W
    · rw [decide_eq_true c] at ni
      exact ⟨W, x, by simp [ni], nd, sub, c, p⟩
    · rw [decide_eq_false c] at ni
      have lW : W.length < (core h).length := by
        have nd2 : (x :: W).Nodup := List.nodup_cons.mpr ⟨c, nd⟩
        have := Sn.nodup_le nd2 (m := core h) fun y hy => by
          rcases List.mem_cons.mp hy with rfl | hy
          · exact hx
          · exact sub y hy
        simp at this
        omega
      obtain ⟨n1, n2, n3⟩ := nx_ok hx
      cases n with
      | zero => omega
      | succ n =>
        obtain ⟨W', x', r, h1, h2, h3, h4⟩ := while_round (T := T) hc n m (W ++ [x]) (nx h x) (by
          rw [List.nodup_append]
          refine ⟨nd, by simp, fun a ha b hb => ?_⟩
          rw [List.mem_singleton] at hb
          subst hb
          rintro rfl
          exact c ha) (fun i hi => by
          rcases List.mem_append.mp hi with hi | hi
          · exact sub i hi
          · rw [List.mem_singleton] at hi
            exact hi ▸ hx) n2 (p.snoc n3) (by rw [List.length_append]; simp; omega) (by omega)
        refine ⟨W', x', ?_, h1, h2, h3, h4⟩
        have w := rb_ok (h := h) (W := W) (st := st) (T := T) hx (by omega)
        simp only [cT, c2, cVar, cOwn, List.getElem?_cons_zero, List.getElem?_cons_succ, R.bind_ok, ni, R.bindS, Bool.not_false, if_pos]
        rw [w]
        exact r
structure Ring (h : List De) (R : List Nat) : Prop where
  nd : R.Nodup
  sub : ∀ i ∈ R, i ∈ doneL h
  path : ∃ x r, R = x :: r ∧ Path h R x
theorem Ring.two {h : List De} {R : List Nat} (r : Ring h R) : 2 ≤ R.length := by
  obtain ⟨x, rs, e, p⟩ := r.path
  subst e
  cases rs with
  | nil =>
    have : leadsB h x x = true := p
    simp [leadsB] at this
  | cons y rs => simp
theorem idx_at {W : List Nat} {x : Nat} (hx : x ∈ W) : ∃ r, W.drop (W.idxOf x) = x :: r := by
  have hl : W.idxOf x < W.length := List.idxOf_lt_length_iff.mpr hx
  rw [List.drop_eq_getElem_cons hl, List.getElem_idxOf hl]
  exact ⟨_, rfl⟩
theorem idx_iDs {W : List Nat} {x : Nat} (hx : x ∈ W) : gIdx (W.map iD) (iD x) st = .ok (.int (W.idxOf x : Nat), st) := by
  have hp : D.plains (W.map iD) = true := by
    rw [D.plains_eq, List.all_eq_true]
    intro d hd
    obtain ⟨j, _, rfl⟩ := List.mem_map.mp hd
    rfl
  have hc : D.can (iD x) (.tup (W.map iD)) = true := by
    have e1 : (iD x).depth = 0 := rfl
    have h2 : min (iD x).depth (D.depth (.tup (W.map iD))) ≤ 40 := by omega
    unfold D.can
    rw [D.plain, hp, decide_eq_true h2]
    rfl
  have hf : (W.map iD).findIdx? (fun z => D.eqv z (iD x)) = some (W.idxOf x) := by
    rw [List.findIdx?_map]
    have e : (fun z => D.eqv z (iD x)) ∘ iD = fun j => j == x := by
      funext j
      by_cases c : j = x <;> simp [eqv_iD, c]
    rw [e, List.findIdx?_eq_some_iff_findIdx_eq]
    exact ⟨List.idxOf_lt_length_iff.mpr hx, rfl⟩
  unfold gIdx
  rw [if_pos hc, hf]
theorem ne_nil_iDs (is : List Nat) : gNe (.lst (is.map iD)) (.lst []) st = .ok (.bl (!decide (is = [])), st) := by
  have hp : D.plains (is.map iD) = true := by
    rw [D.plains_eq, List.all_eq_true]
    intro d hd
    obtain ⟨i, _, rfl⟩ := List.mem_map.mp hd
    rfl
  have hc : D.can (.lst (is.map iD)) (.lst []) = true := by
    have : D.depth (.lst []) = 1 := by simp [D.depth, D.depths]
    have h2 : min (D.depth (.lst (is.map iD))) (D.depth (.lst [])) ≤ 40 := by omega
    unfold D.can
    rw [D.plain, hp, decide_eq_true h2]
    rfl
  unfold gNe
  rw [if_pos hc]
  cases is with
  | nil => rfl
  | cons i is => rfl
theorem core_len {h : List De} (hl : h.length ≤ 30) : (core h).length ≤ 30 := by
  have nd : (core h).Nodup := by
    have gen : ∀ (n : Nat) (left : List Nat), left.Nodup → (coreN h n left).Nodup := by
      intro n
      induction n with
      | zero => exact fun left h => h
      | succ n ih =>
        intro left hn
        rw [coreN]
        split
        · exact hn
        · exact ih _ (hn.filter _)
    exact gen _ _ (doneL_nodup h)
  have := Sn.nodup_le nd (m := doneL h) fun i hi => core_done hi
  have := doneL_len h
  omega
end Kl

set_option Elab.async false
set_option linter.all false
set_option maxRecDepth 100000
/-! graphs 5: the law's first order -/
namespace Kl
open PySem PySem.Spec Sn
variable {k : Nat} {st : Store}
/-- may come next -/
def freeB (h : List De) (found : List Nat) (i : Nat) : Bool := !decide (i ∈ found) && (doneL h).all fun j => !(leadsB h j i && !decide (j ∈ found))
def nextO (h : List De) (found : List Nat) : Option Nat := (doneL h).find? (freeB h found)
def stepO (h : List De) (found : List Nat) : List Nat := match nextO h found with
  | some x => found ++ [x]
  | none => found
def ordN (h : List De) : Nat → List Nat → List Nat
  | 0, found => found
  | n + 1, found => ordN h n (stepO h found)
def fin1 : SL := (.cons (.if_ (.and_ (.cons (.cmp .notin (.var 5) (.var 3)) (.cons (.cmp .eq (.lc (.e (.var 2)) (.tp (.cons (.nm 6) (.cons (.nm 7) .nil))) [6, 7] (.some (.and_ (.cons (.cmp .eq (.var 7) (.var 5)) (.cons (.cmp .notin (.var 6) (.var 3)) .nil)))) (.cst (.int 1))) (.lst .nil)) .nil))) (.cons (.asg (.nm 3) (.op .add (.var 3) (.tup (.cons (.var 5) .nil)))) (.cons .bk .nil)) .nil) .nil)
theorem eq_ones (n : Nat) : gEq (.lst (List.replicate n (.int 1))) (.lst []) st = .ok (.bl (decide (n = 0)), st) := by
  have hp : D.plains (List.replicate n (D.int 1)) = true := by
    rw [D.plains_eq, List.all_eq_true]
    intro d hd
    rw [(List.mem_replicate.mp hd).2]
    rfl
  have hc : D.can (.lst (List.replicate n (.int 1))) (.lst []) = true := by
    have : D.depth (.lst []) = 1 := by simp [D.depth, D.depths]
    have h2 : min (D.depth (.lst (List.replicate n (.int 1)))) (D.depth (.lst [])) ≤ 40 := by omega
    unfold D.can
    rw [D.plain, hp, decide_eq_true h2]
    rfl
  unfold gEq
  rw [if_pos hc]
  cases n with
  | zero => rfl
  | succ n => rfl
/-- the steps, as a list -/
structure Stp (h : List De) (ps : List (Nat × Nat)) : Prop where
  few : ps.length < 63
  mem : ∀ p, p ∈ ps ↔ (p.1 ∈ doneL h ∧ p.2 ∈ doneL h ∧ leadsB h p.1 p.2 = true)
theorem add_iD {is : List Nat} {i : Nat} (l : is.length < 100) : gAdd (.tup (is.map iD)) (.tup [iD i]) st = .ok (.tup ((is ++ [i]).map iD), st) := by
  have z : is.length + 1 ≤ sizeLine := by unfold sizeLine; omega
  simp [gAdd, z]
theorem fin1_ok {h : List De} {ps : List (Nat × Nat)} (s : Stp h ps) {found : List Nat} {i : Nat} (hi : i ∈ doneL h) (hz : found.length < 100) {T : Tb} {x0 x1 x4 : Option Sl} :
    denSs T fin1 [x0, x1, some (.val (.lst (ps.map prD))), some (.val (.tup (found.map iD))), x4, some (.val (iD i)), none, none] st =
      if freeB h found i = true then .ok .bk [x0, x1, some (.val (.lst (ps.map prD))), some (.val (.tup ((found ++ [i]).map iD))), x4, some (.val (iD i)), none, none] st
      else .ok .nx [x0, x1, some (.val (.lst (ps.map prD))), some (.val (.tup (found.map iD))), x4, some (.val (iD i)), none, none] st := by
  have n1 : ∀ j st, gNotIn2 (iD j) (.tup (found.map iD)) st = .ok (.bl (!decide (j ∈ found)), st) := fun j st => notin_iDsT j found
  have l1 : lcLoop (lcBody (.tp (.cons (.nm 6) (.cons (.nm 7) .nil))) [6, 7] (cT (cAnd (c2 (cVar 7) (cVar 5) gEq) (c2 (cVar 6) (cVar 3) gNotIn2))) (cPure (.int 1)) [x0, x1, some (.val (.lst (ps.map prD))), some (.val (.tup (found.map iD))), x4, some (.val (iD i)), none, none]) (ps.map prD) st =
      .ok (List.replicate (ps.filter fun p => decide (p.2 = i) && !decide (p.1 ∈ found)).length (.int 1), st) := by
    rw [lcLoop_map (g := fun p : Nat × Nat => if (decide (p.2 = i) && !decide (p.1 ∈ found)) = true then some (.int 1) else none)]
    · rw [filterMap_if (fun p : Nat × Nat => decide (p.2 = i) && !decide (p.1 ∈ found)) (fun _ => D.int 1), List.map_const']
    · intro p hp
      have e1 : ∀ st, gEq (iD p.2) (iD i) st = .ok (.bl (decide (p.2 = i)), st) := fun st => eq_iD p.2 i
      have e3 : ∀ st, gEq (iD i) (iD i) st = .ok (.bl true, st) := fun st => by rw [eq_iD]; simp
      by_cases a : p.2 = i
      · by_cases b : p.1 ∈ found <;> simp [lcBody, wipeE, prD, e3, n1, a, b]
      · simp [lcBody, wipeE, prD, e1, a]
  have eo := eq_ones (st := st) ((ps.filter fun p => decide (p.2 = i) && !decide (p.1 ∈ found)).length)
  have al : decide ((ps.filter fun p => decide (p.2 = i) && !decide (p.1 ∈ found)).length = 0) = (doneL h).all fun j => !(leadsB h j i && !decide (j ∈ found)) := by
    rw [Bool.eq_iff_iff, decide_eq_true_eq, List.length_eq_zero_iff, List.filter_eq_nil_iff, List.all_eq_true]
    constructor
    · intro q j hj
      by_cases c : leadsB h j i = true
      · have := q (j, i) ((s.mem _).mpr ⟨hj, hi, c⟩)
        simp at this
        simp [this]
      · simp at c
        simp [c]
    · rintro q ⟨a, b⟩ hp
      obtain ⟨h1, h2, h3⟩ := (s.mem _).mp hp
      have := q a h1
      simp
      rintro rfl
      dsimp only at h3
      simp [h3] at this
      exact this
  rw [al] at eo
  unfold freeB
  by_cases a : i ∈ found
  · simp [fin1, n1, a]
  · cases c : (doneL h).all fun j => !(leadsB h j i && !decide (j ∈ found)) with
    | true =>
      rw [c] at eo
      have ad : gAdd (.tup (found.map iD)) (.tup [iD i]) st = .ok (.tup ((found ++ [i]).map iD), st) := add_iD hz
      simp [-List.map_append, fin1, n1, a, l1, eo, ad]
    | false =>
      rw [c] at eo
      simp [fin1, n1, a, l1, eo]
def fob : SL := .cons (.for_ (.e (.var 4)) (.nm 5) fin1) .nil
theorem fob_ok {h : List De} {ps : List (Nat × Nat)} (s : Stp h ps) {found : List Nat} (hz : found.length < 100) {T : Tb} {x0 x1 x5 : Option Sl} :
    ∃ y5, denSs T fob [x0, x1, some (.val (.lst (ps.map prD))), some (.val (.tup (found.map iD))), some (.val (.lst ((doneL h).map iD))), x5, none, none] st =
      .ok .nx [x0, x1, some (.val (.lst (ps.map prD))), some (.val (.tup ((stepO h found).map iD))), some (.val (.lst ((doneL h).map iD))), y5, none, none] st := by
  obtain ⟨e2, r, j⟩ := forRun_brk (enc := iD) (t := .nm 5) (g := denSs T fin1) (st := st) (xs := doneL h)
    (fun env => ∃ y, env = [x0, x1, some (.val (.lst (ps.map prD))), some (.val (.tup (found.map iD))), some (.val (.lst ((doneL h).map iD))), y, none, none]) (freeB h found)
    (fun i env => ∃ y, env = [x0, x1, some (.val (.lst (ps.map prD))), some (.val (.tup ((found ++ [i]).map iD))), some (.val (.lst ((doneL h).map iD))), y, none, none])
    (fun i hi env ⟨y, e⟩ => by
      subst e
      refine ⟨_, rfl, ?_⟩
      have f := fin1_ok (st := st) s (found := found) hi hz (T := T) (x0 := x0) (x1 := x1) (x4 := some (.val (.lst ((doneL h).map iD))))
      cases c : freeB h found i with
      | true =>
        rw [c] at f
        exact .inl ⟨rfl, _, f, _, rfl⟩
      | false =>
        rw [c] at f
        exact .inr ⟨rfl, _, f, _, rfl⟩) _ ⟨x5, rfl⟩
  unfold stepO nextO
  cases c : (doneL h).find? (freeB h found) with
  | none =>
    rw [c] at j
    obtain ⟨y, e⟩ := j
    subst e
    refine ⟨y, ?_⟩
    simp only [fob, denSs, denS1, denS, denE, sSeq, sFor, srcE, cVar]
    simp only [List.getElem?_cons_zero, List.getElem?_cons_succ, R.bind_ok, walk_lst, R.bindS]
    rw [r]
    rfl
  | some x =>
    rw [c] at j
    obtain ⟨y, e⟩ := j
    subst e
    refine ⟨y, ?_⟩
    simp only [fob, denSs, denS1, denS, denE, sSeq, sFor, srcE, cVar]
    simp only [List.getElem?_cons_zero, List.getElem?_cons_succ, R.bind_ok, walk_lst, R.bindS]
    rw [r]
    rfl
theorem stepO_len (h : List De) (found : List Nat) : (stepO h found).length ≤ found.length + 1 := by
  unfold stepO
  split
  · simp
  · omega
theorem ordN_succ (h : List De) : ∀ (n : Nat) (found : List Nat), ordN h (n + 1) found = stepO h (ordN h n found)
  | 0, _ => rfl
  | n + 1, found => by
    rw [ordN, ordN_succ h n (stepO h found)]
    rfl
theorem ordN_len (h : List De) : ∀ (n : Nat) (found : List Nat), (ordN h n found).length ≤ found.length + n
  | 0, _ => Nat.le_refl _
  | n + 1, found => by
    rw [ordN]
    have h1 := ordN_len h n (stepO h found)
    have h2 := stepO_len h found
    omega
def firstO (h : List De) : List Nat := ordN h (doneL h).length []
end Kl

set_option Elab.async false
set_option linter.all false
set_option maxRecDepth 100000
/-! graphs 5l: the law's first order -/
namespace Kl
open PySem PySem.Spec Sn
variable {k : Nat} {st : Store}
theorem law_first {h : List De} (o : okH h) (few : ∀ ps : List (Nat × Nat), ps.Nodup → (∀ p ∈ ps, p.1 ∈ doneL h ∧ p.2 ∈ doneL h ∧ leadsB h p.1 p.2 = true) → ps.length < 63) :
    C (k + 4) 47 [hD h] st = .ok (if (firstO h).length = (doneL h).length then .tup ((firstO h).map iD) else .non, st) := by
  obtain ⟨ps, l1, l2, l3⟩ := law_steps (k := k) (st := st) o few
  have s : Stp h ps := ⟨l2, l3⟩
  have ld := law_done (k := k + 2) (st := st) o.len
  have dl := doneL_len h
  have hl := o.len
  have L : ∃ env2 st2, forRun (.nm 1) (denSs ⟨C (k + 3), gl⟩ fob) ((List.range (doneL h).length).map iD) [some (.val (hD h)), none, some (.val (.lst (ps.map prD))), some (.val (.tup (([] : List Nat).map iD))), some (.val (.lst ((doneL h).map iD))), none, none, none] st = .ok .nx env2 st2 ∧
      (st2 = st ∧ ∃ x y, env2 = [some (.val (hD h)), x, some (.val (.lst (ps.map prD))), some (.val (.tup ((ordN h (List.range (doneL h).length).length []).map iD))), some (.val (.lst ((doneL h).map iD))), y, none, none]) := by
    refine forRun_inv (xs := List.range (doneL h).length) (fun pre env st2 => st2 = st ∧ ∃ x y, env = [some (.val (hD h)), x, some (.val (.lst (ps.map prD))), some (.val (.tup ((ordN h pre.length []).map iD))), some (.val (.lst ((doneL h).map iD))), y, none, none]) (fun pre i post env st2 e j => ?_) [] _ _ _ rfl ⟨rfl, none, none, rfl⟩
    obtain ⟨rfl, x, y, rfl⟩ := j
    have lpre : pre.length ≤ (List.range (doneL h).length).length := by rw [e]; simp
    rw [List.length_range] at lpre
    have ol := ordN_len h pre.length []
    simp at ol
    obtain ⟨y5, f⟩ := fob_ok (st := st2) s (found := ordN h pre.length []) (by omega) (T := ⟨C (k + 3), gl⟩) (x0 := some (.val (hD h))) (x1 := some (.val (iD i))) (x5 := y)
    refine ⟨_, _, _, rfl, f, rfl, some (.val (iD i)), y5, ?_⟩
    rw [List.length_append, List.length_singleton, ordN_succ]
  obtain ⟨env2, st2, f1, rfl, x, y, rfl⟩ := L
  rw [List.length_range] at f1
  show runBody ⟨C (k + 3), gl⟩ ⟨1, 8, b__law_first_order⟩ _ _ = _
  have er : (List.range (doneL h).length).map iD = (List.range (doneL h).length).map fun i => .int (i : Nat) := rfl
  rw [er] at f1
  have z1 : (((doneL h).length : Nat) : Int) ≤ 16777216 := by omega
  have z2 : (-4611686018427387904 : Int) ≤ (((doneL h).length : Nat) : Int) := by omega
  have el := eq_len (st := st2) (firstO h).length (doneL h).length
  simp only [fob, fin1] at f1
  simp at f1
  unfold firstO at el ⊢
  by_cases c : (ordN h (doneL h).length []).length = (doneL h).length
  · rw [decide_eq_true c] at el
    rw [if_pos c]
    simp [b__law_first_order, l1, ld, z1, z2, f1, el]
  · rw [decide_eq_false c] at el
    rw [if_neg c]
    simp [b__law_first_order, l1, ld, z1, z2, f1, el]
end Kl

set_option Elab.async false
set_option linter.all false
set_option maxRecDepth 100000
/-! graphs 6: there is a ring just if there is no order -/
namespace Kl
open PySem PySem.Spec Sn
theorem Path.pred {h : List De} : ∀ {W : List Nat} {x : Nat}, Path h W x → W ≠ [] → (∃ p ∈ W, leadsB h p x = true) ∧ ∀ y ∈ W.tail, ∃ p ∈ W, leadsB h p y = true
  | [a], x, p, _ => ⟨⟨a, List.mem_cons_self, p⟩, fun y hy => by cases hy⟩
  | a :: b :: r, x, p, _ => by
    obtain ⟨⟨q, hq, l⟩, h2⟩ := Path.pred (W := b :: r) p.2 (by simp)
    refine ⟨⟨q, List.mem_cons_of_mem _ hq, l⟩, fun y hy => ?_⟩
    rcases List.mem_cons.mp hy with rfl | hy
    · exact ⟨a, List.mem_cons_self, p.1⟩
    · obtain ⟨q2, hq2, l2⟩ := h2 y hy
      exact ⟨q2, List.mem_cons_of_mem _ hq2, l2⟩
/-- in a ring each one has one ahead of it -/
theorem Ring.pred {h : List De} {R : List Nat} (r : Ring h R) {y : Nat} (hy : y ∈ R) : ∃ p ∈ R, leadsB h p y = true := by
  obtain ⟨x, rs, e, p⟩ := r.path
  obtain ⟨h1, h2⟩ := p.pred (by rw [e]; simp)
  rw [e] at hy
  rcases List.mem_cons.mp hy with rfl | hy
  · exact h1
  · exact h2 y (by rw [e]; exact hy)
theorem stepO_mem {h : List De} {found : List Nat} : ∀ i ∈ stepO h found, i ∈ found ∨ (i ∈ doneL h ∧ freeB h found i = true) := by
  intro i hi
  unfold stepO nextO at hi
  split at hi
  · rename_i x e
    rcases List.mem_append.mp hi with hi | hi
    · exact .inl hi
    · rw [List.mem_singleton] at hi
      subst hi
      exact .inr ⟨List.mem_of_find?_eq_some e, List.find?_some e⟩
  · exact .inl hi
theorem ord_avoids {h : List De} {R : List Nat} (r : Ring h R) : ∀ (n : Nat) (found : List Nat), (∀ i ∈ found, i ∉ R) → ∀ i ∈ ordN h n found, i ∉ R
  | 0, found, hf => hf
  | n + 1, found, hf => by
    rw [ordN]
    refine ord_avoids r n _ fun i hi => ?_
    rcases stepO_mem i hi with hi | ⟨h1, h2⟩
    · exact hf i hi
    · intro hR
      obtain ⟨p, hp, l⟩ := r.pred hR
      unfold freeB at h2
      rw [Bool.and_eq_true, List.all_eq_true] at h2
      have := h2.2 p (r.sub p hp)
      have hn : p ∉ found := fun z => hf p z hp
      simp [l, hn] at this
structure OrdOk (h : List De) (found : List Nat) : Prop where
  nd : found.Nodup
  sub : ∀ i ∈ found, i ∈ doneL h
theorem OrdOk.step {h : List De} {found : List Nat} (o : OrdOk h found) : OrdOk h (stepO h found) := by
  refine ⟨?_, fun i hi => ?_⟩
  · unfold stepO nextO
    split
    · rename_i x e
      have f := List.find?_some e
      unfold freeB at f
      rw [Bool.and_eq_true] at f
      have hn : x ∉ found := by simpa using f.1
      rw [List.nodup_append]
      refine ⟨o.nd, by simp, fun a ha b hb => ?_⟩
      rw [List.mem_singleton] at hb
      subst hb
      rintro rfl
      exact hn ha
    · exact o.nd
  · rcases stepO_mem i hi with hi | ⟨h1, _⟩
    · exact o.sub i hi
    · exact h1
theorem OrdOk.ord {h : List De} : ∀ (n : Nat) {found : List Nat}, OrdOk h found → OrdOk h (ordN h n found)
  | 0, _, o => o
  | n + 1, _, o => OrdOk.ord n o.step
theorem first_ok (h : List De) : OrdOk h (firstO h) := OrdOk.ord _ ⟨List.nodup_nil, fun i hi => by cases hi⟩
/-- with a ring there is no order -/
theorem ring_no_order {h : List De} {R : List Nat} (r : Ring h R) : (firstO h).length ≠ (doneL h).length := by
  intro e
  obtain ⟨x, rs, eR, _⟩ := r.path
  have hx : x ∈ R := by rw [eR]; exact List.mem_cons_self
  have av : x ∉ firstO h := fun z => ord_avoids r _ [] (fun i hi => by cases hi) x z hx
  have nd : (x :: firstO h).Nodup := List.nodup_cons.mpr ⟨av, (first_ok h).nd⟩
  have := Sn.nodup_le nd (m := doneL h) fun y hy => by
    rcases List.mem_cons.mp hy with rfl | hy
    · exact r.sub _ hx
    · exact (first_ok h).sub y hy
  simp at this
  omega
/-- where each of some has one of them ahead of it, some are left -/
theorem core_ne {h : List De} {T : Nat → Prop} (sub : ∀ i, T i → i ∈ doneL h) (pre : ∀ i, T i → ∃ j, T j ∧ leadsB h j i = true) (ne : ∃ i, T i) : core h ≠ [] := by
  have gen : ∀ (n : Nat) (left : List Nat), (∀ s ∈ doneL h, ∀ t ∈ left, leadsB h s t = true → s ∈ left) → (∃ i, T i ∧ i ∈ left) → (∀ i ∈ left, i ∈ doneL h) → ∃ i, i ∈ coreN h n left := by
    intro n
    induction n with
    | zero =>
      rintro left _ ⟨i, _, hi⟩ _
      exact ⟨i, hi⟩
    | succ n ih =>
      rintro left cl ⟨i, ti, hi⟩ sd
      rw [coreN]
      split
      · exact ⟨i, hi⟩
      · have stay : ∀ s ∈ doneL h, ∀ t ∈ left, leadsB h s t = true → s ∈ stayL h left := fun s hs t ht l => by
          refine List.mem_filter.mpr ⟨cl s hs t ht l, ?_⟩
          rw [List.any_eq_true]
          exact ⟨t, List.mem_filter.mpr ⟨sd t ht, l⟩, by simpa using ht⟩
        refine ih _ (fun s hs t ht l => stay s hs t (stay_sub ht) l) ?_ fun i hi => sd i (stay_sub hi)
        obtain ⟨j, tj, l⟩ := pre i ti
        exact ⟨j, tj, stay j (sub j tj) i hi l⟩
  obtain ⟨i, ti⟩ := ne
  obtain ⟨j, hj⟩ := gen (doneL h).length (doneL h) (fun s hs _ _ _ => hs) ⟨i, ti, sub i ti⟩ fun i hi => hi
  intro e
  unfold core at e
  rw [e] at hj
  cases hj
theorem ord_goes {h : List De} (ce : core h = []) {found : List Nat} (o : OrdOk h found) (lt : found.length < (doneL h).length) : (stepO h found).length = found.length + 1 := by
  unfold stepO
  cases e : nextO h found with
  | some x => simp
  | none =>
    exfalso
    have nf : ∀ i ∈ doneL h, i ∉ found → ∃ j, (j ∈ doneL h ∧ j ∉ found) ∧ leadsB h j i = true := fun i hi hn => by
      unfold nextO at e
      have f := List.find?_eq_none.mp e i hi
      unfold freeB at f
      simp only [hn, decide_false, Bool.not_false, Bool.true_and, Bool.not_eq_true, List.all_eq_false] at f
      obtain ⟨j, hj, q⟩ := f
      simp at q
      exact ⟨j, ⟨hj, q.2⟩, q.1⟩
    have : ∃ i ∈ doneL h, i ∉ found := by
      refine Classical.byContradiction fun z => ?_
      have := Sn.nodup_le (doneL_nodup h) (m := found) fun i hi => Classical.byContradiction fun hn => z ⟨i, hi, hn⟩
      omega
    obtain ⟨i, hi, hn⟩ := this
    exact core_ne (T := fun i => i ∈ doneL h ∧ i ∉ found) (fun i hi => hi.1) (fun i hi => nf i hi.1 hi.2) ⟨i, hi, hn⟩ ce
theorem no_core_order {h : List De} (ce : core h = []) : (firstO h).length = (doneL h).length := by
  have gen : ∀ (n : Nat) (found : List Nat), OrdOk h found → found.length + n = (doneL h).length → (ordN h n found).length = (doneL h).length := by
    intro n
    induction n with
    | zero => exact fun found _ e => e
    | succ n ih =>
      intro found o e
      rw [ordN]
      have g := ord_goes ce o (by omega)
      exact ih _ o.step (by omega)
  exact gen _ [] ⟨List.nodup_nil, fun i hi => by cases hi⟩ (by simp)
end Kl

set_option Elab.async false
set_option linter.all false
set_option maxRecDepth 100000
/-! graphs 7: values that may be rings -/
namespace Sn
open PySem PySem.Spec
def okV : D → Bool
  | .non | .bl _ | .int _ | .str _ | .lst _ | .tup _ => true
  | _ => false
def isIntV : D → Bool
  | .int _ | .bl _ => true
  | _ => false
def isBlV : D → Bool
  | .bl _ => true
  | _ => false
def isTupV : D → Bool
  | .tup _ => true
  | _ => false
theorem isi_int {d : D} {st : Store} (h : okV d = true) : gIsi "int" d st = .ok (.bl (isIntV d), st) := by
  have k1 : L2.kitB "NoneType" "int" = some false := by decide +kernel
  have k2 : L2.kitB "bool" "int" = some true := by decide +kernel
  have k3 : L2.kitB "int" "int" = some true := by decide +kernel
  have k4 : L2.kitB "str" "int" = some false := by decide +kernel
  have k5 : L2.kitB "list" "int" = some false := by decide +kernel
  have k6 : L2.kitB "tuple" "int" = some false := by decide +kernel
  cases d <;> simp [okV] at h <;> simp [gIsi, tyName, isIntV, k1, k2, k3, k4, k5, k6]
theorem isi_bool {d : D} {st : Store} (h : okV d = true) : gIsi "bool" d st = .ok (.bl (isBlV d), st) := by
  have k1 : L2.kitB "NoneType" "bool" = some false := by decide +kernel
  have k2 : L2.kitB "bool" "bool" = some true := by decide +kernel
  have k3 : L2.kitB "int" "bool" = some false := by decide +kernel
  have k4 : L2.kitB "str" "bool" = some false := by decide +kernel
  have k5 : L2.kitB "list" "bool" = some false := by decide +kernel
  have k6 : L2.kitB "tuple" "bool" = some false := by decide +kernel
  cases d <;> simp [okV] at h <;> simp [gIsi, tyName, isBlV, k1, k2, k3, k4, k5, k6]
theorem isi_tuple {d : D} {st : Store} (h : okV d = true) : gIsi "tuple" d st = .ok (.bl (isTupV d), st) := by
  have k1 : L2.kitB "NoneType" "tuple" = some false := by decide +kernel
  have k2 : L2.kitB "bool" "tuple" = some false := by decide +kernel
  have k3 : L2.kitB "int" "tuple" = some false := by decide +kernel
  have k4 : L2.kitB "str" "tuple" = some false := by decide +kernel
  have k5 : L2.kitB "list" "tuple" = some false := by decide +kernel
  have k6 : L2.kitB "tuple" "tuple" = some true := by decide +kernel
  cases d <;> simp [okV] at h <;> simp [gIsi, tyName, isTupV, k1, k2, k3, k4, k5, k6]
end Sn
namespace Kl
open PySem PySem.Spec Sn
variable {k : Nat} {st : Store}
def wholeB (d : D) (lo hi : Int) : Bool := match d with
  | .int i => decide (lo ≤ i) && decide (i ≤ hi)
  | _ => false
theorem is_whole_any {d : D} {lo hi : Int} (h : okV d = true) : C (k + 1) 0 [d, .int lo, .int hi] st = .ok (.bl (wholeB d lo hi), st) := by
  cases d with
  | int i => exact is_whole_int i lo hi
  | bl b =>
    show runBody ⟨C k, gl⟩ ⟨3, 3, b_is_whole⟩ _ _ = _
    have h1 := isi_int (d := .bl b) (st := st) rfl
    have h2 := isi_bool (d := .bl b) (st := st) rfl
    simp [b_is_whole, h1, h2, isIntV, isBlV, wholeB]
  | non =>
    show runBody ⟨C k, gl⟩ ⟨3, 3, b_is_whole⟩ _ _ = _
    have h1 := isi_int (d := .non) (st := st) rfl
    simp [b_is_whole, h1, isIntV, wholeB]
  | str x =>
    show runBody ⟨C k, gl⟩ ⟨3, 3, b_is_whole⟩ _ _ = _
    have h1 := isi_int (d := .str x) (st := st) rfl
    simp [b_is_whole, h1, isIntV, wholeB]
  | lst xs =>
    show runBody ⟨C k, gl⟩ ⟨3, 3, b_is_whole⟩ _ _ = _
    have h1 := isi_int (d := .lst xs) (st := st) rfl
    simp [b_is_whole, h1, isIntV, wholeB]
  | tup xs =>
    show runBody ⟨C k, gl⟩ ⟨3, 3, b_is_whole⟩ _ _ = _
    have h1 := isi_int (d := .tup xs) (st := st) rfl
    simp [b_is_whole, h1, isIntV, wholeB]
  | _ => cases h
/-- one of some -/
def inD (done : List Nat) (d : D) : Bool := match d with
  | .int i => done.any fun j => decide ((j : Int) = i)
  | _ => false
theorem in_int (i : Int) (is : List Nat) : gIn2 (.int i) (.lst (is.map iD)) st = .ok (.bl (is.any fun j => decide ((j : Int) = i)), st) := by
  show gIn (.int i) (.lst (is.map iD)) st = _
  have hp : D.plains (is.map iD) = true := by
    rw [D.plains_eq, List.all_eq_true]
    intro d hd
    obtain ⟨j, _, rfl⟩ := List.mem_map.mp hd
    rfl
  have hc : D.can (.int i) (.lst (is.map iD)) = true := by
    have e1 : (D.int i).depth = 0 := rfl
    have h2 : min (D.int i).depth (D.depth (.lst (is.map iD))) ≤ 40 := by omega
    unfold D.can
    rw [D.plain, D.plain, hp, decide_eq_true h2]
    rfl
  have ha : ((is.map iD).any fun z => D.eqv z (.int i)) = is.any fun j => decide ((j : Int) = i) := by
    rw [List.any_map]
    congr 1
  unfold gIn
  rw [items_lst]
  dsimp only
  rw [if_pos hc, ha]
/-- how many different ones there are -/
def uniqB (is : List Nat) : Bool := decide ((distinctD (is.map iD)).length = is.length)
theorem lens_iDs {is : List Nat} (hz : is.length < 63) : gLens (.tup (is.map iD)) st = .ok (.int (distinctD (is.map iD)).length, st) := by
  unfold gLens
  dsimp only
  rw [if_pos]
  refine ⟨.inr ?_, by rw [List.length_map]; exact hz⟩
  rw [List.all_eq_true]
  intro d hd
  obtain ⟨j, _, rfl⟩ := List.mem_map.mp hd
  rfl
theorem distinct_iD (is : List Nat) : ∃ js : List Nat, distinctD (is.map iD) = js.map iD ∧ js.Nodup ∧ ∀ j, j ∈ js ↔ j ∈ is := by
  have eqs : ∀ x ∈ is.map iD, ∀ y ∈ [] ++ is.map iD, D.eqv y x = decide (intOf y = intOf x) := fun x hx y hy => by
    obtain ⟨i, _, rfl⟩ := List.mem_map.mp hx
    obtain ⟨j, _, rfl⟩ := List.mem_map.mp (by simpa using hy : y ∈ is.map iD)
    rw [eqv_iD]
    exact decide_eq_decide.mpr (by show j = i ↔ (j : Int) = (i : Int); omega)
  obtain ⟨d1, d2⟩ := Sn.distinct_keys intOf (is.map iD) [] eqs List.nodup_nil
  have sub := Sn.distinct_sub (is.map iD)
  have pre : ∀ L : List D, (∀ d ∈ L, d ∈ is.map iD) → ∃ js : List Nat, L = js.map iD ∧ ∀ j ∈ js, j ∈ is := by
    intro L
    induction L with
    | nil => exact fun _ => ⟨[], rfl, fun j h => by cases h⟩
    | cons d L ih =>
      intro h
      obtain ⟨i, hi, rfl⟩ := List.mem_map.mp (h d List.mem_cons_self)
      obtain ⟨js, e, q⟩ := ih fun x hx => h x (List.mem_cons_of_mem _ hx)
      refine ⟨i :: js, by rw [List.map_cons, e], fun j hj => ?_⟩
      rcases List.mem_cons.mp hj with rfl | hj
      · exact hi
      · exact q j hj
  obtain ⟨js, e, q⟩ := pre _ sub
  have e2 : (is.map iD).foldl (fun acc x => if (acc.any fun y => D.eqv y x) = true then acc else acc ++ [x]) [] = js.map iD := e
  rw [e2] at d1 d2
  refine ⟨js, e, L2.nodup_of_map (L2.nodup_of_map d1), fun j => ⟨q j, fun hj => ?_⟩⟩
  have := (d2 (intOf (iD j))).mpr (List.mem_map.mpr ⟨iD j, List.mem_map.mpr ⟨j, hj, rfl⟩, rfl⟩)
  obtain ⟨d, hd, hk⟩ := List.mem_map.mp this
  obtain ⟨i, hi, rfl⟩ := List.mem_map.mp hd
  have : i = j := by simp [iD, intOf] at hk; omega
  exact this ▸ hi
theorem uniq_nodup {is : List Nat} (h : is.Nodup) : uniqB is = true := by
  obtain ⟨js, e, n, m⟩ := distinct_iD is
  unfold uniqB
  rw [e, List.length_map, decide_eq_true_eq]
  exact Nat.le_antisymm (Sn.nodup_le n fun j hj => (m j).mp hj) (Sn.nodup_le h fun j hj => (m j).mpr hj)
theorem uniq_len {is : List Nat} {S : List Nat} (u : uniqB is = true) (sub : ∀ i ∈ is, i ∈ S) : is.length ≤ S.length := by
  obtain ⟨js, e, n, m⟩ := distinct_iD is
  unfold uniqB at u
  rw [e, List.length_map, decide_eq_true_eq] at u
  rw [← u]
  exact Sn.nodup_le n fun j hj => sub j ((m j).mp hj)
theorem all_inD {done : List Nat} : ∀ {xs : List D}, xs.all (inD done) = true → ∃ is : List Nat, xs = is.map iD ∧ ∀ i ∈ is, i ∈ done
  | [], _ => ⟨[], rfl, fun i h => by cases h⟩
  | d :: xs, h => by
    rw [List.all_cons, Bool.and_eq_true] at h
    obtain ⟨is, e, q⟩ := all_inD h.2
    have h1 := h.1
    cases d with
    | int i =>
      simp only [inD, List.any_eq_true, decide_eq_true_eq] at h1
      obtain ⟨j, hj, rfl⟩ := h1
      refine ⟨j :: is, by rw [List.map_cons, e]; rfl, fun x hx => ?_⟩
      rcases List.mem_cons.mp hx with rfl | hx
      · exact hj
      · exact q x hx
    | _ => cases h1
theorem inD_iD {done : List Nat} {i : Nat} : inD done (iD i) = decide (i ∈ done) := by
  show (done.any fun j => decide ((j : Int) = (i : Int))) = _
  rw [Bool.eq_iff_iff, List.any_eq_true, decide_eq_true_eq]
  constructor
  · rintro ⟨j, hj, e⟩
    have e2 : (j : Int) = (i : Int) := by simpa using e
    have : j = i := by omega
    exact this ▸ hj
  · exact fun h => ⟨i, h, by simp⟩
theorem fits_unlike {done : List Nat} (dl : ∀ i ∈ done, i < 30) {v : D} (hv : okV v = true) (hi : ∀ xs, v = .tup xs → (∀ d ∈ xs, okV d = true) ∧ xs.length < 63) :
    C (k + 2) 41 [.lst (done.map iD), v] st = .ok (.bl (match v with | .tup xs => xs.all (inD done) && decide ((distinctD xs).length = xs.length) | _ => false), st) := by
  show runBody ⟨C (k + 1), gl⟩ ⟨2, 3, b_fits_unlike⟩ _ _ = _
  have it := isi_tuple (st := st) hv
  cases v with
  | tup xs =>
    obtain ⟨h1, h2⟩ := hi xs rfl
    have l1 : lcLoop (lcBody (.nm 2) [2] cYes (cAnd (cCal (C (k + 1) 0) (lCons (cVar 2) (lCons (cPure (.int 0)) (lCons (c2 (cPure (.int 10)) (cPure (.int 9)) gPow) lNil)))) (c2 (cVar 2) (cVar 0) gIn2)) [some (.val (.lst (done.map iD))), some (.val (.tup xs)), none]) xs st = .ok (xs.map (fun d => D.bl (inD done d)), st) := by
      have := lcLoop_all (enc := id) (g := fun d => D.bl (inD done d)) (f := lcBody (.nm 2) [2] cYes (cAnd (cCal (C (k + 1) 0) (lCons (cVar 2) (lCons (cPure (.int 0)) (lCons (c2 (cPure (.int 10)) (cPure (.int 9)) gPow) lNil)))) (c2 (cVar 2) (cVar 0) gIn2)) [some (.val (.lst (done.map iD))), some (.val (.tup xs)), none]) (st := st) (xs := xs) fun d hd => by
        have w := is_whole_any (k := k) (st := st) (d := d) (lo := 0) (hi := 1000000000) (h1 d hd)
        have p10 : ∀ st, gPow (.int 10) (.int 9) st = .ok (.int 1000000000, st) := fun st => by simp [gPow]
        cases d with
        | int i =>
          have ii := in_int (st := st) i done
          by_cases c : 0 ≤ i ∧ i ≤ 1000000000
          · have wb : wholeB (.int i) 0 1000000000 = true := by simp [wholeB, c.1, c.2]
            simp [lcBody, wipeE, cYes, p10, c.1, c.2, ii, inD]
          · have wb : wholeB (.int i) 0 1000000000 = false := by
              simp only [wholeB, Bool.and_eq_false_iff, decide_eq_false_iff_not]
              omega
            have ni : (done.any fun j => decide ((j : Int) = i)) = false := by
              rw [List.any_eq_false]
              intro j hj
              have := dl j hj
              simp
              omega
            rw [wb] at w
            simp [-is_whole_int, lcBody, wipeE, cYes, p10, w, inD, ni]
        | non => simp [lcBody, wipeE, cYes, p10, w, inD, wholeB]
        | bl b => simp [lcBody, wipeE, cYes, p10, w, inD, wholeB]
        | str x => simp [lcBody, wipeE, cYes, p10, w, inD, wholeB]
        | lst ys => simp [lcBody, wipeE, cYes, p10, w, inD, wholeB]
        | tup ys => simp [lcBody, wipeE, cYes, p10, w, inD, wholeB]
        | dct _ => cases h1 _ hd
        | scr _ => cases h1 _ hd
        | ref _ => cases h1 _ hd
        | fn _ => cases h1 _ hd
      simpa using this
    have ga : gAll (.lst (xs.map (fun d => D.bl (inD done d)))) st = .ok (.bl (xs.all (inD done)), st) := by
      simp [gAll]
    cases c : xs.all (inD done) with
    | false =>
      rw [c] at ga
      show _ = Sn.R.ok (D.bl (xs.all (inD done) && decide ((distinctD xs).length = xs.length)), st)
      rw [c, Bool.false_and]
      simp [b_fits_unlike, it, isTupV, l1, ga]
    | true =>
      rw [c] at ga
      obtain ⟨is, rfl, sub⟩ := all_inD c
      show _ = Sn.R.ok (D.bl ((is.map iD).all (inD done) && decide ((distinctD (is.map iD)).length = (is.map iD).length)), st)
      rw [c, Bool.true_and, List.length_map]
      rw [List.length_map] at h2
      have ls := lens_iDs (st := st) h2
      have el : gEq (.int ((distinctD (is.map iD)).length : Nat)) (.int (is.length : Nat)) st = .ok (.bl (decide ((distinctD (is.map iD)).length = is.length)), st) := eq_len _ _
      simp only [List.map_map] at l1 ga
      simp [b_fits_unlike, it, isTupV, l1, ga, ls, el]
  | non => simp [b_fits_unlike, it, isTupV]
  | bl b => simp [b_fits_unlike, it, isTupV]
  | int i => simp [b_fits_unlike, it, isTupV]
  | str x => simp [b_fits_unlike, it, isTupV]
  | lst ys => simp [b_fits_unlike, it, isTupV]
  | dct _ => cases hv
  | scr _ => cases hv
  | ref _ => cases hv
  | fn _ => cases hv
end Kl

set_option Elab.async false
set_option linter.all false
set_option maxRecDepth 100000
/-! graphs 8: is_ring, by the program and by the law -/
namespace Kl
open PySem PySem.Spec Sn
variable {k : Nat} {st : Store}
def cycB (h : List De) (is : List Nat) : Bool := (is.zip (is.drop 1 ++ is.take 1)).all fun p => leadsB h p.1 p.2
def natOf : D → Nat
  | .int i => i.toNat
  | _ => 0
theorem natOf_iD (is : List Nat) : (is.map iD).map natOf = is := by
  rw [List.map_map]
  conv => rhs; rw [← List.map_id is]
  exact List.map_congr_left fun i _ => by simp [iD, natOf]
def ringV (h : List De) (v : D) : Bool := match v with
  | .tup xs => xs.all (inD (doneL h)) && decide ((distinctD xs).length = xs.length) && decide (2 ≤ xs.length) && cycB h (xs.map natOf)
  | _ => false
theorem zip_iDs : ∀ (a b : List Nat), zipD (a.map iD) (b.map iD) = (a.zip b).map prD
  | [], _ => rfl
  | _ :: _, [] => rfl
  | x :: a, y :: b => by
    rw [List.map_cons, List.map_cons, zipD, zip_iDs a b]
    rfl
theorem mem_rot {is : List Nat} {i : Nat} (h : i ∈ is.drop 1 ++ is.take 1) : i ∈ is := by
  rcases List.mem_append.mp h with h | h
  · exact List.mem_of_mem_drop h
  · exact List.mem_of_mem_take h
theorem need_hist {h : List De} (o : okH h) : C (k + 7) 14 [hD h] st = .ok (.non, st) := by
  have fh := fits_history (k := k) (st := st) o
  show runBody ⟨C (k + 6), gl⟩ ⟨1, 1, b_need_history⟩ _ _ = _
  simp [b_need_history, fh]
/-! the law's -/
theorem atI_prev {α : Type} {xs : List α} {i : Nat} (hi : i < xs.length) : L2.atI xs ((i : Int) - 1) = xs[if i = 0 then xs.length - 1 else i - 1]? := by
  by_cases c : i = 0
  · subst c
    have e : L2.atI xs (((0 : Nat) : Int) - 1) = L2.atI xs ((xs.length - 1 : Nat) : Int) := by
      unfold L2.atI L2.ixN
      rw [if_neg (by omega), if_pos (by omega), if_pos (by omega), if_pos (by omega)]
      congr 1
      congr 1
      omega
    rw [e, atI_nat, if_pos rfl]
  · have e : ((i : Int) - 1) = ((i - 1 : Nat) : Int) := by omega
    rw [e, atI_nat, if_neg c]
def pv (n i : Nat) : Nat := if i = 0 then n - 1 else i - 1
theorem cyc_iff {h : List De} {is : List Nat} (two : 2 ≤ is.length) : cycB h is = (List.range is.length).all fun a => leadsB h (is.getD (pv is.length a) 0) (is.getD a 0) := by
  have ln : (is.zip (is.drop 1 ++ is.take 1)).length = is.length := by
    rw [List.length_zip, List.length_append, List.length_drop, List.length_take]
    omega
  have at_z : ∀ j (hj : j < is.length), (is.zip (is.drop 1 ++ is.take 1))[j]'(by omega) = (is.getD j 0, is.getD (if j + 1 = is.length then 0 else j + 1) 0) := fun j hj => by
    rw [List.getElem_zip]
    refine Prod.ext (by simp [hj]) ?_
    show (is.drop 1 ++ is.take 1)[j]'_ = _
    by_cases c : j + 1 = is.length
    · rw [if_pos c, List.getElem_append_right (by rw [List.length_drop]; omega)]
      simp [List.getElem_take]
      have : j - (is.length - 1) = 0 := by omega
      simp [this]
      rw [List.getElem?_eq_getElem (by omega)]
      rfl
    · rw [if_neg c, List.getElem_append_left (by rw [List.length_drop]; omega)]
      have hj1 : j + 1 < is.length := by omega
      simp [hj1]
  rw [Bool.eq_iff_iff]
  unfold cycB
  rw [List.all_eq_true, List.all_eq_true]
  constructor
  · intro q a ha
    rw [List.mem_range] at ha
    have hp : pv is.length a < is.length := by unfold pv; split <;> omega
    have m := q _ (List.getElem_mem (l := is.zip (is.drop 1 ++ is.take 1)) (n := pv is.length a) (by omega))
    rw [at_z _ hp] at m
    have e : (if pv is.length a + 1 = is.length then 0 else pv is.length a + 1) = a := by unfold pv; split <;> split <;> omega
    rw [e] at m
    exact m
  · intro q p hp
    obtain ⟨j, hj, rfl⟩ := List.mem_iff_getElem.mp hp
    rw [ln] at hj
    rw [at_z j hj]
    have m := q (if j + 1 = is.length then 0 else j + 1) (by rw [List.mem_range]; split <;> omega)
    have e : pv is.length (if j + 1 = is.length then 0 else j + 1) = j := by unfold pv; split <;> split <;> omega
    rw [e] at m
    exact m
end Kl

set_option Elab.async false
set_option linter.all false
set_option maxRecDepth 100000
/-! orders 1: the program's first order -/
namespace Kl
open PySem PySem.Spec Sn
variable {k : Nat} {st : Store}
def leftL (h : List De) (found : List Nat) : List Nat := (doneL h).filter fun i => !decide (i ∈ found)
def freeL (h : List De) (found : List Nat) : List Nat := (leftL h found).filter fun i => !((leftL h found).any fun j => decide (i ∈ succL h j))
theorem mem_left {h : List De} {found : List Nat} {i : Nat} : i ∈ leftL h found ↔ i ∈ doneL h ∧ i ∉ found := by
  unfold leftL
  rw [List.mem_filter]
  simp
theorem free_eq (h : List De) (found : List Nat) : freeL h found = (doneL h).filter (freeB h found) := by
  unfold freeL
  conv => lhs; rw [show leftL h found = (doneL h).filter (fun i => !decide (i ∈ found)) from rfl]
  rw [List.filter_filter]
  refine List.filter_congr fun i hi => ?_
  unfold freeB
  rw [Bool.and_comm]
  congr 1
  rw [Bool.eq_iff_iff, List.all_eq_true, Bool.not_eq_true', List.any_eq_false]
  constructor
  · intro q j hj
    by_cases c : j ∈ found
    · simp [c]
    · have := q j (List.mem_filter.mpr ⟨hj, by simp [c]⟩)
      simp [succL, hi] at this
      simp [this]
  · intro q j hj
    have hj' := List.mem_filter.mp hj
    have a := q j hj'.1
    have b := hj'.2
    simp at b
    simp [b] at a
    simp [succL, a]
theorem next_eq (h : List De) (found : List Nat) : nextO h found = (freeL h found).head? := by
  rw [free_eq, List.head?_filter]
  rfl
theorem left_put {h : List De} {found : List Nat} {x : Nat} : (leftL h found).filter (fun i => !decide (i = x)) = leftL h (found ++ [x]) := by
  unfold leftL
  rw [List.filter_filter]
  refine List.filter_congr fun i hi => ?_
  rw [Bool.eq_iff_iff]
  simp
  exact And.comm
def ordB : SL := (.cons (.own 4 (.lc (.e (.var 2)) (.nm 5) [5] (.some (.nt (.b1 .any (.lc (.e (.var 2)) (.nm 6) [6] .none (.cmp .isin (.var 5) (.ix (.var 1) (.var 6))))))) (.var 5))) (.cons (.give 4) (.cons (.if_ (.cmp .eq (.var 4) (.lst .nil)) (.cons (.ret (.cst .non)) .nil) .nil) (.cons (.app 3 (.ix (.var 4) (.cst (.int 0)))) (.cons (.own 2 (.lc (.e (.var 2)) (.nm 5) [5] (.some (.cmp .ne (.var 5) (.ix (.var 4) (.cst (.int 0))))) (.var 5))) (.cons (.give 2) .nil))))))
theorem eq_nil_iDs' (is : List Nat) : gEq (.lst (is.map iD)) (.lst []) st = .ok (.bl (decide (is = [])), st) := by
  have e := ne_nil_iDs (st := st) is
  have hp : D.plains (is.map iD) = true := by
    rw [D.plains_eq, List.all_eq_true]
    intro d hd
    obtain ⟨i, _, rfl⟩ := List.mem_map.mp hd
    rfl
  have hc : D.can (.lst (is.map iD)) (.lst []) = true := by
    have : D.depth (.lst []) = 1 := by simp [D.depth, D.depths]
    have h2 : min (D.depth (.lst (is.map iD))) (D.depth (.lst [])) ≤ 40 := by omega
    unfold D.can
    rw [D.plain, hp, decide_eq_true h2]
    rfl
  unfold gEq
  rw [if_pos hc]
  cases is with
  | nil => rfl
  | cons i is => rfl
theorem ordB_ok {h : List De} {found : List Nat} (hz : found.length < 100) {T : Tb} {x4 : Option Sl} :
    denSs T ordB [some (.val (hD h)), some (.val (stepsD h)), some (.val (.lst ((leftL h found).map iD))), some (.own (.lst (found.map iD))), x4, none, none] st =
      match nextO h found with
      | none => .ok (.rt .non) [some (.val (hD h)), some (.val (stepsD h)), some (.val (.lst ((leftL h found).map iD))), some (.own (.lst (found.map iD))), some (.val (.lst ((freeL h found).map iD))), none, none] st
      | some x => .ok .nx [some (.val (hD h)), some (.val (stepsD h)), some (.val (.lst ((leftL h (found ++ [x])).map iD))), some (.own (.lst ((found ++ [x]).map iD))), some (.val (.lst ((freeL h found).map iD))), none, none] st := by
  have l1 : ∀ x4, lcLoop (lcBody (.nm 5) [5] (cT (cNot (c1 (cLc (srcE (cVar 2)) (.nm 6) [6] cYes (c2 (cVar 5) (c2 (cVar 1) (cVar 6) gIx2) gIn2)) gAny))) (cVar 5) [some (.val (hD h)), some (.val (stepsD h)), some (.val (.lst ((leftL h found).map iD))), some (.own (.lst (found.map iD))), x4, none, none]) ((leftL h found).map iD) st = .ok ((freeL h found).map iD, st) := fun x4 => by
    rw [lcLoop_map (g := fun i => if (!((leftL h found).any fun j => decide (i ∈ succL h j))) = true then some (iD i) else none)]
    · rw [filterMap_if]; rfl
    · intro i hi
      have l2 : lcLoop (lcBody (.nm 6) [6] cYes (c2 (cVar 5) (c2 (cVar 1) (cVar 6) gIx2) gIn2) [some (.val (hD h)), some (.val (stepsD h)), some (.val (.lst ((leftL h found).map iD))), some (.own (.lst (found.map iD))), x4, some (.val (iD i)), none]) ((leftL h found).map iD) st = .ok ((leftL h found).map (fun j => D.bl (decide (i ∈ succL h j))), st) :=
        lcLoop_all fun j hj => by
          have ix := ix_steps (mem_left.mp hj).1
          simp [lcBody, wipeE, cYes, ix, in_iDs]
      have ga : gAny (.lst ((leftL h found).map (fun j => D.bl (decide (i ∈ succL h j))))) st = .ok (.bl ((leftL h found).any fun j => decide (i ∈ succL h j)), st) := by
        simp [gAny]
      cases c : (leftL h found).any fun j => decide (i ∈ succL h j) <;> rw [c] at ga <;> simp [lcBody, wipeE, l2, ga]
  have en := eq_nil_iDs' (st := st) (freeL h found)
  rw [next_eq]
  have z : found.length < sizeLine := by unfold sizeLine; omega
  cases e : freeL h found with
  | nil =>
    rw [e, decide_eq_true rfl] at en
    have en' : gEq (.lst []) (.lst []) st = .ok (.bl true, st) := en
    rw [e] at l1
    simp [ordB, l1, en']
  | cons x r =>
    rw [e, decide_eq_false (by simp)] at en
    rw [e] at l1
    have i0 : ∀ st, gIx2 (.lst ((x :: r).map iD)) (.int 0) st = .ok (iD x, st) := fun st => by simp [gIx]
    have l3 : ∀ F, lcLoop (lcBody (.nm 5) [5] (cT (c2 (cVar 5) (c2 (cVar 4) (cPure (.int 0)) gIx2) gNe)) (cVar 5) [some (.val (hD h)), some (.val (stepsD h)), some (.val (.lst ((leftL h found).map iD))), some (.own F), some (.val (.lst ((x :: r).map iD))), none, none]) ((leftL h found).map iD) st = .ok ((leftL h (found ++ [x])).map iD, st) := fun F => by
      rw [lcLoop_map (g := fun i => if (!decide (i = x)) = true then some (iD i) else none)]
      · rw [filterMap_if, left_put]
      · intro i hi
        have ne : ∀ st, gNe (iD i) (iD x) st = .ok (.bl (!decide (i = x)), st) := fun st => ne_iD i x
        have ne2 : ∀ st, gNe (iD x) (iD x) st = .ok (.bl false, st) := fun st => by rw [ne_iD]; simp
        by_cases c : i = x
        · subst c
          simp [-List.map_cons, lcBody, wipeE, i0, ne2]
        · rw [decide_eq_false c] at ne
          simp [-List.map_cons, lcBody, wipeE, i0, ne, c]
    simp [-List.map_cons, -List.map_append, ordB, l1, en, i0, z]
    rw [← List.map_singleton (f := iD), ← List.map_append, l3]
    simp
theorem left_nil {h : List De} {found : List Nat} (o : OrdOk h found) : (leftL h found = []) ↔ found.length = (doneL h).length := by
  constructor
  · intro e
    have h1 : (doneL h).length ≤ found.length := Sn.nodup_le (doneL_nodup h) fun i hi => by
      by_cases c : i ∈ found
      · exact c
      · have : i ∈ leftL h found := mem_left.mpr ⟨hi, c⟩
        rw [e] at this
        cases this
    have h2 := Sn.nodup_le o.nd o.sub
    omega
  · intro e
    refine List.eq_nil_iff_forall_not_mem.mpr fun i hi => ?_
    obtain ⟨h1, h2⟩ := mem_left.mp hi
    have h3 := Sn.nodup_le (List.nodup_cons.mpr ⟨h2, o.nd⟩) (m := doneL h) fun j hj => by
      rcases List.mem_cons.mp hj with rfl | hj
      · exact h1
      · exact o.sub j hj
    rw [List.length_cons] at h3
    omega
theorem while_ord {h : List De} (hl : (doneL h).length ≤ 40) {T : Tb} : ∀ (n m : Nat) (found : List Nat) (x4 : Option Sl), OrdOk h found → found.length + n = (doneL h).length → n < m →
    ∃ env, whileRun (cT (c2 (cVar 2) (cLst lNil) gNe)) (denSs T ordB) m [some (.val (hD h)), some (.val (stepsD h)), some (.val (.lst ((leftL h found).map iD))), some (.own (.lst (found.map iD))), x4, none, none] st =
      if (ordN h n found).length = (doneL h).length then .ok .nx (some (.val (hD h)) :: some (.val (stepsD h)) :: some (.val (.lst [])) :: some (.own (.lst ((ordN h n found).map iD))) :: env) st
      else .ok (.rt .non) (some (.val (hD h)) :: env) st
  | n, 0, found, x4, o, hn, hm => by omega
  | 0, m + 1, found, x4, o, hn, hm => by
    have e := (left_nil o).mpr (by omega)
    rw [whileRun, e]
    have ne : gNe (.lst []) (.lst []) st = .ok (.bl false, st) := ne_nil_iDs (st := st) []
    refine ⟨[x4, none, none], ?_⟩
    rw [ordN, if_pos (by omega)]
    simp [ne]
  | n + 1, m + 1, found, x4, o, hn, hm => by
    have e : leftL h found ≠ [] := fun e => by have := (left_nil o).mp e; omega
    have ne := ne_nil_iDs (st := st) (leftL h found)
    rw [decide_eq_false e] at ne
    have ne' : gNe (.lst ((leftL h found).map iD)) (.lst []) st = .ok (.bl true, st) := ne
    rw [whileRun]
    have w := ordB_ok (h := h) (found := found) (st := st) (T := T) (x4 := x4) (by omega)
    have on := ordN_len h n found
    rw [ordN]
    cases c : nextO h found with
    | none =>
      rw [c] at w
      have es : stepO h found = found := by rw [stepO, c]
      have cc : ¬ (ordN h n found).length = (doneL h).length := by omega
      simp only [es, if_neg cc]
      refine ⟨[some (.val (stepsD h)), some (.val (.lst ((leftL h found).map iD))), some (.own (.lst (found.map iD))), some (.val (.lst ((freeL h found).map iD))), none, none], ?_⟩
      simp [-List.map_cons, -List.map_append, ne', w]
    | some x =>
      rw [c] at w
      have es : stepO h found = found ++ [x] := by rw [stepO, c]
      have o2 := o.step
      rw [es] at o2 ⊢
      obtain ⟨env, r⟩ := while_ord hl (T := T) n m (found ++ [x]) (some (.val (.lst ((freeL h found).map iD)))) o2 (by simp; omega) (by omega)
      refine ⟨env, ?_⟩
      simp only [cT, c2, cVar, cLst, lNil, List.getElem?_cons_zero, List.getElem?_cons_succ, R.bind_ok]
      simp [-List.map_append, ne', w, r]
theorem order_in {h : List De} (hl : h.length ≤ 30) : C (k + 5) 51 [hD h] st = .ok (if (firstO h).length = (doneL h).length then .tup ((firstO h).map iD) else .non, st) := by
  have s1 := steps_in (k := k) (st := st) h
  have cm := committed (k := k + 3) (st := st) h
  have dl := doneL_len h
  have e0 : leftL h [] = doneL h := by unfold leftL; simp
  obtain ⟨env, w⟩ := while_ord (h := h) (st := st) (by omega) (T := ⟨C (k + 4), gl⟩) (doneL h).length 100000 [] none ⟨List.nodup_nil, fun i hi => by cases hi⟩ (by simp) (by omega)
  show runBody ⟨C (k + 4), gl⟩ ⟨1, 7, b_order_in⟩ _ _ = _
  rw [e0] at w
  simp only [ordB] at w
  simp at w
  unfold firstO
  by_cases c : (ordN h (doneL h).length []).length = (doneL h).length
  · rw [if_pos c] at w ⊢
    simp [b_order_in, s1, cm, w, D.seqOf, gTuple]
  · rw [if_neg c] at w ⊢
    simp [b_order_in, s1, cm, w, D.seqOf, gTuple]
theorem order_of {h : List De} (o : okH h) : C (k + 8) 54 [hD h] st = .ok (if (firstO h).length = (doneL h).length then .tup ((firstO h).map iD) else .non, st) := by
  have nh := need_hist (k := k) (st := st) o
  have oi := order_in (k := k + 2) (st := st) o.len
  show runBody ⟨C (k + 7), gl⟩ ⟨1, 1, b_order_of⟩ _ _ = _
  simp [b_order_of, nh, oi]
end Kl

set_option Elab.async false
set_option linter.all false
set_option maxRecDepth 100000
/-! graphs 9a: the law's look at rings -/
namespace Kl
open PySem PySem.Spec Sn
variable {k : Nat} {st : Store}
/-- values that the law draws near rings -/
inductive NearV : D → Prop
  | non : NearV .non
  | int (i : Int) : NearV (.int i)
  | lst (ys : List D) : NearV (.lst ys)
  | tup (xs : List D) (h : ∀ d ∈ xs, isIntV d = true) (l : xs.length < 63) : NearV (.tup xs)
theorem NearV.ok {v : D} (h : NearV v) : okV v = true ∧ ∀ xs, v = .tup xs → (∀ d ∈ xs, okV d = true) ∧ xs.length < 63 := by
  cases h with
  | non => exact ⟨rfl, fun xs e => by cases e⟩
  | int i => exact ⟨rfl, fun xs e => by cases e⟩
  | lst ys => exact ⟨rfl, fun xs e => by cases e⟩
  | tup xs h l =>
    refine ⟨rfl, fun ys e => ?_⟩
    cases e
    refine ⟨fun d hd => ?_, l⟩
    have := h d hd
    cases d <;> first | rfl | cases this
theorem allInt_of : ∀ {xs : List D}, (∀ d ∈ xs, isIntV d = true) → (xs.filter isBlV) = [] → ∃ zs : List Int, xs = zs.map D.int
  | [], _, _ => ⟨[], rfl⟩
  | d :: xs, h, e => by
    have hd := h d List.mem_cons_self
    cases d with
    | int i =>
      rw [List.filter_cons] at e
      obtain ⟨zs, q⟩ := allInt_of (fun x hx => h x (List.mem_cons_of_mem _ hx)) (by simpa [isBlV] using e)
      exact ⟨i :: zs, by rw [List.map_cons, q]⟩
    | bl b => simp [isBlV] at e
    | _ => cases hd
theorem pair_in (a b : Int) (ps : List (Nat × Nat)) : gNotIn2 (.tup [.int a, .int b]) (.lst (ps.map prD)) st = .ok (.bl (!ps.any fun p => decide ((p.1 : Int) = a) && decide ((p.2 : Int) = b)), st) := by
  show gNotIn (.tup [.int a, .int b]) (.lst (ps.map prD)) st = _
  have hp : D.plains (ps.map prD) = true := by
    rw [D.plains_eq, List.all_eq_true]
    intro d hd
    obtain ⟨j, _, rfl⟩ := List.mem_map.mp hd
    rfl
  have hc : D.can (.tup [.int a, .int b]) (.lst (ps.map prD)) = true := by
    have e1 : (D.tup [.int a, .int b]).depth = 1 := by simp [D.depth, D.depths]
    have h2 : min (D.tup [.int a, .int b]).depth (D.depth (.lst (ps.map prD))) ≤ 40 := by omega
    unfold D.can
    rw [D.plain, D.plain, hp, decide_eq_true h2]
    rfl
  have ha : ((ps.map prD).any fun z => D.eqv z (.tup [.int a, .int b])) = ps.any fun p => decide ((p.1 : Int) = a) && decide ((p.2 : Int) = b) := by
    rw [List.any_map]
    congr 1
    funext p
    simp [prD, iD, D.eqv, D.eqvs, Bool.beq_eq_decide_eq]
  unfold gNotIn
  rw [items_lst]
  dsimp only
  rw [if_pos hc, ha]
theorem lens_ints {zs : List Int} (hz : zs.length < 63) : gLens (.tup (zs.map D.int)) st = .ok (.int (distinctD (zs.map D.int)).length, st) := by
  unfold gLens
  dsimp only
  rw [if_pos]
  refine ⟨.inr ?_, by rw [List.length_map]; exact hz⟩
  rw [List.all_eq_true]
  intro d hd
  obtain ⟨j, _, rfl⟩ := List.mem_map.mp hd
  rfl
/-- the places that are no step -/
def badZ (ps : List (Nat × Nat)) (zs : List Int) : List Nat := (List.range zs.length).filter fun a => !ps.any fun p => decide ((p.1 : Int) = zs.getD (pv zs.length a) 0) && decide ((p.2 : Int) = zs.getD a 0)
theorem eq_nil_iDs (is : List Nat) : gEq (.lst (is.map iD)) (.lst []) st = .ok (.bl (decide (is = [])), st) := by
  have hp : D.plains (is.map iD) = true := by
    rw [D.plains_eq, List.all_eq_true]
    intro d hd
    obtain ⟨i, _, rfl⟩ := List.mem_map.mp hd
    rfl
  have hc : D.can (.lst (is.map iD)) (.lst []) = true := by
    have : D.depth (.lst []) = 1 := by simp [D.depth, D.depths]
    have h2 : min (D.depth (.lst (is.map iD))) (D.depth (.lst [])) ≤ 40 := by omega
    unfold D.can
    rw [D.plain, hp, decide_eq_true h2]
    rfl
  unfold gEq
  rw [if_pos hc]
  cases is with
  | nil => rfl
  | cons i is => rfl
theorem bad_eq {h : List De} {ps : List (Nat × Nat)} (s : Stp h ps) {zs : List Int} (two : 2 ≤ zs.length) :
    decide (badZ ps zs = []) = ((zs.map D.int).all (inD (doneL h)) && cycB h ((zs.map D.int).map natOf)) := by
  rw [Bool.eq_iff_iff, decide_eq_true_eq, Bool.and_eq_true]
  have get : ∀ a (ha : a < zs.length), zs.getD a 0 = zs[a] := fun a ha => by simp [ha]
  have natm : (zs.map D.int).map natOf = zs.map Int.toNat := by rw [List.map_map]; rfl
  rw [natm]
  have bad : badZ ps zs = [] ↔ ∀ a < zs.length, ∃ p ∈ ps, (p.1 : Int) = zs.getD (pv zs.length a) 0 ∧ (p.2 : Int) = zs.getD a 0 := by
    unfold badZ
    rw [List.filter_eq_nil_iff]
    constructor
    · intro q a ha
      have := q a (List.mem_range.mpr ha)
      simp only [Bool.not_eq_true', Bool.not_eq_false, List.any_eq_true, Bool.and_eq_true, decide_eq_true_eq] at this
      exact this
    · intro q a ha
      obtain ⟨p, hp, h1, h2⟩ := q a (List.mem_range.mp ha)
      simp only [Bool.not_eq_true', Bool.not_eq_false, List.any_eq_true, Bool.and_eq_true, decide_eq_true_eq]
      exact ⟨p, hp, h1, h2⟩
  rw [bad]
  have pvl : ∀ a, a < zs.length → pv zs.length a < zs.length := fun a ha => by unfold pv; split <;> omega
  constructor
  · intro q
    have alld : (zs.map D.int).all (inD (doneL h)) = true := by
      rw [List.all_eq_true]
      intro d hd
      obtain ⟨z, hz, rfl⟩ := List.mem_map.mp hd
      obtain ⟨a, ha, rfl⟩ := List.mem_iff_getElem.mp hz
      obtain ⟨p, hp, h1, h2⟩ := q a ha
      obtain ⟨m1, m2, m3⟩ := (s.mem p).mp hp
      rw [get a ha] at h2
      simp only [inD, List.any_eq_true, decide_eq_true_eq]
      exact ⟨p.2, m2, h2⟩
    refine ⟨alld, ?_⟩
    rw [cyc_iff (by simpa using two), List.all_eq_true]
    intro a ha
    rw [List.mem_range, List.length_map] at ha
    obtain ⟨p, hp, h1, h2⟩ := q a ha
    obtain ⟨m1, m2, m3⟩ := (s.mem p).mp hp
    have e1 : (zs.map Int.toNat).getD (pv zs.length a) 0 = p.1 := by
      rw [get _ (pvl a ha)] at h1
      simp [pvl a ha, ← h1]
    have e2 : (zs.map Int.toNat).getD a 0 = p.2 := by
      rw [get a ha] at h2
      simp [ha, ← h2]
    rw [List.length_map, e1, e2]
    exact m3
  · rintro ⟨alld, cy⟩ a ha
    rw [cyc_iff (by simpa using two), List.all_eq_true] at cy
    have m := cy a (by rw [List.mem_range, List.length_map]; exact ha)
    rw [List.length_map] at m
    have nth : ∀ b (hb : b < zs.length), ∃ j ∈ doneL h, (j : Int) = zs[b] := fun b hb => by
      have := List.all_eq_true.mp alld (.int zs[b]) (List.mem_map.mpr ⟨zs[b], List.getElem_mem hb, rfl⟩)
      simp only [inD, List.any_eq_true, decide_eq_true_eq] at this
      exact this
    obtain ⟨j, hj, ej⟩ := nth _ (pvl a ha)
    obtain ⟨i, hi, ei⟩ := nth a ha
    have e1 : (zs.map Int.toNat).getD (pv zs.length a) 0 = j := by simp [pvl a ha, ← ej]
    have e2 : (zs.map Int.toNat).getD a 0 = i := by simp [ha, ← ei]
    rw [e1, e2] at m
    exact ⟨(j, i), (s.mem _).mpr ⟨hj, hi, m⟩, by rw [get _ (pvl a ha)]; exact ej, by rw [get a ha]; exact ei⟩
end Kl

set_option Elab.async false
set_option linter.all false
set_option maxRecDepth 100000
/-! orders 2: values near orders, by the program -/
namespace Kl
open PySem PySem.Spec Sn
variable {k : Nat} {st : Store}
/-- whatever leads to one stands before it -/
def Topo (h : List De) (found : List Nat) : Prop := ∀ pre x post, found = pre ++ x :: post → ∀ j ∈ doneL h, leadsB h j x = true → j ∈ pre
theorem Topo.step {h : List De} {found : List Nat} (t : Topo h found) : Topo h (stepO h found) := by
  unfold stepO nextO
  split
  · rename_i x e
    have f := List.find?_some e
    unfold freeB at f
    rw [Bool.and_eq_true, List.all_eq_true] at f
    intro pre y post ep j hj l
    rcases List.eq_nil_or_concat post with rfl | ⟨p', z, rfl⟩
    · obtain ⟨e1, e2⟩ := List.append_inj' ep rfl
      cases e2
      subst e1
      have := f.2 j hj
      simp [l] at this
      exact this
    · have e2 : found ++ [x] = (pre ++ y :: p') ++ [z] := by rw [ep]; simp
      obtain ⟨e1, _⟩ := List.append_inj' e2 rfl
      exact t pre y p' e1 j hj l
  · exact t
theorem Topo.ord {h : List De} : ∀ (n : Nat) {found : List Nat}, Topo h found → Topo h (ordN h n found)
  | 0, _, t => t
  | n + 1, _, t => by
    rw [ordN]
    exact Topo.ord n t.step
theorem first_topo (h : List De) : Topo h (firstO h) := Topo.ord _ fun pre x post e => by cases pre <;> cases e
def okOrdB (h : List De) (is : List Nat) : Bool := (List.range is.length).all fun a => (is.drop (a + 1)).all fun o => !leadsB h o (is.getD a 0)
def ordV (h : List De) (v : D) : Bool := match v with
  | .tup xs => xs.all (inD (doneL h)) && decide ((distinctD xs).length = xs.length) && decide (xs.length = (doneL h).length) && okOrdB h (xs.map natOf)
  | _ => false
theorem enum_is : ∀ (is : List Nat) (n : Nat), enumD n (is.map iD) = (List.range is.length).map fun a => .tup [.int ((n + a : Nat) : Int), iD (is.getD a 0)]
  | [], _ => rfl
  | x :: is, n => by
    rw [List.map_cons, enumD, enum_is is, List.length_cons, List.range_succ_eq_map, List.map_cons, List.map_map]
    congr 1
    refine List.map_congr_left fun a _ => ?_
    have : n + 1 + a = n + (a + 1) := by omega
    simp [this]
theorem ok_first {h : List De} (e : (firstO h).length = (doneL h).length) : ordV h (.tup ((firstO h).map iD)) = true := by
  have f := first_ok h
  have t := first_topo h
  show (((firstO h).map iD).all (inD (doneL h)) && decide ((distinctD ((firstO h).map iD)).length = ((firstO h).map iD).length) && decide (((firstO h).map iD).length = (doneL h).length) && okOrdB h (((firstO h).map iD).map natOf)) = true
  rw [natOf_iD, List.length_map]
  have u : uniqB (firstO h) = true := uniq_nodup f.nd
  have u' : decide ((distinctD ((firstO h).map iD)).length = (firstO h).length) = true := u
  rw [u', decide_eq_true e]
  have a : ((firstO h).map iD).all (inD (doneL h)) = true := by
    rw [List.all_eq_true]
    intro d hd
    obtain ⟨i, hi, rfl⟩ := List.mem_map.mp hd
    rw [inD_iD, decide_eq_true (f.sub i hi)]
  rw [a]
  simp only [Bool.and_true, Bool.true_and]
  unfold okOrdB
  rw [List.all_eq_true]
  intro a ha
  rw [List.mem_range] at ha
  rw [List.all_eq_true]
  intro j hj
  rw [Bool.not_eq_true']
  cases c : leadsB h j ((firstO h).getD a 0) with
  | false => rfl
  | true =>
    have sp : firstO h = (firstO h).take a ++ (firstO h).getD a 0 :: (firstO h).drop (a + 1) := by
      have : (firstO h).getD a 0 = (firstO h)[a] := by simp [ha]
      rw [this, List.getElem_cons_drop, List.take_append_drop]
    have m := t _ _ _ sp j (f.sub j (List.mem_of_mem_drop hj)) c
    have nd := f.nd
    rw [sp] at nd
    exact absurd rfl ((List.nodup_append.mp nd).2.2 j m j (List.mem_cons_of_mem _ hj))
theorem flat_le {α β : Type} {f : α → List β} {m : Nat} : ∀ {xs : List α}, (∀ x ∈ xs, (f x).length ≤ m) → (xs.flatMap f).length ≤ xs.length * m
  | [], _ => by simp
  | x :: xs, h => by
    rw [List.flatMap_cons, List.length_append, List.length_cons, Nat.add_mul, Nat.one_mul]
    have h1 := h x List.mem_cons_self
    have h2 := flat_le (xs := xs) fun y hy => h y (List.mem_cons_of_mem _ hy)
    omega
theorem fits_order {h : List De} (hl : h.length ≤ 30) {v : D} (hv : okV v = true) (hi : ∀ xs, v = .tup xs → (∀ d ∈ xs, okV d = true) ∧ xs.length < 63) : C (k + 4) 52 [hD h, v] st = .ok (.bl (ordV h v), st) := by
  show runBody ⟨C (k + 3), gl⟩ ⟨2, 6, b_fits_order⟩ _ _ = _
  have cm := committed (k := k + 2) (st := st) h
  have dl : ∀ i ∈ doneL h, i < 30 := fun i hi => Nat.lt_of_lt_of_le (done_lt hi) hl
  have fu := fits_unlike (k := k + 1) (st := st) dl hv hi
  have dle := doneL_len h
  cases v with
  | tup xs =>
    have fu' : C (k + 3) 41 [.lst ((doneL h).map iD), .tup xs] st = .ok (.bl (xs.all (inD (doneL h)) && decide ((distinctD xs).length = xs.length)), st) := fu
    show _ = Sn.R.ok (D.bl (xs.all (inD (doneL h)) && decide ((distinctD xs).length = xs.length) && decide (xs.length = (doneL h).length) && okOrdB h (xs.map natOf)), st)
    cases c : xs.all (inD (doneL h)) && decide ((distinctD xs).length = xs.length) with
    | false =>
      rw [c] at fu'
      rw [Bool.false_and, Bool.false_and]
      simp [b_fits_order, cm, fu']
    | true =>
      rw [c] at fu'
      rw [Bool.and_eq_true] at c
      obtain ⟨is, rfl, sub⟩ := all_inD c.1
      rw [natOf_iD, List.length_map]
      have nl : gNe (.int (is.length : Nat)) (.int ((doneL h).length : Nat)) st = .ok (.bl (!decide (is.length = (doneL h).length)), st) := by
        rw [gNe_int]
        congr 4
        simp [Int.ofNat_inj]
      by_cases ln : is.length = (doneL h).length
      · rw [decide_eq_true ln] at nl ⊢
        have l1 : lc2Loop (lc2Body (.tp (.cons (.nm 4) (.cons (.nm 5) .nil))) [3, 4, 5] cYes (srcE (cSl (cVar 1) (oSome (c2 (cVar 4) (cPure (.int 1)) gAdd)) oNone gSl)) (.nm 3) [3] cYes (cCal (C (k + 3) 37) (lCons (cVar 0) (lCons (cVar 3) (lCons (cVar 5) lNil)))) [some (.val (hD h)), some (.val (.tup (is.map iD))), some (.val (.lst ((doneL h).map iD))), none, none, none]) (enumD 0 (is.map iD)) st =
            .ok (((List.range is.length).flatMap fun a => (is.drop (a + 1)).map fun o => D.bl (leadsB h o (is.getD a 0))), st) := by
          rw [enum_is]
          refine lc2Loop_map fun a ha => ?_
          rw [List.mem_range] at ha
          have s1 : ∀ st, gSl (.tup (is.map iD)) (some ((a : Int) + 1)) none st = .ok (.tup ((is.drop (a + 1)).map iD), st) := fun st => by
            have e : ((a : Int) + 1).toNat = a + 1 := by omega
            show Sn.R.ok (D.tup (cutD (is.map iD) (some ((a : Int) + 1)) none), st) = _
            rw [cut_from _ (by omega), e, List.map_drop]
          have l2 : lcLoop (lcBody (.nm 3) [3] cYes (cCal (C (k + 3) 37) (lCons (cVar 0) (lCons (cVar 3) (lCons (cVar 5) lNil)))) [some (.val (hD h)), some (.val (.tup (is.map iD))), some (.val (.lst ((doneL h).map iD))), none, some (.val (.int (a : Int))), some (.val (iD (is.getD a 0)))]) ((is.drop (a + 1)).map iD) st = .ok ((is.drop (a + 1)).map fun o => D.bl (leadsB h o (is.getD a 0)), st) := by
            refine lcLoop_all fun o ho => ?_
            have le := leads (k := k) (st := st) (sub o (List.mem_of_mem_drop ho)) (sub (is.getD a 0) (by simp [ha]))
            simp [-List.getD_eq_getElem?_getD, lcBody, wipeE, cYes, le]
          have z1 : ((a : Int) + 1) ≤ 16777216 := by omega
          have z2 : (-4611686018427387904 : Int) ≤ (a : Int) + 1 := by omega
          have ad : ∀ st, gAdd (.int (a : Int)) (.int 1) st = .ok (.int ((a : Int) + 1), st) := fun st => by
            simp [gAdd, z1, z2]
          simp [-List.getD_eq_getElem?_getD, -List.map_drop, lc2Body, wipeE, cYes, s1, l2, ad]
        have ga : gAny (.lst ((List.range is.length).flatMap fun a => (is.drop (a + 1)).map fun o => D.bl (leadsB h o (is.getD a 0)))) st = .ok (.bl (!okOrdB h is), st) := by
          have e : ((List.range is.length).flatMap fun a => (is.drop (a + 1)).map fun o => D.bl (leadsB h o (is.getD a 0))) = ((List.range is.length).flatMap fun a => (is.drop (a + 1)).map fun o => leadsB h o (is.getD a 0)).map fun b => D.bl (id b) := by
            rw [List.map_flatMap]
            congr 1
            funext a
            rw [List.map_map]
            rfl
          have n : (((List.range is.length).flatMap fun a => (is.drop (a + 1)).map fun o => leadsB h o (is.getD a 0)).any id) = !okOrdB h is := by
            unfold okOrdB
            rw [List.any_flatMap, List.not_all_eq_any_not]
            congr 1
            funext a
            rw [List.any_map, List.not_all_eq_any_not]
            congr 1
            funext o
            simp
          rw [e]
          simp [-List.map_flatMap, -id_eq, gAny]
          rw [← n]
          simp
        have lz : ((List.range is.length).flatMap fun a => (is.drop (a + 1)).map fun o => D.bl (leadsB h o (is.getD a 0))).length ≤ sizeLine := by
          have := flat_le (xs := List.range is.length) (f := fun a => (is.drop (a + 1)).map fun o => D.bl (leadsB h o (is.getD a 0))) (m := 30) fun a _ => by
            rw [List.length_map, List.length_drop]
            omega
          rw [List.length_range] at this
          have h2 : is.length * 30 ≤ 30 * 30 := Nat.mul_le_mul_right _ (by omega)
          unfold sizeLine
          omega
        have nl' : gNe (.int (is.length : Nat)) (.int ((doneL h).length : Nat)) st = .ok (.bl false, st) := nl
        simp [-List.getD_eq_getElem?_getD, -List.map_drop, b_fits_order, cm, fu', nl', l1, ga, srcEn, Tg.slots, lz, -List.length_flatMap]
      · rw [decide_eq_false ln] at nl ⊢
        simp [b_fits_order, cm, fu', nl]
  | non =>
    have fu' : C (k + 3) 41 [.lst ((doneL h).map iD), .non] st = .ok (.bl false, st) := fu
    simp [b_fits_order, cm, fu', ordV]
  | bl b =>
    have fu' : C (k + 3) 41 [.lst ((doneL h).map iD), .bl b] st = .ok (.bl false, st) := fu
    simp [b_fits_order, cm, fu', ordV]
  | int i =>
    have fu' : C (k + 3) 41 [.lst ((doneL h).map iD), .int i] st = .ok (.bl false, st) := fu
    simp [b_fits_order, cm, fu', ordV]
  | str x =>
    have fu' : C (k + 3) 41 [.lst ((doneL h).map iD), .str x] st = .ok (.bl false, st) := fu
    simp [b_fits_order, cm, fu', ordV]
  | lst ys =>
    have fu' : C (k + 3) 41 [.lst ((doneL h).map iD), .lst ys] st = .ok (.bl false, st) := fu
    simp [b_fits_order, cm, fu', ordV]
  | dct _ => cases hv
  | scr _ => cases hv
  | ref _ => cases hv
  | fn _ => cases hv
theorem is_order {h : List De} (o : okH h) {v : D} (hv : okV v = true) (hi : ∀ xs, v = .tup xs → (∀ d ∈ xs, okV d = true) ∧ xs.length < 63) : C (k + 8) 53 [hD h, v] st = .ok (.bl (ordV h v), st) := by
  show runBody ⟨C (k + 7), gl⟩ ⟨2, 2, b_is_order⟩ _ _ = _
  have nh := need_hist (k := k) (st := st) o
  have fr := fits_order (k := k + 3) (st := st) o.len hv hi
  simp [b_is_order, nh, fr]
end Kl

set_option Elab.async false
set_option linter.all false
set_option maxRecDepth 100000
/-! orders 3: the law's look at orders -/
namespace Kl
open PySem PySem.Spec Sn
variable {k : Nat} {st : Store}
theorem nodup_of_len : ∀ {is js : List Nat}, js.Nodup → (∀ j, j ∈ js ↔ j ∈ is) → js.length = is.length → is.Nodup
  | [], _, _, _, _ => List.nodup_nil
  | a :: r, js, nd, m, l => by
    have ha : a ∈ js := (m a).mpr List.mem_cons_self
    rw [List.length_cons] at l
    have hr : a ∉ r := fun ar => by
      have := Sn.nodup_le nd (m := r) fun j hj => by
        rcases List.mem_cons.mp ((m j).mp hj) with rfl | h
        · exact ar
        · exact h
      omega
    refine List.nodup_cons.mpr ⟨hr, nodup_of_len (nd.erase a) (fun j => ?_) ?_⟩
    · rw [nd.mem_erase_iff, m j, List.mem_cons]
      constructor
      · rintro ⟨h1, h2 | h2⟩
        · exact absurd h2 h1
        · exact h2
      · intro h
        refine ⟨?_, .inr h⟩
        rintro rfl
        exact hr h
    · rw [List.length_erase_of_mem ha]
      omega
theorem nodup_uniq {is : List Nat} (u : uniqB is = true) : is.Nodup := by
  unfold uniqB at u
  rw [decide_eq_true_eq] at u
  obtain ⟨js, e, nd, m⟩ := distinct_iD is
  rw [e, List.length_map] at u
  exact nodup_of_len nd m u
theorem perm_done {S is : List Nat} (sn : S.Nodup) (nd : is.Nodup) (sub : ∀ i ∈ is, i ∈ S) (l : is.length = S.length) : is.Perm S := by
  rw [List.perm_ext_iff_of_nodup nd sn]
  intro a
  refine ⟨sub a, fun ha => ?_⟩
  by_cases c : a ∈ is
  · exact c
  · have := Sn.nodup_le (List.nodup_cons.mpr ⟨c, nd⟩) (m := S) fun j hj => by
      rcases List.mem_cons.mp hj with rfl | hj
      · exact ha
      · exact sub j hj
    rw [List.length_cons] at this
    omega
theorem sortT_ints (xs : List Int) : gSorted (.tup (xs.map D.int)) st = .ok (.lst ((xs.mergeSort fun a b => decide (a ≤ b)).map D.int), st) := by
  have := sort_ints (st := st) xs
  unfold gSorted at this ⊢
  exact this
theorem plains_ints (xs : List Int) : D.plains (xs.map D.int) = true := by
  rw [D.plains_eq, List.all_eq_true]
  intro d hd
  obtain ⟨i, _, rfl⟩ := List.mem_map.mp hd
  rfl
theorem depths_ints : ∀ xs : List Int, D.depths (xs.map D.int) = 0
  | [] => rfl
  | x :: xs => by
    rw [List.map_cons, D.depths, depths_ints xs]
    rfl
theorem eqvs_ints : ∀ xs ys : List Int, D.eqvs (xs.map D.int) (ys.map D.int) = decide (xs = ys)
  | [], [] => rfl
  | [], _ :: _ => rfl
  | _ :: _, [] => rfl
  | x :: xs, y :: ys => by
    rw [List.map_cons, List.map_cons, D.eqvs, eqvs_ints xs ys]
    rw [Bool.eq_iff_iff]
    simp [D.eqv, Bool.beq_eq_decide_eq]
theorem ne_ints (xs ys : List Int) : gNe (.lst (xs.map D.int)) (.lst (ys.map D.int)) st = .ok (.bl (!decide (xs = ys)), st) := by
  have z1 := depths_ints xs
  have z2 := depths_ints ys
  simp [gNe, D.can, D.plain, D.depth, D.eqv, plains_ints, eqvs_ints, z1, z2]
def ofN (is : List Nat) : List Int := is.map Int.ofNat
theorem ofN_D (is : List Nat) : (ofN is).map D.int = is.map iD := by
  unfold ofN
  rw [List.map_map]
  rfl
theorem sort_perm_ints {zs ws : List Int} (p : zs.Perm ws) (s : ws.Pairwise fun a b => a < b) : (zs.mergeSort fun a b => decide (a ≤ b)) = ws := by
  refine List.Perm.eq_of_pairwise (le := fun a b => decide (a ≤ b) = true) (fun a b _ _ h1 h2 => ?_) (List.pairwise_mergeSort (fun a b c h1 h2 => ?_) (fun a b => ?_) _) (s.imp fun h => ?_) ((List.mergeSort_perm _ _).trans p)
  · simp at h1 h2
    omega
  · simp at h1 h2 ⊢
    omega
  · simp
    omega
  · simp
    omega
theorem done_sorted (h : List De) : (ofN (doneL h)).Pairwise fun a b => a < b := by
  unfold ofN doneL
  rw [List.pairwise_map]
  exact (List.pairwise_lt_range.filter _).imp fun h => by simpa using h
theorem sorted_done {h : List De} {zs : List Int} : decide ((zs.mergeSort fun a b => decide (a ≤ b)) = ofN (doneL h)) = ((zs.map D.int).all (inD (doneL h)) && decide ((distinctD (zs.map D.int)).length = zs.length) && decide (zs.length = (doneL h).length)) := by
  rw [Bool.eq_iff_iff, decide_eq_true_eq]
  constructor
  · intro e
    have p : zs.Perm (ofN (doneL h)) := by
      rw [← e]
      exact (List.mergeSort_perm _ _).symm
    obtain ⟨is, pi, rfl⟩ := perm_lift p rfl
    have nd : is.Nodup := pi.symm.nodup (doneL_nodup h)
    have u := uniq_nodup nd
    rw [Bool.and_eq_true, Bool.and_eq_true]
    have e : (is.map Int.ofNat).map D.int = is.map iD := ofN_D is
    rw [e, List.length_map]
    refine ⟨⟨?_, u⟩, decide_eq_true pi.length_eq⟩
    rw [List.all_eq_true]
    intro d hd
    obtain ⟨i, hi, rfl⟩ := List.mem_map.mp hd
    rw [inD_iD, decide_eq_true (pi.mem_iff.mp hi)]
  · intro q
    rw [Bool.and_eq_true, Bool.and_eq_true] at q
    obtain ⟨⟨q1, q2⟩, q3⟩ := q
    obtain ⟨is, e, sub⟩ := all_inD q1
    have ez : zs = ofN is := by
      have e' : zs.map D.int = (ofN is).map D.int := by rw [ofN_D, e]
      exact (List.map_inj_right fun a b h => by injection h).mp e'
    subst ez
    have l : (ofN is).length = is.length := List.length_map _
    rw [ofN_D, l] at q2
    rw [l, decide_eq_true_eq] at q3
    refine sort_perm_ints ((perm_done (doneL_nodup h) (nodup_uniq q2) sub q3).map _) (done_sorted h)
theorem ordB_iff {h : List De} {ps : List (Nat × Nat)} (s : Stp h ps) {is : List Nat} (p : is.Perm (doneL h)) :
    decide ((ps.filter fun p => decide (is.idxOf p.2 < is.idxOf p.1)).length = 0) = okOrdB h is := by
  have nd : is.Nodup := p.symm.nodup (doneL_nodup h)
  rw [Bool.eq_iff_iff, decide_eq_true_eq, List.length_eq_zero_iff, List.filter_eq_nil_iff]
  unfold okOrdB
  rw [List.all_eq_true]
  constructor
  · intro q a ha
    rw [List.mem_range] at ha
    rw [List.all_eq_true]
    intro j hj
    rw [Bool.not_eq_true']
    cases c : leadsB h j (is.getD a 0) with
    | false => rfl
    | true =>
      have ea : is.getD a 0 = is[a] := by simp [ha]
      have m := q (j, is.getD a 0) ((s.mem _).mpr ⟨p.mem_iff.mp (List.mem_of_mem_drop hj), p.mem_iff.mp (by rw [ea]; exact List.getElem_mem ha), c⟩)
      simp only [decide_eq_true_eq] at m
      obtain ⟨b, hb, eb⟩ := List.mem_iff_getElem.mp hj
      rw [List.getElem_drop] at eb
      rw [List.length_drop] at hb
      have i1 : is.idxOf j = a + 1 + b := by rw [← eb]; exact nd.idxOf_getElem _ _
      have i2 : is.idxOf (is.getD a 0) = a := by rw [ea]; exact nd.idxOf_getElem _ _
      omega
  · intro q ⟨x, y⟩ hp
    obtain ⟨h1, h2, h3⟩ := (s.mem _).mp hp
    dsimp only at h1 h2 h3
    simp only [decide_eq_true_eq]
    intro lt
    have l1 := List.idxOf_lt_length_of_mem (p.mem_iff.mpr h1)
    have l2 := List.idxOf_lt_length_of_mem (p.mem_iff.mpr h2)
    have m := q (is.idxOf y) (List.mem_range.mpr l2)
    rw [List.all_eq_true] at m
    have mx : x ∈ is.drop (is.idxOf y + 1) := by
      refine List.mem_iff_getElem.mpr ⟨is.idxOf x - (is.idxOf y + 1), by rw [List.length_drop]; omega, ?_⟩
      rw [List.getElem_drop]
      have e : is.idxOf y + 1 + (is.idxOf x - (is.idxOf y + 1)) = is.idxOf x := by omega
      simp [e]
    have := m x mx
    have ey : is.getD (is.idxOf y) 0 = y := by simp [l2]
    rw [ey, h3] at this
    cases this
end Kl

set_option Elab.async false
set_option linter.all false
set_option maxRecDepth 100000
/-! orders 4: _law_is_order -/
namespace Kl
open PySem PySem.Spec Sn
variable {k : Nat} {st : Store}
theorem gt_nat (a b : Nat) : gGt (.int (a : Nat)) (.int (b : Nat)) st = .ok (.bl (decide (b < a)), st) := by
  show Sn.R.ok (D.bl (decide ((b : Int) < (a : Int))), st) = _
  congr 3
  simp
theorem bad_bool {h : List De} {xs : List D} (nb : ¬ xs.filter isBlV = []) : xs.all (inD (doneL h)) = false := by
  rw [List.all_eq_false]
  cases e : xs.filter isBlV with
  | nil => exact absurd e nb
  | cons d r =>
    have m : d ∈ xs.filter isBlV := by rw [e]; exact List.mem_cons_self
    obtain ⟨m1, m2⟩ := List.mem_filter.mp m
    refine ⟨d, m1, ?_⟩
    cases d <;> first | (cases m2; done) | simp [inD]
theorem ne_ones (n : Nat) : gNe (.lst (List.replicate n (.int 1))) (.lst []) st = .ok (.bl (!decide (n = 0)), st) := by
  have := eq_ones (st := st) n
  unfold gEq at this
  unfold gNe
  split at this
  · rename_i c
    rw [if_pos c]
    injection this with this
    injection this with h1 _
    injection h1 with h1
    rw [h1]
  · cases this
theorem law_is_order {h : List De} (o : okH h) (few : ∀ ps : List (Nat × Nat), ps.Nodup → (∀ p ∈ ps, p.1 ∈ doneL h ∧ p.2 ∈ doneL h ∧ leadsB h p.1 p.2 = true) → ps.length < 63) {v : D} (hv : NearV v) : C (k + 4) 55 [hD h, v] st = .ok (.bl (ordV h v), st) := by
  obtain ⟨ps, l1, l2, l3⟩ := law_steps (k := k) (st := st) o few
  have s : Stp h ps := ⟨l2, l3⟩
  have ld := law_done (k := k + 2) (st := st) o.len
  show runBody ⟨C (k + 3), gl⟩ ⟨2, 4, b__law_is_order⟩ _ _ = _
  have it := isi_tuple (st := st) hv.ok.1
  cases hv with
  | non => simp [b__law_is_order, it, isTupV, ordV]
  | int i => simp [b__law_is_order, it, isTupV, ordV]
  | lst ys => simp [b__law_is_order, it, isTupV, ordV]
  | tup xs hx hz =>
    show _ = Sn.R.ok (D.bl (xs.all (inD (doneL h)) && decide ((distinctD xs).length = xs.length) && decide (xs.length = (doneL h).length) && okOrdB h (xs.map natOf)), st)
    have lo : lcLoop (lcBody (.nm 2) [2] (cT (cOr (c1 (cVar 2) (gIsi "bool")) (cNot (c1 (cVar 2) (gIsi "int"))))) (cPure (.int 1)) [some (.val (hD h)), some (.val (.tup xs)), none, none]) xs st = .ok (List.replicate (xs.filter isBlV).length (.int 1), st) := by
      have := lcLoop_map (enc := id) (g := fun d => if isBlV d = true then some (D.int 1) else none) (f := lcBody (.nm 2) [2] (cT (cOr (c1 (cVar 2) (gIsi "bool")) (cNot (c1 (cVar 2) (gIsi "int"))))) (cPure (.int 1)) [some (.val (hD h)), some (.val (.tup xs)), none, none]) (st := st) (xs := xs) fun d hd => by
        have iv := hx d hd
        have ok : okV d = true := by cases d <;> first | rfl | cases iv
        have b1 := isi_bool (st := st) ok
        have b2 := isi_int (st := st) ok
        rw [iv] at b2
        cases c : isBlV d <;> rw [c] at b1 <;> simp [lcBody, wipeE, b1, b2]
      rw [filterMap_if isBlV (fun _ => D.int 1), List.map_const'] at this
      simpa using this
    have on := ne_ones (st := st) (xs.filter isBlV).length
    by_cases nb : xs.filter isBlV = []
    · obtain ⟨zs, rfl⟩ := allInt_of hx nb
      have on' : gNe (.lst (List.replicate ((zs.map D.int).filter isBlV).length (.int 1))) (.lst []) st = .ok (.bl false, st) := by rw [on, nb]; rfl
      have so := sortT_ints (st := st) zs
      have ne := ne_ints (st := st) (zs.mergeSort fun a b => decide (a ≤ b)) (ofN (doneL h))
      rw [sorted_done, ofN_D] at ne
      rw [List.length_map]
      generalize hF : ((zs.map D.int).filter isBlV).length = nF at lo on'
      cases c : ((zs.map D.int).all (inD (doneL h)) && decide ((distinctD (zs.map D.int)).length = zs.length) && decide (zs.length = (doneL h).length)) with
      | false =>
        rw [c] at ne
        simp [b__law_is_order, it, isTupV, lo, on', so, ld, ne]
      | true =>
        rw [c] at ne
        have q := c
        rw [← sorted_done, decide_eq_true_eq] at q
        have p : zs.Perm (ofN (doneL h)) := by
          rw [← q]
          exact (List.mergeSort_perm _ _).symm
        obtain ⟨is, pi, rfl⟩ := perm_lift p rfl
        have e : (is.map Int.ofNat).map D.int = is.map iD := ofN_D is
        rw [e] at lo so ⊢
        rw [natOf_iD, ← ordB_iff s pi]
        have lb : lcLoop (lcBody (.tp (.cons (.nm 2) (.cons (.nm 3) .nil))) [2, 3] (cT (c2 (cIdx true (cVar 1) (cVar 2)) (cIdx true (cVar 1) (cVar 3)) gGt)) (cPure (.int 1)) [some (.val (hD h)), some (.val (.tup (is.map iD))), none, none]) (ps.map prD) st =
            .ok (List.replicate (ps.filter fun p => decide (is.idxOf p.2 < is.idxOf p.1)).length (.int 1), st) := by
          rw [lcLoop_map (g := fun p : Nat × Nat => if decide (is.idxOf p.2 < is.idxOf p.1) = true then some (.int 1) else none)]
          · rw [filterMap_if (fun p : Nat × Nat => decide (is.idxOf p.2 < is.idxOf p.1)) (fun _ => D.int 1), List.map_const']
          · intro p hp
            obtain ⟨h1, h2, _⟩ := (s.mem p).mp hp
            have i1 : ∀ st, gIdx (is.map iD) (iD p.1) st = .ok (.int (is.idxOf p.1 : Nat), st) := fun st => idx_iDs (pi.mem_iff.mpr h1)
            have i2 : ∀ st, gIdx (is.map iD) (iD p.2) st = .ok (.int (is.idxOf p.2 : Nat), st) := fun st => idx_iDs (pi.mem_iff.mpr h2)
            have gt : ∀ st, gGt (.int (is.idxOf p.1 : Nat)) (.int (is.idxOf p.2 : Nat)) st = .ok (.bl (decide (is.idxOf p.2 < is.idxOf p.1)), st) := fun st => gt_nat _ _
            by_cases c : is.idxOf p.2 < is.idxOf p.1
            · simp only [c, decide_true] at gt
              simp [lcBody, wipeE, prD, D.seqOf, i1, i2, gt, c]
            · simp only [c, decide_false] at gt
              simp [lcBody, wipeE, prD, D.seqOf, i1, i2, gt, c]
        have eo := eq_ones (st := st) (ps.filter fun p => decide (is.idxOf p.2 < is.idxOf p.1)).length
        generalize (ps.filter fun p => decide (is.idxOf p.2 < is.idxOf p.1)).length = nP at lb eo ⊢
        simp [b__law_is_order, it, isTupV, lo, on', so, ld, ne, l1, lb, eo]
    · have nz : ¬ (xs.filter isBlV).length = 0 := fun z => nb (List.eq_nil_of_length_eq_zero z)
      rw [decide_eq_false nz] at on
      rw [bad_bool nb]
      simp [b__law_is_order, it, isTupV, lo, on]
end Kl

set_option Elab.async false
set_option linter.all false
set_option maxRecDepth 100000
/-! orders 5: how many are done; few steps where there is an order -/
namespace Kl
open PySem PySem.Spec Sn
variable {k : Nat} {st : Store}
theorem done_count {m : Nat} {h cs os : List De} (p : h.Perm (cs ++ os)) (c : Cs cs) (q : Os m os) : (doneL h).length = cs.length := by
  have dnl : (dn h).length = (doneL h).length := by rw [dn_eq, List.length_map]
  rw [← dnl]
  have h1 : (dn h).Perm (dn (cs ++ os)) := p.filter _
  have dC : dn cs = cs := List.filter_eq_self.mpr fun d hd => by
    obtain ⟨i, hi, rfl⟩ := List.mem_iff_getElem.mp hd
    have e1 : (cs.map (·.e))[i]'(by simpa using hi) = cs[i].e := by simp
    rw [← e1]
    simp [c.e]
  have dO : dn os = [] := List.filter_eq_nil_iff.mpr fun d hd => by
    rw [q.e d hd]
    simp
  have h2 : dn (cs ++ os) = cs := by
    have : dn (cs ++ os) = dn cs ++ dn os := List.filter_append ..
    rw [this, dC, dO, List.append_nil]
  rw [h2] at h1
  exact h1.length_eq
theorem is_tup (xs : List D) : gIs (.tup xs) .non st = .ok (.bl false, st) := rfl
theorem isnot_tup (xs : List D) : gIsNot (.tup xs) .non st = .ok (.bl true, st) := rfl
theorem nearFirst (h : List De) (hl : h.length ≤ 30) : NearV (.tup ((firstO h).map iD)) := by
  have f := first_ok h
  have l := Sn.nodup_le f.nd f.sub
  have dl := doneL_len h
  refine .tup _ (fun d hd => ?_) (by rw [List.length_map]; omega)
  obtain ⟨i, _, rfl⟩ := List.mem_map.mp hd
  rfl
def tri36 : List (Nat × Nat) := (List.range 9).flatMap fun b => (List.range b).map fun a => (a, b)
theorem few_core {h : List De} (n9 : (doneL h).length ≤ 9) (ce : core h = []) : ∀ ps : List (Nat × Nat), ps.Nodup → (∀ p ∈ ps, p.1 ∈ doneL h ∧ p.2 ∈ doneL h ∧ leadsB h p.1 p.2 = true) → ps.length < 63 := by
  intro ps nd hp
  have f := first_ok h
  have t := first_topo h
  have l := no_core_order ce
  have pm := perm_done (doneL_nodup h) f.nd f.sub l
  have step : ∀ p ∈ ps, (firstO h).idxOf p.1 < (firstO h).idxOf p.2 ∧ (firstO h).idxOf p.2 < 9 := fun p hp' => by
    obtain ⟨h1, h2, h3⟩ := hp p hp'
    have m2 := pm.mem_iff.mpr h2
    have l2 := List.idxOf_lt_length_of_mem m2
    have sp : firstO h = (firstO h).take ((firstO h).idxOf p.2) ++ p.2 :: (firstO h).drop ((firstO h).idxOf p.2 + 1) := by
      have e : (firstO h)[(firstO h).idxOf p.2] = p.2 := List.getElem_idxOf l2
      conv => rhs; rw [← e]
      have e2 : (firstO h).idxOf (firstO h)[(firstO h).idxOf p.2] = (firstO h).idxOf p.2 := by rw [e]
      rw [e2, List.getElem_cons_drop, List.take_append_drop]
    have m := t _ _ _ sp p.1 h1 h3
    refine ⟨?_, by omega⟩
    obtain ⟨a, ha, ea⟩ := List.mem_iff_getElem.mp m
    rw [List.length_take] at ha
    rw [List.getElem_take] at ea
    have : (firstO h).idxOf p.1 = a := by rw [← ea]; exact f.nd.idxOf_getElem _ _
    omega
  have inj : ∀ p ∈ ps, ∀ q ∈ ps, ((firstO h).idxOf p.1, (firstO h).idxOf p.2) = ((firstO h).idxOf q.1, (firstO h).idxOf q.2) → p = q := fun p hp' q hq e => by
    have e1 : (firstO h).idxOf p.1 = (firstO h).idxOf q.1 := congrArg Prod.fst e
    have e2 : (firstO h).idxOf p.2 = (firstO h).idxOf q.2 := congrArg Prod.snd e
    have i : ∀ x ∈ doneL h, ∀ y ∈ doneL h, (firstO h).idxOf x = (firstO h).idxOf y → x = y := fun x hx y hy e => by
      have lx := List.idxOf_lt_length_of_mem (pm.mem_iff.mpr hx)
      have ly := List.idxOf_lt_length_of_mem (pm.mem_iff.mpr hy)
      have ex : (firstO h)[(firstO h).idxOf x] = x := List.getElem_idxOf lx
      have ey : (firstO h)[(firstO h).idxOf y] = y := List.getElem_idxOf ly
      rw [← ex, ← ey]
      simp only [e]
    obtain ⟨h1, h2, _⟩ := hp p hp'
    obtain ⟨g1, g2, _⟩ := hp q hq
    exact Prod.ext (i _ h1 _ g1 e1) (i _ h2 _ g2 e2)
  have nd2 : (ps.map fun p => ((firstO h).idxOf p.1, (firstO h).idxOf p.2)).Nodup := by
    rw [List.nodup_iff_pairwise_ne, List.pairwise_map]
    rw [List.nodup_iff_pairwise_ne] at nd
    exact nd.imp_of_mem fun ha hb ne e => ne (inj _ ha _ hb e)
  have := Sn.nodup_le nd2 (m := tri36) fun q hq => by
    obtain ⟨p, hp', rfl⟩ := List.mem_map.mp hq
    obtain ⟨s1, s2⟩ := step p hp'
    exact List.mem_flatMap.mpr ⟨_, List.mem_range.mpr s2, List.mem_map.mpr ⟨_, List.mem_range.mpr s1, rfl⟩⟩
  rw [List.length_map] at this
  have e : tri36.length = 36 := by decide
  omega
end Kl

set_option Elab.async false
set_option linter.all false
set_option maxRecDepth 100000
set_option maxHeartbeats 1000000
/-! k42: values near orders -/
namespace Kl
open PySem PySem.Spec Sn
variable {k : Nat} {st : Store}
theorem cut_sub {xs : List D} {lo hi : Option Int} {d : D} (h : d ∈ cutD xs lo hi) : d ∈ xs := List.mem_of_mem_drop (List.mem_of_mem_take h)
theorem cat_tup {a b : List D} (h : a.length + b.length ≤ 1000) : gAdd (.tup a) (.tup b) st = .ok (.tup (a ++ b), st) := by
  unfold gAdd
  exact if_pos (by unfold sizeLine; omega)
theorem cat_lst {a b : List D} (h : a.length + b.length ≤ 1000) : gCat (.lst a) (.lst b) st = .ok (.lst (a ++ b), st) := by
  unfold gCat
  exact if_pos (by unfold sizeLine; omega)
theorem sl_tup (xs : List D) (lo hi : Option Int) : gSl (.tup xs) lo hi st = .ok (.tup (cutD xs lo hi), st) := rfl
theorem ixN_at {n : Nat} {r : Int} (h0 : 0 ≤ r) (h1 : r < n) : L2.ixN n r = some r.toNat := by
  unfold L2.ixN
  split <;> simp_all <;> omega
theorem law_near (a b : Int) {is : List Nat} (ne : is ≠ []) (l7 : is.length ≤ 7) : ∃ v a' b', C (k + 3) 56 [.ref 0, .tup (is.map iD)] (St a b) = .ok (v, St a' b') ∧ NearV v ∧ ∀ xs, v = .tup xs → xs.length ≤ 20 := by
  have l0 : 0 < is.length := List.length_pos_iff.mpr ne
  obtain ⟨r, a1, b1, r0, r1, e1⟩ := law_roll (k := k + 1) a b (n := (is.length : Nat)) (by omega) (by omega)
  obtain ⟨q, a1', b1', q0, q1', e1'⟩ := law_roll (k := k + 1) a1 b1 (n := (is.length : Nat)) (by omega) (by omega)
  obtain ⟨xs, hxs⟩ : ∃ xs, xs = is.map iD := ⟨_, rfl⟩
  have lx : xs.length = is.length := by rw [hxs, List.length_map]
  have intx : ∀ d ∈ xs, isIntV d = true := fun d hd => by
    rw [hxs] at hd
    obtain ⟨i, _, rfl⟩ := List.mem_map.mp hd
    rfl
  have at_ : ∀ r : Int, 0 ≤ r → r < (is.length : Nat) → ∃ d ∈ xs, ∀ st, gIx2 (.tup xs) (.int r) st = .ok (d, st) := fun r h0 h1 => by
    have hr : r.toNat < xs.length := by omega
    refine ⟨xs[r.toNat], List.getElem_mem _, fun st => ?_⟩
    have e : L2.atI xs r = xs[r.toNat]? := by
      unfold L2.atI
      rw [ixN_at h0 (by omega)]
      rfl
    simp [gIx, e, hr]
  obtain ⟨dr, mr, ir⟩ := at_ r r0 r1
  obtain ⟨dq, mq, iq⟩ := at_ q q0 q1'
  have ixr : L2.ixN xs.length r = some r.toNat := ixN_at r0 (by omega)
  have ixq : L2.ixN xs.length q = some q.toNat := ixN_at q0 (by omega)
  obtain ⟨sw, hsw⟩ : ∃ sw, sw = (xs.set r.toNat dq).set q.toNat dr := ⟨_, rfl⟩
  have lsw : sw.length = is.length := by rw [hsw, List.length_set, List.length_set, lx]
  have intsw : ∀ d ∈ sw, isIntV d = true := fun d hd => by
    rw [hsw] at hd
    rcases List.mem_or_eq_of_mem_set hd with hd | rfl
    · rcases List.mem_or_eq_of_mem_set hd with hd | rfl
      · exact intx d hd
      · exact intx _ mq
    · exact intx _ mr
  have cl : ∀ lo hi, (cutD xs lo hi).length ≤ 7 := fun lo hi => Nat.le_trans (cutD_length _ _ _) (by omega)
  have ln : ∀ st, gLen (.tup xs) st = .ok (.int (is.length : Nat), st) := fun st => by simp [lx]
  have A1 : ∀ st, gAdd (.tup (cutD xs (some 1) none)) (.tup (cutD xs none (some 1))) st = .ok (.tup (cutD xs (some 1) none ++ cutD xs none (some 1)), st) := fun st => cat_tup (by have h1 := cl (some 1) none; have h2 := cl none (some 1); omega)
  have A5 : ∀ st, gAdd (.tup xs) (.tup (cutD xs none (some 1))) st = .ok (.tup (xs ++ cutD xs none (some 1)), st) := fun st => cat_tup (by have h2 := cl none (some 1); omega)
  have A8 : ∀ d st, gAdd (.tup (cutD xs none (some r))) (.tup [d]) st = .ok (.tup (cutD xs none (some r) ++ [d]), st) := fun d st => cat_tup (by have h2 := cl none (some r); simp; omega)
  have A8b : ∀ d st, gAdd (.tup (cutD xs none (some r) ++ [d])) (.tup (cutD xs (some (r + 1)) none)) st = .ok (.tup (cutD xs none (some r) ++ [d] ++ cutD xs (some (r + 1)) none), st) := fun d st => cat_tup (by have h1 := cl (some (r + 1)) none; have h2 := cl none (some r); simp; omega)
  have A12 : ∀ d st, gAdd (.tup xs) (.tup [d]) st = .ok (.tup (xs ++ [d]), st) := fun d st => cat_tup (by simp; omega)
  have ri : ∀ st, gAdd (.int r) (.int 1) st = .ok (.int (r + 1), st) := fun st => rfl
  have ng : ∀ i st, gNeg (.int i) st = .ok (.int (-i), st) := fun i st => rfl
  have rv : ∀ st, gRev (.tup xs) st = .ok (.tup xs.reverse, st) := fun st => rfl
  obtain ⟨S1, hS1⟩ : ∃ S1 : List D, S1 = [.tup sw, .tup sw, .tup xs.reverse, .tup (cutD xs (some 1) none ++ cutD xs none (some 1)), .tup (cutD xs none (some (-1))), .tup (xs ++ cutD xs none (some 1)), .lst xs, .non, .tup []] := ⟨_, rfl⟩
  obtain ⟨S2, hS2⟩ : ∃ S2 : List D, S2 = [.tup (cutD xs none (some r) ++ [.bl true] ++ cutD xs (some (r + 1)) none), .tup (xs ++ [.int 99])] := ⟨_, rfl⟩
  obtain ⟨S3, hS3⟩ : ∃ S3 : List D, S3 = [.tup (cutD xs none (some r) ++ [.int (-1)] ++ cutD xs (some (r + 1)) none)] := ⟨_, rfl⟩
  have c12 : ∀ st, gCat (.lst S1) (.lst S2) st = .ok (.lst (S1 ++ S2), st) := fun st => cat_lst (by rw [hS1, hS2]; simp)
  have c23 : ∀ st, gCat (.lst (S1 ++ S2)) (.lst S3) st = .ok (.lst (S1 ++ S2 ++ S3), st) := fun st => cat_lst (by rw [hS1, hS2, hS3]; simp)
  obtain ⟨x, a2, b2, hx, e2⟩ := law_some (k := k) a1' b1' (xs := S1 ++ S2 ++ S3) (by rw [hS1]; simp) (by rw [hS1, hS2, hS3]; simp)
  refine ⟨x, a2, b2, ?_, ?_⟩
  · show runBody ⟨C (k + 2), gl⟩ ⟨2, 6, b__law_near⟩ _ _ = _
    rw [← hxs]
    have z9 : 9 ≤ sizeLine := by unfold sizeLine; omega
    simp [-List.append_assoc, b__law_near, z9, ln, e1, e1', list_tup, ir, iq, ixr, ixq, ← hsw, tuple_lst, sl_tup, A1, rv, ng, A5, A8, ri, A8b, A12]
    rw [← hS1, ← hS2]
    simp [-List.append_assoc, c12, ng, sl_tup, A8, ri, A8b]
    rw [← hS3]
    simp [-List.append_assoc, c23, e2]
  · have sub : ∀ lo hi, ∀ d ∈ cutD xs lo hi, isIntV d = true := fun lo hi d hd => intx d (cut_sub hd)
    have ap : ∀ {p q : List D}, (∀ d ∈ p, isIntV d = true) → (∀ d ∈ q, isIntV d = true) → ∀ d ∈ p ++ q, isIntV d = true := fun h1 h2 d hd => (List.mem_append.mp hd).elim (h1 d) (h2 d)
    have one : ∀ {d0 : D}, isIntV d0 = true → ∀ d ∈ [d0], isIntV d = true := fun h d hd => by rw [List.mem_singleton] at hd; exact hd ▸ h
    rw [hS1, hS2, hS3] at hx
    simp only [List.cons_append, List.nil_append, List.mem_cons, List.not_mem_nil, or_false] at hx
    have q1 := cl (some 1) none
    have q2 := cl none (some r)
    have q3 := cl none (some 1)
    have q4 := cl none (some (-1))
    have q5 := cl (some (r + 1)) none
    have mk : ∀ ys : List D, (∀ d ∈ ys, isIntV d = true) → ys.length ≤ 20 → NearV (.tup ys) ∧ ∀ xs, D.tup ys = .tup xs → xs.length ≤ 20 := fun ys h1 h2 => ⟨.tup ys h1 (by omega), fun zs e => by cases e; exact h2⟩
    rcases hx with rfl | rfl | rfl | rfl | rfl | rfl | rfl | rfl | rfl | rfl | rfl | rfl
    · exact mk _ intsw (by omega)
    · exact mk _ intsw (by omega)
    · exact mk _ (fun d hd => intx d (List.mem_reverse.mp hd)) (by rw [List.length_reverse]; omega)
    · exact mk _ (ap (sub _ _) (sub _ _)) (by rw [List.length_append]; omega)
    · exact mk _ (sub _ _) (by omega)
    · exact mk _ (ap intx (sub _ _)) (by rw [List.length_append]; omega)
    · exact ⟨.lst _, fun xs e => by cases e⟩
    · exact ⟨.non, fun xs e => by cases e⟩
    · exact mk _ (fun d hd => by cases hd) (by simp)
    · exact mk _ (by
        have := ap (ap (sub none (some r)) (one (d0 := .bl true) rfl)) (sub (some (r + 1)) none)
        simpa using this) (by simp; omega)
    · exact mk _ (ap intx (one rfl)) (by simp; omega)
    · exact mk _ (by
        have := ap (ap (sub none (some r)) (one (d0 := .int (-1)) rfl)) (sub (some (r + 1)) none)
        simpa using this) (by simp; omega)
end Kl

set_option Elab.async false
set_option linter.all false
set_option maxRecDepth 100000
set_option maxHeartbeats 1000000
/-! k42: a look at a drawn value; a turn of the law -/
namespace Kl
open PySem PySem.Spec Sn
variable {k : Nat} {st : Store}
def tb : SL := (.cons (.asg (.nm 9) (.cal 20 (.cons (.var 1) (.cons (.op .add (.cst (.int 1)) (.cal 17 (.cons (.var 1) (.cons (.cst (.int 5)) .nil)))) (.cons (.cal 17 (.cons (.var 1) (.cons (.cst (.int 3)) .nil))) .nil))))) (.cons (.asg (.nm 10) (.cal 47 (.cons (.var 9) .nil))) (.cons (.if_ (.or_ (.cons (.cmp .ne (.b1 .repr (.cal 54 (.cons (.var 9) .nil))) (.b1 .repr (.var 10))) (.cons (.and_ (.cons (.cmp .notN (.var 10) (.cst .non)) (.cons (.cmp .notN (.cal 53 (.cons (.var 9) (.cons (.var 10) .nil))) (.cst (.bl true))) .nil))) .nil))) (.cons (.ret (.cst (.bl false))) .nil) .nil) (.cons (.for_ (.r1 (.cst (.int 3))) (.nm 11) (.cons (.asg (.nm 14) (.cal 56 (.cons (.var 1) (.cons (.ite (.cmp .notN (.var 10) (.cst .non)) (.var 10) (.b1 .tup (.cal 21 (.cons (.var 9) .nil)))) .nil)))) (.cons (.own 15 (.lc (.en (.var 9)) (.tp (.cons (.nm 16) (.cons (.nm 17) .nil))) [16, 17] (.some (.cmp .isN (.ix (.var 17) (.cst (.int 1))) (.cst .non))) (.var 16))) (.cons (.give 15) (.cons (.if_ (.and_ (.cons (.cmp .ne (.var 15) (.lst .nil)) (.cons (.isi "tuple" (.var 14)) (.cons (.cmp .eq (.cal 17 (.cons (.var 1) (.cons (.cst (.int 4)) .nil))) (.cst (.int 0))) .nil)))) (.cons (.asg (.nm 14) (.op .add (.var 14) (.tup (.cons (.cal 18 (.cons (.var 1) (.cons (.var 15) .nil))) .nil)))) .nil) .nil) (.cons (.if_ (.cmp .ne (.b1 .repr (.cal 53 (.cons (.var 9) (.cons (.var 14) .nil)))) (.b1 .repr (.cal 55 (.cons (.var 9) (.cons (.var 14) .nil))))) (.cons (.ret (.cst (.bl false))) .nil) .nil) .nil)))))) .nil))))
def tbA : SL := (.cons (.asg (.nm 9) (.cal 20 (.cons (.var 1) (.cons (.op .add (.cst (.int 1)) (.cal 17 (.cons (.var 1) (.cons (.cst (.int 5)) .nil)))) (.cons (.cal 17 (.cons (.var 1) (.cons (.cst (.int 3)) .nil))) .nil))))) (.cons (.asg (.nm 10) (.cal 47 (.cons (.var 9) .nil))) (.cons (.if_ (.or_ (.cons (.cmp .ne (.b1 .repr (.cal 54 (.cons (.var 9) .nil))) (.b1 .repr (.var 10))) (.cons (.and_ (.cons (.cmp .notN (.var 10) (.cst .non)) (.cons (.cmp .notN (.cal 53 (.cons (.var 9) (.cons (.var 10) .nil))) (.cst (.bl true))) .nil))) .nil))) (.cons (.ret (.cst (.bl false))) .nil) .nil) .nil)))
def lookB : SL := (.cons (.asg (.nm 14) (.cal 56 (.cons (.var 1) (.cons (.ite (.cmp .notN (.var 10) (.cst .non)) (.var 10) (.b1 .tup (.cal 21 (.cons (.var 9) .nil)))) .nil)))) (.cons (.own 15 (.lc (.en (.var 9)) (.tp (.cons (.nm 16) (.cons (.nm 17) .nil))) [16, 17] (.some (.cmp .isN (.ix (.var 17) (.cst (.int 1))) (.cst .non))) (.var 16))) (.cons (.give 15) (.cons (.if_ (.and_ (.cons (.cmp .ne (.var 15) (.lst .nil)) (.cons (.isi "tuple" (.var 14)) (.cons (.cmp .eq (.cal 17 (.cons (.var 1) (.cons (.cst (.int 4)) .nil))) (.cst (.int 0))) .nil)))) (.cons (.asg (.nm 14) (.op .add (.var 14) (.tup (.cons (.cal 18 (.cons (.var 1) (.cons (.var 15) .nil))) .nil)))) .nil) .nil) (.cons (.if_ (.cmp .ne (.b1 .repr (.cal 53 (.cons (.var 9) (.cons (.var 14) .nil)))) (.b1 .repr (.cal 55 (.cons (.var 9) (.cons (.var 14) .nil))))) (.cons (.ret (.cst (.bl false))) .nil) .nil) .nil)))))
def lookA : SL := (.cons (.asg (.nm 14) (.cal 56 (.cons (.var 1) (.cons (.ite (.cmp .notN (.var 10) (.cst .non)) (.var 10) (.b1 .tup (.cal 21 (.cons (.var 9) .nil)))) .nil)))) .nil)
def lookC : SL := (.cons (.own 15 (.lc (.en (.var 9)) (.tp (.cons (.nm 16) (.cons (.nm 17) .nil))) [16, 17] (.some (.cmp .isN (.ix (.var 17) (.cst (.int 1))) (.cst .non))) (.var 16))) (.cons (.give 15) (.cons (.if_ (.and_ (.cons (.cmp .ne (.var 15) (.lst .nil)) (.cons (.isi "tuple" (.var 14)) (.cons (.cmp .eq (.cal 17 (.cons (.var 1) (.cons (.cst (.int 4)) .nil))) (.cst (.int 0))) .nil)))) (.cons (.asg (.nm 14) (.op .add (.var 14) (.tup (.cons (.cal 18 (.cons (.var 1) (.cons (.var 15) .nil))) .nil)))) .nil) .nil) (.cons (.if_ (.cmp .ne (.b1 .repr (.cal 53 (.cons (.var 9) (.cons (.var 14) .nil)))) (.b1 .repr (.cal 55 (.cons (.var 9) (.cons (.var 14) .nil))))) (.cons (.ret (.cst (.bl false))) .nil) .nil) .nil))))
theorem repr_bl : ∀ b : Bool, ∃ t, ∀ st, gRepr (.bl b) st = .ok (.str t, st)
  | true => ⟨"True", fun st => by
    have e : reprD (.bl true) = some ("True" : Str) := rfl
    have l : (("True" : String) : Str).length ≤ sizeLine := by unfold sizeLine; decide
    simp [gRepr, e, topR, l, D.depth]⟩
  | false => ⟨"False", fun st => by
    have e : reprD (.bl false) = some ("False" : Str) := rfl
    have l : (("False" : String) : Str).length ≤ sizeLine := by unfold sizeLine; decide
    simp [gRepr, e, topR, l, D.depth]⟩
def openL (h : List De) : List Nat := (List.range h.length).filter fun i => (at_ h i).e.isNone
theorem open_enum {h : List De} {E : En} (hE : E.length = 18) : lcLoop (lcBody (.tp (.cons (.nm 16) (.cons (.nm 17) .nil))) [16, 17] (cT (c2 (c2 (cVar 17) (cPure (.int 1)) gIx2) (cPure .non) gIs)) (cVar 16) E) (enumD 0 (h.map dD)) st = .ok ((openL h).map iD, st) := by
  rw [enum_h, lcLoop_map (g := fun i => if (at_ h i).e.isNone = true then some (iD i) else none)]
  · rw [filterMap_if]; rfl
  · intro i hi
    cases c : (at_ h i).e <;> simp [lcBody, wipeE, hE, iD, c, oD]
theorem lookB_ok (a b : Int) {h : List De} {is : List Nat} {due : D} (o : okH h) (n7 : (doneL h).length ≤ 7) (ne : is ≠ []) (l7 : is.length ≤ 7) (cd : due = .tup (is.map iD) ∨ (due = .non ∧ is = doneL h)) {x0 x2 x3 x4 x5 x6 x7 x8 x11 x12 x13 x14 x15 : Option Sl} :
    ∃ (a' b' : Int) (y14 y15 : Option Sl), denSs ⟨C (k + 8), gl⟩ lookB [x0, some (.val (.ref 0)), x2, x3, x4, x5, x6, x7, x8, some (.val (hD h)), some (.val due), x11, x12, x13, x14, x15, none, none] (St a b) =
      .ok .nx [x0, some (.val (.ref 0)), x2, x3, x4, x5, x6, x7, x8, some (.val (hD h)), some (.val due), x11, x12, x13, y14, y15, none, none] (St a' b') := by
  obtain ⟨v, a1, b1, e1, nv, lv⟩ := law_near (k := k + 5) a b ne l7
  have en := open_enum (h := h) (st := St a1 b1) (E := [x0, some (.val (.ref 0)), x2, x3, x4, x5, x6, x7, x8, some (.val (hD h)), some (.val due), x11, x12, x13, some (.val v), x15, none, none]) rfl
  have it : (hD h).items = some (h.map dD) := rfl
  have hl := o.len
  have ask : ∀ (v : D) (st : Store), NearV v → ∃ b : Bool, C (k + 8) 53 [hD h, v] st = .ok (.bl b, st) ∧ C (k + 8) 55 [hD h, v] st = .ok (.bl b, st) := fun v st nv =>
    ⟨ordV h v, is_order (k := k) o nv.ok.1 nv.ok.2, law_is_order (k := k + 4) o (few_of n7) nv⟩
  have fin : ∀ (v : D), NearV v → ∀ a b, ∃ (b0 : Bool) (t : Str), C (k + 8) 53 [hD h, v] (St a b) = .ok (.bl b0, St a b) ∧ C (k + 8) 55 [hD h, v] (St a b) = .ok (.bl b0, St a b) ∧ (∀ st, gRepr (.bl b0) st = .ok (.str t, st)) := fun v nv a b => by
    obtain ⟨b0, q1, q2⟩ := ask v (St a b) nv
    obtain ⟨t, rt⟩ := repr_bl b0
    exact ⟨b0, t, q1, q2, rt⟩
  -- the near value is drawn by whichever way
  have dr : ∀ (x14 : Option Sl), denSs ⟨C (k + 8), gl⟩ lookA [x0, some (.val (.ref 0)), x2, x3, x4, x5, x6, x7, x8, some (.val (hD h)), some (.val due), x11, x12, x13, x14, x15, none, none] (St a b) =
      .ok .nx [x0, some (.val (.ref 0)), x2, x3, x4, x5, x6, x7, x8, some (.val (hD h)), some (.val due), x11, x12, x13, some (.val v), x15, none, none] (St a1 b1) := fun x14 => by
    rcases cd with rfl | ⟨rfl, e⟩
    · simp [lookA, isnot_tup, e1]
    · have ld := law_done (k := k + 7) (st := St a b) hl
      have nn : ∀ st, gIsNot .non .non st = .ok (.bl false, st) := fun st => rfl
      rw [← e] at ld
      simp [lookA, nn, ld, tuple_lst, e1]
  have iv : gIsi "tuple" v (St a1 b1) = .ok (.bl (isTupV v), St a1 b1) := isi_tuple nv.ok.1
  have eb : lookB = slApp lookA lookC := rfl
  rw [eb]
  by_cases c : openL h = []
  · obtain ⟨b0, t, q1, q2, rt⟩ := fin v nv a1 b1
    have on := ne_nil_iDs (st := St a1 b1) (openL h)
    rw [decide_eq_true c] at on
    refine ⟨a1, b1, some (.val v), some (.val (.lst ((openL h).map iD))), ?_⟩
    rw [slApp_ok lookA lookC _ _ _ _ _ (dr x14)]
    simp [lookC, it, en, on, q1, q2, rt, ne_str]
  · have on := ne_nil_iDs (st := St a1 b1) (openL h)
    rw [decide_eq_false c] at on
    cases tv : isTupV v with
    | false =>
      rw [tv] at iv
      obtain ⟨b0, t, q1, q2, rt⟩ := fin v nv a1 b1
      refine ⟨a1, b1, some (.val v), some (.val (.lst ((openL h).map iD))), ?_⟩
      rw [slApp_ok lookA lookC _ _ _ _ _ (dr x14)]
      simp [lookC, it, en, on, iv, q1, q2, rt, ne_str]
    | true =>
      rw [tv] at iv
      obtain ⟨r, a2, b2, r0, r1, e2⟩ := law_roll (k := k + 7) a1 b1 (n := 4) (by omega) (by omega)
      by_cases z : r = 0
      · subst z
        obtain ⟨x, a3, b3, hx, e3⟩ := law_some (k := k + 6) a2 b2 (xs := (openL h).map iD) (by simpa using c) (by
          rw [List.length_map]
          have := List.length_filter_le (fun i => (at_ h i).e.isNone) (List.range h.length)
          rw [List.length_range] at this
          unfold openL
          omega)
        obtain ⟨i, hi, rfl⟩ := List.mem_map.mp hx
        cases nv with
        | non => cases tv
        | int _ => cases tv
        | lst _ => cases tv
        | tup ys hy ly =>
          have l20 := lv ys rfl
          have ad : ∀ st, gAdd (.tup ys) (.tup [iD i]) st = .ok (.tup (ys ++ [iD i]), st) := fun st => cat_tup (by simp; omega)
          obtain ⟨b0, t, q1, q2, rt⟩ := fin (.tup (ys ++ [iD i])) (.tup _ (fun d hd => by
            rcases List.mem_append.mp hd with hd | hd
            · exact hy d hd
            · rw [List.mem_singleton] at hd
              subst hd
              rfl) (by simp; omega)) a3 b3
          refine ⟨a3, b3, some (.val (.tup (ys ++ [iD i]))), some (.val (.lst ((openL h).map iD))), ?_⟩
          rw [slApp_ok lookA lookC _ _ _ _ _ (dr x14)]
          simp [-List.map_append, lookC, it, en, on, iv, e2, gEq_int, e3, ad, q1, q2, rt, ne_str]
      · obtain ⟨b0, t, q1, q2, rt⟩ := fin v nv a2 b2
        refine ⟨a2, b2, some (.val v), some (.val (.lst ((openL h).map iD))), ?_⟩
        rw [slApp_ok lookA lookC _ _ _ _ _ (dr x14)]
        simp [lookC, it, en, on, iv, e2, gEq_int, z, q1, q2, rt, ne_str]
end Kl

set_option Elab.async false
set_option linter.all false
set_option maxRecDepth 100000
set_option maxHeartbeats 1000000
/-! k42: a turn of the law -/
namespace Kl
open PySem PySem.Spec Sn
variable {k : Nat} {st : Store}
theorem looks (a b : Int) {h : List De} {is : List Nat} {due : D} (o : okH h) (n7 : (doneL h).length ≤ 7) (ne : is ≠ []) (l7 : is.length ≤ 7) (cd : due = .tup (is.map iD) ∨ (due = .non ∧ is = doneL h)) {x0 x2 x3 x4 x5 x6 x7 x8 x11 x12 x13 x14 x15 : Option Sl} :
    ∃ (a' b' : Int) (y11 y14 y15 : Option Sl), forRun (.nm 11) (denSs ⟨C (k + 8), gl⟩ lookB) ([D.int 0, D.int 1, D.int 2]) [x0, some (.val (.ref 0)), x2, x3, x4, x5, x6, x7, x8, some (.val (hD h)), some (.val due), x11, x12, x13, x14, x15, none, none] (St a b) =
      .ok .nx [x0, some (.val (.ref 0)), x2, x3, x4, x5, x6, x7, x8, some (.val (hD h)), some (.val due), y11, x12, x13, y14, y15, none, none] (St a' b') := by
  obtain ⟨env2, st2, f, a1, b1, y11, y14, y15, rfl, rfl⟩ := forRun_inv (t := .nm 11) (g := denSs ⟨C (k + 8), gl⟩ lookB) (enc := iD) (xs := [0, 1, 2]) (fun pre env st2 => ∃ (a' b' : Int) (y11 y14 y15 : Option Sl), st2 = St a' b' ∧ env = [x0, some (.val (.ref 0)), x2, x3, x4, x5, x6, x7, x8, some (.val (hD h)), some (.val due), y11, x12, x13, y14, y15, none, none]) (fun pre i post env st2 e j => by
    obtain ⟨a', b', y11, y14, y15, rfl, rfl⟩ := j
    obtain ⟨a2, b2, z14, z15, t⟩ := lookB_ok (k := k) a' b' o n7 ne l7 cd (x0 := x0) (x2 := x2) (x3 := x3) (x4 := x4) (x5 := x5) (x6 := x6) (x7 := x7) (x8 := x8) (x11 := some (.val (iD i))) (x12 := x12) (x13 := x13) (x14 := y14) (x15 := y15)
    exact ⟨_, _, _, rfl, t, a2, b2, _, z14, z15, rfl, rfl⟩) [] [0, 1, 2] [x0, some (.val (.ref 0)), x2, x3, x4, x5, x6, x7, x8, some (.val (hD h)), some (.val due), x11, x12, x13, x14, x15, none, none] (St a b) rfl ⟨a, b, x11, x14, x15, rfl, rfl⟩
  exact ⟨a1, b1, y11, y14, y15, f⟩
theorem range3 : (List.range 3).map (fun i => D.int (i : Nat)) = [D.int 0, D.int 1, D.int 2] := rfl
theorem repr_non : ∃ t, ∀ st, gRepr .non st = .ok (.str t, st) := ⟨"None", fun st => by
  have e : reprD .non = some ("None" : Str) := rfl
  have l : (("None" : String) : Str).length ≤ sizeLine := by unfold sizeLine; decide
  simp [gRepr, e, topR, l, D.depth]⟩
theorem tb_ok (a b : Int) {x0 x2 x3 x4 x5 x6 x7 x8 x9 x10 x11 x12 x13 x14 x15 : Option Sl} : ∃ (a' b' : Int) (y9 y10 y11 y14 y15 : Option Sl),
    denSs ⟨C (k + 8), gl⟩ tb [x0, some (.val (.ref 0)), x2, x3, x4, x5, x6, x7, x8, x9, x10, x11, x12, x13, x14, x15, none, none] (St a b) =
      .ok .nx [x0, some (.val (.ref 0)), x2, x3, x4, x5, x6, x7, x8, y9, y10, y11, x12, x13, y14, y15, none, none] (St a' b') := by
  obtain ⟨r1, a1, b1, r10, r11, e1⟩ := law_roll (k := k + 7) a b (n := 5) (by omega) (by omega)
  obtain ⟨r2, a2, b2, r20, r21, e2⟩ := law_roll (k := k + 7) a1 b1 (n := 3) (by omega) (by omega)
  obtain ⟨h, a3, b3, cs, os, e3, o, pm, lc, lo, hc, hos⟩ := law_history_full (k := k + 4) a2 b2 (m := (1 + r1).toNat) (o := r2.toNat) (by omega) (by omega)
  rw [Int.toNat_of_nonneg (by omega), Int.toNat_of_nonneg r20] at e3
  have dc := done_count pm hc hos
  have n7 : (doneL h).length ≤ 7 := by omega
  have nd : doneL h ≠ [] := fun z => by rw [z] at dc; simp at dc; omega
  have hl := o.len
  have lf := law_first (k := k + 4) (st := St a3 b3) o (few_of n7)
  have of := order_of (k := k) (st := St a3 b3) o
  have fo := first_ok h
  by_cases l : (firstO h).length = (doneL h).length
  · rw [if_pos l] at lf of
    have nf := nearFirst h hl
    have io := is_order (k := k) (st := St a3 b3) o nf.ok.1 nf.ok.2
    rw [ok_first l] at io
    obtain ⟨t, q⟩ := repr_nats (is := firstO h) (fun i hi => by
      have := done_lt (fo.sub i hi)
      omega) (by omega)
    have nn : ∀ st, gIsNot (.bl true) (.bl true) st = .ok (.bl false, st) := fun st => rfl
    obtain ⟨a6, b6, y11, y14, y15, f⟩ := looks (k := k) a3 b3 (is := firstO h) (due := .tup ((firstO h).map iD)) o n7 (fun z => by rw [z] at l; simp at l; omega) (by omega) (.inl rfl) (x0 := x0) (x2 := x2) (x3 := x3) (x4 := x4) (x5 := x5) (x6 := x6) (x7 := x7) (x8 := x8) (x11 := x11) (x12 := x12) (x13 := x13) (x14 := x14) (x15 := x15)
    refine ⟨a6, b6, some (.val (hD h)), some (.val (.tup ((firstO h).map iD))), y11, y14, y15, ?_⟩
    generalize hG : denSs ⟨C (k + 8), gl⟩ lookB = LB at f
    have et : tb = slApp tbA (.cons (.for_ (.r1 (.cst (.int 3))) (.nm 11) lookB) .nil) := rfl
    have g1 : denSs ⟨C (k + 8), gl⟩ tbA [x0, some (.val (.ref 0)), x2, x3, x4, x5, x6, x7, x8, x9, x10, x11, x12, x13, x14, x15, none, none] (St a b) = .ok .nx [x0, some (.val (.ref 0)), x2, x3, x4, x5, x6, x7, x8, some (.val (hD h)), some (.val (.tup ((firstO h).map iD))), x11, x12, x13, x14, x15, none, none] (St a3 b3) := by
      simp [tbA, add_int, e1, e2, e3, lf, of, q, ne_str, isnot_tup, io, nn]
    rw [et, slApp_ok tbA _ _ _ _ _ _ g1]
    simp [hG, range3, f]
  · rw [if_neg l] at lf of
    obtain ⟨t, q⟩ := repr_non
    have nn : ∀ st, gIsNot .non .non st = .ok (.bl false, st) := fun st => rfl
    obtain ⟨a6, b6, y11, y14, y15, f⟩ := looks (k := k) a3 b3 (is := doneL h) (due := .non) o n7 nd n7 (.inr ⟨rfl, rfl⟩) (x0 := x0) (x2 := x2) (x3 := x3) (x4 := x4) (x5 := x5) (x6 := x6) (x7 := x7) (x8 := x8) (x11 := x11) (x12 := x12) (x13 := x13) (x14 := x14) (x15 := x15)
    refine ⟨a6, b6, some (.val (hD h)), some (.val .non), y11, y14, y15, ?_⟩
    generalize hG : denSs ⟨C (k + 8), gl⟩ lookB = LB at f
    have et : tb = slApp tbA (.cons (.for_ (.r1 (.cst (.int 3))) (.nm 11) lookB) .nil) := rfl
    have g1 : denSs ⟨C (k + 8), gl⟩ tbA [x0, some (.val (.ref 0)), x2, x3, x4, x5, x6, x7, x8, x9, x10, x11, x12, x13, x14, x15, none, none] (St a b) = .ok .nx [x0, some (.val (.ref 0)), x2, x3, x4, x5, x6, x7, x8, some (.val (hD h)), some (.val .non), x11, x12, x13, x14, x15, none, none] (St a3 b3) := by
      simp [tbA, add_int, e1, e2, e3, lf, of, q, ne_str, nn]
    rw [et, slApp_ok tbA _ _ _ _ _ _ g1]
    simp [hG, range3, f]
end Kl

set_option Elab.async false
set_option linter.all false
set_option maxRecDepth 100000
set_option maxHeartbeats 1000000
/-! k42: fixed histories -/
namespace Kl
open PySem PySem.Spec Sn
variable {k : Nat} {st : Store}
def tA : SL := (.cons (.asg (.tp (.cons (.nm 12) (.cons (.nm 13) .nil))) (.cal 28 .nil)) (.cons (.if_ (.or_ (.cons (.cmp .notN (.cal 54 (.cons (.var 13) .nil)) (.cst .non)) (.cons (.cmp .ne (.cal 54 (.cons (.sl false (.var 13) .none (.some (.cst (.int 2)))) .nil)) (.tup (.cons (.cst (.int 1)) (.cons (.cst (.int 0)) .nil)))) (.cons (.cmp .ne (.cal 54 (.cons (.var 12) .nil)) (.tup (.cons (.cst (.int 0)) .nil))) (.cons (.cmp .ne (.cal 54 (.cons (.tup .nil) .nil)) (.tup .nil)) .nil))))) (.cons (.ret (.cst (.bl false))) .nil) .nil) (.cons (.if_ (.or_ (.cons (.cmp .notN (.cal 53 (.cons (.var 12) (.cons (.tup (.cons (.cst (.int 0)) .nil)) .nil))) (.cst (.bl true))) (.cons (.cmp .notN (.cal 53 (.cons (.tup .nil) (.cons (.tup .nil) .nil))) (.cst (.bl true))) .nil))) (.cons (.ret (.cst (.bl false))) .nil) .nil) .nil)))
def oddB : SL := (.cons (.if_ (.cmp .notN (.cal 53 (.cons (.var 12) (.cons (.var 3) .nil))) (.cst (.bl false))) (.cons (.ret (.cst (.bl false))) .nil) .nil) .nil)
def tO : SL := (.cons (.for_ (.e (.tup (.cons (.tup (.cons (.cst (.int 0)) (.cons (.cst (.int 1)) .nil))) (.cons (.tup (.cons (.cst (.int 1)) (.cons (.cst (.int 0)) .nil))) (.cons (.tup .nil) (.cons (.tup (.cons (.cst (.int 1)) .nil)) (.cons (.tup (.cons (.cst (.int 0)) (.cons (.cst (.int 0)) .nil))) (.cons (.tup (.cons (.cst (.int 0)) (.cons (.cst (.bl true)) .nil))) (.cons (.tup (.cons (.cst (.int 0)) (.cons (.cst .non) .nil))) (.cons (.tup (.cons (.lst (.cons (.cst (.int 0)) .nil)) .nil)) (.cons (.tup (.cons (.cst (.str "0")) .nil)) (.cons (.lst (.cons (.cst (.int 0)) .nil)) (.cons (.cst (.int 0)) (.cons (.tup (.cons (.cst (.int 2)) .nil)) .nil)))))))))))))) (.nm 3) (.cons (.if_ (.cmp .notN (.cal 53 (.cons (.var 12) (.cons (.var 3) .nil))) (.cst (.bl false))) (.cons (.ret (.cst (.bl false))) .nil) .nil) .nil)) .nil)
def tH : SL := (.cons (.asg (.nm 4) (.tup (.cons (.tup (.cons (.cst (.int 0)) (.cons (.cst (.int 2)) (.cons (.tup .nil) (.cons (.tup .nil) .nil))))) (.cons (.tup (.cons (.cst (.int 0)) (.cons (.cst (.int 0)) (.cons (.tup .nil) (.cons (.tup .nil) .nil))))) (.cons (.tup (.cons (.cst (.int 0)) (.cons (.cst (.int 1)) (.cons (.tup .nil) (.cons (.tup .nil) .nil))))) .nil))))) (.cons (.asg (.nm 5) (.tup (.cons (.tup (.cons (.cst (.int 2)) (.cons (.cst (.int 2)) (.cons (.tup .nil) (.cons (.tup .nil) .nil))))) (.cons (.tup (.cons (.cst (.int 0)) (.cons (.cst (.int 0)) (.cons (.tup .nil) (.cons (.tup .nil) .nil))))) (.cons (.tup (.cons (.cst (.int 1)) (.cons (.cst (.int 1)) (.cons (.tup .nil) (.cons (.tup .nil) .nil))))) .nil))))) (.cons (.asg (.nm 6) (.tup (.cons (.tup (.cons (.cst (.int 0)) (.cons (.cst (.int 0)) (.cons (.tup .nil) (.cons (.tup (.cons (.tup (.cons (.cst (.int 0)) (.cons (.cst (.int 1)) .nil))) .nil)) .nil))))) (.cons (.tup (.cons (.cst (.int 0)) (.cons (.cst (.int 1)) (.cons (.tup (.cons (.tup (.cons (.cst (.int 0)) (.cons (.cst .non) .nil))) .nil)) (.cons (.tup (.cons (.tup (.cons (.cst (.int 0)) (.cons (.cst (.int 2)) .nil))) .nil)) .nil))))) (.cons (.tup (.cons (.cst (.int 0)) (.cons (.cst (.int 2)) (.cons (.tup (.cons (.tup (.cons (.cst (.int 0)) (.cons (.cst (.int 2)) .nil))) .nil)) (.cons (.tup .nil) .nil))))) (.cons (.tup (.cons (.cst (.int 0)) (.cons (.cst .non) (.cons (.tup (.cons (.tup (.cons (.cst (.int 0)) (.cons (.cst (.int 2)) .nil))) .nil)) (.cons (.tup .nil) .nil))))) .nil)))))) .nil)))
def tR : SL := (.cons (.asg (.nm 7) (.lst (.cons (.tup (.cons (.var 4) (.cons (.tup (.cons (.cst (.int 0)) (.cons (.cst (.int 1)) (.cons (.cst (.int 2)) .nil)))) .nil))) (.cons (.tup (.cons (.var 5) (.cons (.tup (.cons (.cst (.int 1)) (.cons (.cst (.int 2)) (.cons (.cst (.int 0)) .nil)))) .nil))) (.cons (.tup (.cons (.var 6) (.cons (.tup (.cons (.cst (.int 2)) (.cons (.cst (.int 1)) (.cons (.cst (.int 0)) .nil)))) .nil))) (.cons (.tup (.cons (.sl false (.var 6) .none (.some (.cst (.int 2)))) (.cons (.tup (.cons (.cst (.int 1)) (.cons (.cst (.int 0)) .nil))) .nil))) (.cons (.tup (.cons (.sl false (.var 6) .none (.some (.cst (.int 1)))) (.cons (.tup (.cons (.cst (.int 0)) .nil)) .nil))) .nil))))))) (.cons (.if_ (.cmp .ne (.lc (.e (.var 7)) (.tp (.cons (.nm 9) (.cons (.nm 10) .nil))) [9, 10] (.some (.cmp .ne (.b1 .repr (.cal 54 (.cons (.var 9) .nil))) (.b1 .repr (.var 10)))) (.var 9)) (.lst .nil)) (.cons (.ret (.cst (.bl false))) .nil) .nil) .nil))
def tW : SL := (.cons (.asg (.nm 8) (.b1 .tup (.lc (.r1 (.cst (.int 30))) (.nm 16) [16] .none (.tup (.cons (.var 16) (.cons (.var 16) (.cons (.tup (.cons (.tup (.cons (.cst (.int 0)) (.cons (.var 16) .nil))) .nil)) (.cons (.tup (.cons (.tup (.cons (.cst (.int 0)) (.cons (.var 16) .nil))) .nil)) .nil)))))))) .nil)
def tF : SL := (.cons (.ret (.and_ (.cons (.cmp .eq (.cal 54 (.cons (.var 8) .nil)) (.trg (.cst (.int 30)))) (.cons (.cmp .eq (.cal 54 (.cons (.rev (.var 8)) .nil)) (.trd (.cons (.cst (.int 29)) (.cons (.neg (.cst (.int 1))) (.cons (.neg (.cst (.int 1))) .nil))))) (.cons (.cmp .isN (.cal 53 (.cons (.var 8) (.cons (.rev (.trg (.cst (.int 30)))) .nil))) (.cst (.bl false))) .nil))))) .nil)
theorem fix_order {h : List De} {is : List Nat} (e : okHB h = true) (f : (decide (firstO h = is) && decide (is.length = (doneL h).length)) = true) : C (k + 8) 54 [hD h] st = .ok (.tup (is.map iD), st) := by
  simp only [Bool.and_eq_true, decide_eq_true_eq] at f
  have := order_of (k := k) (st := st) (okHB_ok e)
  rw [f.1, if_pos f.2] at this
  exact this
theorem fix_none {h : List De} (e : okHB h = true) (f : decide ((firstO h).length = (doneL h).length) = false) : C (k + 8) 54 [hD h] st = .ok (.non, st) := by
  rw [decide_eq_false_iff_not] at f
  have := order_of (k := k) (st := st) (okHB_ok e)
  rw [if_neg f] at this
  exact this
def okW (v : D) : Bool := okV v && match v with
  | .tup xs => xs.all okV && decide (xs.length < 63)
  | _ => true
theorem fix_ord {h : List De} {v : D} {b : Bool} (e : okHB h = true) (w : okW v = true) (q : ordV h v = b) : C (k + 8) 53 [hD h, v] st = .ok (.bl b, st) := by
  unfold okW at w
  rw [Bool.and_eq_true] at w
  rw [← q]
  refine is_order (okHB_ok e) w.1 fun xs ex => ?_
  subst ex
  have w2 := w.2
  simp only [Bool.and_eq_true, List.all_eq_true, decide_eq_true_eq] at w2
  exact w2
def odds : List D := [.tup [.int 0, .int 1], .tup [.int 1, .int 0], .tup [], .tup [.int 1], .tup [.int 0, .int 0], .tup [.int 0, .bl true], .tup [.int 0, .non], .tup [.lst [.int 0]], .tup [.str "0"], .lst [.int 0], .int 0, .tup [.int 2]]
def alone : List De := [⟨0, some 2, [], []⟩, ⟨0, some 0, [], []⟩, ⟨0, some 1, [], []⟩]
def seen : List De := [⟨2, some 2, [], []⟩, ⟨0, some 0, [], []⟩, ⟨1, some 1, [], []⟩]
def turned : List De := [⟨0, some 0, [], [(0, some 1)]⟩, ⟨0, some 1, [(0, none)], [(0, some 2)]⟩, ⟨0, some 2, [(0, some 2)], []⟩, ⟨0, none, [(0, some 2)], []⟩]
def rowsL : List (List De × List Nat) := [(alone, [0, 1, 2]), (seen, [1, 2, 0]), (turned, [2, 1, 0]), (turned.take 2, [1, 0]), (turned.take 1, [0])]
def rowD (p : List De × List Nat) : D := .tup [hD p.1, .tup (p.2.map iD)]
def wide : List De := (List.range 30).map fun (i : Nat) => ⟨(i : Int), some (Int.ofNat i), [((0 : Int), some (i : Int))], [((0 : Int), some (i : Int))]⟩
theorem rows_ok : rowsL.all (fun p => okHB p.1 && (decide (firstO p.1 = p.2) && decide (p.2.length = (doneL p.1).length)) && p.2.all (fun i => decide (i < 30)) && decide (p.2.length ≤ 30)) = true := by decide +kernel
theorem odds_ok : odds.all (fun v => okW v && !ordV both v) = true := by decide +kernel
theorem wide_ok : okHB wide = true := by decide +kernel
theorem wide_rev : okHB wide.reverse = true := by decide +kernel
theorem wide_1 : (decide (firstO wide = List.range 30) && decide ((List.range 30).length = (doneL wide).length)) = true := by decide +kernel
theorem wide_2 : (decide (firstO wide.reverse = (List.range 30).reverse) && decide ((List.range 30).reverse.length = (doneL wide.reverse).length)) = true := by decide +kernel
theorem wide_3 : ordV wide (.tup ((List.range 30).reverse.map iD)) = false := by decide +kernel
theorem wide_4 : okW (.tup ((List.range 30).reverse.map iD)) = true := by decide +kernel
theorem eq_tupN (is : List Nat) : gEq (.tup (is.map iD)) (.tup (is.map iD)) st = .ok (.bl true, st) := by
  have z1 := depths_ints (ofN is)
  have p := plains_ints (ofN is)
  have e := eqvs_ints (ofN is) (ofN is)
  rw [ofN_D] at z1 p e
  simp [gEq, D.can, D.plain, D.depth, D.eqv, p, e, z1]
theorem ne_tupN (is js : List Nat) : gNe (.tup (is.map iD)) (.tup (js.map iD)) st = .ok (.bl (!decide (is = js)), st) := by
  have z1 := depths_ints (ofN is)
  have z2 := depths_ints (ofN js)
  have p1 := plains_ints (ofN is)
  have p2 := plains_ints (ofN js)
  have e := eqvs_ints (ofN is) (ofN js)
  rw [ofN_D] at z1 z2 p1 p2
  rw [ofN_D, ofN_D] at e
  have i : decide (ofN is = ofN js) = decide (is = js) := by
    rw [Bool.eq_iff_iff, decide_eq_true_eq, decide_eq_true_eq]
    constructor
    · intro h
      unfold ofN at h
      exact (List.map_inj_right fun a b h => by injection h).mp h
    · rintro rfl
      rfl
  rw [i] at e
  simp [gNe, D.can, D.plain, D.depth, D.eqv, p1, p2, e, z1, z2]
theorem tA_ok {x0 x1 x2 x3 x4 x5 x6 x7 x8 x9 x10 x11 x12 x13 x14 x15 x16 x17 : Option Sl} :
    denSs ⟨C (k + 8), gl⟩ tA [x0, x1, x2, x3, x4, x5, x6, x7, x8, x9, x10, x11, x12, x13, x14, x15, x16, x17] st =
      .ok .nx [x0, x1, x2, x3, x4, x5, x6, x7, x8, x9, x10, x11, some (.val (hD both)), some (.val (hD three)), x14, x15, x16, x17] st := by
  have p0 := law_two (k := k + 7) (st := st)
  have o1 := fix_none (k := k) (st := st) (h := three) (by decide +kernel) (by decide +kernel)
  have o2 := fix_order (k := k) (st := st) (h := three.take 2) (is := [1, 0]) (by decide +kernel) (by decide +kernel)
  have o3 := fix_order (k := k) (st := st) (h := both) (is := [0]) (by decide +kernel) (by decide +kernel)
  have o4 := fix_order (k := k) (st := st) (h := []) (is := []) (by decide +kernel) (by decide +kernel)
  have o4' : C (k + 8) 54 [.tup []] st = .ok (.tup [], st) := o4
  have i1 := fix_ord (k := k) (st := st) (h := both) (v := .tup [.int 0]) (b := true) (by decide +kernel) (by decide +kernel) (by decide +kernel)
  have i2 := fix_ord (k := k) (st := st) (h := []) (v := .tup []) (b := true) (by decide +kernel) (by decide +kernel) (by decide +kernel)
  have i2' : C (k + 8) 53 [.tup [], .tup []] st = .ok (.bl true, st) := i2
  have s2 : ∀ st, gSl (hD three) none (some 2) st = .ok (hD (three.take 2), st) := fun st => rfl
  have n1 : gNe (.tup ([1, 0].map iD)) (.tup [.int 1, .int 0]) st = .ok (.bl false, st) := ne_tupN [1, 0] [1, 0]
  have n2 : gNe (.tup ([0].map iD)) (.tup [.int 0]) st = .ok (.bl false, st) := ne_tupN [0] [0]
  have n3 : gNe (.tup []) (.tup []) st = .ok (.bl false, st) := ne_tupN [] []
  have nn : ∀ st, gIsNot .non .non st = .ok (.bl false, st) := fun st => rfl
  have nt : ∀ st, gIsNot (.bl true) (.bl true) st = .ok (.bl false, st) := fun st => rfl
  simp [-List.map_cons, tA, p0, o1, nn, s2, o2, n1, o3, n2, o4', n3, i1, i2', nt]
theorem tO_ok {x0 x1 x2 x3 x4 x5 x6 x7 x8 x9 x10 x11 x13 x14 x15 x16 x17 : Option Sl} :
    ∃ y3, denSs ⟨C (k + 8), gl⟩ tO [x0, x1, x2, x3, x4, x5, x6, x7, x8, x9, x10, x11, some (.val (hD both)), x13, x14, x15, x16, x17] st =
      .ok .nx [x0, x1, x2, y3, x4, x5, x6, x7, x8, x9, x10, x11, some (.val (hD both)), x13, x14, x15, x16, x17] st := by
  obtain ⟨env2, st2, f, rfl, y3, rfl⟩ := forRun_inv (t := .nm 3) (g := denSs ⟨C (k + 8), gl⟩ oddB) (enc := id) (xs := odds) (fun pre env st2 => st2 = st ∧ ∃ y3, env = [x0, x1, x2, y3, x4, x5, x6, x7, x8, x9, x10, x11, some (.val (hD both)), x13, x14, x15, x16, x17]) (fun pre v post env st2 e j => by
    obtain ⟨rfl, y3, rfl⟩ := j
    have m : v ∈ odds := by rw [e]; simp
    have w := List.all_eq_true.mp odds_ok v m
    rw [Bool.and_eq_true, Bool.not_eq_true'] at w
    have i1 := fix_ord (k := k) (st := st2) (h := both) (v := v) (b := false) (by decide +kernel) w.1 w.2
    have nt : ∀ st, gIsNot (.bl false) (.bl false) st = .ok (.bl false, st) := fun st => rfl
    refine ⟨_, [x0, x1, x2, some (.val v), x4, x5, x6, x7, x8, x9, x10, x11, some (.val (hD both)), x13, x14, x15, x16, x17], st2, rfl, ?_, rfl, _, rfl⟩
    simp [oddB, i1, nt]) [] odds [x0, x1, x2, x3, x4, x5, x6, x7, x8, x9, x10, x11, some (.val (hD both)), x13, x14, x15, x16, x17] st rfl ⟨rfl, x3, rfl⟩
  refine ⟨y3, ?_⟩
  rw [List.map_id] at f
  have zs : ∀ n, n ≤ 20 → n ≤ sizeLine := fun n h => by unfold sizeLine; omega
  have et : tO = .cons (.for_ (.e (.tup (.cons (.tup (.cons (.cst (.int 0)) (.cons (.cst (.int 1)) .nil))) (.cons (.tup (.cons (.cst (.int 1)) (.cons (.cst (.int 0)) .nil))) (.cons (.tup .nil) (.cons (.tup (.cons (.cst (.int 1)) .nil)) (.cons (.tup (.cons (.cst (.int 0)) (.cons (.cst (.int 0)) .nil))) (.cons (.tup (.cons (.cst (.int 0)) (.cons (.cst (.bl true)) .nil))) (.cons (.tup (.cons (.cst (.int 0)) (.cons (.cst .non) .nil))) (.cons (.tup (.cons (.lst (.cons (.cst (.int 0)) .nil)) .nil)) (.cons (.tup (.cons (.cst (.str "0")) .nil)) (.cons (.lst (.cons (.cst (.int 0)) .nil)) (.cons (.cst (.int 0)) (.cons (.tup (.cons (.cst (.int 2)) .nil)) .nil)))))))))))))) (.nm 3) oddB) .nil := rfl
  have eo : odds = [.tup [.int 0, .int 1], .tup [.int 1, .int 0], .tup [], .tup [.int 1], .tup [.int 0, .int 0], .tup [.int 0, .bl true], .tup [.int 0, .non], .tup [.lst [.int 0]], .tup [.str "0"], .lst [.int 0], .int 0, .tup [.int 2]] := rfl
  rw [eo] at f
  generalize hG : denSs ⟨C (k + 8), gl⟩ oddB = OB at f
  rw [et]
  simp [hG, zs, f]
theorem tH_ok {x0 x1 x2 x3 x4 x5 x6 x7 x8 x9 x10 x11 x12 x13 x14 x15 x16 x17 : Option Sl} :
    denSs ⟨C (k + 8), gl⟩ tH [x0, x1, x2, x3, x4, x5, x6, x7, x8, x9, x10, x11, x12, x13, x14, x15, x16, x17] st =
      .ok .nx [x0, x1, x2, x3, some (.val (hD alone)), some (.val (hD seen)), some (.val (hD turned)), x7, x8, x9, x10, x11, x12, x13, x14, x15, x16, x17] st := by
  have zs : ∀ n, n ≤ 20 → n ≤ sizeLine := fun n h => by unfold sizeLine; omega
  simp [tH, zs]
  exact ⟨rfl, rfl, rfl⟩
theorem tR_ok {x0 x1 x2 x3 x7 x8 x9 x10 x11 x12 x13 x14 x15 x16 x17 : Option Sl} :
    ∃ y7, denSs ⟨C (k + 8), gl⟩ tR [x0, x1, x2, x3, some (.val (hD alone)), some (.val (hD seen)), some (.val (hD turned)), x7, x8, x9, x10, x11, x12, x13, x14, x15, x16, x17] st =
      .ok .nx [x0, x1, x2, x3, some (.val (hD alone)), some (.val (hD seen)), some (.val (hD turned)), y7, x8, x9, x10, x11, x12, x13, x14, x15, x16, x17] st := by
  have zs : ∀ n, n ≤ 20 → n ≤ sizeLine := fun n h => by unfold sizeLine; omega
  have s2 : ∀ st, gSl (hD turned) none (some 2) st = .ok (hD (turned.take 2), st) := fun st => rfl
  have s1 : ∀ st, gSl (hD turned) none (some 1) st = .ok (hD (turned.take 1), st) := fun st => rfl
  have l1 : ∀ x7, lcLoop (lcBody (.tp (.cons (.nm 9) (.cons (.nm 10) .nil))) [9, 10] (cT (c2 (c1 (cCal (C (k + 8) 54) (lCons (cVar 9) lNil)) gRepr) (c1 (cVar 10) gRepr) gNe)) (cVar 9) [x0, x1, x2, x3, some (.val (hD alone)), some (.val (hD seen)), some (.val (hD turned)), x7, x8, x9, x10, x11, x12, x13, x14, x15, x16, x17]) (rowsL.map rowD) st = .ok ([], st) := fun x7 => by
    rw [lcLoop_map (g := fun _ => none)]
    · simp
    · intro p hp
      have w := List.all_eq_true.mp rows_ok p hp
      simp only [Bool.and_eq_true] at w
      obtain ⟨⟨⟨w1, w2⟩, w3⟩, w4⟩ := w
      have o1 := fix_order (k := k) (st := st) w1 (by rw [Bool.and_eq_true]; exact w2)
      obtain ⟨t, q⟩ := repr_nats (is := p.2) (fun i hi => by simpa using List.all_eq_true.mp w3 i hi) (by rw [decide_eq_true_eq] at w4; omega)
      simp [lcBody, wipeE, rowD, o1, q, ne_str]
  have er : rowsL.map rowD = [.tup [hD alone, .tup [.int 0, .int 1, .int 2]], .tup [hD seen, .tup [.int 1, .int 2, .int 0]], .tup [hD turned, .tup [.int 2, .int 1, .int 0]], .tup [hD (turned.take 2), .tup [.int 1, .int 0]], .tup [hD (turned.take 1), .tup [.int 0]]] := rfl
  rw [er] at l1
  have nl : gNe (.lst []) (.lst []) st = .ok (.bl false, st) := ne_nil_iDs []
  refine ⟨some (.val (.lst [.tup [hD alone, .tup [.int 0, .int 1, .int 2]], .tup [hD seen, .tup [.int 1, .int 2, .int 0]], .tup [hD turned, .tup [.int 2, .int 1, .int 0]], .tup [hD (turned.take 2), .tup [.int 1, .int 0]], .tup [hD (turned.take 1), .tup [.int 0]]])), ?_⟩
  simp [tR, zs, s2, s1, l1, nl]
theorem tW_ok {x0 x1 x2 x3 x4 x5 x6 x7 x8 x9 x10 x11 x12 x13 x14 x15 x16 x17 : Option Sl} :
    denSs ⟨C (k + 8), gl⟩ tW [x0, x1, x2, x3, x4, x5, x6, x7, x8, x9, x10, x11, x12, x13, x14, x15, x16, x17] st =
      .ok .nx [x0, x1, x2, x3, x4, x5, x6, x7, some (.val (hD wide)), x9, x10, x11, x12, x13, x14, x15, x16, x17] st := by
  have zs : ∀ n, n ≤ 20 → n ≤ sizeLine := fun n h => by unfold sizeLine; omega
  have l1 : lcLoop (lcBody (.nm 16) [16] cYes (cTup (lCons (cVar 16) (lCons (cVar 16) (lCons (cTup (lCons (cTup (lCons (cPure (.int 0)) (lCons (cVar 16) lNil))) lNil)) (lCons (cTup (lCons (cTup (lCons (cPure (.int 0)) (lCons (cVar 16) lNil))) lNil)) lNil))))) [x0, x1, x2, x3, x4, x5, x6, x7, x8, x9, x10, x11, x12, x13, x14, x15, x16, x17]) ((List.range 30).map iD) st = .ok (wide.map dD, st) := by
    unfold wide
    rw [List.map_map]
    refine lcLoop_all fun i hi => ?_
    simp [lcBody, wipeE, cYes, zs]
    rfl
  have er : (List.range 30).map iD = (List.range 30).map fun i => D.int (i : Nat) := rfl
  rw [er] at l1
  simp [-List.map_map, tW, l1, tuple_lst]
  rfl
theorem tF_gen {U V : D} {F G : List D} {x0 x1 x2 x3 x4 x5 x6 x7 x9 x10 x11 x12 x13 x14 x15 x16 x17 : Option Sl}
    (o1 : C (k + 8) 54 [U] st = .ok (.tup F, st)) (o2 : C (k + 8) 54 [V] st = .ok (.tup G, st)) (i1 : C (k + 8) 53 [U, .tup G] st = .ok (.bl false, st))
    (tr : gTrg (.int 30) st = .ok (.tup F, st)) (td : gTrd [.int 29, .int (-1), .int (-1)] st = .ok (.tup G, st)) (r1 : gRev U st = .ok (V, st)) (r2 : gRev (.tup F) st = .ok (.tup G, st))
    (e1 : gEq (.tup F) (.tup F) st = .ok (.bl true, st)) (e2 : gEq (.tup G) (.tup G) st = .ok (.bl true, st)) :
    denSs ⟨C (k + 8), gl⟩ tF [x0, x1, x2, x3, x4, x5, x6, x7, some (.val U), x9, x10, x11, x12, x13, x14, x15, x16, x17] st =
      .ok (.rt (.bl true)) [x0, x1, x2, x3, x4, x5, x6, x7, some (.val U), x9, x10, x11, x12, x13, x14, x15, x16, x17] st := by
  have ng : ∀ i st, gNeg (.int i) st = .ok (.int (-i), st) := fun i st => rfl
  have ii : ∀ st, gIs (.bl false) (.bl false) st = .ok (.bl true, st) := fun st => rfl
  simp [tF, o1, tr, e1, r1, o2, ng, td, e2, r2, i1, ii]
theorem tF_ok {x0 x1 x2 x3 x4 x5 x6 x7 x9 x10 x11 x12 x13 x14 x15 x16 x17 : Option Sl} :
    denSs ⟨C (k + 8), gl⟩ tF [x0, x1, x2, x3, x4, x5, x6, x7, some (.val (hD wide)), x9, x10, x11, x12, x13, x14, x15, x16, x17] st =
      .ok (.rt (.bl true)) [x0, x1, x2, x3, x4, x5, x6, x7, some (.val (hD wide)), x9, x10, x11, x12, x13, x14, x15, x16, x17] st := by
  have o1 := fix_order (k := k) (st := st) wide_ok wide_1
  have o2 := fix_order (k := k) (st := st) wide_rev wide_2
  have i1 := fix_ord (k := k) (st := st) wide_ok wide_4 wide_3
  have tr : ∀ st, gTrg (.int 30) st = .ok (.tup ((List.range 30).map iD), st) := fun st => by
    unfold gTrg
    dsimp only
    rw [if_pos (by decide)]
    rfl
  have td : ∀ st, gTrd [.int 29, .int (-1), .int (-1)] st = .ok (.tup ((List.range 30).reverse.map iD), st) := fun st => by
    unfold gTrd
    dsimp only
    have n30 : ((29 : Int) - -1).toNat = 30 := by decide
    have e1 : (List.range 30).map (fun n : Nat => (29 : Int) - n) = ofN (List.range 30).reverse := by decide +kernel
    have e2 : (List.range 30).map (fun n : Nat => D.int ((29 : Int) - n)) = (List.range 30).reverse.map iD := by
      rw [← ofN_D, ← e1, List.map_map]
      rfl
    rw [if_pos (by decide), n30, e2]
  have r1 : ∀ st, gRev (hD wide) st = .ok (hD wide.reverse, st) := fun st => by
    show Sn.R.ok (D.tup (wide.map dD).reverse, st) = _
    rw [← List.map_reverse]
    rfl
  have r2 : ∀ st, gRev (.tup ((List.range 30).map iD)) st = .ok (.tup ((List.range 30).reverse.map iD), st) := fun st => by
    show Sn.R.ok (D.tup ((List.range 30).map iD).reverse, st) = _
    rw [← List.map_reverse]
  have e1 := eq_tupN (st := st) (List.range 30)
  have e2 := eq_tupN (st := st) (List.range 30).reverse
  have ii : ∀ st, gIs (.bl false) (.bl false) st = .ok (.bl true, st) := fun st => rfl
  exact tF_gen o1 o2 i1 (tr st) (td st) (r1 st) (r2 st) e1 e2
end Kl

set_option Elab.async false
set_option linter.all false
set_option maxRecDepth 100000
set_option maxHeartbeats 1000000
/-! k42: the law -/
namespace Kl
open PySem PySem.Spec Sn
variable {k : Nat} {st : Store}
theorem law_true {ns : List Int} (hl : ns.length ≤ 63) : ∃ st, C 40 29 [scrD ns] [] = .ok (.bl true, st) := by
  obtain ⟨a, b, e1⟩ := law_cup (k := 38) hl
  have L1 : ∃ env2 st2, forRun (.nm 2) (denSs ⟨C 39, gl⟩ tb) ((List.range 5).map iD) [some (.val (scrD ns)), some (.val (.ref 0)), none, none, none, none, none, none, none, none, none, none, none, none, none, none, none, none] (St a b) = .ok .nx env2 st2 ∧
      ∃ (a' b' : Int) (x2 x9 x10 x11 x14 x15 : Option Sl), st2 = St a' b' ∧ env2 = [some (.val (scrD ns)), some (.val (.ref 0)), x2, none, none, none, none, none, none, x9, x10, x11, none, none, x14, x15, none, none] := by
    refine forRun_inv (xs := List.range 5) (fun pre env st2 => ∃ (a' b' : Int) (x2 x9 x10 x11 x14 x15 : Option Sl), st2 = St a' b' ∧ env = [some (.val (scrD ns)), some (.val (.ref 0)), x2, none, none, none, none, none, none, x9, x10, x11, none, none, x14, x15, none, none]) (fun pre i post env st2 e j => ?_) [] _ _ _ rfl ⟨a, b, none, none, none, none, none, none, rfl, rfl⟩
    obtain ⟨a', b', x2, x9, x10, x11, x14, x15, rfl, rfl⟩ := j
    obtain ⟨a2, b2, y9, y10, y11, y14, y15, t⟩ := tb_ok (k := 31) a' b' (x0 := some (.val (scrD ns))) (x2 := some (.val (iD i))) (x3 := none) (x4 := none) (x5 := none) (x6 := none) (x7 := none) (x8 := none) (x9 := x9) (x10 := x10) (x11 := x11) (x12 := none) (x13 := none) (x14 := x14) (x15 := x15)
    exact ⟨_, _, _, rfl, t, a2, b2, _, y9, y10, y11, y14, y15, rfl, rfl⟩
  obtain ⟨env2, st2, f1, a1, b1, x2, x9, x10, x11, x14, x15, rfl, rfl⟩ := L1
  have f2 := tA_ok (k := 31) (st := St a1 b1) (x0 := some (.val (scrD ns))) (x1 := some (.val (.ref 0))) (x2 := x2) (x3 := none) (x4 := none) (x5 := none) (x6 := none) (x7 := none) (x8 := none) (x9 := x9) (x10 := x10) (x11 := x11) (x12 := none) (x13 := none) (x14 := x14) (x15 := x15) (x16 := none) (x17 := none)
  obtain ⟨y3, f3⟩ := tO_ok (k := 31) (st := St a1 b1) (x0 := some (.val (scrD ns))) (x1 := some (.val (.ref 0))) (x2 := x2) (x3 := none) (x4 := none) (x5 := none) (x6 := none) (x7 := none) (x8 := none) (x9 := x9) (x10 := x10) (x11 := x11) (x13 := some (.val (hD three))) (x14 := x14) (x15 := x15) (x16 := none) (x17 := none)
  have f4 := tH_ok (k := 31) (st := St a1 b1) (x0 := some (.val (scrD ns))) (x1 := some (.val (.ref 0))) (x2 := x2) (x3 := y3) (x4 := none) (x5 := none) (x6 := none) (x7 := none) (x8 := none) (x9 := x9) (x10 := x10) (x11 := x11) (x12 := some (.val (hD both))) (x13 := some (.val (hD three))) (x14 := x14) (x15 := x15) (x16 := none) (x17 := none)
  obtain ⟨y7, f5⟩ := tR_ok (k := 31) (st := St a1 b1) (x0 := some (.val (scrD ns))) (x1 := some (.val (.ref 0))) (x2 := x2) (x3 := y3) (x7 := none) (x8 := none) (x9 := x9) (x10 := x10) (x11 := x11) (x12 := some (.val (hD both))) (x13 := some (.val (hD three))) (x14 := x14) (x15 := x15) (x16 := none) (x17 := none)
  have f6 := tW_ok (k := 31) (st := St a1 b1) (x0 := some (.val (scrD ns))) (x1 := some (.val (.ref 0))) (x2 := x2) (x3 := y3) (x4 := some (.val (hD alone))) (x5 := some (.val (hD seen))) (x6 := some (.val (hD turned))) (x7 := y7) (x8 := none) (x9 := x9) (x10 := x10) (x11 := x11) (x12 := some (.val (hD both))) (x13 := some (.val (hD three))) (x14 := x14) (x15 := x15) (x16 := none) (x17 := none)
  have f7 := tF_ok (k := 31) (st := St a1 b1) (x0 := some (.val (scrD ns))) (x1 := some (.val (.ref 0))) (x2 := x2) (x3 := y3) (x4 := some (.val (hD alone))) (x5 := some (.val (hD seen))) (x6 := some (.val (hD turned))) (x7 := y7) (x9 := x9) (x10 := x10) (x11 := x11) (x12 := some (.val (hD both))) (x13 := some (.val (hD three))) (x14 := x14) (x15 := x15) (x16 := none) (x17 := none)
  refine ⟨St a1 b1, ?_⟩
  show runBody ⟨C 39, gl⟩ ⟨1, 18, b_law⟩ _ _ = _
  have eb : b_law = .cons (.asg (.nm 1) (.cal 16 (.cons (.var 0) .nil))) (.cons (.for_ (.r1 (.cst (.int 5))) (.nm 2) tb) (slApp tA (slApp tO (slApp tH (slApp tR (slApp tW tF)))))) := rfl
  have er2 : (List.range 5).map iD = [.int 0, .int 1, .int 2, .int 3, .int 4] := rfl
  have er3 : (List.range 5).map (fun i => D.int (i : Nat)) = [.int 0, .int 1, .int 2, .int 3, .int 4] := rfl
  rw [er2] at f1
  simp only [Nat.reduceAdd] at e1 f1 f2 f3 f4 f5 f6 f7
  have g := slApp_ok tA (slApp tO (slApp tH (slApp tR (slApp tW tF)))) _ _ _ _ _ f2
  rw [slApp_ok tO _ _ _ _ _ _ f3, slApp_ok tH _ _ _ _ _ _ f4, slApp_ok tR _ _ _ _ _ _ f5, slApp_ok tW _ _ _ _ _ _ f6, f7] at g
  generalize htb : denSs ⟨C 39, gl⟩ tb = TBB at f1
  generalize htl : denSs ⟨C 39, gl⟩ (slApp tA (slApp tO (slApp tH (slApp tR (slApp tW tF))))) = TL at g
  simp [eb, htb, htl, e1, er3, f1, g]
end Kl

set_option Elab.async false
set_option linter.all false
set_option maxRecDepth 100000
set_option maxHeartbeats 0
namespace Kl
open PySem PySem.Spec PyProof.Rows L2 Sn
abbrev faD : List He.Fa := faOf Fs Gn Gi Bn
abbrev fnD : List He.DefD := fnOf Fs topS
abbrev R : PySem.W.OpenRow := PySem.W.OpenLaw.row PySem.Challenge.rw_snapshothall_k42_whole_first_orders
abbrev hk : PySem.W.Hook := He.hookD 4 faD fnD
def obH (s : PySem.W.SharedT) : He.AlD := He.obsDG 4 faD fnD (HandSHeadRun.getT s)
theorem obH_eq (s : PySem.W.SharedT) : obH s = hk.obs s.abs := He.obsDG_eq (HandSHeadRun.getT_eq s)
theorem run (w : World) : HandSHeadRun.RunEq R (PySem.W.view R.prog [lawAt]) hk obH 4000 loose w := by
  intro os
  kernel_rfl
end Kl

set_option Elab.async false
set_option linter.all false
set_option maxRecDepth 100000
set_option maxHeartbeats 0
open PySem PySem.W PySem.Calls PyProof.Rows
theorem PySem.Challenge.cw_snapshothall_k42_whole_first_orders_holds : PySem.Challenge.rw_snapshothall_k42_whole_first_orders.Holds := by
  w_on; o_law
  refine HandSHeadRun.head_any (r := OpenLaw.row PySem.Challenge.rw_snapshothall_k42_whole_first_orders) (q := view (OpenLaw.row PySem.Challenge.rw_snapshothall_k42_whole_first_orders).prog [Kl.lawAt]) (H := Kl.hk) (ob := Kl.obH) (M := 4000) (loose := Kl.loose) (d := HandSHeadRun.topDef (OpenLaw.row PySem.Challenge.rw_snapshothall_k42_whole_first_orders).prog Kl.lawAt) (kwd := []) Kl.obH_eq
    (by kernel_rfl) (fun s => by kernel_rfl) Kl.run (by kernel_rfl) (by kernel_rfl) (by kernel_rfl) (by rfl) (by first | assumption | decide +kernel) (by decide +kernel) ⟨rfl, rfl, rfl, rfl, rfl, by decide +kernel⟩ ?hw ?hc
  case hw => w_witness2
  case hc =>
    refine Att.attach_callB (l := PySem.Challenge.rw_snapshothall_k42_whole_first_orders) (n := 63) rfl (by kernel_rfl) fun w s₀ s₁ mg mb fa o pm cd doc a vs ns G Y ho hd hcd hmg0 hobj hints hlen hbits hg => ?_
    obtain ⟨K, KX, c⟩ := Y
    have hmg : mg ("law" : PySem.Str) = some (.ref fa) := by
      have e : (HandSHeadRun.topDef (OpenLaw.row PySem.Challenge.rw_snapshothall_k42_whole_first_orders).prog Kl.lawAt).name = ("law" : PySem.Str) := by kernel_rfl
      rw [← e]
      exact hmg0
    obtain ⟨st, true_⟩ := Kl.law_true hlen
    exact Sn.law_all (iL := 29) (tL := ⟨"law", Kl.lawAt, _, _, Kl.b_law⟩) KX G.T.g G.T.b G.T.builtins G.T.nolimit hg hobj hints (by unfold sizeLine; omega) ⟨rfl, by decide, by decide⟩ c Kl.tab_ok rfl rfl hmg true_
